import PyProof.Rows.All
import Wide.All
import OpenK.AllK
import Wide.FinOn
import HandS.ForMost
import HandS.Exc
import HandS.WordsExc
import HandS.Wide
import HandS.WideBits
import HandS.TupAny
import HandS.TupMul
import HandS.IsInst
import HandS.TupLe
import HandS.Deep
import HandS.Style
import HandS.SortInts
import HandS.Conv
import HandS.DictTup
import HandS.TupLen
import KE.DataMinMax
import KE.SortData
import KE.KTupSum
import HandS.Codes
import HandS.Walk
import KE.GoesMore
import KE.GoesEnum
import HandS.WideMore
import HandS.Defaults
import HandS.Star
import HandS.SetFor
import HandS.Strs
import KE.KStateDown
import Lean
import HandS.Base
import HandS.Call
import HandS.Ends
import HandS.More
import HandS.Words
import HandS.Head0
import HandS.Head1
import HandS.Head2
import HandS.HeadEnd
import HandS.HeadHook1
import HandS.HeadHook2
import PySem.Challenge.RW_paidasused_k72_whole_estimates_and_disco
set_option Elab.async false
set_option linter.all false
set_option maxRecDepth 100000
set_option maxHeartbeats 8000000
/-! DDa: deep values, states, the relation to the abstract heap. -/
namespace DD
open PySem PySem.Spec PyProof.Rows L2

/-- a key of a dict -/
abbrev DK := Sum Key (List Key)

inductive DV where
  | non | bl (b : Bool) | int (i : Int) | str (x : Str) | tup (ds : List DV) | lst (ds : List DV) | rol (ds : List DV) | dic (kvs : List (DK × DV)) | rng (lo hi : Int) | ref (a : Addr) | ty (n : String)

/-- the pairs of a dict that stands at a -/
def DicAt (G : Hp) (a : Addr) (kvs : List (DK × V)) : Prop :=
  (∃ l : List (Key × V), G a = some (.dK l) ∧ kvs = l.map fun p => (Sum.inl p.1, p.2)) ∨ (∃ l : List (List Key × V), G a = some (.dT l) ∧ kvs = l.map fun p => (Sum.inr p.1, p.2))

mutual
def Rep (K : PySem.W.Frag) (G : Hp) : DV → V → Prop
  | .non, v => v = V.non
  | .bl b, v => v = V.bl b
  | .int i, v => v = V.int i
  | .str x, v => v = V.str x
  | .tup ds, v => ∃ a vs, v = V.ref a ∧ SqT K G a vs ∧ RepL K G ds vs
  | .lst ds, v => ∃ a vs, v = V.ref a ∧ G a = some (.lst vs) ∧ RepL K G ds vs
  | .rol ds, v => ∃ a vs, v = V.ref a ∧ SqL K G a vs ∧ RepL K G ds vs
  | .dic kvs, v => ∃ a us, v = V.ref a ∧ DicAt G a us ∧ RepD K G kvs us
  | .rng lo hi, v => ∃ a, v = V.ref a ∧ G a = some (.rng lo hi)
  | .ref b, v => v = V.ref b
  | .ty n, v => v = V.ty n
def RepL (K : PySem.W.Frag) (G : Hp) : List DV → List V → Prop
  | [], vs => vs = []
  | d :: ds, vs => ∃ v us, vs = v :: us ∧ Rep K G d v ∧ RepL K G ds us
def RepD (K : PySem.W.Frag) (G : Hp) : List (DK × DV) → List (DK × V) → Prop
  | [], vs => vs = []
  | p :: ds, vs => ∃ v us, vs = v :: us ∧ RepQ K G p v ∧ RepD K G ds us
def RepQ (K : PySem.W.Frag) (G : Hp) : (DK × DV) → (DK × V) → Prop
  | (k, d), q => k = q.1 ∧ Rep K G d q.2
end
theorem Same.seqT {K : PySem.W.Frag} {H H' : Hp} {a : Addr} {xs : List V} (e : Same H H') (h : SqT K H a xs) : SqT K H' a xs := by
  rcases h with (h | ⟨o, h⟩) | h
  · exact .inl (.inl (e _ _ h))
  · exact .inl (.inr ⟨o, e _ _ h⟩)
  · exact .inr h
theorem Same.dic {H H' : Hp} {a : Addr} {kvs : List (DK × V)} (e : Same H H') (h : DicAt H a kvs) : DicAt H' a kvs := by
  rcases h with ⟨l, h, q⟩ | ⟨l, h, q⟩
  · exact .inl ⟨l, e _ _ h, q⟩
  · exact .inr ⟨l, e _ _ h, q⟩
mutual
theorem Rep.mono {K : PySem.W.Frag} {G G' : Hp} (e : Same G G') : ∀ {d : DV} {v : V}, Rep K G d v → Rep K G' d v
  | .non, _, h => h
  | .bl _, _, h => h
  | .int _, _, h => h
  | .str _, _, h => h
  | .tup ds, v, ⟨a, vs, h1, h2, h3⟩ => ⟨a, vs, h1, Same.seqT e h2, RepL.mono e h3⟩
  | .lst ds, v, ⟨a, vs, h1, h2, h3⟩ => ⟨a, vs, h1, e _ _ h2, RepL.mono e h3⟩
  | .rol ds, v, ⟨a, vs, h1, h2, h3⟩ => ⟨a, vs, h1, e.seq h2, RepL.mono e h3⟩
  | .dic kvs, v, ⟨a, us, h1, h2, h3⟩ => ⟨a, us, h1, Same.dic e h2, RepD.mono e h3⟩
  | .rng lo hi, v, ⟨a, h1, h2⟩ => ⟨a, h1, e _ _ h2⟩
  | .ref _, _, h => h
  | .ty _, _, h => h
theorem RepL.mono {K : PySem.W.Frag} {G G' : Hp} (e : Same G G') : ∀ {ds : List DV} {vs : List V}, RepL K G ds vs → RepL K G' ds vs
  | [], _, h => h
  | d :: ds, vs, ⟨v, us, h1, h2, h3⟩ => ⟨v, us, h1, Rep.mono e h2, RepL.mono e h3⟩
theorem RepD.mono {K : PySem.W.Frag} {G G' : Hp} (e : Same G G') : ∀ {ds : List (DK × DV)} {vs : List (DK × V)}, RepD K G ds vs → RepD K G' ds vs
  | [], _, h => h
  | d :: ds, vs, ⟨v, us, h1, h2, h3⟩ => ⟨v, us, h1, RepQ.mono e h2, RepD.mono e h3⟩
theorem RepQ.mono {K : PySem.W.Frag} {G G' : Hp} (e : Same G G') : ∀ {d : DK × DV} {v : DK × V}, RepQ K G d v → RepQ K G' d v
  | (k, d), v, ⟨h1, h2⟩ => ⟨h1, Rep.mono e h2⟩
end
theorem RepL.length {K : PySem.W.Frag} {G : Hp} : ∀ {ds : List DV} {vs : List V}, RepL K G ds vs → vs.length = ds.length
  | [], _, h => by cases h; rfl
  | d :: ds, vs, ⟨v, us, h1, h2, h3⟩ => by subst h1; show us.length + 1 = ds.length + 1; rw [RepL.length h3]
theorem RepL.get {K : PySem.W.Frag} {G : Hp} : ∀ {ds : List DV} {vs : List V} {i : Nat} {d : DV}, RepL K G ds vs → ds[i]? = some d → ∃ v, vs[i]? = some v ∧ Rep K G d v
  | [], _, i, d, h, e => by simp at e
  | d :: ds, vs, 0, d', ⟨v, us, h1, h2, h3⟩, e => by
    subst h1
    have e' : d = d' := Option.some.inj e
    subst e'
    exact ⟨v, rfl, h2⟩
  | d :: ds, vs, i + 1, d', ⟨v, us, h1, h2, h3⟩, e => by
    subst h1
    exact RepL.get (i := i) h3 e
theorem RepL.getV {K : PySem.W.Frag} {G : Hp} : ∀ {ds : List DV} {vs : List V} {i : Nat} {v : V}, RepL K G ds vs → vs[i]? = some v → ∃ d, ds[i]? = some d ∧ Rep K G d v
  | [], _, i, d, h, e => by cases h; simp at e
  | d :: ds, vs, 0, d', ⟨v, us, h1, h2, h3⟩, e => by
    subst h1
    have e' : v = d' := Option.some.inj e
    subst e'
    exact ⟨d, rfl, h2⟩
  | d :: ds, vs, i + 1, d', ⟨v, us, h1, h2, h3⟩, e => by
    subst h1
    exact RepL.getV (i := i) h3 e
theorem RepL.append {K : PySem.W.Frag} {G : Hp} : ∀ {ds es : List DV} {vs us : List V}, RepL K G ds vs → RepL K G es us → RepL K G (ds ++ es) (vs ++ us)
  | [], es, vs, us, h, h' => by cases h; exact h'
  | d :: ds, es, vs, us, ⟨v, ws, h1, h2, h3⟩, h' => by
    subst h1
    exact ⟨v, ws ++ us, rfl, h2, RepL.append h3 h'⟩
theorem RepL.take {K : PySem.W.Frag} {G : Hp} : ∀ {ds : List DV} {vs : List V} (n : Nat), RepL K G ds vs → RepL K G (ds.take n) (vs.take n)
  | _, _, 0, _ => rfl
  | [], _, n + 1, h => by cases h; exact rfl
  | d :: ds, vs, n + 1, ⟨v, ws, h1, h2, h3⟩ => by
    subst h1
    exact ⟨v, ws.take n, rfl, h2, RepL.take n h3⟩
theorem RepL.drop {K : PySem.W.Frag} {G : Hp} : ∀ {ds : List DV} {vs : List V} (n : Nat), RepL K G ds vs → RepL K G (ds.drop n) (vs.drop n)
  | _, _, 0, h => h
  | [], _, n + 1, h => by cases h; exact rfl
  | d :: ds, vs, n + 1, ⟨v, ws, h1, h2, h3⟩ => by
    subst h1
    exact RepL.drop n h3
theorem RepL.set {K : PySem.W.Frag} {G : Hp} {d : DV} {v : V} (r : Rep K G d v) : ∀ {ds : List DV} {vs : List V} (n : Nat), RepL K G ds vs → RepL K G (ds.set n d) (vs.set n v)
  | [], _, n, h => by cases h; exact rfl
  | e :: ds, vs, 0, ⟨u, ws, h1, h2, h3⟩ => by
    subst h1
    exact ⟨v, ws, rfl, r, h3⟩
  | e :: ds, vs, n + 1, ⟨u, ws, h1, h2, h3⟩ => by
    subst h1
    exact ⟨u, ws.set n v, rfl, h2, RepL.set r n h3⟩
theorem RepL.reverse {K : PySem.W.Frag} {G : Hp} : ∀ {ds : List DV} {vs : List V}, RepL K G ds vs → RepL K G ds.reverse vs.reverse
  | [], _, h => by cases h; exact rfl
  | d :: ds, vs, ⟨v, ws, h1, h2, h3⟩ => by
    subst h1
    rw [List.reverse_cons, List.reverse_cons]
    exact RepL.append (RepL.reverse h3) ⟨v, [], rfl, h2, rfl⟩

/-! ### states -/
inductive Sl where
  | un | sh (d : DV) | ow (d : DV) | bo (j : Nat)
structure Pst where
  env : List Sl
  bor : List DV

/-- what stands at an address that may be written, by its content -/
def OwnH (K : PySem.W.Frag) (G H : Hp) (a : Addr) : DV → Prop
  | .lst ds => ∃ vs, H a = some (.lst vs) ∧ RepL K G ds vs
  | .dic kvs => ∃ us, DicAt H a us ∧ RepD K G kvs us
  | _ => False
theorem OwnH.mono {K : PySem.W.Frag} {G G' H H' : Hp} {a : Addr} {d : DV} (e : Same G G') (eh : ∀ o, H a = some o → H' a = some o) (h : OwnH K G H a d) : OwnH K G' H' a d := by
  cases d with
  | lst ds => obtain ⟨vs, h1, h2⟩ := h; exact ⟨vs, eh _ h1, RepL.mono e h2⟩
  | dic kvs =>
    obtain ⟨us, h1, h2⟩ := h
    refine ⟨us, ?_, RepD.mono e h2⟩
    rcases h1 with ⟨l, h, q⟩ | ⟨l, h, q⟩
    · exact .inl ⟨l, eh _ h, q⟩
    · exact .inr ⟨l, eh _ h, q⟩
  | _ => exact h.elim
theorem OwnH.there {K : PySem.W.Frag} {G H : Hp} {a : Addr} {d : DV} (h : OwnH K G H a d) : ∃ o, H a = some o := by
  cases d with
  | lst ds => obtain ⟨vs, h1, h2⟩ := h; exact ⟨_, h1⟩
  | dic kvs =>
    obtain ⟨us, h1, h2⟩ := h
    rcases h1 with ⟨l, h, q⟩ | ⟨l, h, q⟩
    · exact ⟨_, h⟩
    · exact ⟨_, h⟩
  | _ => exact h.elim

/-- F: what the callers hold besides (not to be touched); bas: the places of what is lent; G: what is frozen -/
structure Rel (K : PySem.W.Frag) (F : Hp) (bas : List Addr) (G : Hp) (p : Pst) (σ : L2.St) (H : Hp) : Prop where
  sF : Same F H
  sG : Same G H
  dj : ∀ a o, F a = some o → G a = none
  len : σ.length = p.env.length
  sh : ∀ (i : Nat) (d : DV), p.env[i]? = some (Sl.sh d) → ∃ v, σ[i]? = some (some v) ∧ Rep K G d v
  ow : ∀ (i : Nat) (d : DV), p.env[i]? = some (Sl.ow d) → ∃ a, σ[i]? = some (some (V.ref a)) ∧ OwnH K G H a d ∧ G a = none ∧ F a = none ∧ a ∉ bas
  di : ∀ (i j : Nat) (d e : DV), i ≠ j → p.env[i]? = some (Sl.ow d) → p.env[j]? = some (Sl.ow e) → σ[i]? ≠ σ[j]?
  bo : ∀ (i j : Nat), p.env[i]? = some (Sl.bo j) → ∃ a, bas[j]? = some a ∧ σ[i]? = some (some (V.ref a))
  bl : bas.length = p.bor.length
  br : ∀ (j : Nat) (a : Addr) (d : DV), bas[j]? = some a → p.bor[j]? = some d → OwnH K G H a d ∧ G a = none ∧ F a = none
  nd : bas.Nodup
end DD
/-! DDb: the judgements over deep values; names, constants, displays, operators, tests, statements. -/
namespace DD
open PySem PySem.Spec PyProof.Rows L2
abbrev SS := L2.St

section rel
variable {K : PySem.W.Frag} {F G H : Hp} {bas : List Addr} {p : Pst} {σ : SS}
/-- nobody holds a -/
structure Fresh (F : Hp) (bas : List Addr) (G : Hp) (p : Pst) (σ : SS) (a : Addr) : Prop where
  g : G a = none
  f : F a = none
  b : a ∉ bas
  o : ∀ (i : Nat) (d : DV), p.env[i]? = some (Sl.ow d) → σ[i]? ≠ some (some (V.ref a))
theorem same_upd {H : Hp} {a : Addr} {o : HO} (h : H a = none) : Same H (upd H a o) := fun b x e => by
  rw [upd_ne (ne_of_none e h)]
  exact e
theorem Rel.fresh (r : Rel K F bas G p σ H) {a : Addr} (h : H a = none) : Fresh F bas G p σ a where
  g := r.sG.free h
  f := r.sF.free h
  b := fun hm => by
    obtain ⟨j, hj, e⟩ := List.mem_iff_getElem.mp hm
    have h1 : bas[j]? = some a := by rw [List.getElem?_eq_getElem hj, e]
    have hb : j < p.bor.length := by rw [← r.bl]; exact hj
    obtain ⟨q, _⟩ := r.br j a p.bor[j] h1 (List.getElem?_eq_getElem hb)
    obtain ⟨o, ho⟩ := q.there
    rw [h] at ho; cases ho
  o := fun i d hi hs => by
    obtain ⟨b, hb, q, _⟩ := r.ow i d hi
    rw [hb] at hs
    cases hs
    obtain ⟨o, ho⟩ := q.there
    rw [h] at ho; cases ho
/-- the heap grows -/
theorem Rel.grow {H' : Hp} (r : Rel K F bas G p σ H) (e : Same H H') : Rel K F bas G p σ H' where
  sF := r.sF.trans e
  sG := r.sG.trans e
  dj := r.dj
  len := r.len
  sh := r.sh
  ow := fun i d hi => by
    obtain ⟨b, hb, q, h1⟩ := r.ow i d hi
    exact ⟨b, hb, q.mono (Same.refl _) (fun o ho => e _ _ ho), h1⟩
  di := r.di
  bo := r.bo
  bl := r.bl
  br := fun j a d h1 h2 => by
    obtain ⟨q, h3⟩ := r.br j a d h1 h2
    exact ⟨q.mono (Same.refl _) (fun o ho => e _ _ ho), h3⟩
  nd := r.nd
/-- something is frozen: an object that nobody holds -/
theorem Rel.freeze {a : Addr} {o : HO} (r : Rel K F bas G p σ H) (f : Fresh F bas G p σ a) (h : H a = some o) : Rel K F bas (upd G a o) p σ H where
  sF := r.sF
  sG := fun b x e => by
    by_cases hb : b = a
    · subst hb; rw [upd_same] at e; cases e; exact h
    · rw [upd_ne hb] at e; exact r.sG b x e
  dj := fun b x e => by
    have hb : b ≠ a := fun z => by rw [z, f.f] at e; cases e
    rw [upd_ne hb]; exact r.dj b x e
  len := r.len
  sh := fun i d hi => by
    obtain ⟨v, hv, q⟩ := r.sh i d hi
    exact ⟨v, hv, q.mono (same_upd f.g)⟩
  ow := fun i d hi => by
    obtain ⟨b, hb, q, h1, h2, h3⟩ := r.ow i d hi
    have hne : b ≠ a := fun z => f.o i d hi (by rw [hb, z])
    exact ⟨b, hb, q.mono (same_upd f.g) (fun o ho => ho), by rw [upd_ne hne]; exact h1, h2, h3⟩
  di := r.di
  bo := r.bo
  bl := r.bl
  br := fun j b d h1 h2 => by
    obtain ⟨q, h3, h4⟩ := r.br j b d h1 h2
    have hne : b ≠ a := fun z => f.b (z ▸ List.mem_of_getElem? h1)
    exact ⟨q.mono (same_upd f.g) (fun o ho => ho), by rw [upd_ne hne]; exact h3, h4⟩
  nd := r.nd
/-- a new object, frozen -/
theorem Rel.laid {a : Addr} {o : HO} (r : Rel K F bas G p σ H) (h : H a = none) : Rel K F bas (upd G a o) p σ (upd H a o) :=
  (r.grow (same_upd h)).freeze (r.fresh h) upd_same
theorem Rel.laidG {a : Addr} {o : HO} (r : Rel K F bas G p σ H) (h : H a = none) : Same G (upd G a o) := same_upd (r.sG.free h)
/-- a slot is set to a frozen value -/
theorem Rel.set {i : Nat} {v : V} {d : DV} (r : Rel K F bas G p σ H) (q : Rep K G d v) (hi : i < p.env.length) : Rel K F bas G { p with env := p.env.set i (.sh d) } (σ.set i (some v)) H where
  sF := r.sF
  sG := r.sG
  dj := r.dj
  len := by show (σ.set i (some v)).length = (p.env.set i (.sh d)).length; rw [List.length_set, List.length_set]; exact r.len
  sh := fun j e hj => by
    have hj : (p.env.set i (.sh d))[j]? = some (Sl.sh e) := hj
    by_cases hij : i = j
    · subst hij
      rw [List.getElem?_set_self hi] at hj
      cases hj
      exact ⟨v, List.getElem?_set_self (by rw [r.len]; exact hi), q⟩
    · rw [List.getElem?_set_ne hij] at hj ⊢
      exact r.sh j e hj
  ow := fun j e hj => by
    have hj : (p.env.set i (.sh d))[j]? = some (Sl.ow e) := hj
    by_cases hij : i = j
    · subst hij; rw [List.getElem?_set_self hi] at hj; cases hj
    · rw [List.getElem?_set_ne hij] at hj ⊢
      exact r.ow j e hj
  di := fun j k e f hjk hj hk => by
    have hj : (p.env.set i (.sh d))[j]? = some (Sl.ow e) := hj
    have hk : (p.env.set i (.sh d))[k]? = some (Sl.ow f) := hk
    have hij : i ≠ j := fun z => by subst z; rw [List.getElem?_set_self hi] at hj; cases hj
    have hik : i ≠ k := fun z => by subst z; rw [List.getElem?_set_self hi] at hk; cases hk
    rw [List.getElem?_set_ne hij] at hj ⊢
    rw [List.getElem?_set_ne hik] at hk ⊢
    exact r.di j k e f hjk hj hk
  bo := fun j e hj => by
    have hj : (p.env.set i (.sh d))[j]? = some (Sl.bo e) := hj
    by_cases hij : i = j
    · subst hij; rw [List.getElem?_set_self hi] at hj; cases hj
    · rw [List.getElem?_set_ne hij] at hj ⊢
      exact r.bo j e hj
  bl := r.bl
  br := r.br
  nd := r.nd
/-- a slot is set to an own object -/
theorem Rel.setO {i : Nat} {a : Addr} {d : DV} (r : Rel K F bas G p σ H) (q : OwnH K G H a d) (f : Fresh F bas G p σ a) (hi : i < p.env.length) : Rel K F bas G { p with env := p.env.set i (.ow d) } (σ.set i (some (.ref a))) H where
  sF := r.sF
  sG := r.sG
  dj := r.dj
  len := by show (σ.set i (some (V.ref a))).length = (p.env.set i (.ow d)).length; rw [List.length_set, List.length_set]; exact r.len
  sh := fun j e hj => by
    have hj : (p.env.set i (.ow d))[j]? = some (Sl.sh e) := hj
    by_cases hij : i = j
    · subst hij; rw [List.getElem?_set_self hi] at hj; cases hj
    · rw [List.getElem?_set_ne hij] at hj ⊢
      exact r.sh j e hj
  ow := fun j e hj => by
    have hj : (p.env.set i (.ow d))[j]? = some (Sl.ow e) := hj
    by_cases hij : i = j
    · subst hij
      rw [List.getElem?_set_self hi] at hj
      cases hj
      exact ⟨a, List.getElem?_set_self (by rw [r.len]; exact hi), q, f.g, f.f, f.b⟩
    · rw [List.getElem?_set_ne hij] at hj ⊢
      exact r.ow j e hj
  di := fun j k e e' hjk hj hk => by
    have hj : (p.env.set i (.ow d))[j]? = some (Sl.ow e) := hj
    have hk : (p.env.set i (.ow d))[k]? = some (Sl.ow e') := hk
    have hs : i < σ.length := by rw [r.len]; exact hi
    by_cases hij : i = j
    · subst hij
      rw [List.getElem?_set_ne hjk] at hk ⊢
      rw [List.getElem?_set_self hs]
      exact fun z => f.o k e' hk z.symm
    · by_cases hik : i = k
      · subst hik
        rw [List.getElem?_set_ne hij] at hj ⊢
        rw [List.getElem?_set_self hs]
        exact fun z => f.o j e hj z
      · rw [List.getElem?_set_ne hij] at hj ⊢
        rw [List.getElem?_set_ne hik] at hk ⊢
        exact r.di j k e e' hjk hj hk
  bo := fun j e hj => by
    have hj : (p.env.set i (.ow d))[j]? = some (Sl.bo e) := hj
    by_cases hij : i = j
    · subst hij; rw [List.getElem?_set_self hi] at hj; cases hj
    · rw [List.getElem?_set_ne hij] at hj ⊢
      exact r.bo j e hj
  bl := r.bl
  br := r.br
  nd := r.nd
/-- an own object is written -/
theorem Rel.write {i : Nat} {a : Addr} {d d' : DV} {o : HO} (r : Rel K F bas G p σ H) (hi : p.env[i]? = some (Sl.ow d)) (hs : σ[i]? = some (some (V.ref a))) (q : OwnH K G (upd H a o) a d') :
    Rel K F bas G { p with env := p.env.set i (.ow d') } σ (upd H a o) := by
  obtain ⟨b, hb, _, hg, hf, hbb⟩ := r.ow i d hi
  rw [hs] at hb
  cases hb
  have hlt : i < p.env.length := (List.getElem?_eq_some_iff.mp hi).1
  refine ⟨fun c x e => ?_, fun c x e => ?_, r.dj, ?_, fun j e hj => ?_, fun j e hj => ?_, fun j k e e' hjk hj hk => ?_, fun j e hj => ?_, r.bl, fun j c e h1 h2 => ?_, r.nd⟩
  · rw [upd_ne (fun z => by rw [z, hf] at e; cases e)]; exact r.sF c x e
  · rw [upd_ne (fun z => by rw [z, hg] at e; cases e)]; exact r.sG c x e
  · show σ.length = (p.env.set i (.ow d')).length
    rw [List.length_set]; exact r.len
  · have hj : (p.env.set i (.ow d'))[j]? = some (Sl.sh e) := hj
    by_cases hij : i = j
    · subst hij; rw [List.getElem?_set_self hlt] at hj; cases hj
    · rw [List.getElem?_set_ne hij] at hj
      exact r.sh j e hj
  · have hj : (p.env.set i (.ow d'))[j]? = some (Sl.ow e) := hj
    by_cases hij : i = j
    · subst hij
      rw [List.getElem?_set_self hlt] at hj
      cases hj
      exact ⟨a, hs, q, hg, hf, hbb⟩
    · rw [List.getElem?_set_ne hij] at hj
      obtain ⟨c, hc, qc, rest⟩ := r.ow j e hj
      have hca : c ≠ a := fun z => r.di i j d e hij hi hj (by rw [hs, hc, z])
      exact ⟨c, hc, qc.mono (Same.refl _) (fun o ho => by rw [upd_ne hca]; exact ho), rest⟩
  · have hj : (p.env.set i (.ow d'))[j]? = some (Sl.ow e) := hj
    have hk : (p.env.set i (.ow d'))[k]? = some (Sl.ow e') := hk
    by_cases hij : i = j
    · subst hij
      rw [List.getElem?_set_ne hjk] at hk
      exact r.di i k d e' hjk hi hk
    · rw [List.getElem?_set_ne hij] at hj
      by_cases hik : i = k
      · subst hik
        exact r.di j i e d hjk hj hi
      · rw [List.getElem?_set_ne hik] at hk
        exact r.di j k e e' hjk hj hk
  · have hj : (p.env.set i (.ow d'))[j]? = some (Sl.bo e) := hj
    by_cases hij : i = j
    · subst hij; rw [List.getElem?_set_self hlt] at hj; cases hj
    · rw [List.getElem?_set_ne hij] at hj
      exact r.bo j e hj
  · obtain ⟨qc, rest⟩ := r.br j c e h1 h2
    have hca : c ≠ a := fun z => hbb (z ▸ List.mem_of_getElem? h1)
    exact ⟨qc.mono (Same.refl _) (fun o ho => by rw [upd_ne hca]; exact ho), rest⟩
/-- a lent object is written -/
theorem Rel.writeB {j : Nat} {a : Addr} {d' : DV} {o : HO} (r : Rel K F bas G p σ H) (hj : bas[j]? = some a) (q : OwnH K G (upd H a o) a d') :
    Rel K F bas G { p with bor := p.bor.set j d' } σ (upd H a o) := by
  have hjl : j < bas.length := (List.getElem?_eq_some_iff.mp hj).1
  have hjb : j < p.bor.length := by rw [← r.bl]; exact hjl
  obtain ⟨_, hg, hf⟩ := r.br j a _ hj (List.getElem?_eq_getElem hjb)
  refine ⟨fun c x e => ?_, fun c x e => ?_, r.dj, r.len, r.sh, fun i e hi => ?_, r.di, r.bo, ?_, fun k c e h1 h2 => ?_, r.nd⟩
  · rw [upd_ne (fun z => by rw [z, hf] at e; cases e)]; exact r.sF c x e
  · rw [upd_ne (fun z => by rw [z, hg] at e; cases e)]; exact r.sG c x e
  · obtain ⟨c, hc, qc, h1, h2, h3⟩ := r.ow i e hi
    have hca : c ≠ a := fun z => h3 (z ▸ List.mem_of_getElem? hj)
    exact ⟨c, hc, qc.mono (Same.refl _) (fun o ho => by rw [upd_ne hca]; exact ho), h1, h2, h3⟩
  · show bas.length = (p.bor.set j d').length
    rw [List.length_set]; exact r.bl
  · have h2 : (p.bor.set j d')[k]? = some e := h2
    by_cases hjk : j = k
    · subst hjk
      rw [List.getElem?_set_self hjb] at h2
      cases h2
      rw [hj] at h1
      cases h1
      exact ⟨q, hg, hf⟩
    · rw [List.getElem?_set_ne hjk] at h2
      obtain ⟨qc, rest⟩ := r.br k c e h1 h2
      have hca : c ≠ a := fun z => hjk (nodup_ix' r.nd hj (z ▸ h1))
      exact ⟨qc.mono (Same.refl _) (fun o ho => by rw [upd_ne hca]; exact ho), rest⟩
where
  nodup_ix' {N : List Addr} (hN : N.Nodup) {i j : Nat} {x : Addr} (a : N[i]? = some x) (b : N[j]? = some x) : i = j := by
    obtain ⟨h1, e1⟩ := List.getElem?_eq_some_iff.mp a
    obtain ⟨h2, e2⟩ := List.getElem?_eq_some_iff.mp b
    exact (List.getElem_inj hN).mp (e1.trans e2.symm)
/-- an own slot is frozen -/
theorem Rel.thaw {i : Nat} {d : DV} (r : Rel K F bas G p σ H) (hi : p.env[i]? = some (Sl.ow d)) : ∃ a o, σ[i]? = some (some (V.ref a)) ∧ H a = some o ∧ G a = none ∧
    Rep K (upd G a o) d (.ref a) ∧ Rel K F bas (upd G a o) { p with env := p.env.set i (.sh d) } σ H := by
  obtain ⟨a, hs, q, hg, hf, hb⟩ := r.ow i d hi
  obtain ⟨o, ho⟩ := q.there
  have hlt : i < p.env.length := (List.getElem?_eq_some_iff.mp hi).1
  have rp : Rep K (upd G a o) d (.ref a) := by
    cases d with
    | lst ds =>
      obtain ⟨vs, h1, h2⟩ := q
      rw [ho] at h1
      cases h1
      exact ⟨a, vs, rfl, upd_same, h2.mono (same_upd hg)⟩
    | dic kvs =>
      obtain ⟨us, h1, h2⟩ := q
      refine ⟨a, us, rfl, ?_, h2.mono (same_upd hg)⟩
      rcases h1 with ⟨l, h, e⟩ | ⟨l, h, e⟩
      · rw [ho] at h; cases h
        exact .inl ⟨l, upd_same, e⟩
      · rw [ho] at h; cases h
        exact .inr ⟨l, upd_same, e⟩
    | _ => exact q.elim
  refine ⟨a, o, hs, ho, hg, rp, ?_⟩
  -- first the slot is set, then the object frozen
  refine ⟨r.sF, fun c x e => ?_, fun c x e => ?_, ?_, fun j e hj => ?_, fun j e hj => ?_, fun j k e e' hjk hj hk => ?_, fun j e hj => ?_, r.bl, fun j c e h1 h2 => ?_, r.nd⟩
  · by_cases hc : c = a
    · subst hc; rw [upd_same] at e; cases e; exact ho
    · rw [upd_ne hc] at e; exact r.sG c x e
  · have hc : c ≠ a := fun z => by rw [z, hf] at e; cases e
    rw [upd_ne hc]; exact r.dj c x e
  · show σ.length = (p.env.set i (.sh d)).length
    rw [List.length_set]; exact r.len
  · have hj : (p.env.set i (.sh d))[j]? = some (Sl.sh e) := hj
    by_cases hij : i = j
    · subst hij
      rw [List.getElem?_set_self hlt] at hj
      cases hj
      exact ⟨_, hs, rp⟩
    · rw [List.getElem?_set_ne hij] at hj
      obtain ⟨v, hv, qv⟩ := r.sh j e hj
      exact ⟨v, hv, qv.mono (same_upd hg)⟩
  · have hj : (p.env.set i (.sh d))[j]? = some (Sl.ow e) := hj
    by_cases hij : i = j
    · subst hij; rw [List.getElem?_set_self hlt] at hj; cases hj
    · rw [List.getElem?_set_ne hij] at hj
      obtain ⟨c, hc, qc, h1, h2, h3⟩ := r.ow j e hj
      have hca : c ≠ a := fun z => r.di i j d e hij hi hj (by rw [hs, hc, z])
      exact ⟨c, hc, qc.mono (same_upd hg) (fun o ho => ho), by rw [upd_ne hca]; exact h1, h2, h3⟩
  · have hj : (p.env.set i (.sh d))[j]? = some (Sl.ow e) := hj
    have hk : (p.env.set i (.sh d))[k]? = some (Sl.ow e') := hk
    have hij : i ≠ j := fun z => by subst z; rw [List.getElem?_set_self hlt] at hj; cases hj
    have hik : i ≠ k := fun z => by subst z; rw [List.getElem?_set_self hlt] at hk; cases hk
    rw [List.getElem?_set_ne hij] at hj
    rw [List.getElem?_set_ne hik] at hk
    exact r.di j k e e' hjk hj hk
  · have hj : (p.env.set i (.sh d))[j]? = some (Sl.bo e) := hj
    by_cases hij : i = j
    · subst hij; rw [List.getElem?_set_self hlt] at hj; cases hj
    · rw [List.getElem?_set_ne hij] at hj
      exact r.bo j e hj
  · obtain ⟨qc, h3, h4⟩ := r.br j c e h1 h2
    have hca : c ≠ a := fun z => hb (z ▸ List.mem_of_getElem? h1)
    exact ⟨qc.mono (same_upd hg) (fun o ho => ho), by rw [upd_ne hca]; exact h3, h4⟩
end rel

/-! ### judgements -/
abbrev XD := DV → Pst → Prop
abbrev TD := XD → Pst → (DV → Pst → Prop) → Prop
abbrev TDs := XD → Pst → (List DV → Pst → Prop) → Prop
abbrev TB := XD → Pst → (Bool → Pst → Prop) → Prop
/-- what is fixed through a def's body: what the callers hold, what is lent, what is wanted of an exception -/
structure Lc where
  F : Hp
  bas : List Addr
  E : XK
abbrev RL (K : PySem.W.Frag) (L : Lc) (G : Hp) (p : Pst) (σ : SS) (H : Hp) : Prop := Rel K L.F L.bas G p σ H
/-- an exception as it lies: its class, its value -/
def XRep (K : PySem.W.Frag) (G H : Hp) (x : DV) (cls : Value) (dx : Option Addr) : Prop :=
  ∃ C d D v, x = .tup [.ref C, d] ∧ cls = .ref C ∧ dx = some D ∧ H D = some (.xd [("value", v)]) ∧ Rep K G d v
def XOk (K : PySem.W.Frag) (L : Lc) (G : Hp) (Xd : XD) : Prop := ∀ x p', Xd x p' → ∀ G' H' σ' cls dx, Same G G' → RL K L G' p' σ' H' → XRep K G' H' x cls dx → L.E cls dx H'
theorem XOk.mono {K : PySem.W.Frag} {L : Lc} {G G' : Hp} {Xd : XD} (x : XOk K L G Xd) (e : Same G G') : XOk K L G' Xd := fun y p' hy G2 H2 σ' cls dx e2 => x y p' hy G2 H2 σ' cls dx (e.trans e2)
theorem XOk.no {K : PySem.W.Frag} {L : Lc} {G : Hp} : XOk K L G (fun _ _ => False) := fun _ _ h => h.elim

def lift (K : PySem.W.Frag) (L : Lc) (t : TD) : TE := fun σ H Q => ∃ G p Xd R, RL K L G p σ H ∧ XOk K L G Xd ∧ t Xd p R ∧ ∀ d p', R d p' → ∀ v G' H', Same G G' → RL K L G' p' σ H' → Rep K G' d v → Q v H'
/-- readable: frozen, or an own or lent object as it stands -/
def RRep (K : PySem.W.Frag) (G H : Hp) (d : DV) (v : V) : Prop := Rep K G d v ∨ ∃ a, v = .ref a ∧ OwnH K G H a d
def liftR (K : PySem.W.Frag) (L : Lc) (t : TD) : TE := fun σ H Q => ∃ G p Xd R, RL K L G p σ H ∧ XOk K L G Xd ∧ t Xd p R ∧ ∀ d p', R d p' → ∀ v G' H', Same G G' → RL K L G' p' σ H' → RRep K G' H' d v → Q v H'
def liftO (K : PySem.W.Frag) (L : Lc) (t : TD) : TE := fun σ H Q => ∃ G p Xd R, RL K L G p σ H ∧ XOk K L G Xd ∧ t Xd p R ∧ ∀ d p', R d p' → ∀ a G' H', Same G G' → RL K L G' p' σ H' → OwnH K G' H' a d → Fresh L.F L.bas G' p' σ a → Q (.ref a) H'
def liftA (K : PySem.W.Frag) (L : Lc) (t : TDs) : TA := fun σ H Q => ∃ G p Xd R, RL K L G p σ H ∧ XOk K L G Xd ∧ t Xd p R ∧ ∀ ds p', R ds p' → ∀ vs G' H', Same G G' → RL K L G' p' σ H' → RepL K G' ds vs → Q vs H'
def liftT (K : PySem.W.Frag) (L : Lc) (t : TB) : TT := fun σ H Q => ∃ G p Xd R, RL K L G p σ H ∧ XOk K L G Xd ∧ t Xd p R ∧ ∀ b p', R b p' → ∀ G' H', Same G G' → RL K L G' p' σ H' → Q b H'
abbrev FE (X : Cx) (L : Lc) (e : Expr) (t : TD) : Prop := PE X e (lift X.K L t)
abbrev FR (X : Cx) (L : Lc) (e : Expr) (t : TD) : Prop := PE X e (liftR X.K L t)
abbrev FO (X : Cx) (L : Lc) (e : Expr) (t : TD) : Prop := PE X e (liftO X.K L t)
abbrev FA (X : Cx) (L : Lc) (es : List Expr) (t : TDs) : Prop := PA X es (liftA X.K L t)
abbrev FT (X : Cx) (L : Lc) (e : Expr) (t : TB) : Prop := PT X e (liftT X.K L t)
theorem PE.imp {X : Cx} {e : Expr} {t t' : TE} (h : PE X e t) (q : ∀ σ H Q, t' σ H Q → t σ H Q) : PE X e t' := ⟨fun pins s σ H Q I x => h.run pins s σ H Q I (q σ H Q x)⟩
theorem PT.imp {X : Cx} {e : Expr} {t t' : TT} (h : PT X e t) (q : ∀ σ H Q, t' σ H Q → t σ H Q) : PT X e t' := ⟨fun pins s σ H Q I x => h.run pins s σ H Q I (q σ H Q x)⟩
theorem PA.imp {X : Cx} {e : List Expr} {t t' : TA} (h : PA X e t) (q : ∀ σ H Q, t' σ H Q → t σ H Q) : PA X e t' := ⟨fun pos pins s σ H Q I x => h.run pos pins s σ H Q I (q σ H Q x)⟩
theorem PS.imp {X : Cx} {e : Stmt} {t t' : TS} (h : PS X e t) (q : ∀ D σ H, t' D σ H → t D σ H) : PS X e t' := ⟨fun pins s σ H D I x => h.run pins s σ H D I (q D σ H x)⟩
theorem PSs.imp {X : Cx} {e : List Stmt} {t t' : TS} (h : PSs X e t) (q : ∀ D σ H, t' D σ H → t D σ H) : PSs X e t' := ⟨fun pins s σ H D I x => h.run pins s σ H D I (q D σ H x)⟩

section
variable {X : Cx} {L : Lc} {e a b : Expr} {es : List Expr} {t ta tb : TD}
/-- frozen: readable -/
theorem FE.toR (h : FE X L e t) : FR X L e t := PE.imp h fun σ H Q ⟨G, p, Xd, R, r, x, ht, q⟩ => ⟨G, p, Xd, R, r, x, ht, fun d p' hR v G' H' s r' rp => q d p' hR v G' H' s r' (.inl rp)⟩
theorem OwnH.rep {K : PySem.W.Frag} {G H : Hp} {a : Addr} {d : DV} {o : HO} (q : OwnH K G H a d) (ho : H a = some o) (hg : G a = none) : Rep K (upd G a o) d (.ref a) := by
  cases d with
  | lst ds =>
    obtain ⟨vs, h1, h2⟩ := q
    rw [ho] at h1
    cases h1
    exact ⟨a, vs, rfl, upd_same, h2.mono (same_upd hg)⟩
  | dic kvs =>
    obtain ⟨us, h1, h2⟩ := q
    refine ⟨a, us, rfl, ?_, h2.mono (same_upd hg)⟩
    rcases h1 with ⟨l, h, e⟩ | ⟨l, h, e⟩
    · rw [ho] at h; cases h
      exact .inl ⟨l, upd_same, e⟩
    · rw [ho] at h; cases h
      exact .inr ⟨l, upd_same, e⟩
  | _ => exact q.elim
/-- an own new object, frozen at once -/
theorem FO.toE (h : FO X L e t) : FE X L e t := PE.imp h fun σ H Q ⟨G, p, Xd, R, r, x, ht, q⟩ => ⟨G, p, Xd, R, r, x, ht, fun d p' hR a G' H' s r' rp f => by
  obtain ⟨o, ho⟩ := rp.there
  exact q d p' hR _ (upd G' a o) H' (s.trans (same_upd f.g)) (r'.freeze f ho) (rp.rep ho f.g)⟩
theorem FO.toR (h : FO X L e t) : FR X L e t := (FO.toE h).toR

/-! ### names, constants -/
def Pst.put (p : Pst) (i : Nat) (s : Sl) : Pst := { p with env := p.env.set i s }
/-- a name: what is own is frozen by it -/
def t_v (i : Nat) : TD := fun _ p R => match p.env[i]? with
  | some (Sl.sh d) => R d p
  | some (Sl.ow d) => R d (p.put i (.sh d))
  | _ => False
theorem fe_v {i : Nat} {x : Str} {pos : Pos} (h : PE X (.Name x pos) (tVar i)) : FE X L (.Name x pos) (t_v i) := PE.imp h fun σ H Q ⟨G, p, Xd, R, r, x, ht, q⟩ => by
  unfold t_v at ht
  split at ht
  · rename_i d hd
    obtain ⟨v, hv, rp⟩ := r.sh i d hd
    exact ⟨v, hv, q d p ht v G H (Same.refl _) r rp⟩
  · rename_i d hd
    obtain ⟨a, o, hs, ho, hg, rp, r'⟩ := r.thaw hd
    exact ⟨_, hs, q d _ ht _ (upd G a o) H (same_upd hg) r' rp⟩
  · exact ht.elim
/-- what a slot holds now -/
def Pst.at (p : Pst) (i : Nat) (k : DV → Prop) : Prop := match p.env[i]? with
  | some (Sl.sh d) => k d
  | some (Sl.ow d) => k d
  | some (Sl.bo j) => (match p.bor[j]? with | some d => k d | none => False)
  | _ => False
theorem Rel.at {G : Hp} {p : Pst} {σ : SS} {H : Hp} {i : Nat} {k : DV → Prop} (r : RL X.K L G p σ H) (h : p.at i k) : ∃ d v, k d ∧ σ[i]? = some (some v) ∧ RRep X.K G H d v := by
  unfold Pst.at at h
  split at h
  · rename_i d hd
    obtain ⟨v, hv, rp⟩ := r.sh i d hd
    exact ⟨d, v, h, hv, .inl rp⟩
  · rename_i d hd
    obtain ⟨a, hs, q, _⟩ := r.ow i d hd
    exact ⟨d, _, h, hs, .inr ⟨a, rfl, q⟩⟩
  · rename_i j hd
    split at h
    · rename_i d hj
      obtain ⟨a, ha, hs⟩ := r.bo i j hd
      obtain ⟨q, _⟩ := r.br j a d ha hj
      exact ⟨d, _, h, hs, .inr ⟨a, rfl, q⟩⟩
    · exact h.elim
  · exact h.elim
/-- a name, only read -/
def t_rd (i : Nat) : TD := fun _ p R => p.at i fun d => R d p
theorem fr_v {i : Nat} {x : Str} {pos : Pos} (h : PE X (.Name x pos) (tVar i)) : FR X L (.Name x pos) (t_rd i) := PE.imp h fun σ H Q ⟨G, p, Xd, R, r, x, ht, q⟩ => by
  obtain ⟨d, v, hk, hv, rr⟩ := Rel.at r ht
  exact ⟨v, hv, q d p hk v G H (Same.refl _) r rr⟩
def t_c (d : DV) : TD := fun _ p R => R d p
theorem fe_tC {v : V} {d : DV} (h : PE X e (tC v)) (rp : ∀ K G, Rep K G d v) : FE X L e (t_c d) := PE.imp h fun σ H Q ⟨G, p, Xd, R, r, x, ht, q⟩ => q d p ht v G H (Same.refl _) r (rp _ _)
theorem fe_int {i : Int} {j : Nat} {pos : Pos} : FE X L (.Constant (.int i) j pos) (t_c (.int i)) := fe_tC pe_int fun _ _ => rfl
theorem fe_bl {i : Bool} {j : Nat} {pos : Pos} : FE X L (.Constant (.bool i) j pos) (t_c (.bl i)) := fe_tC pe_bl fun _ _ => rfl
theorem fe_non {j : Nat} {pos : Pos} : FE X L (.Constant .none j pos) (t_c .non) := fe_tC pe_non fun _ _ => rfl
theorem fe_str {i : Str} {j : Nat} {pos : Pos} : FE X L (.Constant (.str i) j pos) (t_c (.str i)) := fe_tC pe_str fun _ _ => rfl
theorem fe_gint {x : Str} {i : Int} {tk : Tok} {pos : Pos} (hg : Gl X x) (hm : X.mg x = some (.int i tk)) (hd : (x == ("__debug__" : Str)) = false := by decide) : FE X L (.Name x pos) (t_c (.int i)) := fe_tC (pe_glob (v := .int i) hg hm ⟨_, rfl⟩ hd) fun _ _ => rfl
theorem fe_gstr {x i : Str} {tk : Tok} {pos : Pos} (hg : Gl X x) (hm : X.mg x = some (.str i tk)) (hd : (x == ("__debug__" : Str)) = false := by decide) : FE X L (.Name x pos) (t_c (.str i)) := fe_tC (pe_glob (v := .str i) hg hm ⟨_, rfl⟩ hd) fun _ _ => rfl

/-! ### argument lists, displays -/
def t_nil : TDs := fun _ p R => R [] p
def t_cons (t : TD) (u : TDs) : TDs := fun Xd p R => t Xd p fun d p1 => u Xd p1 fun ds p2 => R (d :: ds) p2
theorem fa_nil : FA X L [] t_nil := PA.imp pa_nil fun σ H Q ⟨G, p, Xd, R, r, x, ht, q⟩ => q [] p ht [] G H (Same.refl _) r rfl
theorem fa_cons {u : TDs} (h1 : FE X L e t) (h2 : FA X L es u) (hs : starEach (e :: es) X.env = (false, eval e X.env) :: starEach es X.env := by rfl) : FA X L (e :: es) (t_cons t u) :=
  PA.imp (pa_cons h1 h2 hs) fun σ H Q ⟨G, p, Xd, R, r, x, ht, q⟩ =>
    ⟨G, p, Xd, _, r, x, ht, fun d p1 h1 v G1 H1 s1 r1 rp1 => ⟨G1, p1, Xd, _, r1, x.mono s1, h1, fun ds p2 h2 vs G2 H2 s2 r2 rp2 =>
      q (d :: ds) p2 h2 (v :: vs) G2 H2 (s1.trans s2) r2 ⟨v, vs, rfl, rp1.mono s2, rp2⟩⟩⟩
/-- (a, b, ..) -/
def t_tup (u : TDs) : TD := fun Xd p R => u Xd p fun ds p1 => ds.length ≤ sizeLine ∧ R (.tup ds) p1
theorem fe_tup {u : TDs} {x1 : Nat} {pos : Pos} (h : FA X L es u) : FE X L (.Tuple es x1 pos) (t_tup u) := PE.imp (pe_tup h) fun σ H Q ⟨G, p, Xd, R, r, x, ht, q⟩ =>
  ⟨G, p, Xd, _, r, x, ht, fun ds p1 h1 vs G1 H1 s1 r1 rp1 => ⟨by rw [rp1.length]; exact h1.1, fun l hl =>
    q (.tup ds) p1 h1.2 (.ref l) (upd G1 l (.tup vs)) _ (s1.trans (r1.laidG hl)) (r1.laid hl) ⟨l, vs, rfl, .inl (.inl upd_same), rp1.mono (r1.laidG hl)⟩⟩⟩
/-- [a, b, ..] -/
def t_lst (u : TDs) : TD := fun Xd p R => u Xd p fun ds p1 => ds.length ≤ sizeLine ∧ R (.lst ds) p1
theorem fo_new {G H : Hp} {p : Pst} {σ : SS} {a : Addr} {ds : List DV} {vs : List V} (r : RL X.K L G p σ H) (ha : H a = none) (rp : RepL X.K G ds vs) : RL X.K L G p σ (upd H a (.lst vs)) ∧ OwnH X.K G (upd H a (.lst vs)) a (.lst ds) ∧ Fresh L.F L.bas G p σ a :=
  ⟨r.grow (same_upd ha), ⟨vs, upd_same, rp⟩, r.fresh ha⟩
theorem fo_lst {u : TDs} {pos : Pos} (h : FA X L es u) : FO X L (.List es pos) (t_lst u) := PE.imp (pe_lst h) fun σ H Q ⟨G, p, Xd, R, r, x, ht, q⟩ =>
  ⟨G, p, Xd, _, r, x, ht, fun ds p1 h1 vs G1 H1 s1 r1 rp1 => ⟨by rw [rp1.length]; exact h1.1, fun l hl => by
    obtain ⟨r2, o2, f2⟩ := fo_new r1 hl rp1
    exact q (.lst ds) p1 h1.2 l G1 _ s1 r2 o2 f2⟩⟩
end
end DD
/-! DDc: operators, comparisons, tests. -/
namespace DD
open PySem PySem.Spec PyProof.Rows L2
section
variable {X : Cx} {L : Lc}
/-- any rule for f -/
def uR (X : Cx) (f : Value → Value → Sem Value) : R2 := fun x y H Q => ∃ r, OpR X f r ∧ r x y H Q
theorem opU (f : Value → Value → Sem Value) : OpR X f (uR X f) := fun pins s σ H x y v u Q I rx ry h => by
  obtain ⟨r, hr, q⟩ := h
  exact hr pins s σ H x y v u Q I rx ry q
/-- what stands behind an operation: a frozen value that R says, in a greater frozen part -/
def Bh (X : Cx) (L : Lc) (G : Hp) (p : Pst) (σ : SS) (R : DV → Prop) (Q : VK) : Prop := ∀ d, R d → ∀ v G' H', Same G G' → RL X.K L G' p σ H' → Rep X.K G' d v → Q v H'
theorem Bh.now {G H : Hp} {p : Pst} {σ : SS} {R : DV → Prop} {Q : VK} (q : Bh X L G p σ R Q) (r : RL X.K L G p σ H) {d : DV} {v : V} (h : R d) (rp : Rep X.K G d v) : Q v H := q d h v G H (Same.refl _) r rp
theorem Bh.laid {G H : Hp} {p : Pst} {σ : SS} {R : DV → Prop} {Q : VK} (q : Bh X L G p σ R Q) (r : RL X.K L G p σ H) {d : DV} {a : Addr} {o : HO} (ha : H a = none) (h : R d) (rp : Rep X.K (upd G a o) d (.ref a)) : Q (.ref a) (upd H a o) :=
  q d h _ (upd G a o) _ (r.laidG ha) (r.laid ha) rp
abbrev O2 := DV → DV → (DV → Prop) → Prop
def OpD (X : Cx) (f : Value → Value → Sem Value) (o : O2) : Prop := ∀ (L : Lc) (G : Hp) (p : Pst) (σ : SS) (H : Hp) (x y : DV) (vx vy : V) (R : DV → Prop) (Q : VK),
  RL X.K L G p σ H → Rep X.K G x vx → Rep X.K G y vy → o x y R → Bh X L G p σ R Q → uR X f vx vy H Q
variable {a b c e : Expr} {ta tb tc : TD} {pos : Pos}
def t_bin (o : O2) (ta tb : TD) : TD := fun Xd p R => ta Xd p fun x p1 => tb Xd p1 fun y p2 => o x y fun d => R d p2
theorem bin_imp {f : Value → Value → Sem Value} {o : O2} (ho : OpD X f o) : ∀ σ H Q, lift X.K L (t_bin o ta tb) σ H Q → tOp (uR X f) (lift X.K L ta) (lift X.K L tb) σ H Q := fun σ H Q ⟨G, p, Xd, R, r, x, ht, q⟩ =>
  ⟨G, p, Xd, _, r, x, ht, fun d1 p1 h1 v1 G1 H1 s1 r1 rp1 => ⟨G1, p1, Xd, _, r1, x.mono s1, h1, fun d2 p2 h2 v2 G2 H2 s2 r2 rp2 =>
    ho L G2 p2 σ H2 d1 d2 v1 v2 (fun d => R d p2) Q r2 (rp1.mono s2) rp2 h2 fun d h v G3 H3 s3 r3 rp3 => q d p2 h v G3 H3 ((s1.trans s2).trans s3) r3 rp3⟩⟩
theorem fe_bin {op : Operator} {o : O2} (ho : OpD X (binaryOp op) o) (ha : FE X L a ta) (hb : FE X L b tb) : FE X L (.BinOp a op b pos) (t_bin o ta tb) := PE.imp (pe_op (opU _) ha hb) (bin_imp ho)
theorem fe_cmp {op : CmpOp} {o : O2} (ho : OpD X (compareOp op) o) (ha : FE X L a ta) (hb : FE X L b tb) (hm : behindInMarks op b = false) : FE X L (.Compare a [op] [b] pos) (t_bin o ta tb) := PE.imp (pe_cmpR (opU _) ha hb hm) (bin_imp ho)
/-- a value that must be a bool -/
def t_tst (t : TD) : TB := fun Xd p R => t Xd p fun d p1 => match d with
  | .bl k => R k p1
  | _ => False
theorem tst_imp {t : TD} {te : TE} (hi : ∀ σ H Q, lift X.K L t σ H Q → te σ H Q) : ∀ σ H Q, liftT X.K L (t_tst t) σ H Q → tTest te σ H Q := fun σ H Q ⟨G, p, Xd, R, r, x, ht, q⟩ =>
  hi σ H _ ⟨G, p, Xd, _, r, x, ht, fun d p1 h1 v G1 H1 s1 r1 rp1 => by
    cases d with
    | bl k => exact ⟨k, rp1, q k p1 h1 G1 H1 s1 r1⟩
    | _ => exact h1.elim⟩
theorem ft_cmp {op : CmpOp} {o : O2} (ho : OpD X (compareOp op) o) (ha : FE X L a ta) (hb : FE X L b tb) (hm : behindInMarks op b = false) : FT X L (.Compare a [op] [b] pos) (t_tst (t_bin o ta tb)) := PT.imp (pt_cmpR (opU _) ha hb hm) (tst_imp (bin_imp ho))
theorem ft_val (h : FE X L e ta) (he : ∀ whole, isTrue e X.env whole = (do let v ← whole; standAt e.pos; holding [v] (truthy v)) := by intro _; rfl) : FT X L e (t_tst ta) := PT.imp (pt_val h he) fun σ H Q q => tst_imp (fun _ _ _ z => z) σ H Q q
/-- a op b op' c -/
def t_chain (o o' : O2) (ta tb tc : TD) : TD := fun Xd p R => ta Xd p fun x p1 => tb Xd p1 fun y p2 => o x y fun d => match d with
  | .bl true => tc Xd p2 fun z p3 => o' y z fun d2 => R d2 p3
  | .bl false => R (.bl false) p2
  | _ => False
theorem chain_imp {f f' : Value → Value → Sem Value} {o o' : O2} (ho : OpD X f o) (ho' : OpD X f' o') : ∀ (σ : SS) (H : Hp) (Q : VK), lift X.K L (t_chain o o' ta tb tc) σ H Q →
    tChain (uR X f) (uR X f') (lift X.K L ta) (lift X.K L tb) (lift X.K L tc) σ H Q := fun σ H Q ⟨G, p, Xd, R, r, x, ht, q⟩ =>
  ⟨G, p, Xd, _, r, x, ht, fun d1 p1 h1 v1 G1 H1 s1 r1 rp1 => ⟨G1, p1, Xd, _, r1, x.mono s1, h1, fun d2 p2 h2 v2 G2 H2 s2 r2 rp2 =>
    ho L G2 p2 σ H2 d1 d2 v1 v2 _ _ r2 (rp1.mono s2) rp2 h2 fun d h v G3 H3 s3 r3 rp3 => by
      cases d with
      | bl k =>
        cases k with
        | true =>
          refine ⟨true, rp3, ?_⟩
          simp only [if_true]
          exact ⟨G3, p2, Xd, _, r3, (x.mono (s1.trans s2)).mono s3, h, fun d4 p4 h4 v4 G4 H4 s4 r4 rp4 => ho' L G4 p4 σ H4 d2 d4 v2 v4 (fun d => R d p4) Q r4 (rp2.mono (s3.trans s4)) rp4 h4 fun d5 h5 v5 G5 H5 s5 r5 rp5 =>
            q d5 p4 h5 v5 G5 H5 ((((s1.trans s2).trans s3).trans s4).trans s5) r5 rp5⟩
        | false =>
          refine ⟨false, rp3, ?_⟩
          rw [if_neg Bool.false_ne_true]
          exact q (.bl false) p2 h _ G3 H3 ((s1.trans s2).trans s3) r3 rfl
      | _ => exact h.elim⟩⟩
theorem fe_chain {op op' : CmpOp} {o o' : O2} (ho : OpD X (compareOp op) o) (ho' : OpD X (compareOp op') o') (ha : FE X L a ta) (hb : FE X L b tb) (hc : FE X L c tc) (hm : lastMarks [op, op'] [b, c] = false := by with_unfolding_all rfl) :
    FE X L (.Compare a [op, op'] [b, c] pos) (t_chain o o' ta tb tc) := PE.imp (pe_chain (opU _) (opU _) ha hb hc hm) (chain_imp ho ho')
theorem ft_chain {op op' : CmpOp} {o o' : O2} (ho : OpD X (compareOp op) o) (ho' : OpD X (compareOp op') o') (ha : FE X L a ta) (hb : FE X L b tb) (hc : FE X L c tc) (hm : lastMarks [op, op'] [b, c] = false := by with_unfolding_all rfl) :
    FT X L (.Compare a [op, op'] [b, c] pos) (t_tst (t_chain o o' ta tb tc)) := PT.imp (pt_chain (opU _) (opU _) ha hb hc hm) (tst_imp (chain_imp ho ho'))

/-! ### and, or, not, if -/
variable {tA tB : TB} {rest : List Expr}
def t_and (t u : TB) : TB := fun Xd p R => t Xd p fun k p1 => if k = true then u Xd p1 R else R false p1
def t_or (t u : TB) : TB := fun Xd p R => t Xd p fun k p1 => if k = true then R true p1 else u Xd p1 R
def t_not (t : TB) : TB := fun Xd p R => t Xd p fun k p1 => R (!k) p1
abbrev FW (X : Cx) (L : Lc) (e : Expr) (t : TB) : Prop := PW X e (liftT X.K L t)
theorem PW.imp {t t' : TT} (h : PW X e t) (q : ∀ σ H Q, t' σ H Q → t σ H Q) : PW X e t' := ⟨fun wh pins s σ H Q I x => h.run wh pins s σ H Q I (q σ H Q x)⟩
theorem fw_and1 (ha : FT X L a tA) : FW X L (.BoolOp .And [a] pos) tA := pw_and1 ha
theorem fw_or1 (ha : FT X L a tA) : FW X L (.BoolOp .Or [a] pos) tA := pw_or1 ha
theorem fw_and (ha : FT X L a tA) (hb : FW X L (.BoolOp .And (b :: rest) pos) tB) : FW X L (.BoolOp .And (a :: b :: rest) pos) (t_and tA tB) := PW.imp (pw_and ha hb) fun σ H Q ⟨G, p, Xd, R, r, x, ht, q⟩ =>
  ⟨G, p, Xd, _, r, x, ht, fun k p1 h1 G1 H1 s1 r1 => by
    cases k with
    | true => exact ⟨G1, p1, Xd, R, r1, x.mono s1, h1, fun k p2 h2 G2 H2 s2 r2 => q k p2 h2 G2 H2 (s1.trans s2) r2⟩
    | false => exact q false p1 h1 G1 H1 s1 r1⟩
theorem fw_or (ha : FT X L a tA) (hb : FW X L (.BoolOp .Or (b :: rest) pos) tB) : FW X L (.BoolOp .Or (a :: b :: rest) pos) (t_or tA tB) := PW.imp (pw_or ha hb) fun σ H Q ⟨G, p, Xd, R, r, x, ht, q⟩ =>
  ⟨G, p, Xd, _, r, x, ht, fun k p1 h1 G1 H1 s1 r1 => by
    cases k with
    | true => exact q true p1 h1 G1 H1 s1 r1
    | false => exact ⟨G1, p1, Xd, R, r1, x.mono s1, h1, fun k p2 h2 G2 H2 s2 r2 => q k p2 h2 G2 H2 (s1.trans s2) r2⟩⟩
theorem FW.t (h : FW X L e tA) : FT X L e tA := PW.pt h
theorem ft_not (ha : FT X L a tA) : FT X L (.UnaryOp .Not a pos) (t_not tA) := PT.imp (pt_not ha) fun σ H Q ⟨G, p, Xd, R, r, x, ht, q⟩ => ⟨G, p, Xd, _, r, x, ht, fun k p1 h1 G1 H1 s1 r1 => q (!k) p1 h1 G1 H1 s1 r1⟩
/-- as values -/
def t_andV (t u : TD) : TD := fun Xd p R => t Xd p fun d p1 => match d with
  | .bl true => u Xd p1 R
  | .bl false => R (.bl false) p1
  | _ => False
def t_orV (t u : TD) : TD := fun Xd p R => t Xd p fun d p1 => match d with
  | .bl true => R (.bl true) p1
  | .bl false => u Xd p1 R
  | _ => False
def t_notV (t : TD) : TD := fun Xd p R => t Xd p fun d p1 => match d with
  | .bl k => R (.bl (!k)) p1
  | _ => False
theorem fe_one {op} (ha : FE X L a ta) : FE X L (.BoolOp op [a] pos) ta := pe_one ha
theorem fe_and (ha : FE X L a ta) (hb : FE X L (.BoolOp .And (b :: rest) pos) tb) : FE X L (.BoolOp .And (a :: b :: rest) pos) (t_andV ta tb) := PE.imp (pe_and ha hb) fun σ H Q ⟨G, p, Xd, R, r, x, ht, q⟩ =>
  ⟨G, p, Xd, _, r, x, ht, fun d p1 h1 v G1 H1 s1 r1 rp1 => by
    cases d with
    | bl k => cases k with
      | true => exact ⟨true, rp1, ⟨G1, p1, Xd, R, r1, x.mono s1, h1, fun k p2 h2 v2 G2 H2 s2 r2 rp2 => q k p2 h2 v2 G2 H2 (s1.trans s2) r2 rp2⟩⟩
      | false => exact ⟨false, rp1, q (.bl false) p1 h1 _ G1 H1 s1 r1 rfl⟩
    | _ => exact h1.elim⟩
theorem fe_or (ha : FE X L a ta) (hb : FE X L (.BoolOp .Or (b :: rest) pos) tb) : FE X L (.BoolOp .Or (a :: b :: rest) pos) (t_orV ta tb) := PE.imp (pe_or ha hb) fun σ H Q ⟨G, p, Xd, R, r, x, ht, q⟩ =>
  ⟨G, p, Xd, _, r, x, ht, fun d p1 h1 v G1 H1 s1 r1 rp1 => by
    cases d with
    | bl k => cases k with
      | false => exact ⟨false, rp1, ⟨G1, p1, Xd, R, r1, x.mono s1, h1, fun k p2 h2 v2 G2 H2 s2 r2 rp2 => q k p2 h2 v2 G2 H2 (s1.trans s2) r2 rp2⟩⟩
      | true => exact ⟨true, rp1, q (.bl true) p1 h1 _ G1 H1 s1 r1 rfl⟩
    | _ => exact h1.elim⟩
theorem fe_not (ha : FE X L a ta) : FE X L (.UnaryOp .Not a pos) (t_notV ta) := PE.imp (pe_not ha) fun σ H Q ⟨G, p, Xd, R, r, x, ht, q⟩ =>
  ⟨G, p, Xd, _, r, x, ht, fun d p1 h1 v G1 H1 s1 r1 rp1 => by
    cases d with
    | bl k => exact ⟨k, rp1, q _ p1 h1 _ G1 H1 s1 r1 rfl⟩
    | _ => exact h1.elim⟩
def t_ifE (t : TB) (u w : TD) : TD := fun Xd p R => t Xd p fun k p1 => if k = true then u Xd p1 R else w Xd p1 R
theorem fe_ifE (hc : FT X L c tA) (ha : FE X L a ta) (hb : FE X L b tb) : FE X L (.IfExp c a b pos) (t_ifE tA ta tb) := PE.imp (pe_ifExp hc ha hb) fun σ H Q ⟨G, p, Xd, R, r, x, ht, q⟩ =>
  ⟨G, p, Xd, _, r, x, ht, fun k p1 h1 G1 H1 s1 r1 => by
    cases k with
    | true => exact ⟨G1, p1, Xd, R, r1, x.mono s1, h1, fun k p2 h2 v2 G2 H2 s2 r2 rp2 => q k p2 h2 v2 G2 H2 (s1.trans s2) r2 rp2⟩
    | false => exact ⟨G1, p1, Xd, R, r1, x.mono s1, h1, fun k p2 h2 v2 G2 H2 s2 r2 rp2 => q k p2 h2 v2 G2 H2 (s1.trans s2) r2 rp2⟩⟩

/-! ### unary -/
def o_neg : DV → (DV → Prop) → Prop
  | .int i, R => R (.int (-i))
  | _, _ => False
def t_neg (t : TD) : TD := fun Xd p R => t Xd p fun x p1 => o_neg x fun d => R d p1
theorem fe_neg (ha : FE X L a ta) : FE X L (.UnaryOp .USub a pos) (t_neg ta) := PE.imp (pe_un un_neg ha) fun σ H Q ⟨G, p, Xd, R, r, x, ht, q⟩ =>
  ⟨G, p, Xd, _, r, x, ht, fun d p1 h1 v G1 H1 s1 r1 rp1 => by
    cases d with
    | int i => exact ⟨i, rp1, q _ p1 h1 _ G1 H1 s1 r1 rfl⟩
    | _ => exact h1.elim⟩

/-! ### the operators on deep values -/
def o_add : O2
  | .int i, .int j, R => R (.int (i + j))
  | .str i, .str j, R => i.length + j.length ≤ sizeLine ∧ R (.str (i ++ j))
  | .tup i, .tup j, R => i.length + j.length ≤ sizeLine ∧ R (.tup (i ++ j))
  | .lst i, .lst j, R => i.length + j.length ≤ sizeLine ∧ R (.lst (i ++ j))
  | _, _, _ => False
def o_sub : O2
  | .int i, .int j, R => R (.int (i - j))
  | _, _, _ => False
/-- sizes of ints: below 2 ^ n -/
def SzI (n : Nat) (i : Int) : Prop := i.natAbs < 2 ^ n
def o_mul : O2
  | .int i, .int j, R => CMulX i j ∧ R (.int (i * j))
  | .lst i, .int j, R => -(2 ^ 63) ≤ j ∧ j < 2 ^ 63 ∧ i.length * j.toNat ≤ sizeLine ∧ R (.lst (List.replicate j.toNat i).flatten)
  | .tup i, .int j, R => i ≠ [] ∧ 2 ≤ j ∧ j ≤ 1000 ∧ i.length ≤ 1000 ∧ R (.tup (List.replicate j.toNat i).flatten)
  | _, _, _ => False
def o_fdiv : O2
  | .int i, .int j, R => CDivW i j ∧ R (.int (i / j))
  | _, _, _ => False
def o_mod : O2
  | .int i, .int j, R => 0 < j ∧ R (.int (i % j))
  | _, _, _ => False
def CPowX (i j : Int) : Prop := 0 ≤ j ∧ (Builtin.Int.intBits i : Int) * j ≤ 2 ^ 27
def o_pow : O2
  | .int i, .int j, R => CPowX i j ∧ R (.int (i ^ j.toNat))
  | _, _, _ => False
def o_lt : O2
  | .int i, .int j, R => R (.bl (decide (i < j)))
  | _, _, _ => False
def o_le : O2
  | .int i, .int j, R => R (.bl (decide (i ≤ j)))
  | _, _, _ => False
def o_gt : O2
  | .int i, .int j, R => R (.bl (decide (j < i)))
  | _, _, _ => False
def o_ge : O2
  | .int i, .int j, R => R (.bl (decide (j ≤ i)))
  | _, _, _ => False
theorem opd_ii {f : Value → Value → Sem Value} {o : O2} (h : ∀ x y R, o x y R → ∃ i j d, x = .int i ∧ y = .int j ∧ R d ∧ ∃ v : V, (∀ K G, Rep K G d v) ∧ ∃ C : Prop, C ∧ ∃ r, OpR X f r ∧ ∀ H (Q : VK), Q v H → r (.int i) (.int j) H Q) : OpD X f o := fun L G p σ H x y vx vy R Q r rx ry ho q => by
  obtain ⟨i, j, d, rfl, rfl, hR, v, rv, _, _, r2, h2, h3⟩ := h x y R ho
  cases (show vx = V.int i from rx)
  cases (show vy = V.int j from ry)
  exact ⟨r2, h2, h3 H Q (q.now r hR (rv _ _))⟩
theorem od_sub : OpD X (binaryOp .Sub) o_sub := fun L G p σ H x y vx vy R Q r rx ry ho q => by
  cases x <;> try exact ho.elim
  cases y <;> try exact ho.elim
  cases (show vx = V.int _ from rx)
  cases (show vy = V.int _ from ry)
  exact ⟨_, op_sub, _, _, rfl, rfl, q.now r ho rfl⟩
theorem op_powX : OpR X (binaryOp .Pow) (rI CPowX fun i j => .int (i ^ j.toNat)) := opI fun _ _ _ _ _ _ _ hc q => pow_int hc.1 hc.2 q
theorem od_fdiv : OpD X (binaryOp .FloorDiv) o_fdiv := fun L G p σ H x y vx vy R Q r rx ry ho q => by
  cases x <;> try exact ho.elim
  cases y <;> try exact ho.elim
  cases (show vx = V.int _ from rx)
  cases (show vy = V.int _ from ry)
  exact ⟨_, op_fdivW, _, _, rfl, rfl, ho.1, q.now r ho.2 rfl⟩
theorem od_mod : OpD X (binaryOp .Mod) o_mod := fun L G p σ H x y vx vy R Q r rx ry ho q => by
  cases x <;> try exact ho.elim
  cases y <;> try exact ho.elim
  cases (show vx = V.int _ from rx)
  cases (show vy = V.int _ from ry)
  exact ⟨_, op_mod, _, _, rfl, rfl, ho.1, q.now r ho.2 rfl⟩
theorem od_pow : OpD X (binaryOp .Pow) o_pow := fun L G p σ H x y vx vy R Q r rx ry ho q => by
  cases x <;> try exact ho.elim
  cases y <;> try exact ho.elim
  cases (show vx = V.int _ from rx)
  cases (show vy = V.int _ from ry)
  exact ⟨_, op_powX, _, _, rfl, rfl, ho.1, q.now r ho.2 rfl⟩
theorem od_lt : OpD X (compareOp .Lt) o_lt := fun L G p σ H x y vx vy R Q r rx ry ho q => by
  cases x <;> try exact ho.elim
  cases y <;> try exact ho.elim
  cases (show vx = V.int _ from rx)
  cases (show vy = V.int _ from ry)
  exact ⟨_, op_lt, _, _, rfl, rfl, q.now r ho rfl⟩
theorem od_le : OpD X (compareOp .LtE) o_le := fun L G p σ H x y vx vy R Q r rx ry ho q => by
  cases x <;> try exact ho.elim
  cases y <;> try exact ho.elim
  cases (show vx = V.int _ from rx)
  cases (show vy = V.int _ from ry)
  exact ⟨_, op_le, _, _, rfl, rfl, q.now r ho rfl⟩
theorem od_gt : OpD X (compareOp .Gt) o_gt := fun L G p σ H x y vx vy R Q r rx ry ho q => by
  cases x <;> try exact ho.elim
  cases y <;> try exact ho.elim
  cases (show vx = V.int _ from rx)
  cases (show vy = V.int _ from ry)
  exact ⟨_, op_gt, _, _, rfl, rfl, q.now r ho rfl⟩
theorem od_ge : OpD X (compareOp .GtE) o_ge := fun L G p σ H x y vx vy R Q r rx ry ho q => by
  cases x <;> try exact ho.elim
  cases y <;> try exact ho.elim
  cases (show vx = V.int _ from rx)
  cases (show vy = V.int _ from ry)
  exact ⟨_, op_ge, _, _, rfl, rfl, q.now r ho rfl⟩
theorem RepL.rep {K : PySem.W.Frag} {G : Hp} {ds : List DV} {vs : List V} (h : RepL K G ds vs) : ∀ n : Nat, RepL K G (List.replicate n ds).flatten (List.replicate n vs).flatten
  | 0 => rfl
  | n + 1 => by
    rw [List.replicate_succ, List.replicate_succ, List.flatten_cons, List.flatten_cons]
    exact h.append (RepL.rep h n)
theorem od_mul : OpD X (binaryOp .Mult) o_mul := fun L G p σ H x y vx vy R Q r rx ry ho q => by
  cases x <;> try exact ho.elim
  · cases y <;> try exact ho.elim
    cases (show vx = V.int _ from rx)
    cases (show vy = V.int _ from ry)
    exact ⟨_, op_mulX, _, _, rfl, rfl, ho.1, q.now r ho.2 rfl⟩
  · rename_i i
    cases y <;> try exact ho.elim
    rename_i j
    obtain ⟨a, vs, rfl, h1, h2⟩ := rx
    cases (show vy = V.int j from ry)
    refine ⟨_, op_repT, a, j, vs, rfl, rfl, Same.seqT r.sG h1, fun e => ?_, ho.2.1, ho.2.2.1, by rw [h2.length]; exact ho.2.2.2.1, fun l hl => ?_⟩
    · subst e
      exact ho.1 (List.length_eq_zero_iff.mp (h2.length.symm.trans rfl))
    · exact q.laid r hl ho.2.2.2.2 ⟨l, _, rfl, .inl (.inl upd_same), (h2.rep j.toNat).mono (r.laidG hl)⟩
  · rename_i i
    cases y <;> try exact ho.elim
    rename_i j
    obtain ⟨a, vs, rfl, h1, h2⟩ := rx
    cases (show vy = V.int j from ry)
    refine ⟨_, op_rep, a, j, vs, rfl, rfl, r.sG _ _ h1, ho.1, ho.2.1, by rw [h2.length]; exact ho.2.2.1, fun l hl => ?_⟩
    exact q.laid r hl ho.2.2.2 ⟨l, _, rfl, upd_same, (h2.rep j.toNat).mono (r.laidG hl)⟩
theorem od_add : OpD X (binaryOp .Add) o_add := fun L G p σ H x y vx vy R Q r rx ry ho q => by
  cases x <;> try exact ho.elim
  all_goals (cases y <;> try exact ho.elim)
  · cases (show vx = V.int _ from rx)
    cases (show vy = V.int _ from ry)
    exact ⟨_, op_add, _, _, rfl, rfl, q.now r ho rfl⟩
  · cases (show vx = V.str _ from rx)
    cases (show vy = V.str _ from ry)
    exact ⟨_, op_add_str, _, _, rfl, rfl, ho.1, q.now r ho.2 rfl⟩
  · rename_i i j
    obtain ⟨a, vs, rfl, h1, h2⟩ := rx
    obtain ⟨b, us, rfl, h3, h4⟩ := ry
    refine ⟨_, op_catA, a, b, vs, us, rfl, rfl, Same.seqT r.sG h1, Same.seqT r.sG h3, by rw [h2.length, h4.length]; exact ho.1, fun e => ?_, fun e1 e2 => ?_, fun e1 e2 l hl => ?_⟩
    · subst e
      have hi : i = [] := List.length_eq_zero_iff.mp (h2.length.symm.trans rfl)
      subst hi
      exact q.now r ho.2 ⟨b, us, rfl, h3, h4⟩
    · subst e2
      have hj : j = [] := List.length_eq_zero_iff.mp (h4.length.symm.trans rfl)
      subst hj
      have h5 := ho.2
      rw [List.append_nil] at h5
      exact q.now r h5 ⟨a, vs, rfl, h1, h2⟩
    · exact q.laid r hl ho.2 ⟨l, vs ++ us, rfl, .inl (.inl upd_same), (h2.append h4).mono (r.laidG hl)⟩
  · rename_i i j
    obtain ⟨a, vs, rfl, h1, h2⟩ := rx
    obtain ⟨b, us, rfl, h3, h4⟩ := ry
    refine ⟨_, op_cat, a, b, vs, us, rfl, rfl, r.sG _ _ h1, r.sG _ _ h3, by rw [h2.length, h4.length]; exact ho.1, fun l hl => ?_⟩
    exact q.laid r hl ho.2 ⟨l, vs ++ us, rfl, upd_same, (h2.append h4).mono (r.laidG hl)⟩
end
end DD
/-! DDd: ==, !=, is, in over deep values; isinstance. -/
namespace DD
open PySem PySem.Spec PyProof.Rows L2
mutual
def DV.py : DV → PyData
  | .non => .none
  | .bl b => .bool b
  | .int i => .int i
  | .str x => .str x
  | .tup ds => .tuple (DV.pyL ds)
  | .lst ds => .list (DV.pyL ds)
  | .rol ds => .list (DV.pyL ds)
  | _ => .none
def DV.pyL : List DV → List PyData
  | [] => []
  | d :: ds => DV.py d :: DV.pyL ds
end
theorem pyL_map : ∀ ds : List DV, DV.pyL ds = ds.map DV.py
  | [] => rfl
  | d :: ds => by rw [DV.pyL, List.map_cons, pyL_map ds]
/-- plain data of a depth -/
def Pl : Nat → DV → Prop
  | _, .non => True
  | _, .bl _ => True
  | _, .int _ => True
  | _, .str x => PyData.strOk x = true
  | n + 1, .tup ds => ∀ d ∈ ds, Pl n d
  | n + 1, .lst ds => ∀ d ∈ ds, Pl n d
  | n + 1, .rol ds => ∀ d ∈ ds, Pl n d
  | _, _ => False
theorem depthAll_le {n : Nat} : ∀ {ds : List PyData}, (∀ d ∈ ds, d.depth ≤ n) → PyData.depthAll ds ≤ n
  | [], _ => Nat.zero_le _
  | d :: ds, h => by
    rw [PyData.depthAll]
    exact Nat.max_le.mpr ⟨h d List.mem_cons_self, depthAll_le fun x hx => h x (List.mem_cons_of_mem _ hx)⟩
theorem canAll {ds : List PyData} (h : ∀ d ∈ ds, d.canLay0 = true) : PyData.canLayAll0 ds = true := by
  induction ds with
  | nil => rfl
  | cons d ds ih =>
    rw [PyData.canLayAll0, h d List.mem_cons_self, ih fun x hx => h x (List.mem_cons_of_mem _ hx)]
    rfl
theorem Pl.shape : ∀ {n : Nat} {d : DV}, Pl n d → d.py.canLay0 = true ∧ d.py.depth ≤ n := by
  intro n
  induction n with
  | zero =>
    intro d h
    cases d <;> first | exact h.elim | skip
    · exact ⟨rfl, Nat.le_refl _⟩
    · exact ⟨rfl, Nat.le_refl _⟩
    · exact ⟨rfl, Nat.le_refl _⟩
    · exact ⟨h, Nat.le_refl _⟩
  | succ n ih =>
    intro d h
    have all : ∀ ds : List DV, (∀ d ∈ ds, Pl n d) → PyData.canLayAll0 (DV.pyL ds) = true ∧ PyData.depthAll (DV.pyL ds) ≤ n := fun ds hd => by
      rw [pyL_map]
      constructor
      · refine canAll fun x hx => ?_
        obtain ⟨y, hy, rfl⟩ := List.mem_map.mp hx
        exact (ih (hd y hy)).1
      · refine depthAll_le fun x hx => ?_
        obtain ⟨y, hy, rfl⟩ := List.mem_map.mp hx
        exact (ih (hd y hy)).2
    cases d <;> first | exact h.elim | skip
    · exact ⟨rfl, Nat.zero_le _⟩
    · exact ⟨rfl, Nat.zero_le _⟩
    · exact ⟨rfl, Nat.zero_le _⟩
    · exact ⟨h, Nat.zero_le _⟩
    · exact ⟨(all _ h).1, Nat.succ_le_succ (all _ h).2⟩
    · exact ⟨(all _ h).1, Nat.succ_le_succ (all _ h).2⟩
    · exact ⟨(all _ h).1, Nat.succ_le_succ (all _ h).2⟩
theorem Pl.shaped {n : Nat} {d : DV} (h : Pl n d) (hn : n ≤ 64) : SeqAt.shaped d.py = true := by
  obtain ⟨h1, h2⟩ := h.shape
  unfold SeqAt.shaped
  rw [h1, decide_eq_true (Nat.le_trans h2 hn)]
  rfl
theorem dpAll_of {K : PySem.W.Frag} {H : Hp} {n : Nat} (ih : ∀ {d : DV} {v : V}, Pl n d → Rep K H d v → Dp K H v d.py) : ∀ {ds : List DV} {vs : List V}, (∀ d ∈ ds, Pl n d) → RepL K H ds vs → DpAll K H vs (DV.pyL ds)
  | [], vs, _, h => by cases h; exact .nil
  | d :: ds, vs, hp, ⟨v, us, h1, h2, h3⟩ => by
    subst h1
    exact .cons (ih (hp d List.mem_cons_self) h2) (dpAll_of ih (fun x hx => hp x (List.mem_cons_of_mem _ hx)) h3)
theorem dp_of {K : PySem.W.Frag} {H : Hp} : ∀ {n : Nat} {d : DV} {v : V}, Pl n d → Rep K H d v → Dp K H v d.py := by
  intro n
  induction n with
  | zero =>
    intro d v h r
    cases d <;> first | exact h.elim | skip
    · cases (show v = V.non from r); exact .non
    · cases (show v = V.bl _ from r); exact .bl _
    · cases (show v = V.int _ from r); exact .int _
    · cases (show v = V.str _ from r); exact .str _
  | succ n ih =>
    intro d v h r
    cases d <;> first | exact h.elim | skip
    · cases (show v = V.non from r); exact .non
    · cases (show v = V.bl _ from r); exact .bl _
    · cases (show v = V.int _ from r); exact .int _
    · cases (show v = V.str _ from r); exact .str _
    · obtain ⟨a, vs, rfl, h1, h2⟩ := r
      exact .tup h1 (dpAll_of ih h h2)
    · obtain ⟨a, vs, rfl, h1, h2⟩ := r
      exact .lst (.inl (.inl h1)) (dpAll_of ih h h2)
    · obtain ⟨a, vs, rfl, h1, h2⟩ := r
      exact .lst h1 (dpAll_of ih h h2)
/-- x == y -/
def deq (x y : DV) : Bool := PyData.eqv x.py y.py
def o_eq : O2 := fun x y R => Pl 20 x ∧ Pl 20 y ∧ R (.bl (deq x y))
def o_ne : O2 := fun x y R => Pl 20 x ∧ Pl 20 y ∧ R (.bl (!deq x y))
section
variable {X : Cx} {L : Lc}
theorem od_eq (hu : X.A.units + 64 < cLine) : OpD X (compareOp .Eq) o_eq := fun L G p σ H x y vx vy R Q r rx ry ho q =>
  ⟨_, op_eqD hu, x.py, y.py, dp_of ho.1 (rx.mono r.sG), dp_of ho.2.1 (ry.mono r.sG), ho.1.shaped (by decide), ho.2.1.shaped (by decide), q.now r ho.2.2 rfl⟩
theorem od_ne (hu : X.A.units + 64 < cLine) : OpD X (compareOp .NotEq) o_ne := fun L G p σ H x y vx vy R Q r rx ry ho q =>
  ⟨_, op_neD hu, x.py, y.py, dp_of ho.1 (rx.mono r.sG), dp_of ho.2.1 (ry.mono r.sG), ho.1.shaped (by decide), ho.2.1.shaped (by decide), q.now r ho.2.2 rfl⟩
/-- is: None, or two bools -/
def DV.isNon : DV → Bool
  | .non => true
  | _ => false
def o_is : O2
  | x, .non, R => R (.bl x.isNon)
  | .bl a, .bl b, R => R (.bl (decide (a = b)))
  | _, _, _ => False
def o_isnt : O2
  | x, .non, R => R (.bl (!x.isNon))
  | .bl a, .bl b, R => R (.bl (!decide (a = b)))
  | _, _, _ => False
theorem isNon_of {K : PySem.W.Frag} {G : Hp} {x : DV} {v : V} (r : Rep K G x v) : decide (v = .non) = x.isNon := by
  cases x with
  | non => cases (show v = V.non from r); rfl
  | bl b => cases (show v = V.bl _ from r); rfl
  | int b => cases (show v = V.int _ from r); rfl
  | str b => cases (show v = V.str _ from r); rfl
  | ref b => cases (show v = V.ref _ from r); rfl
  | ty b => cases (show v = V.ty _ from r); rfl
  | tup ds => obtain ⟨a, vs, rfl, _⟩ := r; rfl
  | lst ds => obtain ⟨a, vs, rfl, _⟩ := r; rfl
  | rol ds => obtain ⟨a, vs, rfl, _⟩ := r; rfl
  | dic ds => obtain ⟨a, vs, rfl, _⟩ := r; rfl
  | rng lo hi => obtain ⟨a, rfl, _⟩ := r; rfl
theorem od_is : OpD X (compareOp .Is) o_is := fun L G p σ H x y vx vy R Q r rx ry ho q => by
  cases y with
  | non =>
    cases (show vy = V.non from ry)
    have ho : R (.bl x.isNon) := by cases x <;> exact ho
    exact ⟨_, op_isN, rfl, by rw [isNon_of rx]; exact q.now r ho rfl⟩
  | bl b =>
    cases x <;> try exact ho.elim
    cases (show vx = V.bl _ from rx)
    cases (show vy = V.bl _ from ry)
    exact ⟨_, op_is_bl, _, _, rfl, rfl, q.now r ho rfl⟩
  | _ => cases x <;> exact ho.elim
theorem od_isnt : OpD X (compareOp .IsNot) o_isnt := fun L G p σ H x y vx vy R Q r rx ry ho q => by
  cases y with
  | non =>
    cases (show vy = V.non from ry)
    have ho : R (.bl (!x.isNon)) := by cases x <;> exact ho
    exact ⟨_, op_notN, rfl, by rw [isNon_of rx]; exact q.now r ho rfl⟩
  | bl b =>
    cases x <;> try exact ho.elim
    cases (show vx = V.bl _ from rx)
    cases (show vy = V.bl _ from ry)
    exact ⟨_, op_isnot_bl, _, _, rfl, rfl, q.now r ho rfl⟩
  | _ => cases x <;> exact ho.elim

/-! ### in -/
def DV.flat : DV → Bool
  | .non => true
  | .bl _ => true
  | .int _ => true
  | .str _ => true
  | _ => false
def dIn (x : DV) (ds : List DV) : Bool := ds.any fun z => deq z x
/-- x in a list of data (readable), in a tuple of flat items -/
def o_in (neg : Bool) : O2
  | x, .lst ds, R => Pl 20 x ∧ Pl 20 (.lst ds) ∧ R (.bl (if neg then !dIn x ds else dIn x ds))
  | x, .rol ds, R => Pl 20 x ∧ Pl 20 (.rol ds) ∧ R (.bl (if neg then !dIn x ds else dIn x ds))
  | x, .tup ds, R => x.flat = true ∧ ds.all DV.flat = true ∧ R (.bl (if neg then !dIn x ds else dIn x ds))
  | _, _, _ => False
theorem any_pyL (x : DV) : ∀ ds : List DV, ((DV.pyL ds).any fun z => PyData.eqv z x.py) = dIn x ds := fun ds => by
  rw [pyL_map, List.any_map]
  rfl
def toV : DV → V
  | .non => .non
  | .bl b => .bl b
  | .int i => .int i
  | .str x => .str x
  | _ => .non
theorem flat_rep {K : PySem.W.Frag} {G : Hp} {x : DV} {v : V} (h : x.flat = true) (r : Rep K G x v) : v = toV x := by
  cases x <;> first | exact r | cases h
theorem flat_repL {K : PySem.W.Frag} {G : Hp} : ∀ {ds : List DV} {vs : List V}, ds.all DV.flat = true → RepL K G ds vs → vs = ds.map toV
  | [], vs, _, h => h
  | d :: ds, vs, hf, ⟨v, us, h1, h2, h3⟩ => by
    rw [List.all_cons, Bool.and_eq_true] at hf
    rw [h1, flat_rep hf.1 h2, flat_repL hf.2 h3]
    rfl
theorem flatV_toV {x : DV} (h : x.flat = true) : flatV (toV x) = true := by
  cases x <;> first | rfl | cases h
theorem flatV_all : ∀ {ds : List DV}, ds.all DV.flat = true → (ds.map toV).all flatV = true
  | [], _ => rfl
  | d :: ds, hf => by
    rw [List.all_cons, Bool.and_eq_true] at hf
    rw [List.map_cons, List.all_cons, flatV_toV hf.1, flatV_all hf.2]
    rfl
theorem eqV_toV {x y : DV} (hx : x.flat = true) (hy : y.flat = true) : eqV (toV x) (toV y) = deq x y := by
  cases x <;> first | cases hx | skip
  all_goals cases y <;> first | cases hy | skip
  all_goals (first | rfl | skip)
theorem inV_toV {x : DV} (hx : x.flat = true) : ∀ {ds : List DV}, ds.all DV.flat = true → inV (toV x) (ds.map toV) = dIn x ds
  | [], _ => rfl
  | d :: ds, hf => by
    rw [List.all_cons, Bool.and_eq_true] at hf
    have ih := inV_toV hx hf.2
    unfold inV dIn at *
    rw [List.map_cons, List.any_cons, List.any_cons, eqV_toV hf.1 hx, ih]
theorem in_aux (hu : X.A.units + 65 < cLine) (neg : Bool) (op : CmpOp) (h1 : OpR X (compareOp op) (fun x y H Q => ∃ d ds, Dp X.K H x d ∧ Dp X.K H y (.list ds) ∧ SeqAt.shaped d = true ∧ SeqAt.shaped (.list ds) = true ∧ Q (.bl (if neg then !ds.any fun z => PyData.eqv z d else ds.any fun z => PyData.eqv z d)) H))
    (h2 : OpR X (compareOp op) (rIn X.K neg)) : OpD X (compareOp op) (o_in neg) := fun L G p σ H x y vx vy R Q r rx ry ho q => by
  have eL : ∀ ds : List DV, (if neg then !(DV.pyL ds).any fun z => PyData.eqv z x.py else (DV.pyL ds).any fun z => PyData.eqv z x.py) = (if neg then !dIn x ds else dIn x ds) := fun ds => by rw [any_pyL]
  cases y with
  | lst ds =>
    exact ⟨_, h1, x.py, DV.pyL ds, dp_of ho.1 (rx.mono r.sG), dp_of (d := .lst ds) ho.2.1 (ry.mono r.sG), ho.1.shaped (by decide), Pl.shaped (d := .lst ds) ho.2.1 (by decide), by rw [eL]; exact q.now r ho.2.2 rfl⟩
  | rol ds =>
    exact ⟨_, h1, x.py, DV.pyL ds, dp_of ho.1 (rx.mono r.sG), dp_of (d := .rol ds) ho.2.1 (ry.mono r.sG), ho.1.shaped (by decide), Pl.shaped (d := .rol ds) ho.2.1 (by decide), by rw [eL]; exact q.now r ho.2.2 rfl⟩
  | tup ds =>
    have e1 := flat_rep ho.1 rx
    subst e1
    obtain ⟨a, vs, rfl, h3, h4⟩ := ry
    have e2 := flat_repL ho.2.1 h4
    subst e2
    refine ⟨_, h2, a, _, rfl, .inr (Same.seqT r.sG h3), flatV_toV ho.1, flatV_all ho.2.1, ?_⟩
    rw [inV_toV ho.1 ho.2.1]
    exact q.now r ho.2.2 rfl
  | _ => cases x <;> exact ho.elim
theorem od_in (hu : X.A.units + 65 < cLine) : OpD X (compareOp .In) (o_in false) := in_aux hu false .In (fun pins s σ H x y v u Q I rx ry h => op_inD hu pins s σ H x y v u Q I rx ry h) op_in_seq
theorem od_nin (hu : X.A.units + 65 < cLine) : OpD X (compareOp .NotIn) (o_in true) := in_aux hu true .NotIn (fun pins s σ H x y v u Q I rx ry h => op_notInD hu pins s σ H x y v u Q I rx ry h) op_notIn_seq
end
/-! what == tells -/
@[simp] theorem deq_ii (i j : Int) : deq (.int i) (.int j) = decide (i = j) := rfl
@[simp] theorem deq_ss (i j : Str) : deq (.str i) (.str j) = decide (i = j) := rfl
@[simp] theorem deq_nn : deq .non .non = true := rfl
def deqL (xs ys : List DV) : Bool := PyData.eqvAll (DV.pyL xs) (DV.pyL ys)
@[simp] theorem deq_tt (xs ys : List DV) : deq (.tup xs) (.tup ys) = deqL xs ys := rfl
@[simp] theorem deq_ll (xs ys : List DV) : deq (.lst xs) (.lst ys) = deqL xs ys := rfl
@[simp] theorem deqL_nn : deqL [] [] = true := rfl
@[simp] theorem deqL_cc (x y : DV) (xs ys : List DV) : deqL (x :: xs) (y :: ys) = (deq x y && deqL xs ys) := rfl
@[simp] theorem deqL_nc (y : DV) (ys : List DV) : deqL [] (y :: ys) = false := rfl
@[simp] theorem deqL_cn (x : DV) (xs : List DV) : deqL (x :: xs) [] = false := rfl
end DD
/-! DDe: calls of built-in functions. -/
namespace DD
open PySem PySem.Spec PyProof.Rows L2
section
variable {X : Cx} {L : Lc} {e : Expr} {es : List Expr} {t : TD} {x : Str} {p pos : Pos} {id T : String}
def uC (X : Cx) (f : Value) : List V → Hp → VK → Prop := fun xs H Q => ∃ r, CallR X f r ∧ r xs H Q
theorem callU (f : Value) : CallR X f (uC X f) := fun pins s σ H xs us Q I rs h => by
  obtain ⟨r, hr, q⟩ := h
  exact hr pins s σ H xs us Q I rs q
abbrev O1 := DV → (DV → Prop) → Prop
abbrev On := List DV → (DV → Prop) → Prop
/-- behind an operation that makes an own object -/
def BhO (X : Cx) (L : Lc) (G : Hp) (p : Pst) (σ : SS) (R : DV → Prop) (Q : VK) : Prop := ∀ d, R d → ∀ a G' H', Same G G' → RL X.K L G' p σ H' → OwnH X.K G' H' a d → Fresh L.F L.bas G' p σ a → Q (.ref a) H'
def CD1 (X : Cx) (f : Value) (o : O1) : Prop := ∀ (L : Lc) (G : Hp) (p : Pst) (σ : SS) (H : Hp) (x : DV) (vx : V) (R : DV → Prop) (Q : VK), RL X.K L G p σ H → RRep X.K G H x vx → o x R → Bh X L G p σ R Q → uC X f [vx] H Q
def CO1 (X : Cx) (f : Value) (o : O1) : Prop := ∀ (L : Lc) (G : Hp) (p : Pst) (σ : SS) (H : Hp) (x : DV) (vx : V) (R : DV → Prop) (Q : VK), RL X.K L G p σ H → RRep X.K G H x vx → o x R → BhO X L G p σ R Q → uC X f [vx] H Q
def CDn (X : Cx) (f : Value) (o : On) : Prop := ∀ (L : Lc) (G : Hp) (p : Pst) (σ : SS) (H : Hp) (xs : List DV) (vs : List V) (R : DV → Prop) (Q : VK), RL X.K L G p σ H → RepL X.K G xs vs → o xs R → Bh X L G p σ R Q → uC X f vs H Q
def t_c1 (o : O1) (t : TD) : TD := fun Xd p R => t Xd p fun x p1 => o x fun d => R d p1
def t_cn (o : On) (u : TDs) : TD := fun Xd p R => u Xd p fun xs p1 => o xs fun d => R d p1
theorem c1_imp {f : Value} {o : O1} (ho : CD1 X f o) : ∀ σ H Q, lift X.K L (t_c1 o t) σ H Q → tCB (uC X f) (tCons (liftR X.K L t) tNil) σ H Q := fun σ H Q ⟨G, p, Xd, R, r, x, ht, q⟩ =>
  ⟨G, p, Xd, _, r, x, ht, fun d p1 h1 v G1 H1 s1 r1 rp1 => ho L G1 p1 σ H1 d v (fun d => R d p1) Q r1 rp1 h1 fun d h v G2 H2 s2 r2 rp2 => q d p1 h v G2 H2 (s1.trans s2) r2 rp2⟩
theorem o1_imp {f : Value} {o : O1} (ho : CO1 X f o) : ∀ σ H Q, liftO X.K L (t_c1 o t) σ H Q → tCB (uC X f) (tCons (liftR X.K L t) tNil) σ H Q := fun σ H Q ⟨G, p, Xd, R, r, x, ht, q⟩ =>
  ⟨G, p, Xd, _, r, x, ht, fun d p1 h1 v G1 H1 s1 r1 rp1 => ho L G1 p1 σ H1 d v (fun d => R d p1) Q r1 rp1 h1 fun d h v G2 H2 s2 r2 rp2 fr2 => q d p1 h v G2 H2 (s1.trans s2) r2 rp2 fr2⟩
theorem cn_imp {f : Value} {o : On} {u : TDs} (ho : CDn X f o) : ∀ σ H Q, lift X.K L (t_cn o u) σ H Q → tCB (uC X f) (liftA X.K L u) σ H Q := fun σ H Q ⟨G, p, Xd, R, r, x, ht, q⟩ =>
  ⟨G, p, Xd, _, r, x, ht, fun ds p1 h1 vs G1 H1 s1 r1 rp1 => ho L G1 p1 σ H1 ds vs (fun d => R d p1) Q r1 rp1 h1 fun d h v G2 H2 s2 r2 rp2 => q d p1 h v G2 H2 (s1.trans s2) r2 rp2⟩
theorem fe_B1 {o : O1} (ho : CD1 X (.builtin id) o) (hg : Gl X x) (hm : X.mg x = none) (hv : bootBuiltins x = some (.builtin id)) (h : FR X L e t) (hn : x ≠ "__name__" := by decide) (hdb : (x == ("__debug__" : Str)) = false := by decide) (hs : starEach [e] X.env = (false, eval e X.env) :: starEach [] X.env := by rfl) :
    FE X L (.Call (.Name x p) [e] [] pos) (t_c1 o t) := PE.imp (pe_callB (callU _) hg hm hv (pa_cons h pa_nil hs) hn hdb hs rfl) (c1_imp ho)
theorem fe_T1 {o : O1} (ho : CD1 X (.type T) o) (hg : Gl X x) (hm : X.mg x = none) (hv : bootBuiltins x = some (.type T)) (h : FR X L e t) (hn : x ≠ "__name__" := by decide) (hdb : (x == ("__debug__" : Str)) = false := by decide) (hs : starEach [e] X.env = (false, eval e X.env) :: starEach [] X.env := by rfl) :
    FE X L (.Call (.Name x p) [e] [] pos) (t_c1 o t) := PE.imp (pe_callTy (callU _) hg hm hv (pa_cons h pa_nil hs) hn hdb hs rfl) (c1_imp ho)
theorem fo_B1 {o : O1} (ho : CO1 X (.builtin id) o) (hg : Gl X x) (hm : X.mg x = none) (hv : bootBuiltins x = some (.builtin id)) (h : FR X L e t) (hn : x ≠ "__name__" := by decide) (hdb : (x == ("__debug__" : Str)) = false := by decide) (hs : starEach [e] X.env = (false, eval e X.env) :: starEach [] X.env := by rfl) :
    FO X L (.Call (.Name x p) [e] [] pos) (t_c1 o t) := PE.imp (pe_callB (callU _) hg hm hv (pa_cons h pa_nil hs) hn hdb hs rfl) (o1_imp ho)
theorem fo_T1 {o : O1} (ho : CO1 X (.type T) o) (hg : Gl X x) (hm : X.mg x = none) (hv : bootBuiltins x = some (.type T)) (h : FR X L e t) (hn : x ≠ "__name__" := by decide) (hdb : (x == ("__debug__" : Str)) = false := by decide) (hs : starEach [e] X.env = (false, eval e X.env) :: starEach [] X.env := by rfl) :
    FO X L (.Call (.Name x p) [e] [] pos) (t_c1 o t) := PE.imp (pe_callTy (callU _) hg hm hv (pa_cons h pa_nil hs) hn hdb hs rfl) (o1_imp ho)
theorem fe_Bn {o : On} {u : TDs} (ho : CDn X (.builtin id) o) (hg : Gl X x) (hm : X.mg x = none) (hv : bootBuiltins x = some (.builtin id)) (h : FA X L (e :: es) u) (hn : x ≠ "__name__" := by decide) (hdb : (x == ("__debug__" : Str)) = false := by decide)
    (hs : starEach (e :: es) X.env = (false, eval e X.env) :: starEach es X.env := by rfl) (hpl : (backTo pos (starEach es X.env)).any (·.1) = false := by rfl) : FE X L (.Call (.Name x p) (e :: es) [] pos) (t_cn o u) :=
  PE.imp (pe_callB (callU _) hg hm hv h hn hdb hs hpl) (cn_imp ho)

/-! ### what is readable -/
variable {G H : Hp}
theorem rr_lst {K : PySem.W.Frag} {F : Hp} {bas : List Addr} {p : Pst} {σ : SS} {ds : List DV} {v : V} (r : Rel K F bas G p σ H) (h : RRep K G H (.lst ds) v) : ∃ a vs, v = .ref a ∧ H a = some (.lst vs) ∧ RepL K G ds vs := by
  rcases h with ⟨a, vs, rfl, h1, h2⟩ | ⟨a, rfl, vs, h1, h2⟩
  · exact ⟨a, vs, rfl, r.sG _ _ h1, h2⟩
  · exact ⟨a, vs, rfl, h1, h2⟩
theorem rr_rol {K : PySem.W.Frag} {F : Hp} {bas : List Addr} {p : Pst} {σ : SS} {ds : List DV} {v : V} (r : Rel K F bas G p σ H) (h : RRep K G H (.rol ds) v) : ∃ a vs, v = .ref a ∧ SqL K H a vs ∧ RepL K G ds vs := by
  rcases h with ⟨a, vs, rfl, h1, h2⟩ | ⟨a, rfl, h⟩
  · exact ⟨a, vs, rfl, r.sG.seq h1, h2⟩
  · exact h.elim
theorem rr_tup {K : PySem.W.Frag} {F : Hp} {bas : List Addr} {p : Pst} {σ : SS} {ds : List DV} {v : V} (r : Rel K F bas G p σ H) (h : RRep K G H (.tup ds) v) : ∃ a vs, v = .ref a ∧ SqT K H a vs ∧ RepL K G ds vs := by
  rcases h with ⟨a, vs, rfl, h1, h2⟩ | ⟨a, rfl, h⟩
  · exact ⟨a, vs, rfl, Same.seqT r.sG h1, h2⟩
  · exact h.elim
theorem rr_dic {K : PySem.W.Frag} {F : Hp} {bas : List Addr} {p : Pst} {σ : SS} {ds : List (DK × DV)} {v : V} (r : Rel K F bas G p σ H) (h : RRep K G H (.dic ds) v) : ∃ a us, v = .ref a ∧ DicAt H a us ∧ RepD K G ds us := by
  rcases h with ⟨a, vs, rfl, h1, h2⟩ | ⟨a, rfl, us, h1, h2⟩
  · exact ⟨a, vs, rfl, Same.dic r.sG h1, h2⟩
  · exact ⟨a, us, rfl, h1, h2⟩
theorem RepD.length {K : PySem.W.Frag} {G : Hp} : ∀ {ds : List (DK × DV)} {vs : List (DK × V)}, RepD K G ds vs → vs.length = ds.length
  | [], _, h => by cases h; rfl
  | d :: ds, vs, ⟨v, us, h1, h2, h3⟩ => by subst h1; show us.length + 1 = ds.length + 1; rw [RepD.length h3]

/-! ### len, int, abs -/
def o_len : O1
  | .lst ds, R => R (.int ds.length)
  | .rol ds, R => R (.int ds.length)
  | .tup ds, R => R (.int ds.length)
  | .dic ds, R => R (.int ds.length)
  | .str x, R => x.length ≤ sizeLine ∧ R (.int x.length)
  | _, _ => False
theorem cd_len : CD1 X (.builtin "len") o_len := fun L G p σ H x vx R Q r rx ho q => by
  cases x with
  | lst ds =>
    obtain ⟨a, vs, rfl, h1, h2⟩ := rr_lst r rx
    exact ⟨_, call_len_seq, a, vs, rfl, .inl (.inl (.inl h1)), by rw [h2.length]; exact q.now r ho rfl⟩
  | rol ds =>
    obtain ⟨a, vs, rfl, h1, h2⟩ := rr_rol r rx
    exact ⟨_, call_len_seq, a, vs, rfl, .inl h1, by rw [h2.length]; exact q.now r ho rfl⟩
  | tup ds =>
    obtain ⟨a, vs, rfl, h1, h2⟩ := rr_tup r rx
    exact ⟨_, call_len_seq, a, vs, rfl, .inr h1, by rw [h2.length]; exact q.now r ho rfl⟩
  | dic ds =>
    obtain ⟨a, us, rfl, h1, h2⟩ := rr_dic r rx
    have hl := h2.length
    rcases h1 with ⟨l, h, e⟩ | ⟨l, h, e⟩
    · refine ⟨_, call_lenD, a, l, rfl, h, ?_⟩
      rw [e, List.length_map] at hl
      rw [hl]; exact q.now r ho rfl
    · refine ⟨_, call_len_dT, a, l, rfl, h, ?_⟩
      rw [e, List.length_map] at hl
      rw [hl]; exact q.now r ho rfl
  | str y =>
    rcases rx with rx | ⟨_, _, z⟩
    · cases (show vx = V.str y from rx)
      exact ⟨_, call_len_str, y, rfl, ho.1, q.now r ho.2 rfl⟩
    · exact z.elim
  | _ => exact ho.elim
def o_int : O1
  | .int i, R => R (.int i)
  | .bl b, R => R (.int (if b then 1 else 0))
  | _, _ => False
theorem cd_int : CD1 X (.type "int") o_int := fun L G p σ H x vx R Q r rx ho q => by
  cases x with
  | int i =>
    rcases rx with rx | ⟨_, _, z⟩
    · cases (show vx = V.int i from rx)
      exact ⟨_, call_int1, .inl ⟨i, rfl, q.now r ho rfl⟩⟩
    · exact z.elim
  | bl i =>
    rcases rx with rx | ⟨_, _, z⟩
    · cases (show vx = V.bl i from rx)
      exact ⟨_, call_int1, .inr ⟨i, rfl, q.now r ho rfl⟩⟩
    · exact z.elim
  | _ => exact ho.elim
def o_abs : O1
  | .int i, R => R (.int (if i < 0 then -i else i))
  | _, _ => False
theorem cd_abs : CD1 X (.builtin "abs") o_abs := fun L G p σ H x vx R Q r rx ho q => by
  cases x with
  | int i =>
    rcases rx with rx | ⟨_, _, z⟩
    · cases (show vx = V.int i from rx)
      exact ⟨_, call_abs, i, rfl, q.now r ho rfl⟩
    · exact z.elim
  | _ => exact ho.elim

/-! ### sum, all, any -/
theorem repL_int {K : PySem.W.Frag} : ∀ {ns : List Int} {vs : List V}, RepL K G (ns.map DV.int) vs → vs = ns.map V.int
  | [], _, h => h
  | n :: ns, vs, ⟨v, us, h1, h2, h3⟩ => by rw [h1, show v = V.int n from h2, repL_int h3]; rfl
theorem repL_bl {K : PySem.W.Frag} : ∀ {ns : List Bool} {vs : List V}, RepL K G (ns.map DV.bl) vs → vs = ns.map V.bl
  | [], _, h => h
  | n :: ns, vs, ⟨v, us, h1, h2, h3⟩ => by rw [h1, show v = V.bl n from h2, repL_bl h3]; rfl
def o_sum : O1
  | .lst ds, R => ∃ ns : List Int, ds = ns.map DV.int ∧ R (.int ns.sum)
  | .rol ds, R => ∃ ns : List Int, ds = ns.map DV.int ∧ R (.int ns.sum)
  | .tup ds, R => ∃ ns : List Int, ds = ns.map DV.int ∧ R (.int ns.sum)
  | _, _ => False
theorem cr_sumT (hc : X.calm = true) : CallR X (.builtin "sum") (fun vs H Q => ∃ (a : Addr) (ns : List Int), vs = [V.ref a] ∧ SqT X.K H a (ns.map V.int) ∧ Q (.int ns.sum) H) := by
  intro pins s σ H vs us Q I r h
  obtain ⟨a, ns, rfl, hs, q⟩ := h
  obtain ⟨its, rv, hl, _⟩ := I.tuple hs
  rw [Vals.ref1 r]
  have hi := rv.ints
  obtain ⟨xs, e⟩ := hi.allInts.items
  have hn : numsOf (intItems xs).toList = ns := by rw [← e]; exact hi.numsOf
  rw [nums_intItems] at hn
  rw [e] at hl
  refine PySem.W.ktm_sumG (I.ok.hd hc) hl fun h' tk t' hk => ?_
  rw [preSum_eq, List.take_of_length_le (by simp), hn]
  exact ⟨.int _, H, I.kept hk, ⟨_, rfl⟩, q⟩
theorem cd_sum (hc : X.calm = true) : CD1 X (.builtin "sum") o_sum := fun L G p σ H x vx R Q r rx ho q => by
  cases x with
  | lst ds =>
    obtain ⟨ns, rfl, hR⟩ := ho
    obtain ⟨a, vs, rfl, h1, h2⟩ := rr_lst r rx
    cases repL_int h2
    exact ⟨_, cr_sum hc, a, ns, rfl, .inl (.inl h1), q.now r hR rfl⟩
  | rol ds =>
    obtain ⟨ns, rfl, hR⟩ := ho
    obtain ⟨a, vs, rfl, h1, h2⟩ := rr_rol r rx
    cases repL_int h2
    exact ⟨_, cr_sum hc, a, ns, rfl, h1, q.now r hR rfl⟩
  | tup ds =>
    obtain ⟨ns, rfl, hR⟩ := ho
    obtain ⟨a, vs, rfl, h1, h2⟩ := rr_tup r rx
    cases repL_int h2
    exact ⟨_, cr_sumT hc, a, ns, rfl, h1, q.now r hR rfl⟩
  | _ => exact ho.elim
def o_all : O1
  | .lst ds, R => ∃ bs : List Bool, ds = bs.map DV.bl ∧ R (.bl (bs.all _root_.id))
  | _, _ => False
def o_any : O1
  | .lst ds, R => ∃ bs : List Bool, ds = bs.map DV.bl ∧ R (.bl (bs.any _root_.id))
  | _, _ => False
theorem cd_all (hc : X.calm = true) : CD1 X (.builtin "all") o_all := fun L G p σ H x vx R Q r rx ho q => by
  cases x with
  | lst ds =>
    obtain ⟨ns, rfl, hR⟩ := ho
    obtain ⟨a, vs, rfl, h1, h2⟩ := rr_lst r rx
    cases repL_bl h2
    exact ⟨_, cr_all hc, a, ns, rfl, .inl (.inl h1), q.now r hR rfl⟩
  | _ => exact ho.elim
theorem cd_any (hc : X.calm = true) : CD1 X (.builtin "any") o_any := fun L G p σ H x vx R Q r rx ho q => by
  cases x with
  | lst ds =>
    obtain ⟨ns, rfl, hR⟩ := ho
    obtain ⟨a, vs, rfl, h1, h2⟩ := rr_lst r rx
    cases repL_bl h2
    exact ⟨_, cr_any hc, a, ns, rfl, .inl (.inl h1), q.now r hR rfl⟩
  | _ => exact ho.elim

/-! ### min, max: of two ints; of a list of ints; of a list of data -/
def o_min2 : On
  | [.int i, .int j], R => R (.int (if j < i then j else i))
  | _, _ => False
def o_max2 : On
  | [.int i, .int j], R => R (.int (if j > i then j else i))
  | _, _ => False
theorem repL_2 {K : PySem.W.Frag} {i j : Int} {vs : List V} (h : RepL K G [.int i, .int j] vs) : vs = [.int i, .int j] := repL_int (ns := [i, j]) h
theorem min2_inv {xs : List DV} {R : DV → Prop} (h : o_min2 xs R) : ∃ i j, xs = [.int i, .int j] ∧ R (.int (if j < i then j else i)) := by
  unfold o_min2 at h
  split at h
  · exact ⟨_, _, rfl, h⟩
  · exact h.elim
theorem max2_inv {xs : List DV} {R : DV → Prop} (h : o_max2 xs R) : ∃ i j, xs = [.int i, .int j] ∧ R (.int (if j > i then j else i)) := by
  unfold o_max2 at h
  split at h
  · exact ⟨_, _, rfl, h⟩
  · exact h.elim
theorem cd_min2 (hc : X.calm = true) : CDn X (.builtin "min") o_min2 := fun L G p σ H xs vs R Q r rx ho q => by
  obtain ⟨i, j, rfl, hR⟩ := min2_inv ho
  cases repL_2 rx
  exact ⟨_, call_min2 hc, i, j, rfl, q.now r hR rfl⟩
theorem cd_max2 (hc : X.calm = true) : CDn X (.builtin "max") o_max2 := fun L G p σ H xs vs R Q r rx ho q => by
  obtain ⟨i, j, rfl, hR⟩ := max2_inv ho
  cases repL_2 rx
  exact ⟨_, call_max2 hc, i, j, rfl, q.now r hR rfl⟩
/-- less, of data -/
def dlt (x y : DV) : Bool := PySem.W.dataLt x.py y.py
def dalike (x y : DV) : Bool := PySem.W.alike x.py y.py
/-- all can be compared -/
def Cmpb (ds : List DV) : Prop := (∀ d ∈ ds, Pl 20 d) ∧ (∀ x ∈ ds, ∀ y ∈ ds, dalike x y = true) ∧ ∀ x ∈ ds, x.isNon = false
theorem dlt_min (x : PyData) : ∀ (xs : List PyData), (∀ y ∈ x :: xs, PySem.W.dataLt y (PySem.W.minD x xs) = false) := by
  have tr : ∀ a b c : PyData, PySem.W.dataLt a b = false → PySem.W.dataLt b c = false → PySem.W.dataLt a c = false := fun a b c h1 h2 => by
    cases h : PySem.W.dataLt a c with
    | false => rfl
    | true =>
      rcases PyProof.Rows.lex_negTrans (O := PyProof.Rows.itemOrd) _ (PySem.W.keyToks b) _ h with z | z
      · exact absurd (show PySem.W.dataLt a b = true from z) (by rw [h1]; exact Bool.false_ne_true)
      · exact absurd (show PySem.W.dataLt b c = true from z) (by rw [h2]; exact Bool.false_ne_true)
  have ir : ∀ a : PyData, PySem.W.dataLt a a = false := fun a => PyProof.Rows.lex_irrefl _
  have as : ∀ a b : PyData, PySem.W.dataLt a b = true → PySem.W.dataLt b a = false := fun a b h => by
    cases h2 : PySem.W.dataLt b a with
    | false => rfl
    | true => exact absurd (PyProof.Rows.lex_trans (O := PyProof.Rows.itemOrd) _ _ _ h h2) (by rw [show PyProof.Rows.lexLt PyProof.Rows.itemOrd (PySem.W.keyToks a) (PySem.W.keyToks a) = false from ir a]; exact Bool.false_ne_true)
  intro xs
  induction xs generalizing x with
  | nil =>
    intro y hy
    cases List.mem_singleton.mp hy
    exact ir _
  | cons z xs ih =>
    intro y hy
    have e : PySem.W.minD x (z :: xs) = PySem.W.minD (if PySem.W.dataLt z x then z else x) xs := rfl
    rw [e]
    have ih' := ih (if PySem.W.dataLt z x then z else x)
    have hz := ih' _ List.mem_cons_self
    by_cases hzx : PySem.W.dataLt z x = true
    · rw [if_pos hzx] at ih' hz ⊢
      rcases List.mem_cons.mp hy with rfl | hy
      · exact tr _ z _ (as _ _ hzx) hz
      · exact ih' y hy
    · rw [if_neg hzx] at ih' hz ⊢
      rcases List.mem_cons.mp hy with rfl | hy
      · exact hz
      · rcases List.mem_cons.mp hy with rfl | hy
        · exact tr _ x _ (by simpa using hzx) hz
        · exact ih' y (List.mem_cons_of_mem _ hy)
/-- min of a list: one of its items, none is less -/
def o_min : O1
  | .lst ds, R => ds ≠ [] ∧ Cmpb ds ∧ ∀ d ∈ ds, (∀ y ∈ ds, dlt y d = false) → R d
  | .tup ds, R => ds ≠ [] ∧ Cmpb ds ∧ ∀ d ∈ ds, (∀ y ∈ ds, dlt y d = false) → R d
  | _, _ => False
theorem dpAll_reads {pins : List (Addr × Obj)} {σ : SS} {s : Shared} (I : Inv X pins σ H s) {ds : List DV} {vs : List V} {us : List Value} (hp : ∀ d ∈ ds, Pl 20 d) (h : RepL X.K H ds vs) (r : Vals vs us) : ∃ as, ReadsAll s.heap us (DV.pyL ds) as :=
  Dp.readsAll I _ _ _ (dpAll_of (n := 20) dp_of hp h) r
theorem cmpb_alike {ds : List DV} (h : Cmpb ds) : PySem.W.AlikeAll (DV.pyL ds) ∧ PyData.depthAll (DV.pyL ds) ≤ 20 ∧ PyData.canLayAll0 (DV.pyL ds) = true := by
  obtain ⟨h1, h2, h3⟩ := h
  rw [pyL_map]
  refine ⟨⟨fun a ha b hb => ?_, fun a ha => ?_⟩, depthAll_le fun a ha => ?_, canAll fun a ha => ?_⟩
  · obtain ⟨x, hx, rfl⟩ := List.mem_map.mp ha
    obtain ⟨y, hy, rfl⟩ := List.mem_map.mp hb
    exact h2 x hx y hy
  · obtain ⟨x, hx, rfl⟩ := List.mem_map.mp ha
    have := h3 x hx
    have hpl := h1 x hx
    cases x <;> first | (intro z; cases z; done) | (cases this; done) | exact (show False from hpl).elim
  · obtain ⟨x, hx, rfl⟩ := List.mem_map.mp ha
    exact (h1 x hx).shape.2
  · obtain ⟨x, hx, rfl⟩ := List.mem_map.mp ha
    exact (h1 x hx).shape.1
/-- the rule by values: the list's items xs read as ds -/
theorem cr_minL (hc : X.calm = true) (hu : X.A.units + 64 < cLine) : CallR X (.builtin "min") (fun ws H Q => ∃ (a : Addr) (vs : List V) (ds : List DV), ws = [V.ref a] ∧ (SqL X.K H a vs ∨ SqT X.K H a vs) ∧ RepL X.K H ds vs ∧ ds ≠ [] ∧ Cmpb ds ∧
    ∀ (i : Nat) (d : DV) (v : V), vs[i]? = some v → ds[i]? = some d → (∀ y ∈ ds, dlt y d = false) → Q v H) := by
  intro pins s σ H ws us Q I r h
  obtain ⟨a, vs, ds, rfl, hs, hr, hne, hcm, q⟩ := h
  rw [Vals.ref1 r]
  obtain ⟨al, dp, cl⟩ := cmpb_alike hcm
  obtain ⟨d0, dr, rfl⟩ : ∃ d0 dr, ds = d0 :: dr := by
    cases ds with
    | nil => exact absurd rfl hne
    | cons d0 dr => exact ⟨d0, dr, rfl⟩
  have fin : ∀ {its : List Value}, Vals vs its → ∀ (i : Nat) (v : Value) (h' : Heap) (tk : Nat) (bs : List Addr), its.toArray[i]? = some v → Reads h' v (PySem.W.minD d0.py (DV.pyL dr)) bs → (∀ b o, s.heap.get? b = some o → h'.get? b = some o) →
      EP X pins σ Q v { s with heap := h', toks := tk } := fun {its} rv i v h' tk bs hv hR hk => by
    have hi : its[i]? = some v := by simpa using hv
    have hil : i < its.length := (List.getElem?_eq_some_iff.mp hi).1
    have hvl : i < vs.length := by rw [rv.length]; exact hil
    have hdl : i < (d0 :: dr).length := by rw [← hr.length]; exact hvl
    obtain ⟨u, hu1, hu2⟩ := rv.get (List.getElem?_eq_getElem hvl)
    rw [hi] at hu1
    cases hu1
    have I2 : Inv X pins σ H { s with heap := h', toks := tk } := I.kept hk
    obtain ⟨w, hw, rw_⟩ := hr.get (List.getElem?_eq_getElem hdl)
    have hvv : vs[i] = w := Option.some.inj ((List.getElem?_eq_getElem hvl).symm.trans hw)
    have hplain := hcm.1 _ (List.getElem_mem hdl)
    obtain ⟨as2, rd⟩ := Dp.reads I2 _ _ _ (dp_of hplain rw_) (hvv ▸ hu2)
    have e1 := SeqAt.readOf_eq (hplain.shape.1) rd
    have mem : PySem.W.minD d0.py (DV.pyL dr) ∈ d0.py :: DV.pyL dr := by
      have gen : ∀ (xs : List PyData) (x : PyData), PySem.W.minD x xs ∈ x :: xs := fun xs => by
        induction xs with
        | nil => intro x; exact List.mem_cons_self
        | cons z xs ih =>
          intro x
          have e : PySem.W.minD x (z :: xs) = PySem.W.minD (if PySem.W.dataLt z x then z else x) xs := rfl
          rw [e]
          have := ih (if PySem.W.dataLt z x then z else x)
          rcases List.mem_cons.mp this with h | h
          · rw [h]; split
            · exact List.mem_cons_of_mem _ List.mem_cons_self
            · exact List.mem_cons_self
          · exact List.mem_cons_of_mem _ (List.mem_cons_of_mem _ h)
      exact gen _ _
    have canm : (PySem.W.minD d0.py (DV.pyL dr)).canLay0 = true := by
      rw [pyL_map] at mem ⊢
      rcases List.mem_cons.mp mem with h | h
      · rw [h]; exact (hcm.1 _ List.mem_cons_self).shape.1
      · obtain ⟨x, hx, e⟩ := List.mem_map.mp h
        rw [← e]; exact (hcm.1 _ (List.mem_cons_of_mem _ hx)).shape.1
    have e2 := SeqAt.readOf_eq canm hR
    have e3 : (d0 :: dr)[i].py = PySem.W.minD d0.py (DV.pyL dr) := e1.symm.trans e2
    refine ⟨vs[i], H, I2, hu2, q i _ _ (List.getElem?_eq_getElem hvl) (List.getElem?_eq_getElem hdl) fun y hy => ?_⟩
    unfold dlt
    rw [e3]
    refine dlt_min _ _ _ ?_
    rw [pyL_map]
    rcases List.mem_cons.mp hy with h | h
    · rw [h]; exact List.mem_cons_self
    · exact List.mem_cons_of_mem _ (List.mem_map.mpr ⟨y, h, rfl⟩)
  rcases hs with hs | hs
  · obtain ⟨its, rv, hl, _⟩ := I.list hs
    obtain ⟨as, ra⟩ := dpAll_reads I hcm.1 hr rv
    exact PySem.W.min_list_data (I.ok.hd hc) hl.isList (by simpa [DV.pyL] using ra) al (by have : PyData.depthAll (d0.py :: DV.pyL dr) ≤ 20 := dp; omega) (fin rv)
  · obtain ⟨its, rv, hl, _⟩ := I.tuple hs
    obtain ⟨as, ra⟩ := dpAll_reads I hcm.1 hr rv
    exact PySem.W.min_tuple_data (I.ok.hd hc) hl (by simpa [DV.pyL] using ra) al (by have : PyData.depthAll (d0.py :: DV.pyL dr) ≤ 20 := dp; omega) (fin rv)
theorem cd_min (hc : X.calm = true) (hu : X.A.units + 64 < cLine) : CD1 X (.builtin "min") o_min := fun L G p σ H x vx R Q r rx ho q => by
  cases x with
  | lst ds =>
    obtain ⟨hne, hcm, hR⟩ := ho
    obtain ⟨a, vs, rfl, h1, h2⟩ := rr_lst r rx
    refine ⟨_, cr_minL hc hu, a, vs, ds, rfl, .inl (.inl (.inl h1)), h2.mono r.sG, hne, hcm, fun i d v hv hd hl => ?_⟩
    obtain ⟨w, hw, rp⟩ := h2.get hd
    rw [hv] at hw
    cases hw
    exact q.now r (hR d (List.mem_of_getElem? hd) hl) rp
  | tup ds =>
    obtain ⟨hne, hcm, hR⟩ := ho
    obtain ⟨a, vs, rfl, h1, h2⟩ := rr_tup r rx
    refine ⟨_, cr_minL hc hu, a, vs, ds, rfl, .inr h1, h2.mono r.sG, hne, hcm, fun i d v hv hd hl => ?_⟩
    obtain ⟨w, hw, rp⟩ := h2.get hd
    rw [hv] at hw
    cases hw
    exact q.now r (hR d (List.mem_of_getElem? hd) hl) rp
  | _ => exact ho.elim
end
end DD
/-! DDf: max, sorted, tuple, list, isinstance. -/
namespace DD
open PySem PySem.Spec PyProof.Rows L2
section
variable {X : Cx} {L : Lc} {e : Expr} {es : List Expr} {t : TD} {x : Str} {p pos : Pos} {G H : Hp}
theorem dlt_max (x : PyData) : ∀ (xs : List PyData), (∀ y ∈ x :: xs, PySem.W.dataLt (PySem.W.maxD x xs) y = false) := by
  have tr : ∀ a b c : PyData, PySem.W.dataLt a b = false → PySem.W.dataLt b c = false → PySem.W.dataLt a c = false := fun a b c h1 h2 => by
    cases h : PySem.W.dataLt a c with
    | false => rfl
    | true =>
      rcases PyProof.Rows.lex_negTrans (O := PyProof.Rows.itemOrd) _ (PySem.W.keyToks b) _ h with z | z
      · exact absurd (show PySem.W.dataLt a b = true from z) (by rw [h1]; exact Bool.false_ne_true)
      · exact absurd (show PySem.W.dataLt b c = true from z) (by rw [h2]; exact Bool.false_ne_true)
  have ir : ∀ a : PyData, PySem.W.dataLt a a = false := fun a => PyProof.Rows.lex_irrefl _
  have as : ∀ a b : PyData, PySem.W.dataLt a b = true → PySem.W.dataLt b a = false := fun a b h => by
    cases h2 : PySem.W.dataLt b a with
    | false => rfl
    | true => exact absurd (PyProof.Rows.lex_trans (O := PyProof.Rows.itemOrd) _ _ _ h h2) (by rw [show PyProof.Rows.lexLt PyProof.Rows.itemOrd (PySem.W.keyToks a) (PySem.W.keyToks a) = false from ir a]; exact Bool.false_ne_true)
  intro xs
  induction xs generalizing x with
  | nil =>
    intro y hy
    cases List.mem_singleton.mp hy
    exact ir _
  | cons z xs ih =>
    intro y hy
    have e : PySem.W.maxD x (z :: xs) = PySem.W.maxD (if PySem.W.dataLt x z then z else x) xs := rfl
    rw [e]
    have ih' := ih (if PySem.W.dataLt x z then z else x)
    have hz := ih' _ List.mem_cons_self
    by_cases hzx : PySem.W.dataLt x z = true
    · rw [if_pos hzx] at ih' hz ⊢
      rcases List.mem_cons.mp hy with rfl | hy
      · exact tr _ z _ hz (as _ _ hzx)
      · exact ih' y hy
    · rw [if_neg hzx] at ih' hz ⊢
      rcases List.mem_cons.mp hy with rfl | hy
      · exact hz
      · rcases List.mem_cons.mp hy with rfl | hy
        · exact tr _ x _ hz (by simpa using hzx)
        · exact ih' y (List.mem_cons_of_mem _ hy)
def o_max : O1
  | .lst ds, R => ds ≠ [] ∧ Cmpb ds ∧ ∀ d ∈ ds, (∀ y ∈ ds, dlt d y = false) → R d
  | .tup ds, R => ds ≠ [] ∧ Cmpb ds ∧ ∀ d ∈ ds, (∀ y ∈ ds, dlt d y = false) → R d
  | _, _ => False
theorem cr_maxL (hc : X.calm = true) (hu : X.A.units + 64 < cLine) : CallR X (.builtin "max") (fun ws H Q => ∃ (a : Addr) (vs : List V) (ds : List DV), ws = [V.ref a] ∧ (SqL X.K H a vs ∨ SqT X.K H a vs) ∧ RepL X.K H ds vs ∧ ds ≠ [] ∧ Cmpb ds ∧
    ∀ (i : Nat) (d : DV) (v : V), vs[i]? = some v → ds[i]? = some d → (∀ y ∈ ds, dlt d y = false) → Q v H) := by
  intro pins s σ H ws us Q I r h
  obtain ⟨a, vs, ds, rfl, hs, hr, hne, hcm, q⟩ := h
  rw [Vals.ref1 r]
  obtain ⟨al, dp, cl⟩ := cmpb_alike hcm
  obtain ⟨d0, dr, rfl⟩ : ∃ d0 dr, ds = d0 :: dr := by
    cases ds with
    | nil => exact absurd rfl hne
    | cons d0 dr => exact ⟨d0, dr, rfl⟩
  have fin : ∀ {its : List Value}, Vals vs its → ∀ (i : Nat) (v : Value) (h' : Heap) (tk : Nat) (bs : List Addr), its.toArray[i]? = some v → Reads h' v (PySem.W.maxD d0.py (DV.pyL dr)) bs → (∀ b o, s.heap.get? b = some o → h'.get? b = some o) →
      EP X pins σ Q v { s with heap := h', toks := tk } := fun {its} rv i v h' tk bs hv hR hk => by
    have hi : its[i]? = some v := by simpa using hv
    have hil : i < its.length := (List.getElem?_eq_some_iff.mp hi).1
    have hvl : i < vs.length := by rw [rv.length]; exact hil
    have hdl : i < (d0 :: dr).length := by rw [← hr.length]; exact hvl
    obtain ⟨u, hu1, hu2⟩ := rv.get (List.getElem?_eq_getElem hvl)
    rw [hi] at hu1
    cases hu1
    have I2 : Inv X pins σ H { s with heap := h', toks := tk } := I.kept hk
    obtain ⟨w, hw, rw_⟩ := hr.get (List.getElem?_eq_getElem hdl)
    have hvv : vs[i] = w := Option.some.inj ((List.getElem?_eq_getElem hvl).symm.trans hw)
    have hplain := hcm.1 _ (List.getElem_mem hdl)
    obtain ⟨as2, rd⟩ := Dp.reads I2 _ _ _ (dp_of hplain rw_) (hvv ▸ hu2)
    have e1 := SeqAt.readOf_eq (hplain.shape.1) rd
    have mem : PySem.W.maxD d0.py (DV.pyL dr) ∈ d0.py :: DV.pyL dr := by
      have gen : ∀ (xs : List PyData) (x : PyData), PySem.W.maxD x xs ∈ x :: xs := fun xs => by
        induction xs with
        | nil => intro x; exact List.mem_cons_self
        | cons z xs ih =>
          intro x
          have e : PySem.W.maxD x (z :: xs) = PySem.W.maxD (if PySem.W.dataLt x z then z else x) xs := rfl
          rw [e]
          have := ih (if PySem.W.dataLt x z then z else x)
          rcases List.mem_cons.mp this with h | h
          · rw [h]; split
            · exact List.mem_cons_of_mem _ List.mem_cons_self
            · exact List.mem_cons_self
          · exact List.mem_cons_of_mem _ (List.mem_cons_of_mem _ h)
      exact gen _ _
    have canm : (PySem.W.maxD d0.py (DV.pyL dr)).canLay0 = true := by
      rw [pyL_map] at mem ⊢
      rcases List.mem_cons.mp mem with h | h
      · rw [h]; exact (hcm.1 _ List.mem_cons_self).shape.1
      · obtain ⟨x, hx, e⟩ := List.mem_map.mp h
        rw [← e]; exact (hcm.1 _ (List.mem_cons_of_mem _ hx)).shape.1
    have e2 := SeqAt.readOf_eq canm hR
    have e3 : (d0 :: dr)[i].py = PySem.W.maxD d0.py (DV.pyL dr) := e1.symm.trans e2
    refine ⟨vs[i], H, I2, hu2, q i _ _ (List.getElem?_eq_getElem hvl) (List.getElem?_eq_getElem hdl) fun y hy => ?_⟩
    unfold dlt
    rw [e3]
    refine dlt_max _ _ _ ?_
    rw [pyL_map]
    rcases List.mem_cons.mp hy with h | h
    · rw [h]; exact List.mem_cons_self
    · exact List.mem_cons_of_mem _ (List.mem_map.mpr ⟨y, h, rfl⟩)
  rcases hs with hs | hs
  · obtain ⟨its, rv, hl, _⟩ := I.list hs
    obtain ⟨as, ra⟩ := dpAll_reads I hcm.1 hr rv
    exact PySem.W.max_list_data (I.ok.hd hc) hl.isList (by simpa [DV.pyL] using ra) al (by have : PyData.depthAll (d0.py :: DV.pyL dr) ≤ 20 := dp; omega) (fin rv)
  · obtain ⟨its, rv, hl, _⟩ := I.tuple hs
    obtain ⟨as, ra⟩ := dpAll_reads I hcm.1 hr rv
    exact PySem.W.max_tuple_data (I.ok.hd hc) hl (by simpa [DV.pyL] using ra) al (by have : PyData.depthAll (d0.py :: DV.pyL dr) ≤ 20 := dp; omega) (fin rv)
theorem cd_max (hc : X.calm = true) (hu : X.A.units + 64 < cLine) : CD1 X (.builtin "max") o_max := fun L G p σ H x vx R Q r rx ho q => by
  cases x with
  | lst ds =>
    obtain ⟨hne, hcm, hR⟩ := ho
    obtain ⟨a, vs, rfl, h1, h2⟩ := rr_lst r rx
    refine ⟨_, cr_maxL hc hu, a, vs, ds, rfl, .inl (.inl (.inl h1)), h2.mono r.sG, hne, hcm, fun i d v hv hd hl => ?_⟩
    obtain ⟨w, hw, rp⟩ := h2.get hd
    rw [hv] at hw
    cases hw
    exact q.now r (hR d (List.mem_of_getElem? hd) hl) rp
  | tup ds =>
    obtain ⟨hne, hcm, hR⟩ := ho
    obtain ⟨a, vs, rfl, h1, h2⟩ := rr_tup r rx
    refine ⟨_, cr_maxL hc hu, a, vs, ds, rfl, .inr h1, h2.mono r.sG, hne, hcm, fun i d v hv hd hl => ?_⟩
    obtain ⟨w, hw, rp⟩ := h2.get hd
    rw [hv] at hw
    cases hw
    exact q.now r (hR d (List.mem_of_getElem? hd) hl) rp
  | _ => exact ho.elim

/-! ### tuple(x), list(x) -/
def o_tuple : O1
  | .lst ds, R => R (.tup ds)
  | .rol ds, R => R (.tup ds)
  | .tup ds, R => R (.tup ds)
  | _, _ => False
theorem cd_tuple : CD1 X (.type "tuple") o_tuple := fun L G p σ H x vx R Q r rx ho q => by
  cases x with
  | lst ds =>
    obtain ⟨a, vs, rfl, h1, h2⟩ := rr_lst r rx
    exact ⟨_, call_tuple_of, a, vs, rfl, .inl ⟨.inl (.inl h1), fun l hl => q.laid r hl ho ⟨l, vs, rfl, .inl (.inl upd_same), h2.mono (r.laidG hl)⟩⟩⟩
  | rol ds =>
    obtain ⟨a, vs, rfl, h1, h2⟩ := rr_rol r rx
    exact ⟨_, call_tuple_of, a, vs, rfl, .inl ⟨h1, fun l hl => q.laid r hl ho ⟨l, vs, rfl, .inl (.inl upd_same), h2.mono (r.laidG hl)⟩⟩⟩
  | tup ds =>
    rcases rx with rx | ⟨_, _, z⟩
    · obtain ⟨a, vs, rfl, h1, h2⟩ := id rx
      exact ⟨_, call_tuple_of, a, vs, rfl, .inr ⟨Same.seqT r.sG h1, q.now r ho rx⟩⟩
    · exact z.elim
  | _ => exact ho.elim
def keyD : DK → DV
  | .inl (.inl i) => .int i
  | .inl (.inr z) => .str z
  | .inr l => .tup (l.map fun k => match k with | .inl i => .int i | .inr z => .str z)
theorem repK {K : PySem.W.Frag} {G : Hp} (k : Key) : Rep K G (keyD (.inl k)) (kV k) := by
  cases k with
  | inl i => exact rfl
  | inr z => exact rfl
def o_list : O1
  | .lst ds, R => R (.lst ds)
  | .rol ds, R => R (.lst ds)
  | .tup ds, R => R (.lst ds)
  | .dic kvs, R => (∀ p ∈ kvs, ∃ k, p.1 = Sum.inl k) ∧ kvs ≠ [] ∧ R (.lst (kvs.map fun p => keyD p.1))
  | _, _ => False
theorem BhO.laid {p : Pst} {σ : SS} {R : DV → Prop} {Q : VK} (q : BhO X L G p σ R Q) (r : RL X.K L G p σ H) {ds : List DV} {vs : List V} {a : Addr} (ha : H a = none) (h : R (.lst ds)) (rp : RepL X.K G ds vs) : Q (.ref a) (upd H a (.lst vs)) := by
  obtain ⟨r2, o2, f2⟩ := fo_new (X := X) r ha rp
  exact q _ h a G _ (Same.refl _) r2 o2 f2
theorem repD_keys {K : PySem.W.Frag} : ∀ {kvs : List (DK × DV)} {l : List (Key × V)}, RepD K G kvs (l.map fun p => (Sum.inl p.1, p.2)) → RepL K G (kvs.map fun p => keyD p.1) (l.map fun p => kV p.1)
  | [], l, h => by
    cases l with
    | nil => exact rfl
    | cons a l => cases (show _ = _ from h)
  | (k, d) :: kvs, l, ⟨v, us, h1, h2, h3⟩ => by
    cases l with
    | nil => cases h1
    | cons a l =>
      have e1 := (List.cons.inj h1).1
      have e2 := (List.cons.inj h1).2
      subst e1 e2
      obtain ⟨e3, _⟩ := h2
      have e3 : k = Sum.inl a.1 := e3
      exact ⟨kV a.1, l.map fun p => kV p.1, rfl, by rw [e3]; exact repK _, repD_keys h3⟩
theorem co_list (hc : X.calm = true) : CO1 X (.type "list") o_list := fun L G p σ H x vx R Q r rx ho q => by
  cases x with
  | lst ds =>
    obtain ⟨a, vs, rfl, h1, h2⟩ := rr_lst r rx
    exact ⟨_, call_list_of, a, vs, rfl, .inl (.inl (.inl h1)), fun l hl => q.laid r hl ho h2⟩
  | rol ds =>
    obtain ⟨a, vs, rfl, h1, h2⟩ := rr_rol r rx
    exact ⟨_, call_list_of, a, vs, rfl, .inl h1, fun l hl => q.laid r hl ho h2⟩
  | tup ds =>
    obtain ⟨a, vs, rfl, h1, h2⟩ := rr_tup r rx
    exact ⟨_, call_list_of, a, vs, rfl, .inr h1, fun l hl => q.laid r hl ho h2⟩
  | dic kvs =>
    obtain ⟨a, us, rfl, h1, h2⟩ := rr_dic r rx
    rcases h1 with ⟨l, h, e⟩ | ⟨l, h, e⟩
    · subst e
      exact ⟨_, call_list_dK hc, a, l, rfl, h, fun b hb => q.laid r hb ho.2.2 (repD_keys h2)⟩
    · subst e
      obtain ⟨hk, hne, hR⟩ := ho
      cases kvs with
      | nil => exact absurd rfl hne
      | cons a kvs =>
        obtain ⟨k, hk⟩ := hk a List.mem_cons_self
        obtain ⟨v, us, h3, h4, _⟩ := h2
        cases l with
        | nil => cases h3
        | cons b l =>
          have e1 := (List.cons.inj h3).1
          subst e1
          obtain ⟨a1, a2⟩ := a
          obtain ⟨e3, _⟩ := h4
          have e3 : a1 = Sum.inr b.1 := e3
          rw [show (a1, a2).1 = a1 from rfl, e3] at hk
          cases hk
  | _ => exact ho.elim

/-! ### sorted -/
def dle (x y : DV) : Bool := !dlt y x
theorem dataLe_dle : PySem.W.dataLe false DV.py = dle := PySem.W.dataLe_eq false DV.py
/-- the items are tuples with an item, or none is a tuple -/
def Sortb (ds : List DV) : Prop := Cmpb ds ∧ PySem.W.Sortable (ds.map DV.py)
def o_sorted : O1
  | .lst ds, R => Sortb ds ∧ R (.lst (ds.mergeSort dle))
  | _, _ => False
theorem EachIs_of {K : PySem.W.Frag} {pins : List (Addr × Obj)} {σ : SS} {s : Shared} (I : Inv X pins σ H s) (sg : Same G H) : ∀ {ds : List DV} {vs : List V} {us : List Value}, (∀ d ∈ ds, Pl 20 d) → RepL X.K G ds vs → Vals vs us →
    PySem.W.EachIs (fun v d => ∃ w, RelV w v ∧ Rep X.K G d w) us ds ∧ PySem.W.EachIs (fun v d => ∃ as, Reads s.heap v (DV.py d) as) us ds
  | [], vs, us, _, h, r => by
    cases h
    cases r
    exact ⟨.nil, .nil⟩
  | d :: ds, vs, us, hp, ⟨v, ws, h1, h2, h3⟩, r => by
    subst h1
    cases r with
    | cons r1 r2 =>
      obtain ⟨i1, i2⟩ := EachIs_of (K := K) I sg (fun x hx => hp x (List.mem_cons_of_mem _ hx)) h3 r2
      exact ⟨.cons ⟨v, r1, h2⟩ i1, .cons (Dp.reads I _ _ _ (dp_of (hp d List.mem_cons_self) (h2.mono sg)) r1) i2⟩
theorem each_vals {K : PySem.W.Frag} : ∀ {us : List Value} {ds : List DV}, PySem.W.EachIs (fun v d => ∃ w, RelV w v ∧ Rep K G d w) us ds → ∃ vs, Vals vs us ∧ RepL K G ds vs
  | _, _, .nil => ⟨[], .nil, rfl⟩
  | _, _, .cons ⟨w, r, q⟩ t => by
    obtain ⟨vs, h1, h2⟩ := each_vals t
    exact ⟨w :: vs, .cons r h1, w, vs, rfl, q, h2⟩
theorem cr_sortedD (hu : X.A.units + 64 < cLine) : CallR X (.builtin "sorted") (fun ws H Q => ∃ (G : Hp) (a : Addr) (vs : List V) (ds : List DV), ws = [V.ref a] ∧ SqL X.K H a vs ∧ Same G H ∧ RepL X.K G ds vs ∧ Sortb ds ∧
    ∀ (l : Addr) (vs' : List V), H l = none → RepL X.K G (ds.mergeSort dle) vs' → Q (.ref l) (upd H l (.lst vs'))) := by
  intro pins s σ H ws us Q I r h
  obtain ⟨G, a, vs, ds, rfl, hs, sg, hr, ⟨hcm, hso⟩, q⟩ := h
  rw [Vals.ref1 r]
  obtain ⟨its, rv, hl, hz⟩ := I.list hs
  obtain ⟨e1, e2⟩ := EachIs_of (K := X.K) I sg hcm.1 hr rv
  refine PySem.W.sorted_data (R := fun v d => ∃ w, RelV w v ∧ Rep X.K G d w) (enc := DV.py) hl.isList e1 e2 (fun d hd d' hd' => ?_) hso (by rw [← hr.length]; exact hz) (fun b hb => ?_) fun out h1 h2 => ?_
  · obtain ⟨x, hx, rfl⟩ := List.mem_map.mp hd
    obtain ⟨y, hy, rfl⟩ := List.mem_map.mp hd'
    exact hcm.2.1 x hx y hy
  · have := (hcm.1 b hb).shape.2
    omega
  · obtain ⟨vs', k1, k2⟩ := each_vals h2
    rw [dataLe_dle] at k2
    obtain ⟨ep, he'⟩ := PyProof.Rows.sortedAll_at s.heap its out.toArray
    have hlen : vs'.length ≤ sizeLine := by
      rw [k1.length, h1, ← hr.length]; exact hz
    exact ⟨.ref _, upd H (s.heap.objs.size + 1) (.lst vs'), I.laid (t' := s.toks) (fun _ _ => PyProof.Rows.sortedAll_old) (Nat.le_succ _) ⟨hlen, out, ep, k1, he'⟩, rfl, q _ _ (I.hok.fresh (Nat.le_succ _)) k2⟩
theorem co_sorted (hu : X.A.units + 64 < cLine) : CO1 X (.builtin "sorted") o_sorted := fun L G p σ H x vx R Q r rx ho q => by
  cases x with
  | lst ds =>
    obtain ⟨a, vs, rfl, h1, h2⟩ := rr_lst r rx
    exact ⟨_, cr_sortedD hu, G, a, vs, ds, rfl, .inl (.inl h1), r.sG, h2, ho.1, fun l vs' hl hr => q.laid r hl ho.2 hr⟩
  | _ => exact ho.elim
end
end DD
/-! DDg: isinstance, subscripts, slices. -/
namespace DD
open PySem PySem.Spec PyProof.Rows L2
section
variable {X : Cx} {L : Lc} {e b : Expr} {es : List Expr} {t tb : TD} {x : Str} {p pos px py : Pos} {G H : Hp}
def DV.data : DV → Bool
  | .rng _ _ => false
  | .ref _ => false
  | .ty _ => false
  | _ => true
def DV.isInt : DV → Bool
  | .int _ => true
  | .bl _ => true
  | _ => false
def DV.isBool : DV → Bool
  | .bl _ => true
  | _ => false
def DV.isStr : DV → Bool
  | .str _ => true
  | _ => false
def DV.isTup : DV → Bool
  | .tup _ => true
  | _ => false
def o_isInt : O1 := fun x R => x.data = true ∧ R (.bl x.isInt)
def o_isBool : O1 := fun x R => x.data = true ∧ R (.bl x.isBool)
def o_isStr : O1 := fun x R => x.data = true ∧ R (.bl x.isStr)
def o_isTup : O1 := fun x R => x.data = true ∧ R (.bl x.isTup)
def DV.tyn : DV → String
  | .non => "NoneType"
  | .bl _ => "bool"
  | .int _ => "int"
  | .str _ => "str"
  | .tup _ => "tuple"
  | .lst _ => "list"
  | .rol _ => "list"
  | .dic _ => "dict"
  | _ => ""
theorem tyx_of {K : PySem.W.Frag} {F : Hp} {bas : List Addr} {p : Pst} {σ : SS} {d : DV} {v : V} (r : Rel K F bas G p σ H) (hd : d.data = true) (h : RRep K G H d v) : TyX K H v (.type d.tyn) := by
  cases d with
  | non => rcases h with h | ⟨_, _, z⟩; cases (show v = V.non from h); exact .base .non; exact z.elim
  | bl i => rcases h with h | ⟨_, _, z⟩; cases (show v = V.bl i from h); exact .base (.bl _); exact z.elim
  | int i => rcases h with h | ⟨_, _, z⟩; cases (show v = V.int i from h); exact .base (.int _); exact z.elim
  | str i => rcases h with h | ⟨_, _, z⟩; cases (show v = V.str i from h); exact .base (.str _); exact z.elim
  | tup ds =>
    obtain ⟨a, vs, rfl, h1, h2⟩ := rr_tup r h
    rcases h1 with (h1 | ⟨o, h1⟩) | ⟨o, its, n, h1, h3, _⟩
    · exact .base (.tup h1)
    · exact .fTuple h1
    · exact .kTuple h1 h3
  | lst ds =>
    obtain ⟨a, vs, rfl, h1, h2⟩ := rr_lst r h
    exact .base (.lst h1)
  | rol ds =>
    obtain ⟨a, vs, rfl, h1, h2⟩ := rr_rol r h
    rcases h1 with (h1 | ⟨o, h1⟩) | ⟨o, its, n, h1, h3, _⟩
    · exact .base (.lst h1)
    · exact .base (.frz h1)
    · exact .kList h1 h3
  | dic ds =>
    obtain ⟨a, us, rfl, h1, h2⟩ := rr_dic r h
    rcases h1 with ⟨l, h1, e⟩ | ⟨l, h1, e⟩
    · exact .base (.dK h1)
    · exact .base (.dT h1)
  | _ => cases hd
def IsiOk (T : String) (k : DV → Bool) : Prop := ∀ (K : PySem.W.Frag) (d : DV), d.data = true → PySem.W.kitOne K (.type d.tyn) (.type T) = some (k d)
theorem isi_int : IsiOk "int" DV.isInt := fun K d h => by cases d <;> first | rfl | cases h
theorem isi_bool : IsiOk "bool" DV.isBool := fun K d h => by cases d <;> first | rfl | cases h
theorem isi_str : IsiOk "str" DV.isStr := fun K d h => by cases d <;> first | rfl | cases h
theorem isi_tup : IsiOk "tuple" DV.isTup := fun K d h => by cases d <;> first | rfl | cases h
theorem fe_isi {T : String} {xT : Str} {k : DV → Bool} (hk : IsiOk T k) (hg : Gl X "isinstance") (hm : X.mg "isinstance" = none) (hv : bootBuiltins "isinstance" = some (.builtin "isinstance")) (he : FE X L e t)
    (hgT : Gl X xT) (hmT : X.mg xT = none) (hvT : bootBuiltins xT = some (.type T)) (hn : xT ≠ "__name__" := by decide) (hd : (xT == ("__debug__" : Str)) = false := by decide)
    (hs : starEach [e, .Name xT px] X.env = (false, eval e X.env) :: starEach [.Name xT px] X.env := by rfl) (hs2 : starEach [.Name xT px] X.env = (false, eval (.Name xT px) X.env) :: starEach [] X.env := by rfl)
    (hpl : (backTo pos (starEach [.Name xT px] X.env)).any (·.1) = false := by rfl) :
    FE X L (.Call (.Name "isinstance" p) [e, .Name xT px] [] pos) (t_c1 (fun x R => x.data = true ∧ R (.bl (k x))) t) :=
  PE.imp (pe_callB (call_isi) hg hm hv (pa_cons he (pa_cons (pe_bltn (v := .ty T) hgT hmT hvT rfl hn hd) pa_nil hs2) hs) (by decide) (by decide) hs hpl) fun σ H Q ⟨G, p, Xd, R, r, x, ht, q⟩ =>
    ⟨G, p, Xd, _, r, x, ht, fun d p1 h1 v G1 H1 s1 r1 rp1 => ⟨v, .ty T, _, _, k d, rfl, .ty T, tyx_of r1 h1.1 (.inl rp1), hk _ d h1.1, q _ p1 h1.2 _ G1 H1 s1 r1 rfl⟩⟩

/-! ### subscripts -/
def uI (X : Cx) : R2 := fun x y H Q => ∃ r, IxR X r ∧ r x y H Q
theorem ixU : IxR X (uI X) := fun value slice pins s σ H x y v u Q I rx ry h hs => by
  obtain ⟨r, hr, q⟩ := h
  exact hr value slice pins s σ H x y v u Q I rx ry q hs
def o_ix : O2
  | .lst ds, .int i, R => (match atI ds i with | some d => R d | none => False)
  | .rol ds, .int i, R => (match atI ds i with | some d => R d | none => False)
  | .tup ds, .int i, R => (match atI ds i with | some d => R d | none => False)
  | _, _, _ => False
theorem atI_rep {K : PySem.W.Frag} {G : Hp} {ds : List DV} {vs : List V} {i : Int} {R : DV → Prop} (h : RepL K G ds vs) (ha : match atI ds i with | some d => R d | none => False) : ∃ d v, atI vs i = some v ∧ Rep K G d v ∧ R d := by
  unfold atI at ha ⊢
  rw [h.length]
  cases e : ixN ds.length i with
  | none => rw [e] at ha; exact ha.elim
  | some j =>
    rw [e] at ha
    have ha : match ds[j]? with | some d => R d | none => False := ha
    cases e2 : ds[j]? with
    | none => rw [e2] at ha; exact ha.elim
    | some d =>
      rw [e2] at ha
      obtain ⟨v, hv, rp⟩ := h.get e2
      exact ⟨d, v, hv, rp, ha⟩
/-- an item, of what is readable -/
theorem ix_of {p : Pst} {σ : SS} {x y : DV} {vx vy : V} {R : DV → Prop} {Q : VK} (r : RL X.K L G p σ H) (rx : RRep X.K G H x vx) (ry : Rep X.K G y vy) (ho : o_ix x y R) (q : Bh X L G p σ R Q) : uI X vx vy H Q := by
  cases y with
  | int i =>
    cases (show vy = V.int i from ry)
    cases x with
    | lst ds =>
      obtain ⟨a, vs, rfl, h1, h2⟩ := rr_lst r rx
      obtain ⟨d, v, hv, rp, hR⟩ := atI_rep (R := R) h2 ho
      exact ⟨_, ix_list, a, vs, i, v, rfl, rfl, .inl (.inl h1), hv, q.now r hR rp⟩
    | rol ds =>
      obtain ⟨a, vs, rfl, h1, h2⟩ := rr_rol r rx
      obtain ⟨d, v, hv, rp, hR⟩ := atI_rep (R := R) h2 ho
      exact ⟨_, ix_list, a, vs, i, v, rfl, rfl, h1, hv, q.now r hR rp⟩
    | tup ds =>
      obtain ⟨a, vs, rfl, h1, h2⟩ := rr_tup r rx
      obtain ⟨d, v, hv, rp, hR⟩ := atI_rep (R := R) h2 ho
      exact ⟨_, ix_tup, a, vs, i, v, rfl, rfl, h1, hv, q.now r hR rp⟩
    | _ => exact ho.elim
  | _ => cases x <;> exact ho.elim
theorem fe_ix (ha : FE X L e t) (hb : FE X L b tb) (hs : PlainIx b) : FE X L (.Subscript e b pos) (t_bin o_ix t tb) := PE.imp (pe_ix ixU ha hb hs) fun σ H Q ⟨G, p, Xd, R, r, x, ht, q⟩ =>
  ⟨G, p, Xd, _, r, x, ht, fun d1 p1 h1 v1 G1 H1 s1 r1 rp1 => ⟨G1, p1, Xd, _, r1, x.mono s1, h1, fun d2 p2 h2 v2 G2 H2 s2 r2 rp2 =>
    ix_of (R := fun d => R d p2) r2 (.inl (rp1.mono s2)) rp2 h2 fun d h v G3 H3 s3 r3 rp3 => q d p2 h v G3 H3 ((s1.trans s2).trans s3) r3 rp3⟩⟩
/-- x[i] of a name, only read -/
def t_ixv (i : Nat) (tb : TD) : TD := fun Xd p R => p.at i fun _ => tb Xd p fun y p1 => p1.at i fun d => o_ix d y fun z => R z p1
theorem fe_ixv {i : Nat} (hx : PE X (.Name x px) (tVar i)) (hb : FE X L b tb) (hs : PlainIx b) : FE X L (.Subscript (.Name x px) b pos) (t_ixv i tb) := PE.imp (pe_ix ixU hx hb hs) fun σ H Q ⟨G, p, Xd, R, r, x, ht, q⟩ => by
  obtain ⟨_, v, ht, hv, _⟩ := Rel.at (X := X) (L := L) r ht
  refine ⟨v, hv, G, p, Xd, _, r, x, ht, fun d2 p2 h2 v2 G2 H2 s2 r2 rp2 => ?_⟩
  obtain ⟨d, w, h3, hw, rr⟩ := Rel.at (X := X) (L := L) r2 h2
  rw [hv] at hw
  cases hw
  exact ix_of (R := fun d => R d p2) r2 rr rp2 h3 fun d h v G3 H3 s3 r3 rp3 => q d p2 h v G3 H3 (s2.trans s3) r3 rp3

/-! ### slices -/
abbrev TDo := XD → Pst → (Option Int → Pst → Prop) → Prop
def liftP (K : PySem.W.Frag) (L : Lc) (t : TDo) : TO := fun σ H Q => ∃ G p Xd R, RL K L G p σ H ∧ XOk K L G Xd ∧ t Xd p R ∧ ∀ o p', R o p' → ∀ G' H', Same G G' → RL K L G' p' σ H' → Q o H'
abbrev FP (X : Cx) (L : Lc) (e : Option Expr) (t : TDo) : Prop := PO X e (liftP X.K L t)
theorem PO.imp {e : Option Expr} {t t' : TO} (h : PO X e t) (q : ∀ σ H Q, t' σ H Q → t σ H Q) : PO X e t' := ⟨fun pins s σ H Q I x => h.run pins s σ H Q I (q σ H Q x)⟩
def t_none : TDo := fun _ p R => R none p
def t_some (t : TD) : TDo := fun Xd p R => t Xd p fun d p1 => match d with
  | .int i => R (some i) p1
  | _ => False
theorem fp_none : FP X L none t_none := PO.imp po_none fun σ H Q ⟨G, p, Xd, R, r, x, ht, q⟩ => q none p ht G H (Same.refl _) r
theorem fp_some (h : FE X L e t) : FP X L (some e) (t_some t) := PO.imp (po_some h) fun σ H Q ⟨G, p, Xd, R, r, x, ht, q⟩ =>
  ⟨G, p, Xd, _, r, x, ht, fun d p1 h1 v G1 H1 s1 r1 rp1 => by
    cases d with
    | int i => exact ⟨i, rp1, q _ p1 h1 G1 H1 s1 r1⟩
    | _ => exact h1.elim⟩
def cutD {α : Type} (xs : List α) (lo hi : Option Int) : List α := (xs.drop (HT.sIx xs.length 0 lo)).take (HT.sIx xs.length xs.length hi - HT.sIx xs.length 0 lo)
theorem cut_rep {K : PySem.W.Frag} {G : Hp} {ds : List DV} {vs : List V} (h : RepL K G ds vs) (lo hi : Option Int) : RepL K G (cutD ds lo hi) (cutV vs lo hi) := by
  unfold cutD cutV
  rw [h.length]
  exact RepL.take _ (RepL.drop _ h)
def o_sl : DV → Option Int → Option Int → (DV → Prop) → Prop
  | .lst ds, lo, hi, R => R (.lst (cutD ds lo hi))
  | .rol ds, lo, hi, R => R (.lst (cutD ds lo hi))
  | .tup ds, lo, hi, R => R (.tup (cutD ds lo hi))
  | _, _, _, _ => False
def uS (X : Cx) : V → Option Int → Option Int → Hp → VK → Prop := fun x lo hi H Q => ∃ r, SlR X r ∧ r x lo hi H Q
theorem slU : SlR X (uS X) := fun pins s σ H x v vl vu lo hi sl Q I rx h1 h2 h3 h => by
  obtain ⟨r, hr, q⟩ := h
  exact hr pins s σ H x v vl vu lo hi sl Q I rx h1 h2 h3 q
theorem sl_of {p : Pst} {σ : SS} {x : DV} {vx : V} {lo hi : Option Int} {R : DV → Prop} {Q : VK} (r : RL X.K L G p σ H) (rx : RRep X.K G H x vx) (ho : o_sl x lo hi R) (q : Bh X L G p σ R Q) : uS X vx lo hi H Q := by
  cases x with
  | lst ds =>
    obtain ⟨a, vs, rfl, h1, h2⟩ := rr_lst r rx
    exact ⟨_, sl_list, a, vs, rfl, .inl (.inl h1), fun l hl => q.laid r hl ho ⟨l, _, rfl, upd_same, (cut_rep h2 lo hi).mono (r.laidG hl)⟩⟩
  | rol ds =>
    obtain ⟨a, vs, rfl, h1, h2⟩ := rr_rol r rx
    exact ⟨_, sl_list, a, vs, rfl, h1, fun l hl => q.laid r hl ho ⟨l, _, rfl, upd_same, (cut_rep h2 lo hi).mono (r.laidG hl)⟩⟩
  | tup ds =>
    have rx' : Rep X.K G (.tup ds) vx := by
      rcases rx with rx | ⟨_, _, z⟩
      · exact rx
      · exact z.elim
    obtain ⟨a, vs, rfl, h1, h2⟩ := id rx'
    refine ⟨_, sl_tupA, a, vs, rfl, Same.seqT r.sG h1, fun e => ?_, fun e l hl => q.laid r hl ho ⟨l, _, rfl, .inl (.inl upd_same), (cut_rep h2 lo hi).mono (r.laidG hl)⟩⟩
    have ho : R (.tup (cutD ds lo hi)) := ho
    have e2 : cutD ds lo hi = ds := by
      unfold cutD
      rw [h2.length] at e
      rw [e.1, e.2]
      simp
    rw [e2] at ho
    exact q.now r ho rx'
  | _ => exact ho.elim
def t_sl (t : TD) (tl th : TDo) : TD := fun Xd p R => t Xd p fun x p1 => tl Xd p1 fun lo p2 => th Xd p2 fun hi p3 => o_sl x lo hi fun d => R d p3
variable {lo hi : Option Expr} {tl th : TDo}
theorem fe_sl {p2 : Pos} (ha : FE X L e t) (hl : FP X L lo tl) (hh : FP X L hi th) : FE X L (.Subscript e (.Slice lo hi none p2) pos) (t_sl t tl th) := PE.imp (pe_slice slU ha hl hh) fun σ H Q ⟨G, p, Xd, R, r, x, ht, q⟩ =>
  ⟨G, p, Xd, _, r, x, ht, fun d1 p1 h1 v1 G1 H1 s1 r1 rp1 => ⟨G1, p1, Xd, _, r1, x.mono s1, h1, fun o2 p2 h2 G2 H2 s2 r2 => ⟨G2, p2, Xd, _, r2, x.mono (s1.trans s2), h2, fun o3 p3 h3 G3 H3 s3 r3 =>
    sl_of (R := fun d => R d p3) r3 (.inl (rp1.mono (s2.trans s3))) h3 fun d h v G4 H4 s4 r4 rp4 => q d p3 h v G4 H4 (((s1.trans s2).trans s3).trans s4) r4 rp4⟩⟩⟩
def t_slv (i : Nat) (tl th : TDo) : TD := fun Xd p R => p.at i fun _ => tl Xd p fun lo p2 => th Xd p2 fun hi p3 => p3.at i fun x => o_sl x lo hi fun d => R d p3
theorem fe_slv {i : Nat} {p2 : Pos} (hx : PE X (.Name x px) (tVar i)) (hl : FP X L lo tl) (hh : FP X L hi th) : FE X L (.Subscript (.Name x px) (.Slice lo hi none p2) pos) (t_slv i tl th) := PE.imp (pe_slice slU hx hl hh) fun σ H Q ⟨G, p, Xd, R, r, x, ht, q⟩ => by
  obtain ⟨_, v, ht, hv, _⟩ := Rel.at (X := X) (L := L) r ht
  refine ⟨v, hv, G, p, Xd, _, r, x, ht, fun o2 p2 h2 G2 H2 s2 r2 => ⟨G2, p2, Xd, _, r2, x.mono s2, h2, fun o3 p3 h3 G3 H3 s3 r3 => ?_⟩⟩
  obtain ⟨d, w, h4, hw, rr⟩ := Rel.at (X := X) (L := L) r3 h3
  rw [hv] at hw
  cases hw
  exact sl_of (R := fun d => R d p3) r3 rr h4 fun d h v G4 H4 s4 r4 rp4 => q d p3 h v G4 H4 ((s2.trans s3).trans s4) r4 rp4
end
end DD
/-! DDh: what is walked: lists, tuples, ranges, enumerate, zip of any of them. -/
namespace DD
open PySem PySem.Spec PyProof.Rows L2
inductive SK where
  | L | T
def SqK (K : PySem.W.Frag) (H : Hp) : SK → Addr → List V → Prop
  | .L, a, xs => SqL K H a xs
  | .T, a, xs => SqT K H a xs
def IsK (h : Heap) : SK → Addr → Array Value → Prop
  | .L, a, its => h.IsList a its
  | .T, a, its => h.IsTuple a its
def ItK (h : Heap) : SK → Addr → Addr → Nat → Prop
  | .L, it, a, i => h.IsListIter it a i
  | .T, it, a, i => h.IsTupleIter it a i
def itO : SK → Addr → Obj
  | .L, a => { cls := .type "list_iterator", data := .fields #[.ref a, .int 0 0] }
  | .T, a => { cls := .type "tuple_iterator", data := .fields #[.ref a, .int 0 0] }
theorem IsK.lt {h : Heap} {k : SK} {a : Addr} {its : Array Value} (x : IsK h k a its) : a < h.objs.size := by
  cases k with
  | L => obtain ⟨o, e, _⟩ := x; exact Heap.lt_size e
  | T => obtain ⟨o, e, _⟩ := x; exact Heap.lt_size e
theorem IsK.at {h h' : Heap} {k : SK} {a : Addr} {its : Array Value} (x : IsK h k a its) (hk : ∀ o, h.get? a = some o → h'.get? a = some o) : IsK h' k a its := by
  cases k with
  | L => exact Heap.IsList.at x hk
  | T => exact Heap.IsTuple.at x hk
theorem ItK.at {h h' : Heap} {k : SK} {it a : Addr} {i : Nat} (x : ItK h k it a i) (hk : ∀ o, h.get? it = some o → h'.get? it = some o) : ItK h' k it a i := by
  cases k with
  | L => exact Heap.IsListIter.at x hk
  | T => exact Heap.IsTupleIter.at x hk
theorem ItK.obj {h : Heap} {k : SK} {it a : Addr} {i : Nat} (x : ItK h k it a i) : ∃ o, h.get? it = some o ∧ ∀ v, o.data ≠ .cell v := by
  cases k with
  | L => obtain ⟨o, e, _, d⟩ := x; exact ⟨o, e, fun v q => by rw [d] at q; cases q⟩
  | T => obtain ⟨o, e, _, d⟩ := x; exact ⟨o, e, fun v q => by rw [d] at q; cases q⟩
theorem drawsK {prog : Program} {w : World} {A : Around} (hh : A.handled = none) (k : SK) (it a : Addr) (hne : a ≠ it) (items : Array Value) :
    Draws prog w A it [it, a] items.size (fun i v => items[i]? = some v) (fun i h => ItK h k it a i ∧ IsK h k a items) := by
  cases k with
  | L => exact Draws.list hh it a hne items
  | T => exact Draws.tuple hh it a hne items
theorem beginsK (k : SK) (a : Addr) (items : Array Value) : Begins (.ref a) (itO k a) fun h => IsK h k a items := by
  cases k with
  | L => exact begins_list a items
  | T => exact begins_tuple a items
theorem itK_new {h : Heap} {k : SK} {it a : Addr} (e : h.get? it = some (itO k a)) : ItK h k it a 0 := by
  cases k with
  | L => exact ⟨_, e, rfl, rfl⟩
  | T => exact ⟨_, e, rfl, rfl⟩
section
variable {X : Cx} {pins : List (Addr × Obj)} {σ : SS} {H : Hp} {s : Shared} {a : Addr} {xs ys : List V}
theorem inv_sqk (I : Inv X pins σ H s) {k : SK} (h : SqK X.K H k a xs) : ∃ its : List Value, Vals xs its ∧ IsK s.heap k a its.toArray ∧ xs.length ≤ sizeLine := by
  cases k with
  | L => obtain ⟨its, r, p, z⟩ := I.list h; exact ⟨its, r, p.isList, z⟩
  | T => obtain ⟨its, r, p, z⟩ := I.tuple h; exact ⟨its, r, p, z⟩
theorem inv_sqk_inj (I : Inv X pins σ H s) {k : SK} (h : SqK X.K H k a xs) (h' : SqK X.K H k a ys) : xs = ys := by
  cases k with
  | L => exact I.list_inj h h'
  | T => exact I.tuple_inj h h'
end

/-! ### enumerate -/
def IteK (K : PySem.W.Frag) (k : SK) (a : Addr) : It :=
  ⟨fun i H => ∃ (xs : List V) (x : V), SqK K H k a xs ∧ xs[i]? = some x, fun i H v H' => ∃ T x, v = .ref T ∧ H T = none ∧ H' = upd H T (.tup [.int (i : Nat), x]) ∧ ∀ xs, SqK K H k a xs → xs[i]? = some x, fun i H => ∃ xs : List V, SqK K H k a xs ∧ xs.length = i⟩
theorem turn_enumK {P : Program} {w : World} {K : PySem.W.Frag} {elts : List Expr} {kk : Nat} {tpos : Pos} (k : SK) (a e it : Addr) (hai : a ≠ it) (hae : e ≠ a) :
    Turn P w K (.Tuple elts kk tpos) (IteK K k a) [e, it] e (fun i h => (∃ old, IsEnum h e it ((i : Nat) : Int) old) ∧ ItK h k it a i ∧ e ≠ it) where
  mem := by simp
  obj := fun i h st b hb => by
    obtain ⟨⟨old, he⟩, hi, _⟩ := st
    have e' : b = e ∨ b = it := by simpa using hb
    rcases e' with z | z
    · rw [z]; exact ⟨_, he, fun v q => nomatch q⟩
    · rw [z]; exact hi.obj
  keep := fun i h h' st k => let ⟨⟨old, he⟩, hi, hne⟩ := st; ⟨⟨old, k e (by simp) _ he⟩, hi.at fun o q => k it (by simp) o q, hne⟩
  item := by
    intro X hP hw hK hc i pins s σ H E I hf st hg
    subst hP hw hK
    obtain ⟨⟨old, he⟩, hit, hne⟩ := st
    obtain ⟨xs, x, hq, hx⟩ := hg
    obtain ⟨its, rv, p, hz⟩ := inv_sqk I hq
    obtain ⟨u, hu, ru⟩ := rv.get hx
    have hel : e < s.heap.objs.size := Heap.lt_size he
    have hil : it < s.heap.objs.size := by obtain ⟨_, q, _⟩ := hit.obj; exact Heap.lt_size q
    have hlen : i < its.toArray.size := by
      have := (List.getElem?_eq_some_iff.mp hu).1
      simpa using this
    refine wpAny_pyNext_enum_itemD (drawsK (prog := X.prog) (w := X.w) (A := X.A.in1) (I.ok.hd hc) k it a hai its.toArray) he ⟨hit, p⟩ hlen hne (by simp [hne, hae]) fun u' h' tk hP ho hit' hT hsz hk => ?_
    have eu : u' = u := by
      have h1 : its.toArray[i]? = some u := by simpa using hu
      exact Option.some.inj (hP.symm.trans h1)
    subst eu
    refine ⟨_, rfl, wpAny_letOwnedTupleGo_enum (s := { s with heap := h', toks := tk + 1 }) ho fun h'' he' sb => ?_⟩
    have hT2 : h''.get? s.heap.objs.size = some { cls := .type "tuple", data := .seq #[.int i tk, u'] } := (sb.2 _ (Nat.ne_of_gt hel)).trans hT
    have new : ObjOk X.prog X.w (upd H s.heap.objs.size (.tup [.int (i : Nat), x])) h'' s.heap.objs.size (.tup [.int (i : Nat), x]) :=
      ⟨by show 2 ≤ sizeLine; decide, [.int i tk, u'], .cons ⟨_, rfl⟩ (.cons ru .nil), ⟨_, hT2, rfl, _, rfl⟩⟩
    have I1 : Inv X pins σ (upd H s.heap.objs.size (.tup [.int (i : Nat), x])) { s with heap := h'', toks := tk + 1 } :=
      I.turnedNew (ch := [e, it]) (fun b ob hb q => (sb.2 b (fun z => hb (by simp [z]))).trans (hk b ob (fun z => hb (by simp [z])) (fun z => hb (by simp [z])) q)) hf (Nat.le_refl _) new
    refine ⟨.ref s.heap.objs.size, _, I1, rfl, ⟨_, x, rfl, I.hok.fresh (Nat.le_refl _), rfl, fun ys hy => by rw [inv_sqk_inj I hy hq]; exact hx⟩, ⟨⟨u', ?_⟩, hit'.1.at fun o q => (sb.2 it (Ne.symm hne)).trans q, hne⟩, fun b hb => ?_⟩
    · have e1 : ((i + 1 : Nat) : Int) = (i : Int) + 1 := by omega
      rw [e1]; exact he'
    · have hb' : b < s.heap.objs.size := by
        have e' : b = e ∨ b = it := by simpa using hb
        rcases e' with z | z
        · rw [z]; exact hel
        · rw [z]; exact hil
      rw [upd_ne (Nat.ne_of_lt hb')]
      exact (hf b hb).1
  done := by
    intro X hP hw hK hc i pins s σ H E I hf st hg
    subst hP hw hK
    obtain ⟨⟨old, he⟩, hit, hne⟩ := st
    obtain ⟨xs, hq, hx⟩ := hg
    obtain ⟨its, rv, p, hz⟩ := inv_sqk I hq
    obtain ⟨f0, f1, f2, f3, f4, f5⟩ := hf it (by simp)
    have hl := rv.length
    have ei : i = its.toArray.size := by simp; omega
    subst ei
    exact wpAny_pyNext_enum_endD (drawsK (prog := X.prog) (w := X.w) (A := X.A.in1) (I.ok.hd hc) k it a hai its.toArray) he ⟨hit, p⟩ fun h' eb => ⟨rfl, I.turned (t' := s.toks) (fun b o hb q => eb b o hb q) f0 f1 f3 f4 f5⟩
  self := fun A i s Q E st h => let ⟨⟨_, he⟩, _⟩ := st; wpAny_pyIter_enum he h
set_option maxHeartbeats 1000000 in
theorem meets_enum_newT (l : Addr) (items : Array Value) :
    Meets (Builtin.«enumerate.__new__» ⟨[.type "enumerate", .ref l], []⟩) (fun _ R s => s.heap.IsTuple l items ∧
      R (.ok (.ret (.ref (s.heap.push { cls := .type "tuple_iterator", data := .fields #[.ref l, .int 0 0] }).objs.size)))
        { s with heap := (s.heap.push { cls := .type "tuple_iterator", data := .fields #[.ref l, .int 0 0] }).push { cls := .type "enumerate", data := .fields #[.none, .bool false, .ref s.heap.objs.size, rawInt 0, .none, .none] } }) :=
  .of_wp fun prog w A R s h => by
    obtain ⟨hp, g, d, tk, os⟩ := s; obtain ⟨hl, h⟩ := h
    have hsub := sub_enumerate
    have hL : Heap.IsTuple (Shared.heap ⟨hp, g, d, tk, os⟩) l items := hl
    wp_walk
    refine wpAny_stack_any fun st => wpAny_pure ?_
    split
    · rename_i c _ _ _ _ _
      cases (c == Value.type "enumerate")
      · wp_walk using wpAny_pyIter_tuple hL
        exact ⟨_, rfl, h⟩
      · wp_walk using wpAny_pyIter_tuple hL
        exact ⟨_, rfl, h⟩
    · wp_walk using wpAny_pyIter_tuple hL
      exact ⟨_, rfl, h⟩
section
variable {prog : Program} {w : World} {A : Around} {E : Value → Shared → Prop} {s : Shared}
theorem call_enumK {k : SK} {l : Addr} {items : Array Value} {Q : Value → Shared → Prop} (hL : IsK s.heap k l items)
    (h : ∀ h', IsEnum h' (s.heap.objs.size + 1) s.heap.objs.size 0 .none → ItK h' k s.heap.objs.size l 0 → h'.objs.size = s.heap.objs.size + 2 →
      (∀ b o, s.heap.get? b = some o → h'.get? b = some o) → Q (.ref (s.heap.objs.size + 1)) { s with heap := h' }) :
    wpAny (model prog w) A (call (.type "enumerate") [.ref l]) Q E s := by
  cases k with
  | L => exact call_enumerate_list hL h
  | T =>
    refine callType_new F.called_enumerate (by decide) (F.typeCall_enumerate_1 _) (F.newCall_enumerate_1 _) (fun obj => F.args_object_init_2 obj _) F.entry_enumerate_new
      (meets_enum_newT l items) ⟨hL, ?_⟩
    have hz : (s.heap.push { cls := .type "tuple_iterator", data := .fields #[.ref l, .int 0 0] }).objs.size = s.heap.objs.size + 1 := Heap.size_push ..
    show _ ∧ _
    rw [hz]
    have he : IsEnum ((s.heap.push { cls := .type "tuple_iterator", data := .fields #[.ref l, .int 0 0] }).push
        { cls := .type "enumerate", data := .fields #[.none, .bool false, .ref s.heap.objs.size, rawInt 0, .none, .none] }) (s.heap.objs.size + 1) s.heap.objs.size 0 .none := by
      have := Heap.get?_push_size (s.heap.push { cls := .type "tuple_iterator", data := .fields #[.ref l, .int 0 0] })
        (o := { cls := .type "enumerate", data := .fields #[.none, .bool false, .ref s.heap.objs.size, rawInt 0, .none, .none] }) rfl
      rw [hz] at this; exact this
    refine ⟨⟨_, he, rfl⟩, h _ he ⟨_, Heap.get?_push_of_some _ (Heap.get?_push_size _ rfl), rfl, rfl⟩ (by rw [Heap.size_push, hz]) fun b o x => Heap.get?_push_of_some _ (Heap.get?_push_of_some _ x)⟩
end

/-! ### zip -/
def ItzK (K : PySem.W.Frag) (k1 k2 : SK) (a b : Addr) : It :=
  ⟨fun i H => ∃ (xs ys : List V) (x y : V), SqK K H k1 a xs ∧ SqK K H k2 b ys ∧ xs[i]? = some x ∧ ys[i]? = some y,
    fun i H v H' => ∃ T x y, v = .ref T ∧ H T = none ∧ H' = upd H T (.tup [x, y]) ∧ (∀ xs, SqK K H k1 a xs → xs[i]? = some x) ∧ ∀ ys, SqK K H k2 b ys → ys[i]? = some y,
    fun i H => ∃ xs ys : List V, SqK K H k1 a xs ∧ SqK K H k2 b ys ∧ i = min xs.length ys.length⟩
theorem turn_zipK {P : Program} {w : World} {K : PySem.W.Frag} {elts : List Expr} {kk : Nat} {tpos : Pos} {k1 k2 : SK} {a b z TI TO i1 i2 : Addr} (S : ZipSep2 z TI TO i1 i2 [i1, a] [i2, b]) :
    Turn P w K (.Tuple elts kk tpos) (ItzK K k1 k2 a b) [z, TI, TO, i1, i2] z (fun i h => IsZip h z TI TO .none ∧ IsTupOf2 h TI (.ref i1) (.ref i2) ∧ (∃ x y, IsTupOf2 h TO x y) ∧ ItK h k1 i1 a i ∧ ItK h k2 i2 b i) where
  mem := by simp
  obj := fun i h st c hc => by
    obtain ⟨hz, hTI, ⟨x, y, hTO⟩, h1, h2⟩ := st
    have e' : c = z ∨ c = TI ∨ c = TO ∨ c = i1 ∨ c = i2 := by simpa using hc
    rcases e' with q | q | q | q | q
    · rw [q]; exact ⟨_, hz, fun v q => nomatch q⟩
    · rw [q]; exact ⟨_, hTI, fun v q => nomatch q⟩
    · rw [q]; exact ⟨_, hTO, fun v q => nomatch q⟩
    · rw [q]; exact h1.obj
    · rw [q]; exact h2.obj
  keep := fun i h h' st k => by
    obtain ⟨hz, hTI, ⟨x, y, hTO⟩, h1, h2⟩ := st
    exact ⟨k z (by simp) _ hz, k TI (by simp) _ hTI, ⟨x, y, k TO (by simp) _ hTO⟩, h1.at fun o q => k i1 (by simp) o q, h2.at fun o q => k i2 (by simp) o q⟩
  item := by
    intro X hP hw hK hc i pins s σ H E I hf st hg
    subst hP hw hK
    obtain ⟨hz, hTI, ⟨x0, y0, hTO⟩, h1, h2⟩ := st
    obtain ⟨xs, ys, x, y, hqx, hqy, hx, hy⟩ := hg
    obtain ⟨its, rv, p, _⟩ := inv_sqk I hqx
    obtain ⟨its2, rv2, p2, _⟩ := inv_sqk I hqy
    obtain ⟨u, hu, ru⟩ := rv.get hx
    obtain ⟨u2, hu2, ru2⟩ := rv2.get hy
    have hzl : z < s.heap.objs.size := Heap.lt_size hz
    have hai : a ≠ i1 := fun e => by
      have := S.mem1
      have h3 := p.lt
      obtain ⟨o1, e1, d1⟩ := h1.obj
      cases k1 with
      | L =>
        obtain ⟨o, e2, _, n, d2⟩ := p
        obtain ⟨o3, e3, _, d3⟩ := h1
        rw [e, e3] at e2; cases e2; rw [d3] at d2; cases d2
      | T =>
        obtain ⟨o, e2, _, n, d2⟩ := p
        obtain ⟨o3, e3, _, d3⟩ := h1
        rw [e, e3] at e2; cases e2; rw [d3] at d2; cases d2
    have hbi : b ≠ i2 := fun e => by
      cases k2 with
      | L =>
        obtain ⟨o, e2, _, n, d2⟩ := p2
        obtain ⟨o3, e3, _, d3⟩ := h2
        rw [e, e3] at e2; cases e2; rw [d3] at d2; cases d2
      | T =>
        obtain ⟨o, e2, _, n, d2⟩ := p2
        obtain ⟨o3, e3, _, d3⟩ := h2
        rw [e, e3] at e2; cases e2; rw [d3] at d2; cases d2
    have hl1 : i < its.toArray.size := by simpa using (List.getElem?_eq_some_iff.mp hu).1
    have hl2 : i < its2.toArray.size := by simpa using (List.getElem?_eq_some_iff.mp hu2).1
    refine wpAny_pyNext_zipD2_item S (drawsK (prog := X.prog) (w := X.w) (A := X.A.in1) (I.ok.hd hc) k1 i1 a hai its.toArray) (drawsK (prog := X.prog) (w := X.w) (A := X.A.in1) (I.ok.hd hc) k2 i2 b hbi its2.toArray) hz hTI hTO ⟨h1, p⟩ ⟨h2, p2⟩ hl1 hl2 fun w1 w2 h' tk hP1 hP2 z' TO' h1' h2' hT hsz hk => ?_
    have e1 : w1 = u := by
      have q : its.toArray[i]? = some u := by simpa using hu
      exact Option.some.inj (hP1.symm.trans q)
    have e2 : w2 = u2 := by
      have q : its2.toArray[i]? = some u2 := by simpa using hu2
      exact Option.some.inj (hP2.symm.trans q)
    subst e1 e2
    refine ⟨_, rfl, wpAny_letOwnedTupleGo_zip (s := { s with heap := h', toks := tk }) z' fun h'' z'' sb => ?_⟩
    have hT2 : h''.get? s.heap.objs.size = some { cls := .type "tuple", data := .seq #[w1, w2] } := (sb.2 _ (Nat.ne_of_gt hzl)).trans hT
    have new : ObjOk X.prog X.w (upd H s.heap.objs.size (.tup [x, y])) h'' s.heap.objs.size (.tup [x, y]) :=
      ⟨by show 2 ≤ sizeLine; decide, [w1, w2], .cons ru (.cons ru2 .nil), ⟨_, hT2, rfl, _, rfl⟩⟩
    have I1 : Inv X pins σ (upd H s.heap.objs.size (.tup [x, y])) { s with heap := h'', toks := tk } :=
      I.turnedNew (ch := [z, TI, TO, i1, i2]) (fun c o hb q => (sb.2 c (fun q' => hb (by simp [q']))).trans (hk c o (fun q' => hb (by simp [q'])) (fun q' => hb (by simp [q'])) (fun q' => hb (by simp [q'])) (fun q' => hb (by simp [q'])) q)) hf (Nat.le_refl _) new
    refine ⟨.ref s.heap.objs.size, _, I1, rfl, ⟨_, x, y, rfl, I.hok.fresh (Nat.le_refl _), rfl, fun l hl => by rw [inv_sqk_inj I hl hqx]; exact hx, fun l hl => by rw [inv_sqk_inj I hl hqy]; exact hy⟩, ⟨z'', ?_, ⟨w1, w2, ?_⟩, ?_, ?_⟩, fun c hcm => ?_⟩
    · exact (sb.2 _ S.TIz).trans (hk _ _ S.TIz S.TITO S.TIi1 S.TIi2 hTI)
    · exact (sb.2 _ S.TOz).trans TO'
    · exact h1'.1.at fun o q => (sb.2 _ (Ne.symm S.zi1)).trans q
    · exact h2'.1.at fun o q => (sb.2 _ (Ne.symm S.zi2)).trans q
    · have hlt : c < s.heap.objs.size := by
        have e' : c = z ∨ c = TI ∨ c = TO ∨ c = i1 ∨ c = i2 := by simpa using hcm
        rcases e' with q | q | q | q | q
        · rw [q]; exact hzl
        · rw [q]; exact Heap.lt_size hTI
        · rw [q]; exact Heap.lt_size hTO
        · rw [q]; obtain ⟨_, e1, _⟩ := h1.obj; exact Heap.lt_size e1
        · rw [q]; obtain ⟨_, e2, _⟩ := h2.obj; exact Heap.lt_size e2
      rw [upd_ne (Nat.ne_of_lt hlt)]
      exact (hf c hcm).1
  done := by
    intro X hP hw hK hc i pins s σ H E I hf st hg
    subst hP hw hK
    obtain ⟨hz, hTI, ⟨x0, y0, hTO⟩, h1, h2⟩ := st
    obtain ⟨xs, ys, hqx, hqy, hend⟩ := hg
    obtain ⟨its, rv, p, _⟩ := inv_sqk I hqx
    obtain ⟨its2, rv2, p2, _⟩ := inv_sqk I hqy
    have l1 := rv.length
    have l2 := rv2.length
    have hai : a ≠ i1 := fun e => by
      cases k1 with
      | L =>
        obtain ⟨o, e2, _, n, d2⟩ := p
        obtain ⟨o3, e3, _, d3⟩ := h1
        rw [e, e3] at e2; cases e2; rw [d3] at d2; cases d2
      | T =>
        obtain ⟨o, e2, _, n, d2⟩ := p
        obtain ⟨o3, e3, _, d3⟩ := h1
        rw [e, e3] at e2; cases e2; rw [d3] at d2; cases d2
    have hbi : b ≠ i2 := fun e => by
      cases k2 with
      | L =>
        obtain ⟨o, e2, _, n, d2⟩ := p2
        obtain ⟨o3, e3, _, d3⟩ := h2
        rw [e, e3] at e2; cases e2; rw [d3] at d2; cases d2
      | T =>
        obtain ⟨o, e2, _, n, d2⟩ := p2
        obtain ⟨o3, e3, _, d3⟩ := h2
        rw [e, e3] at e2; cases e2; rw [d3] at d2; cases d2
    exact wpAny_pyNext_zipD2_end S (drawsK (prog := X.prog) (w := X.w) (A := X.A.in1) (I.ok.hd hc) k1 i1 a hai its.toArray) (drawsK (prog := X.prog) (w := X.w) (A := X.A.in1) (I.ok.hd hc) k2 i2 b hbi its2.toArray) hz hTI hTO ⟨h1, p⟩ ⟨h2, p2⟩ (by simp; omega) (by simp; omega) (by simp; omega) fun h' tk hk => ⟨rfl, I.turnedL (t' := tk) (ch := [z, TI, TO, i1, i2]) (fun c o hb q =>
      hk c o (fun q' => hb (by simp [q'])) (fun q' => hb (by simp [q'])) (fun q' => hb (by simp [q'])) (fun q' => hb (by simp [q'])) q) hf⟩
  self := fun A i s Q E st h => wpAny_pyIter_zip st.1 h
end DD
/-! DDi: walks, targets, statements. -/
namespace DD
open PySem PySem.Spec PyProof.Rows L2
/-! ### walks -/
abbrev TDi := XD → Pst → (List DV → Pst → Prop) → Prop
def ItOk (K : PySem.W.Frag) (J : It) (G : Hp) (ds : List DV) : Prop := ∀ i H, Same G H → (i < ds.length → J.go i H) ∧ (i = ds.length → J.stop i H) ∧
  ∀ d, ds[i]? = some d → ∀ x H', J.yld i H x H' → ∀ G1, Same G G1 → Same G1 H → ∃ G2, Same G1 G2 ∧ Same G2 H' ∧ Same H H' ∧ (∀ a o, G2 a = some o → G1 a = some o ∨ H a = none) ∧ Rep K G2 d x
theorem ItOk.mono {K : PySem.W.Frag} {J : It} {G G' : Hp} {ds : List DV} (x : ItOk K J G ds) (e : Same G G') : ItOk K J G' ds := fun i H s => by
  obtain ⟨h1, h2, h3⟩ := x i H (e.trans s)
  exact ⟨h1, h2, fun d hd y H' hy G1 s1 => h3 d hd y H' hy G1 (e.trans s1)⟩
theorem Rel.ext {K : PySem.W.Frag} {F G G2 H H' : Hp} {bas : List Addr} {p : Pst} {σ : SS} (r : Rel K F bas G p σ H) (s1 : Same G G2) (s2 : Same G2 H') (s3 : Same H H') (h : ∀ a o, G2 a = some o → G a = some o ∨ H a = none) : Rel K F bas G2 p σ H' := by
  have r2 := r.grow s3
  have none_of : ∀ {a : Addr}, G a = none → (∃ o, H a = some o) → G2 a = none := fun {a} hg ⟨o, ho⟩ => by
    cases e : G2 a with
    | none => rfl
    | some u =>
      rcases h a u e with z | z
      · rw [hg] at z; cases z
      · rw [ho] at z; cases z
  refine ⟨r2.sF, s2, fun a o e => none_of (r.dj a o e) ⟨o, r.sF a o e⟩, r.len, fun i d hi => ?_, fun i d hi => ?_, r.di, r.bo, r.bl, fun j a d h1 h2 => ?_, r.nd⟩
  · obtain ⟨v, hv, q⟩ := r.sh i d hi
    exact ⟨v, hv, q.mono s1⟩
  · obtain ⟨a, hv, q, hg, hf, hb⟩ := r.ow i d hi
    exact ⟨a, hv, q.mono s1 (fun o ho => s3 _ _ ho), none_of hg q.there, hf, hb⟩
  · obtain ⟨q, hg, hf⟩ := r.br j a d h1 h2
    exact ⟨q.mono s1 (fun o ho => s3 _ _ ho), none_of hg q.there, hf⟩
def liftI (K : PySem.W.Frag) (L : Lc) (t : TDi) : TI := fun σ H R => ∃ G p Xd Rq, RL K L G p σ H ∧ XOk K L G Xd ∧ t Xd p Rq ∧ ∀ ds p', Rq ds p' → ∀ J G' H', Same G G' → RL K L G' p' σ H' → ItOk K J G' ds → R J H'
abbrev FI (X : Cx) (L : Lc) (tg e : Expr) (t : TDi) : Prop := PI X tg e (liftI X.K L t)
theorem PI.imp {X : Cx} {tg e : Expr} {t t' : TI} (h : PI X tg e t) (q : ∀ σ H R, t' σ H R → t σ H R) : PI X tg e t' := ⟨fun pins s σ H R I x => h.run pins s σ H R I (q σ H R x)⟩
def itsK (K : PySem.W.Frag) : SK → Addr → It
  | .L, a => Itl K a
  | .T, a => Itt K a
/-- the items of a list or tuple -/
def DV.items (d : DV) (k : List DV → Prop) : Prop := match d with
  | .lst ds => k ds
  | .rol ds => k ds
  | .tup ds => k ds
  | _ => False
theorem Same.sqk {K : PySem.W.Frag} {H H' : Hp} {k : SK} {a : Addr} {xs : List V} (e : Same H H') (h : SqK K H k a xs) : SqK K H' k a xs := by
  cases k with
  | L => exact e.seq h
  | T => exact Same.seqT e h
theorem items_of {K : PySem.W.Frag} {G : Hp} {d : DV} {v : V} {k : List DV → Prop} (h : d.items k) (r : Rep K G d v) : ∃ ds a sk vs, k ds ∧ v = .ref a ∧ SqK K G sk a vs ∧ RepL K G ds vs := by
  cases d with
  | lst ds => obtain ⟨a, vs, e, h1, h2⟩ := r; exact ⟨ds, a, .L, vs, h, e, .inl (.inl h1), h2⟩
  | rol ds => obtain ⟨a, vs, e, h1, h2⟩ := r; exact ⟨ds, a, .L, vs, h, e, h1, h2⟩
  | tup ds => obtain ⟨a, vs, e, h1, h2⟩ := r; exact ⟨ds, a, .T, vs, h, e, h1, h2⟩
  | _ => exact h.elim
section
variable {X : Cx} {L : Lc} {tg e a b c : Expr} {t ta tb tc : TD} {p pos tpos : Pos} {elts : List Expr} {kk : Nat}
theorem pi_seqK {tl : TE} (hl : PE X e tl) : PI X tg e (fun σ H R => tl σ H fun x H1 => ∃ a k xs, x = .ref a ∧ SqK X.K H1 k a xs ∧ R (itsK X.K k a) H1) := by
  refine ⟨fun pins s σ H R I h => ?_⟩
  refine thn (hl.run pins s σ H _ I h) fun v s1 ⟨x, H1, I1, r1, q1⟩ => ?_
  obtain ⟨a, k, xs, e, hq, q⟩ := q1
  subst e
  cases r1
  cases k with
  | L =>
    obtain ⟨its, rv, p, hz⟩ := I1.list hq
    refine wpAny_pyIter_list p.isList ?_
    refine ⟨s1.heap.objs.size, [s1.heap.objs.size], _, _, H1, rfl, I1.kept (t' := s1.toks) fun b o e => Heap.get?_push_of_some _ e, turn_list a _, ⟨_, Heap.get?_push_size _ rfl, rfl, rfl⟩, fun b hb => ?_, q⟩
    have e : b = s1.heap.objs.size := by simpa using hb
    subst e
    exact I1.fpOk (Nat.le_refl _) (I1.hok.fresh (Nat.le_refl _))
  | T =>
    obtain ⟨its, rv, p, hz⟩ := I1.tuple hq
    refine wpAny_pyIter_tuple (show s1.heap.IsTuple a its.toArray from p) ?_
    refine ⟨s1.heap.objs.size, [s1.heap.objs.size], _, _, H1, rfl, I1.kept (t' := s1.toks) fun b o e => Heap.get?_push_of_some _ e, turn_tuple a _, ⟨_, Heap.get?_push_size _ rfl, rfl, rfl⟩, fun b hb => ?_, q⟩
    have e : b = s1.heap.objs.size := by simpa using hb
    subst e
    exact I1.fpOk (Nat.le_refl _) (I1.hok.fresh (Nat.le_refl _))
theorem itok_seq {K : PySem.W.Frag} {G : Hp} {sk : SK} {a : Addr} {vs : List V} {ds : List DV} (hs : SqK K G sk a vs) (hr : RepL K G ds vs) : ItOk K (itsK K sk a) G ds := fun i H s => by
  have hs' := Same.sqk s hs
  have hl := hr.length
  have W : Walk (itsK K sk a) vs.length (fun H => SqK K H sk a vs) (YAt vs) := by
    cases sk with
    | L => exact walk_list
    | T => exact walk_tup
  refine ⟨fun hi => W.goes i H (by rw [hl]; exact hi) hs', fun hi => by rw [hi, ← hl]; exact W.stops H hs', fun d hd x H' hy G1 s1 s2 => ?_⟩
  have hi : i < vs.length := by rw [hl]; exact (List.getElem?_eq_some_iff.mp hd).1
  obtain ⟨e1, e2⟩ := W.yields i H x H' hi hs' hy
  subst e1
  obtain ⟨v, hv, rp⟩ := hr.get hd
  rw [e2] at hv
  cases hv
  exact ⟨G1, Same.refl _, s2, Same.refl _, fun _ _ z => .inl z, rp.mono s1⟩
def t_it (t : TD) : TDi := fun Xd p R => t Xd p fun d p1 => d.items fun ds => R ds p1
theorem fi_it (h : FE X L e t) : FI X L tg e (t_it t) := PI.imp (pi_seqK h) fun σ H R ⟨G, p, Xd, Rq, r, x, ht, q⟩ => ⟨G, p, Xd, _, r, x, ht, fun d p1 h1 v G1 H1 s1 r1 rp1 => by
  obtain ⟨ds, a, sk, vs, hk, e, hs, hr⟩ := items_of h1 rp1
  exact ⟨a, sk, vs, e, Same.sqk r1.sG hs, q ds p1 hk _ G1 H1 s1 r1 (itok_seq hs hr)⟩⟩
/-! enumerate -/
def enumD : Nat → List DV → List DV
  | _, [] => []
  | n, d :: ds => .tup [.int n, d] :: enumD (n + 1) ds
theorem enumD_length : ∀ (ds : List DV) (n : Nat), (enumD n ds).length = ds.length
  | [], _ => rfl
  | _ :: ds, n => by rw [enumD, List.length_cons, List.length_cons, enumD_length ds]
theorem enumD_get : ∀ (ds : List DV) (n i : Nat), (enumD n ds)[i]? = ds[i]?.map fun d => .tup [.int ((n + i : Nat) : Int), d]
  | [], n, i => by simp [enumD]
  | d :: ds, n, 0 => rfl
  | d :: ds, n, i + 1 => by
    have h := enumD_get ds (n + 1) i
    rw [enumD, List.getElem?_cons_succ, List.getElem?_cons_succ, h, show n + 1 + i = n + (i + 1) by omega]
theorem pi_enumK {ta : TA} (hg : Gl X "enumerate") (hm : X.mg "enumerate" = none) (ha : PA X [e] ta) (hs : starEach [e] X.env = [(false, eval e X.env)] := by rfl) :
    PI X (.Tuple elts kk tpos) (.Call (.Name "enumerate" p) [e] [] pos) (fun σ H R => ta σ H fun vs H1 => ∃ a k xs, vs = [.ref a] ∧ SqK X.K H1 k a xs ∧ R (IteK X.K k a) H1) := by
  refine ⟨fun pins s σ H R I h => ?_⟩
  refine Call_ (ld_blt I hg hm boot_enumerate (PyProof.Rows.callWith_type1 (thn (ha.run pos pins s σ H _ I h) fun us s1 ⟨vs, H1, I1, r1, q1⟩ => ?_) hs rfl))
  obtain ⟨a, k, xs, ex, hq, q⟩ := q1
  subst ex
  cases r1 with
  | cons r rr =>
    cases rr
    cases r
    obtain ⟨its, rv, p', hz⟩ := inv_sqk I1 hq
    have hlt := p'.lt
    refine call_enumK p' fun h' he hit hsz hk => wpAny_pyIter_enum he ?_
    have I2 : Inv X pins σ H1 { s1 with heap := h' } := I1.kept (t' := s1.toks) hk
    refine ⟨s1.heap.objs.size + 1, [s1.heap.objs.size + 1, s1.heap.objs.size], _, _, H1, rfl, I2, turn_enumK k a (s1.heap.objs.size + 1) s1.heap.objs.size (Nat.ne_of_lt hlt) (Nat.ne_of_gt (Nat.lt_succ_of_lt hlt)), ⟨⟨.none, he⟩, hit, Nat.succ_ne_self _⟩, fun b hb => ?_, q⟩
    have e' : b = s1.heap.objs.size + 1 ∨ b = s1.heap.objs.size := by simpa using hb
    have hle : s1.heap.objs.size ≤ b := by
      rcases e' with z | z
      · rw [z]; exact Nat.le_add_right _ _
      · rw [z]; exact Nat.le_refl _
    exact I1.fpOk hle (I1.hok.fresh hle)
/-- a new pair, frozen -/
theorem pair_ok {K : PySem.W.Frag} {G1 H : Hp} {T : Addr} {x y : V} {d d' : DV} (s2 : Same G1 H) (hT : H T = none) (r1 : Rep K G1 d x) (r2 : Rep K G1 d' y) :
    ∃ G2, Same G1 G2 ∧ Same G2 (upd H T (.tup [x, y])) ∧ Same H (upd H T (.tup [x, y])) ∧ (∀ a o, G2 a = some o → G1 a = some o ∨ H a = none) ∧ Rep K G2 (.tup [d, d']) (.ref T) := by
  have hg := s2.free hT
  refine ⟨upd G1 T (.tup [x, y]), same_upd hg, fun b o e => ?_, same_upd hT, fun a o e => ?_, T, [x, y], rfl, .inl (.inl upd_same), x, [y], rfl, r1.mono (same_upd hg), y, [], rfl, r2.mono (same_upd hg), rfl⟩
  · by_cases hb : b = T
    · subst hb; rw [upd_same] at e ⊢; exact e
    · rw [upd_ne hb] at e ⊢; exact s2 _ _ e
  · by_cases ha : a = T
    · subst ha; exact .inr hT
    · rw [upd_ne ha] at e; exact .inl e
theorem itok_enum {K : PySem.W.Frag} {G : Hp} {sk : SK} {a : Addr} {vs : List V} {ds : List DV} (hs : SqK K G sk a vs) (hr : RepL K G ds vs) : ItOk K (IteK K sk a) G (enumD 0 ds) := fun i H s => by
  have hs' := Same.sqk s hs
  have hl := hr.length
  rw [enumD_length]
  refine ⟨fun hi => ⟨vs, vs[i]'(by rw [hl]; exact hi), hs', by simp [hl, hi]⟩, fun hi => ⟨vs, hs', by rw [hi]; exact hl⟩, fun d hd x H' hy G1 s1 s2 => ?_⟩
  obtain ⟨T, x', e1, hT, e2, hx⟩ := hy
  subst e1 e2
  rw [enumD_get] at hd
  cases hd2 : ds[i]? with
  | none => rw [hd2] at hd; cases hd
  | some d2 =>
    rw [hd2] at hd
    have ed : d = .tup [.int ((0 + i : Nat) : Int), d2] := (Option.some.inj hd).symm
    obtain ⟨v, hv, rp⟩ := hr.get hd2
    have ev : x' = v := Option.some.inj ((hx vs hs').symm.trans hv)
    subst ev
    rw [ed, Nat.zero_add]
    exact pair_ok (d := .int (i : Nat)) s2 hT rfl (rp.mono s1)
def t_enum (t : TD) : TDi := fun Xd p R => t Xd p fun d p1 => d.items fun ds => R (enumD 0 ds) p1
theorem fi_enum (hg : Gl X "enumerate") (hm : X.mg "enumerate" = none) (h : FE X L e t) (hs : starEach [e] X.env = [(false, eval e X.env)] := by rfl) :
    FI X L (.Tuple elts kk tpos) (.Call (.Name "enumerate" p) [e] [] pos) (t_enum t) := PI.imp (pi_enumK hg hm (pa_cons h pa_nil hs) hs) fun σ H R ⟨G, p, Xd, Rq, r, x, ht, q⟩ => ⟨G, p, Xd, _, r, x, ht, fun d p1 h1 v G1 H1 s1 r1 rp1 => by
  obtain ⟨ds, a, sk, vs, hk, e, hs, hr⟩ := items_of h1 rp1
  exact ⟨a, sk, vs, by rw [e], Same.sqk r1.sG hs, q _ p1 hk _ G1 H1 s1 r1 (itok_enum hs hr)⟩⟩
/-! zip -/
def zipD : List DV → List DV → List DV
  | a :: as, b :: bs => .tup [a, b] :: zipD as bs
  | _, _ => []
theorem zipD_length : ∀ (as bs : List DV), (zipD as bs).length = min as.length bs.length
  | [], bs => by simp [zipD]
  | _ :: _, [] => by simp [zipD]
  | a :: as, b :: bs => by rw [zipD, List.length_cons, zipD_length as bs, List.length_cons, List.length_cons]; omega
theorem zipD_get : ∀ (as bs : List DV) (i : Nat) (d : DV), (zipD as bs)[i]? = some d → ∃ x y, as[i]? = some x ∧ bs[i]? = some y ∧ d = .tup [x, y]
  | [], bs, i, d, h => by simp [zipD] at h
  | _ :: _, [], i, d, h => by simp [zipD] at h
  | a :: as, b :: bs, 0, d, h => ⟨a, b, rfl, rfl, (Option.some.inj h).symm⟩
  | a :: as, b :: bs, i + 1, d, h => zipD_get as bs i d h
theorem pi_zipK {ta : TA} (hg : Gl X "zip") (hm : X.mg "zip" = none) (ha : PA X [a, b] ta)
    (hs : starEach [a, b] X.env = (false, eval a X.env) :: starEach [b] X.env := by rfl) (hpl : (backTo pos (starEach [b] X.env)).any (·.1) = false := by rfl) :
    PI X (.Tuple elts kk tpos) (.Call (.Name "zip" p) [a, b] [] pos) (fun σ H R => ta σ H fun vs H1 => ∃ a b k1 k2 xs ys, vs = [.ref a, .ref b] ∧ SqK X.K H1 k1 a xs ∧ SqK X.K H1 k2 b ys ∧ R (ItzK X.K k1 k2 a b) H1) := by
  refine ⟨fun pins s σ H R I h => ?_⟩
  refine Call_ (ld_blt I hg hm PyProof.Rows.boot_zip (PyProof.Rows.callWith_type1 (thn (ha.run pos pins s σ H _ I h) fun us s1 ⟨vs, H1, I1, r1, q1⟩ => ?_) hs hpl))
  obtain ⟨a, b, k1, k2, xs, ys, ex, hqx, hqy, q⟩ := q1
  subst ex
  cases r1 with
  | cons r rr =>
    cases rr with
    | cons r' rr =>
      cases rr
      cases r
      cases r'
      obtain ⟨its, rv, p1, _⟩ := inv_sqk I1 hqx
      obtain ⟨its2, rv2, p2, _⟩ := inv_sqk I1 hqy
      have la : a < s1.heap.objs.size := p1.lt
      have lb : b < s1.heap.objs.size := p2.lt
      refine zip_begins2 (beginsK k1 a its.toArray) (beginsK k2 b its2.toArray) p1 p2 fun h' hz hTI hTO h1 h2 hsz hk => wpAny_pyIter_zip hz ?_
      have I2 : Inv X pins σ H1 { s1 with heap := h' } := I1.kept (t' := s1.toks) hk
      refine ⟨s1.heap.objs.size + 4, [s1.heap.objs.size + 4, s1.heap.objs.size + 2, s1.heap.objs.size + 3, s1.heap.objs.size, s1.heap.objs.size + 1], _, _, H1, rfl, I2, turn_zipK (zip_sep2 (fp1 := [a]) (fp2 := [b]) (by simpa using la) (by simpa using lb)), ⟨hz, hTI, ⟨_, _, hTO⟩, itK_new h1, itK_new h2⟩, fun c hcm => ?_, q⟩
      have e' : c = s1.heap.objs.size + 4 ∨ c = s1.heap.objs.size + 2 ∨ c = s1.heap.objs.size + 3 ∨ c = s1.heap.objs.size ∨ c = s1.heap.objs.size + 1 := by simpa using hcm
      have hle : s1.heap.objs.size ≤ c := by
        rcases e' with z | z | z | z | z
        · rw [z]; exact Nat.le_add_right _ _
        · rw [z]; exact Nat.le_add_right _ _
        · rw [z]; exact Nat.le_add_right _ _
        · rw [z]; exact Nat.le_refl _
        · rw [z]; exact Nat.le_add_right _ _
      exact I1.fpOk hle (I1.hok.fresh hle)
theorem itok_zip {K : PySem.W.Frag} {G : Hp} {k1 k2 : SK} {a b : Addr} {vs us : List V} {ds es : List DV} (h1 : SqK K G k1 a vs) (r1 : RepL K G ds vs) (h2 : SqK K G k2 b us) (r2 : RepL K G es us) : ItOk K (ItzK K k1 k2 a b) G (zipD ds es) := fun i H s => by
  have h1' := Same.sqk s h1
  have h2' := Same.sqk s h2
  have l1 := r1.length
  have l2 := r2.length
  rw [zipD_length]
  refine ⟨fun hi => ?_, fun hi => ⟨vs, us, h1', h2', by rw [l1, l2]; exact hi⟩, fun d hd x H' hy G1 s1 s2 => ?_⟩
  · have i1 : i < vs.length := by omega
    have i2 : i < us.length := by omega
    exact ⟨vs, us, vs[i], us[i], h1', h2', by simp [i1], by simp [i2]⟩
  · obtain ⟨T, x', y', e1, hT, e2, hx, hy'⟩ := hy
    subst e1 e2
    obtain ⟨dx, dy, e3, e4, rfl⟩ := zipD_get _ _ _ _ hd
    obtain ⟨v, hv, rv⟩ := r1.get e3
    obtain ⟨u, hu, ru⟩ := r2.get e4
    have ev : x' = v := Option.some.inj ((hx vs h1').symm.trans hv)
    have eu : y' = u := Option.some.inj ((hy' us h2').symm.trans hu)
    subst ev eu
    exact pair_ok s2 hT (rv.mono s1) (ru.mono s1)
def t_zip (ta tb : TD) : TDi := fun Xd p R => ta Xd p fun d p1 => tb Xd p1 fun d2 p2 => d.items fun ds => d2.items fun es => R (zipD ds es) p2
theorem items_and {d d2 : DV} {k : List DV → List DV → Prop} (h : d.items fun ds => d2.items fun es => k ds es) : ∃ ds es, (d.items fun x => x = ds) ∧ (d2.items fun x => x = es) ∧ k ds es := by
  cases d <;> first | exact h.elim | skip
  all_goals (cases d2 <;> first | exact h.elim | exact ⟨_, _, rfl, rfl, h⟩)
theorem fi_zip (hg : Gl X "zip") (hm : X.mg "zip" = none) (ha : FE X L a ta) (hb : FE X L b tb) (hs : starEach [a, b] X.env = (false, eval a X.env) :: starEach [b] X.env := by rfl) (hs2 : starEach [b] X.env = (false, eval b X.env) :: starEach [] X.env := by rfl)
    (hpl : (backTo pos (starEach [b] X.env)).any (·.1) = false := by rfl) : FI X L (.Tuple elts kk tpos) (.Call (.Name "zip" p) [a, b] [] pos) (t_zip ta tb) :=
  PI.imp (pi_zipK hg hm (pa_cons ha (pa_cons hb pa_nil hs2) hs) hs hpl) fun σ H R ⟨G, p, Xd, Rq, r, x, ht, q⟩ => ⟨G, p, Xd, _, r, x, ht, fun d p1 h1 v G1 H1 s1 r1 rp1 => ⟨G1, p1, Xd, _, r1, x.mono s1, h1, fun d2 p2 h2 v2 G2 H2 s2 r2 rp2 => by
    obtain ⟨ds, es, i1, i2, hk⟩ := items_and h2
    obtain ⟨ds', a, sk, vs, e0, e, hs, hr⟩ := items_of i1 (rp1.mono s2)
    obtain ⟨es', b, sk2, us, e0', e', hs', hr'⟩ := items_of i2 rp2
    subst e0 e0'
    exact ⟨a, b, sk, sk2, vs, us, by rw [e, e'], Same.sqk r2.sG hs, Same.sqk r2.sG hs', q _ p2 hk _ G2 H2 (s1.trans s2) r2 (itok_zip hs hr hs' hr')⟩⟩⟩
/-! range -/
def rangeD (lo c : Int) : Nat → List DV
  | 0 => []
  | n + 1 => .int lo :: rangeD (lo + c) c n
theorem rangeD_length (c : Int) : ∀ (n : Nat) (lo : Int), (rangeD lo c n).length = n
  | 0, _ => rfl
  | n + 1, lo => by rw [rangeD, List.length_cons, rangeD_length c n]
theorem rangeD_get (c : Int) : ∀ (n : Nat) (lo : Int) (i : Nat), i < n → (rangeD lo c n)[i]? = some (.int (lo + (i : Nat) * c))
  | 0, _, _, h => absurd h (Nat.not_lt_zero _)
  | n + 1, lo, 0, _ => by simp [rangeD]
  | n + 1, lo, i + 1, h => by
    rw [rangeD, List.getElem?_cons_succ, rangeD_get c n (lo + c) i (Nat.lt_of_succ_lt_succ h)]
    have : lo + c + (i : Int) * c = lo + ((i + 1 : Nat) : Int) * c := by
      rw [Int.natCast_add, Int.add_mul]; omega
    rw [this]
theorem itok_rngC {K : PySem.W.Frag} {G : Hp} {lo c : Int} {n : Nat} : ItOk K (Itc lo c n) G (rangeD lo c n) := fun i H s => by
  rw [rangeD_length]
  refine ⟨fun hi => hi, fun hi => Nat.le_of_eq hi.symm, fun d hd x H' hy G1 s1 s2 => ?_⟩
  obtain ⟨e1, e2⟩ := hy
  subst e1 e2
  have hi : i < n := by
    have := (List.getElem?_eq_some_iff.mp hd).1
    rwa [rangeD_length] at this
  rw [rangeD_get c n lo i hi] at hd
  cases hd
  exact ⟨G1, Same.refl _, s2, Same.refl _, fun _ _ z => .inl z, rfl⟩
theorem itok_rng {K : PySem.W.Frag} {G : Hp} {lo : Int} {n : Nat} : ItOk K (Itr lo n) G (rangeD lo 1 n) := fun i H s => by
  rw [rangeD_length]
  refine ⟨fun hi => hi, fun hi => Nat.le_of_eq hi.symm, fun d hd x H' hy G1 s1 s2 => ?_⟩
  obtain ⟨e1, e2⟩ := hy
  subst e1 e2
  have hi : i < n := by
    have := (List.getElem?_eq_some_iff.mp hd).1
    rwa [rangeD_length] at this
  rw [rangeD_get 1 n lo i hi, Int.mul_one] at hd
  cases hd
  exact ⟨G1, Same.refl _, s2, Same.refl _, fun _ _ z => .inl z, rfl⟩
def B62 (i : Int) : Prop := -(2 ^ 62) ≤ i ∧ i < 2 ^ 62
def t_rng1 (u : TDs) : TDi := fun Xd p R => u Xd p fun ds p1 => match ds with
  | [.int j] => B62 j ∧ R (rangeD 0 1 j.toNat) p1
  | _ => False
def t_rng2 (u : TDs) : TDi := fun Xd p R => u Xd p fun ds p1 => match ds with
  | [.int i, .int j] => B62 i ∧ B62 j ∧ R (rangeD i 1 (j - i).toNat) p1
  | _ => False
/-- downward by ones -/
def t_rngN (u : TDs) : TDi := fun Xd p R => u Xd p fun ds p1 => match ds with
  | [.int i, .int j, .int c] => c = -1 ∧ B62 i ∧ B62 j ∧ R (rangeD i (-1) (i - j).toNat) p1
  | _ => False
theorem fi_rng1 {u : TDs} (hg : Gl X "range") (hm : X.mg "range" = none) (ha : FA X L [a] u) (hs : starEach [a] X.env = [(false, eval a X.env)] := by rfl) : FI X L tg (.Call (.Name "range" p) [a] [] pos) (t_rng1 u) :=
  PI.imp (pi_range1 hg hm ha hs) fun σ H R ⟨G, p, Xd, Rq, r, x, ht, q⟩ => ⟨G, p, Xd, _, r, x, ht, fun ds p1 h1 vs G1 H1 s1 r1 rp1 => by
    split at h1
    · rename_i j
      have e := repL_int (ns := [j]) rp1
      subst e
      exact ⟨j, rfl, h1.1.1, h1.1.2, q _ p1 h1.2 _ G1 H1 s1 r1 itok_rng⟩
    · exact h1.elim⟩
theorem fi_rng2 {u : TDs} (hg : Gl X "range") (hm : X.mg "range" = none) (ha : FA X L [a, b] u) (hs : starEach [a, b] X.env = [(false, eval a X.env), (false, eval b X.env)] := by rfl) (hs2 : starEach [b] X.env = [(false, eval b X.env)] := by rfl) : FI X L tg (.Call (.Name "range" p) [a, b] [] pos) (t_rng2 u) :=
  PI.imp (pi_range2 hg hm ha hs hs2) fun σ H R ⟨G, p, Xd, Rq, r, x, ht, q⟩ => ⟨G, p, Xd, _, r, x, ht, fun ds p1 h1 vs G1 H1 s1 r1 rp1 => by
    split at h1
    · rename_i i j
      have e := repL_int (ns := [i, j]) rp1
      subst e
      exact ⟨i, j, rfl, ⟨h1.1.1, h1.1.2, h1.2.1.1, h1.2.1.2⟩, q _ p1 h1.2.2 _ G1 H1 s1 r1 itok_rng⟩
    · exact h1.elim⟩
theorem fi_rngN {u : TDs} (hg : Gl X "range") (hm : X.mg "range" = none) (ha : FA X L [a, b, c] u) (hs : starEach [a, b, c] X.env = (false, eval a X.env) :: starEach [b, c] X.env := by rfl) (hpl : (backTo pos (starEach [b, c] X.env)).any (·.1) = false := by rfl) : FI X L tg (.Call (.Name "range" p) [a, b, c] [] pos) (t_rngN u) :=
  PI.imp (pi_range3 hg hm ha hs hpl) fun σ H R ⟨G, p, Xd, Rq, r, x, ht, q⟩ => ⟨G, p, Xd, _, r, x, ht, fun ds p1 h1 vs G1 H1 s1 r1 rp1 => by
    split at h1
    · rename_i i j c
      have e := repL_int (ns := [i, j, c]) rp1
      subst e
      obtain ⟨rfl, hi, hj, hR⟩ := h1
      exact ⟨i, j, -1, (i - j).toNat, rfl, RgC.neg hi.1 hi.2 hj.1 hj.2, q _ p1 hR _ G1 H1 s1 r1 itok_rngC⟩
    · exact h1.elim⟩
end
end DD
/-! DDj: targets, statements, loops. -/
namespace DD
open PySem PySem.Spec PyProof.Rows L2
structure ED where
  nx : Pst → Prop
  rt : DV → Pst → Prop
  bk : Pst → Prop := fun _ => False
  ct : Pst → Prop := fun _ => False
  ex : XD := fun _ _ => False
  ro : DV → Pst → Prop := fun _ _ => False
abbrev TSd := ED → Pst → Prop
def Later (K : PySem.W.Frag) (L : Lc) (G : Hp) (q : Pst → Prop) (D : SS → Hp → Prop) : Prop := ∀ p', q p' → ∀ G' σ' H', Same G G' → RL K L G' p' σ' H' → D σ' H'
theorem Later.mono {K : PySem.W.Frag} {L : Lc} {G G' : Hp} {q : Pst → Prop} {D : SS → Hp → Prop} (x : Later K L G q D) (e : Same G G') : Later K L G' q D := fun p' h G2 σ' H' s r => x p' h G2 σ' H' (e.trans s) r
structure EOk (K : PySem.W.Frag) (L : Lc) (G : Hp) (e : ED) (D : Ends) : Prop where
  nx : Later K L G e.nx D.nx
  rt : ∀ d p', e.rt d p' → ∀ v G' σ' H', Same G G' → RL K L G' p' σ' H' → Rep K G' d v → D.rt v H'
  bk : Later K L G e.bk D.bk
  ct : Later K L G e.ct D.ct
  ex : XOk K L G e.ex
  ro : ∀ d p', e.ro d p' → ∀ a G' σ' H', Same G G' → RL K L G' p' σ' H' → OwnH K G' H' a d → Fresh L.F L.bas G' ⟨[], p'.bor⟩ [] a → D.rt (.ref a) H'
theorem EOk.mono {K : PySem.W.Frag} {L : Lc} {G G' : Hp} {e : ED} {D : Ends} (x : EOk K L G e D) (s : Same G G') : EOk K L G' e D :=
  ⟨x.nx.mono s, fun d p' h v G2 σ' H' s2 r => x.rt d p' h v G2 σ' H' (s.trans s2) r, x.bk.mono s, x.ct.mono s, x.ex.mono s, fun d p' h a G2 σ' H' s2 r => x.ro d p' h a G2 σ' H' (s.trans s2) r⟩
def liftS (K : PySem.W.Frag) (L : Lc) (t : TSd) : TS := fun D σ H => ∃ G p e, RL K L G p σ H ∧ EOk K L G e D ∧ t e p
abbrev FS (X : Cx) (L : Lc) (st : Stmt) (t : TSd) : Prop := PS X st (liftS X.K L t)
abbrev FSs (X : Cx) (L : Lc) (st : List Stmt) (t : TSd) : Prop := PSs X st (liftS X.K L t)
abbrev TGd := DV → Pst → (Pst → Prop) → Prop
abbrev TGds := List DV → Pst → (Pst → Prop) → Prop
def liftG (K : PySem.W.Frag) (L : Lc) (t : TGd) : TG := fun v σ H Q => ∃ G p d R, RL K L G p σ H ∧ Rep K G d v ∧ t d p R ∧ Later K L G R Q
def liftGs (K : PySem.W.Frag) (L : Lc) (t : TGds) : TGs := fun vs σ H Q => ∃ G p ds R, RL K L G p σ H ∧ RepL K G ds vs ∧ t ds p R ∧ Later K L G R Q
abbrev FG (X : Cx) (L : Lc) (tg : Expr) (t : TGd) : Prop := PG X tg (liftG X.K L t)
abbrev FGs (X : Cx) (L : Lc) (tg : List Expr) (t : TGds) : Prop := PGs X tg (liftGs X.K L t)
theorem PG.imp {X : Cx} {e : Expr} {t t' : TG} (h : PG X e t) (q : ∀ v σ H Q, t' v σ H Q → t v σ H Q) : PG X e t' := ⟨fun pins s σ H v u Q I r x => h.run pins s σ H v u Q I r (q v σ H Q x)⟩
theorem PGs.imp {X : Cx} {e : List Expr} {t t' : TGs} (h : PGs X e t) (q : ∀ v σ H Q, t' v σ H Q → t v σ H Q) : PGs X e t' := ⟨fun pins s σ H vs us Q I r x => h.run pins s σ H vs us Q I r (q vs σ H Q x)⟩
section
variable {X : Cx} {L : Lc} {e a b c : Expr} {es : List Expr} {t ta tb tc te : TD} {p pos tpos : Pos} {st : Stmt} {sts : List Stmt} {u w : TSd} {tB : TB}
theorem Rel.set' {K : PySem.W.Frag} {F G H : Hp} {bas : List Addr} {p : Pst} {σ : SS} {i : Nat} {v : V} {d : DV} (r : Rel K F bas G p σ H) (q : Rep K G d v) : Rel K F bas G (p.put i (.sh d)) (σ.set i (some v)) H := by
  by_cases hi : i < p.env.length
  · exact r.set q hi
  · have e1 : p.env.set i (.sh d) = p.env := List.set_eq_of_length_le (by omega)
    have e2 : σ.set i (some v) = σ := List.set_eq_of_length_le (by rw [r.len]; omega)
    unfold Pst.put
    rw [e1, e2]
    exact r
theorem Rel.setO' {K : PySem.W.Frag} {F G H : Hp} {bas : List Addr} {p : Pst} {σ : SS} {i : Nat} {a : Addr} {d : DV} (r : Rel K F bas G p σ H) (q : OwnH K G H a d) (f : Fresh F bas G p σ a) : Rel K F bas G (p.put i (.ow d)) (σ.set i (some (.ref a))) H := by
  by_cases hi : i < p.env.length
  · exact r.setO q f hi
  · have e1 : p.env.set i (.ow d) = p.env := List.set_eq_of_length_le (by omega)
    have e2 : σ.set i (some (V.ref a)) = σ := List.set_eq_of_length_le (by rw [r.len]; omega)
    unfold Pst.put
    rw [e1, e2]
    exact r
/-! targets -/
def g_name (i : Nat) : TGd := fun d p R => R (p.put i (.sh d))
theorem fg_name {i : Nat} {x : Str} (h : PG X (.Name x pos) (gName i)) : FG X L (.Name x pos) (g_name i) := PG.imp h fun v σ H Q ⟨G, p, d, R, r, rp, ht, q⟩ => q _ ht G _ H (Same.refl _) (r.set' rp)
def g_nil : TGds := fun ds p R => match ds with
  | [] => R p
  | _ => False
def g_cons (t : TGd) (u : TGds) : TGds := fun ds p R => match ds with
  | d :: r => t d p fun p1 => u r p1 R
  | [] => False
theorem fgs_nil : FGs X L [] g_nil := PGs.imp pgs_nil fun vs σ H Q ⟨G, p, ds, R, r, rp, ht, q⟩ => by
  cases ds with
  | nil => exact ⟨rp, q _ ht G _ H (Same.refl _) r⟩
  | cons d ds => exact ht.elim
theorem fgs_cons {tg : TGd} {tgs : TGds} (h1 : FG X L e tg) (h2 : FGs X L es tgs) (hs : (assignEach (e :: es) X.env).map (·.2) = assign e X.env :: (assignEach es X.env).map (·.2) := by rfl) : FGs X L (e :: es) (g_cons tg tgs) :=
  PGs.imp (pgs_cons h1 h2 hs) fun vs σ H Q ⟨G, p, ds, R, r, rp, ht, q⟩ => by
    cases ds with
    | nil => exact ht.elim
    | cons d ds =>
      obtain ⟨v, us, e1, r1, r2⟩ := rp
      exact ⟨v, us, e1, G, p, d, _, r, r1, ht, fun p1 h1 G1 σ1 H1 s1 rl1 => ⟨G1, p1, ds, R, rl1, r2.mono s1, h1, q.mono s1⟩⟩
def g_tup (n : Nat) (t : TGds) : TGd := fun d p R => match d with
  | .tup ds => ds.length = n ∧ t ds p R
  | _ => False
theorem fg_tup {k : Nat} {tgs : TGds} {n : Nat} (hc : X.calm = true) (h : FGs X L es tgs) (hn : (assignEach es X.env).length = n := by rfl) (hst : (assignEach es X.env).findIdx? (·.1) = none := by rfl) : FG X L (.Tuple es k pos) (g_tup n tgs) :=
  PG.imp (pg_tup hc h hn hst) fun v σ H Q ⟨G, p, d, R, r, rp, ht, q⟩ => by
    cases d with
    | tup ds =>
      obtain ⟨a, vs, e1, h1, h2⟩ := rp
      exact ⟨a, vs, e1, Same.seqT r.sG h1, by rw [h2.length]; exact ht.1, G, p, ds, R, r, h2, ht.2, q⟩
    | _ => exact ht.elim
/-! simple statements -/
def t_skip : TSd := fun e p => e.nx p
def t_seq (t u : TSd) : TSd := fun e p => t { e with nx := fun p' => u e p' } p
theorem fss_nil : FSs X L [] t_skip := PSs.imp pss_nil fun D σ H ⟨G, p, e, r, ok, h⟩ => ok.nx p h G σ H (Same.refl _) r
theorem fss_cons (h1 : FS X L st u) (h2 : FSs X L sts w) : FSs X L (st :: sts) (t_seq u w) := PSs.imp (pss_cons h1 h2) fun D σ H ⟨G, p, e, r, ok, h⟩ =>
  ⟨G, p, { e with nx := fun p' => w e p' }, r, ⟨fun p' h' G' σ' H' s r' => ⟨G', p', e, r', ok.mono s, h'⟩, ok.rt, ok.bk, ok.ct, ok.ex, ok.ro⟩, h⟩
theorem fss_one (h1 : FS X L st u) : FSs X L [st] u := pss_one h1
def t_never : TSd := fun _ _ => False
theorem fs_never : FS X L st t_never := PS.imp ps_never fun D σ H ⟨G, p, e, r, ok, h⟩ => h
theorem fs_pass : FS X L (.Pass pos) t_skip := PS.imp ps_pass fun D σ H ⟨G, p, e, r, ok, h⟩ => ok.nx p h G σ H (Same.refl _) r
def t_brk : TSd := fun e p => e.bk p
def t_cnt : TSd := fun e p => e.ct p
theorem fs_brk : FS X L (.Break pos) t_brk := PS.imp ps_break fun D σ H ⟨G, p, e, r, ok, h⟩ => ok.bk p h G σ H (Same.refl _) r
theorem fs_cnt : FS X L (.Continue pos) t_cnt := PS.imp ps_continue fun D σ H ⟨G, p, e, r, ok, h⟩ => ok.ct p h G σ H (Same.refl _) r
def t_expr (t : TD) : TSd := fun e p => t e.ex p fun _ p1 => e.nx p1
theorem fs_expr (h : FE X L e t) (hs : swapsWith e none pos.line X.env = pure false := by rfl) : FS X L (.Expr e pos) (t_expr t) := PS.imp (ps_expr h hs) fun D σ H ⟨G, p, e, r, ok, h⟩ =>
  ⟨G, p, _, _, r, ok.ex, h, fun d p1 h1 v G1 H1 s1 r1 rp1 => ok.nx p1 h1 G1 σ H1 s1 r1⟩
def t_ret (t : TD) : TSd := fun e p => t e.ex p e.rt
theorem fs_ret (h : FE X L e t) : FS X L (.Return (some e) pos) (t_ret t) := PS.imp (ps_ret h) fun D σ H ⟨G, p, e, r, ok, h⟩ =>
  ⟨G, p, _, _, r, ok.ex, h, fun d p1 h1 v G1 H1 s1 r1 rp1 => ok.rt d p1 h1 v G1 σ H1 s1 r1 rp1⟩
theorem Fresh.out {F G : Hp} {bas : List Addr} {p : Pst} {σ : SS} {a : Addr} (f : Fresh F bas G p σ a) (b : List DV) : Fresh F bas G ⟨[], b⟩ [] a := ⟨f.g, f.f, f.b, fun i d hi => by simp at hi⟩
def t_retO (t : TD) : TSd := fun e p => t e.ex p e.ro
theorem fs_retO (h : FO X L e t) : FS X L (.Return (some e) pos) (t_retO t) := PS.imp (ps_ret h) fun D σ H ⟨G, p, e, r, ok, h⟩ =>
  ⟨G, p, _, _, r, ok.ex, h, fun d p1 h1 a G1 H1 s1 r1 rp1 f1 => ok.ro d p1 h1 a G1 σ H1 s1 r1 rp1 (f1.out _)⟩
def t_retN : TSd := fun e p => e.rt .non p
theorem fs_retN : FS X L (.Return none pos) t_retN := PS.imp ps_retN fun D σ H ⟨G, p, e, r, ok, h⟩ => ok.rt .non p h .non G σ H (Same.refl _) r rfl
def t_if (c : TB) (u w : TSd) : TSd := fun e p => c e.ex p fun k p1 => if k = true then u e p1 else w e p1
theorem fs_if {sa sb : List Stmt} (hc : FT X L c tB) (ha : FSs X L sa u) (hb : FSs X L sb w) : FS X L (.If c sa sb pos) (t_if tB u w) := PS.imp (ps_if hc ha hb) fun D σ H ⟨G, p, e, r, ok, h⟩ =>
  ⟨G, p, _, _, r, ok.ex, h, fun k p1 h1 G1 H1 s1 r1 => by
    cases k with
    | true => exact ⟨G1, p1, e, r1, ok.mono s1, h1⟩
    | false => exact ⟨G1, p1, e, r1, ok.mono s1, h1⟩⟩
/-! assignments -/
def t_set (i : Nat) (t : TD) : TSd := fun e p => t e.ex p fun d p1 => e.nx (p1.put i (.sh d))
def t_setO (i : Nat) (t : TD) : TSd := fun e p => t e.ex p fun d p1 => e.nx (p1.put i (.ow d))
theorem set_imp {i : Nat} : ∀ D σ H, liftS X.K L (t_set i t) D σ H → tAsg (lift X.K L t) (gName i) D σ H := fun D σ H ⟨G, p, e, r, ok, h⟩ =>
  ⟨G, p, _, _, r, ok.ex, h, fun d p1 h1 v G1 H1 s1 r1 rp1 => ok.nx _ h1 G1 _ H1 s1 (r1.set' rp1)⟩
theorem setO_imp {i : Nat} : ∀ D σ H, liftS X.K L (t_setO i t) D σ H → tAsg (liftO X.K L t) (gName i) D σ H := fun D σ H ⟨G, p, e, r, ok, h⟩ =>
  ⟨G, p, _, _, r, ok.ex, h, fun d p1 h1 a G1 H1 s1 r1 rp1 f1 => ok.nx _ h1 G1 _ H1 s1 (r1.setO' rp1 f1)⟩
theorem fs_set {i : Nat} {x : Str} {px : Pos} (hN : X.N.Nodup) (hi : X.N[i]? = some x) (hx : Loc X.env.scope x) (h : FE X L e t) (hf : X.fn x = true ∨ X.env.scope.names.lookup x = some .local) (hs : swapsWith e (some (.Name x px)) pos.line X.env = pure false := by rfl) :
    FS X L (.Assign [.Name x px] e pos) (t_set i t) := PS.imp (ps_set hN hi hx h hs hf) set_imp
theorem fs_setO {i : Nat} {x : Str} {px : Pos} (hN : X.N.Nodup) (hi : X.N[i]? = some x) (hx : Loc X.env.scope x) (h : FO X L e t) (hf : X.fn x = true ∨ X.env.scope.names.lookup x = some .local) (hs : swapsWith e (some (.Name x px)) pos.line X.env = pure false := by rfl) :
    FS X L (.Assign [.Name x px] e pos) (t_setO i t) := PS.imp (ps_set hN hi hx h hs hf) setO_imp
def t_asg (t : TD) (g : TGd) : TSd := fun e p => t e.ex p fun d p1 => g d p1 e.nx
theorem fs_asg {tg : Expr} {g : TGd} (h : FE X L e t) (hg : FG X L tg g) (hs : swapsWithSole [tg] e pos.line X.env = pure false := by rfl) (hw : swappedStores [tg] e X.env = pure none := by rfl) (ha : (assignEach [tg] X.env).map (·.2) = [assign tg X.env] := by rfl) : FS X L (.Assign [tg] e pos) (t_asg t g) :=
  PS.imp (ps_asg h hg hs hw ha) fun D σ H ⟨G, p, e, r, ok, h⟩ => ⟨G, p, _, _, r, ok.ex, h, fun d p1 h1 v G1 H1 s1 r1 rp1 => ⟨G1, p1, d, _, r1, rp1, h1, ok.nx.mono s1⟩⟩
/-! x op= e -/
def t_aug (i : Nat) (t : TD) (o : O2) : TSd := fun e p => match p.env[i]? with
  | some (.sh x) => t e.ex p fun y p1 => o x y fun z => e.nx (p1.put i (.sh z))
  | _ => False
def IpD (X : Cx) (op : Operator) (o : O2) : Prop := OpD X (inplaceOp op) o
theorem ipU (op : Operator) : PIp X op (uR X (inplaceOp op)) := fun pins s σ H x y v u Q I rx ry h => opU (inplaceOp op) pins s σ H x y v u Q I rx ry h
theorem fs_aug {i : Nat} {x : Str} {px : Pos} {op : Operator} {o : O2} (ho : IpD X op o) (hN : X.N.Nodup) (hi : X.N[i]? = some x) (hx : Loc X.env.scope x) (h : FE X L e t) (hf : X.fn x = true ∨ X.env.scope.names.lookup x = some .local) :
    FS X L (.AugAssign (.Name x px) op e pos) (t_aug i t o) := PS.imp (ps_aug hN hi hx h (ipU op) hf) fun D σ H ⟨G, p, e, r, ok, h⟩ => by
  unfold t_aug at h
  split at h
  · rename_i d hd
    obtain ⟨v, hv, rp⟩ := r.sh i d hd
    exact ⟨v, hv, G, p, _, _, r, ok.ex, h, fun y p1 h1 w G1 H1 s1 r1 rp1 => ho L G1 p1 σ H1 d y v w _ _ r1 (rp.mono s1) rp1 h1 fun z hz v2 G2 H2 s2 r2 rp2 => ok.nx _ hz G2 _ H2 (s1.trans s2) (r2.set' rp2)⟩
  · exact h.elim
def o_addI : O2
  | .int i, .int j, R => R (.int (i + j))
  | _, _, _ => False
theorem id_add : IpD X .Add o_addI := fun L G p σ H x y vx vy R Q r rx ry ho q => by
  cases x <;> try exact ho.elim
  cases y <;> try exact ho.elim
  cases (show vx = V.int _ from rx)
  cases (show vy = V.int _ from ry)
  exact ⟨_, iop_add, _, _, rfl, rfl, q.now r ho rfl⟩
theorem id_sub : IpD X .Sub o_sub := fun L G p σ H x y vx vy R Q r rx ry ho q => by
  cases x <;> try exact ho.elim
  cases y <;> try exact ho.elim
  cases (show vx = V.int _ from rx)
  cases (show vy = V.int _ from ry)
  exact ⟨_, iop_sub, _, _, rfl, rfl, q.now r ho rfl⟩
/-! loops -/
def forD (g : TGd) (b : TSd) : List DV → ED → Pst → Prop
  | [], e, p => e.nx p
  | d :: ds, e, p => g d p fun p1 => b { e with nx := fun p2 => forD g b ds e p2, ct := fun p2 => forD g b ds e p2, bk := e.nx } p1
def t_for (ti : TDi) (g : TGd) (b : TSd) : TSd := fun e p => ti e.ex p fun ds p1 => forD g b ds e p1
theorem fs_for {tg iter : Expr} {body : List Stmt} {ti : TDi} {g : TGd} (hp : PassesOwn (model X.prog X.w) X.A X.env X.xe) (hc : X.calm = true) (hi : FI X L tg iter ti) (hg : FG X L tg g) (hb : FSs X L body u)
    (hs : ∀ x, foldedSetIterable iter X.env x = pure x := by intro _; rfl) : FS X L (.For tg iter body [] pos) (t_for ti g u) := PS.imp (ps_for hp hc hi hg hb hs) fun D σ H ⟨G, p, e, r, ok, h⟩ =>
  ⟨G, p, _, _, r, ok.ex, h, fun ds p1 h1 J G1 H1 s1 r1 iok => by
    refine ⟨fun i m σ H => m = ds.length - i ∧ i ≤ ds.length ∧ ∃ G' p', Same G1 G' ∧ RL X.K L G' p' σ H ∧ forD g u (ds.drop i) e p', ⟨ds.length, by simp, Nat.zero_le _, G1, p1, Same.refl _, r1, by simpa using h1⟩, ?_⟩
    rintro i m σ2 H2 ⟨rfl, hi, G2, p2, s2, r2, h2⟩
    obtain ⟨k1, k2, k3⟩ := iok i H2 (s2.trans r2.sG)
    by_cases hlt : i < ds.length
    · refine .inr ⟨k1 hlt, fun σ' H' => ∃ G' p', Same G1 G' ∧ RL X.K L G' p' σ' H' ∧ forD g u (ds.drop (i + 1)) e p', fun σ' H' hn => ⟨ds.length - (i + 1), by omega, rfl, hlt, hn⟩, fun x H' hy => ?_⟩
      obtain ⟨G3, s3, s4, s5, hnew, rp⟩ := k3 ds[i] (List.getElem?_eq_getElem hlt) x H' hy G2 s2 r2.sG
      have r3 := r2.ext s3 s4 s5 hnew
      rw [List.drop_eq_getElem_cons hlt] at h2
      refine ⟨G3, p2, ds[i], _, r3, rp, h2, fun p4 h4 G4 σ4 H4 s6 r4 => ⟨G4, p4, _, r4, ?_, h4⟩⟩
      have sg : Same G1 G4 := (s2.trans s3).trans s6
      have okm := ok.mono (s1.trans sg)
      exact ⟨fun p' h' G' σ' H' s r' => ⟨G', p', sg.trans s, r', h'⟩, okm.rt, okm.nx, fun p' h' G' σ' H' s r' => ⟨G', p', sg.trans s, r', h'⟩, okm.ex, okm.ro⟩
    · have e1 : i = ds.length := by omega
      subst e1
      rw [List.drop_length] at h2
      exact .inl ⟨k2 rfl, ok.nx p2 h2 G2 σ2 H2 (s1.trans s2) r2⟩⟩
def whD (c : TB) (b : TSd) : Nat → ED → Pst → Prop
  | 0, _, _ => False
  | n + 1, e, p => c e.ex p fun k p1 => if k = true then b { e with nx := fun p2 => whD c b n e p2, ct := fun p2 => whD c b n e p2, bk := e.nx } p1 else e.nx p1
def t_while (c : TB) (b : TSd) : TSd := fun e p => ∃ n, whD c b n e p
theorem fs_while {body : List Stmt} (hp : PassesOwn (model X.prog X.w) X.A X.env X.xe) (hc : FT X L c tB) (hb : FSs X L body u) : FS X L (.While c body [] pos) (t_while tB u) := PS.imp (ps_while hp hc hb) fun D σ H ⟨G, p, e, r, ok, n, h⟩ => by
  refine ⟨fun m σ H => ∃ G' p', Same G G' ∧ RL X.K L G' p' σ H ∧ whD tB u m e p', ⟨n, G, p, Same.refl _, r, h⟩, ?_⟩
  rintro m σ2 H2 ⟨G2, p2, s2, r2, h2⟩
  cases m with
  | zero => exact (show False from h2).elim
  | succ m =>
    have okm := ok.mono s2
    refine ⟨G2, p2, _, _, r2, okm.ex, h2, fun k p3 h3 G3 H3 s3 r3 => ?_⟩
    cases k with
    | false => exact okm.nx p3 h3 G3 σ2 H3 s3 r3
    | true =>
      have okm3 := okm.mono s3
      have nx : ∀ G4 σ4 H4 p4, Same G3 G4 → RL X.K L G4 p4 σ4 H4 → whD tB u m e p4 → ∃ G' p', Same G G' ∧ RL X.K L G' p' σ4 H4 ∧ whD tB u m e p' := fun G4 σ4 H4 p4 s4 r4 h4 => ⟨G4, p4, (s2.trans s3).trans s4, r4, h4⟩
      refine ⟨fun σ' H' => ∃ G' p', Same G G' ∧ RL X.K L G' p' σ' H' ∧ whD tB u m e p', fun σ' H' hn => ⟨m, Nat.lt_succ_self _, hn⟩, G3, p3, { e with nx := fun p2 => whD tB u m e p2, ct := fun p2 => whD tB u m e p2, bk := e.nx }, r3, ⟨fun p4 h4 G4 σ4 H4 s4 r4 => nx G4 σ4 H4 p4 s4 r4 h4, okm3.rt, okm3.nx, fun p4 h4 G4 σ4 H4 s4 r4 => nx G4 σ4 H4 p4 s4 r4 h4, okm3.ex, okm3.ro⟩, h3⟩
end
end DD
/-! DDk: what is held apart, comprehensions, own lists written. -/
namespace DD
open PySem PySem.Spec PyProof.Rows L2
section rel
variable {K : PySem.W.Frag} {F G H : Hp} {bas : List Addr} {p : Pst} {σ : SS} {a : Addr} {o : HO}
theorem Rel.hold (r : Rel K F bas G p σ H) (f : Fresh F bas G p σ a) (h : H a = some o) : Rel K (upd F a o) bas G p σ H where
  sF := fun b x e => by
    by_cases hb : b = a
    · subst hb; rw [upd_same] at e; cases e; exact h
    · rw [upd_ne hb] at e; exact r.sF b x e
  sG := r.sG
  dj := fun b x e => by
    by_cases hb : b = a
    · subst hb; exact f.g
    · rw [upd_ne hb] at e; exact r.dj b x e
  len := r.len
  sh := r.sh
  ow := fun i d hi => by
    obtain ⟨b, hb, q, h1, h2, h3⟩ := r.ow i d hi
    have hne : b ≠ a := fun z => f.o i d hi (by rw [hb, z])
    exact ⟨b, hb, q, h1, by rw [upd_ne hne]; exact h2, h3⟩
  di := r.di
  bo := r.bo
  bl := r.bl
  br := fun j b d h1 h2 => by
    obtain ⟨q, h3, h4⟩ := r.br j b d h1 h2
    have hne : b ≠ a := fun z => f.b (z ▸ List.mem_of_getElem? h1)
    exact ⟨q, h3, by rw [upd_ne hne]; exact h4⟩
  nd := r.nd
theorem Rel.unhold (r : Rel K (upd F a o) bas G p σ H) (hf : F a = none) : Rel K F bas G p σ H ∧ H a = some o ∧ Fresh F bas G p σ a := by
  have none_of : ∀ {b : Addr}, upd F a o b = none → F b = none ∧ b ≠ a := fun {b} e => by
    have hb : b ≠ a := fun z => by rw [z, upd_same] at e; cases e
    rw [upd_ne hb] at e
    exact ⟨e, hb⟩
  refine ⟨⟨fun b x e => r.sF b x (by rw [upd_ne (fun z => by rw [z, hf] at e; cases e)]; exact e), r.sG, fun b x e => r.dj b x (by rw [upd_ne (fun z => by rw [z, hf] at e; cases e)]; exact e), r.len, r.sh, fun i d hi => ?_, r.di, r.bo, r.bl, fun j b d h1 h2 => ?_, r.nd⟩, r.sF a o upd_same, ⟨r.dj a o upd_same, hf, fun hm => ?_, fun i d hi hs => ?_⟩⟩
  · obtain ⟨b, hb, q, h1, h2, h3⟩ := r.ow i d hi
    exact ⟨b, hb, q, h1, (none_of h2).1, h3⟩
  · obtain ⟨q, h3, h4⟩ := r.br j b d h1 h2
    exact ⟨q, h3, (none_of h4).1⟩
  · obtain ⟨j, hj, e⟩ := List.mem_iff_getElem.mp hm
    have h1 : bas[j]? = some a := by rw [List.getElem?_eq_getElem hj, e]
    have hb : j < p.bor.length := by rw [← r.bl]; exact hj
    obtain ⟨_, _, h4⟩ := r.br j a _ h1 (List.getElem?_eq_getElem hb)
    exact (none_of h4).2 rfl
  · obtain ⟨b, hb, q, h1, h2, h3⟩ := r.ow i d hi
    rw [hb] at hs
    cases hs
    exact (none_of h2).2 rfl
/-- an object that nobody holds is written -/
theorem Rel.free (r : Rel K F bas G p σ H) (f : Fresh F bas G p σ a) : Rel K F bas G p σ (upd H a o) where
  sF := fun b x e => by rw [upd_ne (fun z => by rw [z, f.f] at e; cases e)]; exact r.sF b x e
  sG := fun b x e => by rw [upd_ne (fun z => by rw [z, f.g] at e; cases e)]; exact r.sG b x e
  dj := r.dj
  len := r.len
  sh := r.sh
  ow := fun i d hi => by
    obtain ⟨b, hb, q, h1, h2, h3⟩ := r.ow i d hi
    have hne : b ≠ a := fun z => f.o i d hi (by rw [hb, z])
    exact ⟨b, hb, q.mono (Same.refl _) (fun u hu => by rw [upd_ne hne]; exact hu), h1, h2, h3⟩
  di := r.di
  bo := r.bo
  bl := r.bl
  br := fun j b d h1 h2 => by
    obtain ⟨q, h3, h4⟩ := r.br j b d h1 h2
    have hne : b ≠ a := fun z => f.b (z ▸ List.mem_of_getElem? h1)
    exact ⟨q.mono (Same.refl _) (fun u hu => by rw [upd_ne hne]; exact hu), h3, h4⟩
  nd := r.nd
end rel
/-! ### slots forgotten -/
def wipeE (env : List Sl) : List Nat → List Sl
  | [] => env
  | v :: vs => (wipeE env vs).set v .un
theorem wipeE_out {env : List Sl} {i : Nat} : ∀ {vs : List Nat}, i ∉ vs → (wipeE env vs)[i]? = env[i]?
  | [], _ => rfl
  | v :: vs, h => by
    have h1 : v ≠ i := fun e => h (e ▸ List.mem_cons_self)
    have h2 : i ∉ vs := fun e => h (List.mem_cons_of_mem _ e)
    rw [wipeE, List.getElem?_set_ne h1, wipeE_out h2]
theorem wipeE_length (env : List Sl) : ∀ vs : List Nat, (wipeE env vs).length = env.length
  | [] => rfl
  | v :: vs => by rw [wipeE, List.length_set, wipeE_length env vs]
theorem wipeE_in {env : List Sl} {i : Nat} : ∀ {vs : List Nat}, i ∈ vs → (wipeE env vs)[i]? = env[i]?.map fun _ => Sl.un
  | v :: vs, h => by
    by_cases hv : v = i
    · subst hv
      by_cases hl : v < env.length
      · rw [wipeE, List.getElem?_set_self (by rw [wipeE_length]; exact hl), List.getElem?_eq_getElem hl] <;> rfl
      · rw [wipeE, List.getElem?_eq_none (by rw [List.length_set, wipeE_length]; omega), List.getElem?_eq_none (by omega)]
        rfl
    · have h2 : i ∈ vs := by
        rcases List.mem_cons.mp h with z | z
        · exact absurd z.symm hv
        · exact z
      rw [wipeE, List.getElem?_set_ne hv, wipeE_in h2]
theorem wipe_in {σ : SS} {i : Nat} : ∀ {vs : List Nat}, i ∈ vs → (wipe σ vs)[i]? = σ[i]?.map fun _ => none
  | v :: vs, h => by
    by_cases hv : v = i
    · subst hv
      by_cases hl : v < σ.length
      · rw [wipe, List.getElem?_set_self (by rw [wipe_length]; exact hl), List.getElem?_eq_getElem hl] <;> rfl
      · rw [wipe, List.getElem?_eq_none (by rw [List.length_set, wipe_length]; omega), List.getElem?_eq_none (by omega)]
        rfl
    · have h2 : i ∈ vs := by
        rcases List.mem_cons.mp h with z | z
        · exact absurd z.symm hv
        · exact z
      rw [wipe, List.getElem?_set_ne hv, wipe_in h2]
theorem wipe_set {σ : SS} {i : Nat} {x : Option V} {vs : List Nat} (h : i ∈ vs) : wipe (σ.set i x) vs = wipe σ vs := by
  refine List.ext_getElem? fun j => ?_
  by_cases hj : j ∈ vs
  · rw [wipe_in hj, wipe_in hj]
    by_cases hij : i = j
    · subst hij
      by_cases hl : i < σ.length
      · rw [List.getElem?_set_self hl, List.getElem?_eq_getElem hl] <;> rfl
      · rw [List.getElem?_eq_none (by rw [List.length_set]; omega), List.getElem?_eq_none (by omega)]
    · rw [List.getElem?_set_ne hij]
  · rw [wipe_out hj, wipe_out hj, List.getElem?_set_ne (fun (e : i = j) => hj (e ▸ h))]
section rel
variable {K : PySem.W.Frag} {F G H : Hp} {bas : List Addr} {p : Pst} {σ : SS} {vs : List Nat}
theorem wipeE_some {env : List Sl} {i : Nat} {s : Sl} (h : (wipeE env vs)[i]? = some s) (hs : s ≠ .un) : i ∉ vs ∧ env[i]? = some s := by
  by_cases hi : i ∈ vs
  · rw [wipeE_in hi] at h
    cases e : env[i]? with
    | none => rw [e] at h; cases h
    | some z => rw [e] at h; exact absurd (Option.some.inj h).symm hs
  · exact ⟨hi, by rw [← wipeE_out hi]; exact h⟩
theorem Rel.wipe (r : Rel K F bas G p σ H) : Rel K F bas G ⟨wipeE p.env vs, p.bor⟩ (wipe σ vs) H where
  sF := r.sF
  sG := r.sG
  dj := r.dj
  len := by show (L2.wipe σ vs).length = (wipeE p.env vs).length; rw [wipe_length, wipeE_length]; exact r.len
  sh := fun i d hi => by
    obtain ⟨h1, h2⟩ := wipeE_some hi (by intro z; cases z)
    obtain ⟨v, hv, q⟩ := r.sh i d h2
    exact ⟨v, by rw [wipe_out h1]; exact hv, q⟩
  ow := fun i d hi => by
    obtain ⟨h1, h2⟩ := wipeE_some hi (by intro z; cases z)
    obtain ⟨v, hv, q⟩ := r.ow i d h2
    exact ⟨v, by rw [wipe_out h1]; exact hv, q⟩
  di := fun i j d e hij hi hj => by
    obtain ⟨h1, h2⟩ := wipeE_some hi (by intro z; cases z)
    obtain ⟨h3, h4⟩ := wipeE_some hj (by intro z; cases z)
    rw [wipe_out h1, wipe_out h3]
    exact r.di i j d e hij h2 h4
  bo := fun i j hi => by
    obtain ⟨h1, h2⟩ := wipeE_some hi (by intro z; cases z)
    obtain ⟨a, ha, hs⟩ := r.bo i j h2
    exact ⟨a, ha, by rw [wipe_out h1]; exact hs⟩
  bl := r.bl
  br := r.br
  nd := r.nd
/-- no own, no lent thing in these slots -/
def NoOwn (env : List Sl) : List Nat → Prop
  | [] => True
  | v :: vs => (match env[v]? with
    | some (.ow _) => False
    | some (.bo _) => False
    | _ => True) ∧ NoOwn env vs
theorem NoOwn.get {env : List Sl} : ∀ {vs : List Nat} {i : Nat}, NoOwn env vs → i ∈ vs → (∀ d, env[i]? ≠ some (.ow d)) ∧ ∀ j, env[i]? ≠ some (.bo j)
  | v :: vs, i, h, hi => by
    by_cases hv : i = v
    · subst hv
      have h1 := h.1
      exact ⟨fun d e => by rw [e] at h1; exact h1, fun j e => by rw [e] at h1; exact h1⟩
    · rcases List.mem_cons.mp hi with z | z
      · exact absurd z hv
      · exact NoOwn.get h.2 z
/-- the slots come back -/
theorem Rel.unwipe {G0 H0 : Hp} {env : List Sl} {b0 b : List DV} (r0 : Rel K F bas G0 ⟨env, b0⟩ σ H0) (s : Same G0 G) (r : Rel K F bas G ⟨wipeE env vs, b⟩ (L2.wipe σ vs) H) (hn : NoOwn env vs) : Rel K F bas G ⟨env, b⟩ σ H where
  sF := r.sF
  sG := r.sG
  dj := r.dj
  len := r0.len
  sh := fun i d hi => by
    obtain ⟨v, hv, q⟩ := r0.sh i d hi
    exact ⟨v, hv, q.mono s⟩
  ow := fun i d hi => by
    have h1 : i ∉ vs := fun z => (hn.get z).1 d hi
    obtain ⟨v, hv, q⟩ := r.ow i d (by rw [wipeE_out h1]; exact hi)
    exact ⟨v, by rw [← wipe_out h1]; exact hv, q⟩
  di := r0.di
  bo := fun i j hi => r0.bo i j hi
  bl := r.bl
  br := r.br
  nd := r.nd
end rel
/-! ### targets that change just these slots -/
def liftGv (K : PySem.W.Frag) (L : Lc) (vs : List Nat) (t : TGd) : TG := fun v σ H Q => ∃ G p d R, RL K L G p σ H ∧ Rep K G d v ∧ t d p R ∧ ∀ p', R p' → ∀ G' σ' H', Same G G' → RL K L G' p' σ' H' → wipe σ' vs = wipe σ vs → Q σ' H'
def liftGvs (K : PySem.W.Frag) (L : Lc) (vs : List Nat) (t : TGds) : TGs := fun ws σ H Q => ∃ G p ds R, RL K L G p σ H ∧ RepL K G ds ws ∧ t ds p R ∧ ∀ p', R p' → ∀ G' σ' H', Same G G' → RL K L G' p' σ' H' → wipe σ' vs = wipe σ vs → Q σ' H'
abbrev FGv (X : Cx) (L : Lc) (vs : List Nat) (tg : Expr) (t : TGd) : Prop := PG X tg (liftGv X.K L vs t)
abbrev FGvs (X : Cx) (L : Lc) (vs : List Nat) (tg : List Expr) (t : TGds) : Prop := PGs X tg (liftGvs X.K L vs t)
section
variable {X : Cx} {L : Lc} {e a b c : Expr} {es : List Expr} {t ta tb tc te : TD} {p pos tpos : Pos} {vs : List Nat} {tB : TB}
theorem fgv_name {i : Nat} {x : Str} (hi : i ∈ vs) (h : PG X (.Name x pos) (gName i)) : FGv X L vs (.Name x pos) (g_name i) := PG.imp h fun v σ H Q ⟨G, p, d, R, r, rp, ht, q⟩ => q _ ht G _ H (Same.refl _) (r.set' rp) (wipe_set hi)
theorem fgvs_nil : FGvs X L vs [] g_nil := PGs.imp pgs_nil fun ws σ H Q ⟨G, p, ds, R, r, rp, ht, q⟩ => by
  cases ds with
  | nil => exact ⟨rp, q _ ht G _ H (Same.refl _) r rfl⟩
  | cons d ds => exact ht.elim
theorem fgvs_cons {tg : TGd} {tgs : TGds} (h1 : FGv X L vs e tg) (h2 : FGvs X L vs es tgs) (hs : (assignEach (e :: es) X.env).map (·.2) = assign e X.env :: (assignEach es X.env).map (·.2) := by rfl) : FGvs X L vs (e :: es) (g_cons tg tgs) :=
  PGs.imp (pgs_cons h1 h2 hs) fun ws σ H Q ⟨G, p, ds, R, r, rp, ht, q⟩ => by
    cases ds with
    | nil => exact ht.elim
    | cons d ds =>
      obtain ⟨v, us, e1, r1, r2⟩ := rp
      exact ⟨v, us, e1, G, p, d, _, r, r1, ht, fun p1 h1 G1 σ1 H1 s1 rl1 w1 => ⟨G1, p1, ds, R, rl1, r2.mono s1, h1, fun p2 h2 G2 σ2 H2 s2 rl2 w2 => q p2 h2 G2 σ2 H2 (s1.trans s2) rl2 (w2.trans w1)⟩⟩
theorem fgv_tup {k : Nat} {tgs : TGds} {n : Nat} (hc : X.calm = true) (h : FGvs X L vs es tgs) (hn : (assignEach es X.env).length = n := by rfl) (hst : (assignEach es X.env).findIdx? (·.1) = none := by rfl) : FGv X L vs (.Tuple es k pos) (g_tup n tgs) :=
  PG.imp (pg_tup hc h hn hst) fun v σ H Q ⟨G, p, d, R, r, rp, ht, q⟩ => by
    cases d with
    | tup ds =>
      obtain ⟨a, ws, e1, h1, h2⟩ := rp
      exact ⟨a, ws, e1, Same.seqT r.sG h1, by rw [h2.length]; exact ht.1, G, p, ds, R, r, h2, ht.2, q⟩
    | _ => exact ht.elim

/-! ### comprehensions -/
abbrev FTs (X : Cx) (L : Lc) (ifs : List Expr) (t : TB) : Prop := PTs X ifs (liftT X.K L t)
def t_yes : TB := fun _ p R => R true p
theorem PTs.imp {ifs : List Expr} {t t' : TT} (h : PTs X ifs t) (q : ∀ σ H Q, t' σ H Q → t σ H Q) : PTs X ifs t' := ⟨fun pins s σ H Q I x => h.run pins s σ H Q I (q σ H Q x)⟩
theorem fts_nil : FTs X L [] t_yes := PTs.imp pts_nil fun σ H Q ⟨G, p, Xd, R, r, x, ht, q⟩ => q true p ht G H (Same.refl _) r
theorem fts_one (h : FT X L e tB) : FTs X L [e] tB := pts_one h
def lcD (g : TGd) (tt : TB) (te : TD) (vs : List Nat) (env : List Sl) : List DV → List DV → List DV → (List DV → List DV → Prop) → Prop
  | [], bor, acc, k => k acc bor
  | d :: ds, bor, acc, k => g d ⟨wipeE env vs, bor⟩ fun p2 => tt (fun _ _ => False) p2 fun b p3 =>
      if b = true then te (fun _ _ => False) p3 fun y p4 => wipeE p4.env vs = wipeE env vs ∧ acc.length < sizeLine ∧ lcD g tt te vs env ds p4.bor (acc ++ [y]) k
      else wipeE p3.env vs = wipeE env vs ∧ lcD g tt te vs env ds p3.bor acc k
def t_lc (ti : TDi) (g : TGd) (tt : TB) (te : TD) (vs : List Nat) : TD := fun Xd p R => ti Xd p fun ds p1 => NoOwn p1.env vs ∧ lcD g tt te vs p1.env ds p1.bor [] fun acc bor => R (.lst acc) ⟨p1.env, bor⟩

theorem wipe_wipe2 {σ : SS} {vs : List Nat} : L2.wipe (L2.wipe σ vs) vs = L2.wipe σ vs := List.ext_getElem? fun j => by
  by_cases hj : j ∈ vs
  · rw [wipe_in hj, wipe_in hj]
    cases σ[j]? <;> rfl
  · rw [wipe_out hj]
/-- over whatever the callers hold -/
def uE (K : PySem.W.Frag) (E : XK) (t : TD) : TE := fun σ H Q => ∃ F bas, lift K ⟨F, bas, E⟩ t σ H Q
def uT (K : PySem.W.Frag) (E : XK) (t : TB) : TT := fun σ H Q => ∃ F bas, liftT K ⟨F, bas, E⟩ t σ H Q
def uG (K : PySem.W.Frag) (E : XK) (vs : List Nat) (t : TGd) : TG := fun v σ H Q => ∃ F bas, liftGv K ⟨F, bas, E⟩ vs t v σ H Q
theorem pe_u {X : Cx} {E : XK} {e : Expr} {t : TD} (h : ∀ F bas, FE X ⟨F, bas, E⟩ e t) : PE X e (uE X.K E t) := ⟨fun pins s σ H Q I ⟨F, bas, x⟩ => (h F bas).run pins s σ H Q I x⟩
theorem pt_u {X : Cx} {E : XK} {e : List Expr} {t : TB} (h : ∀ F bas, FTs X ⟨F, bas, E⟩ e t) : PTs X e (uT X.K E t) := ⟨fun pins s σ H Q I ⟨F, bas, x⟩ => (h F bas).run pins s σ H Q I x⟩
theorem pg_u {X : Cx} {E : XK} {vs : List Nat} {e : Expr} {t : TGd} (h : ∀ F bas, FGv X ⟨F, bas, E⟩ vs e t) : PG X e (uG X.K E vs t) := ⟨fun pins s σ H v u Q I r ⟨F, bas, x⟩ => (h F bas).run pins s σ H v u Q I r x⟩
theorem Fresh.wipe {F G : Hp} {bas : List Addr} {p : Pst} {σ : SS} {D : Addr} {vs : List Nat} (f : Fresh F bas G p σ D) : Fresh F bas G ⟨wipeE p.env vs, p.bor⟩ (L2.wipe σ vs) D := ⟨f.g, f.f, f.b, fun i d hi => by
  obtain ⟨h1, h2⟩ := wipeE_some hi (by intro z; cases z)
  rw [wipe_out h1]
  exact f.o i d h2⟩
theorem Fresh.unwipe {F G : Hp} {bas : List Addr} {env : List Sl} {b b' : List DV} {σ : SS} {D : Addr} {vs : List Nat} (f : Fresh F bas G ⟨wipeE env vs, b⟩ (L2.wipe σ vs) D) (hn : NoOwn env vs) : Fresh F bas G ⟨env, b'⟩ σ D := ⟨f.g, f.f, f.b, fun i d hi => by
  have h1 : i ∉ vs := fun z => (hn.get z).1 d hi
  have := f.o i d (by rw [wipeE_out h1]; exact hi)
  rwa [wipe_out h1] at this⟩
theorem Rel.wiped {K : PySem.W.Frag} {F G H : Hp} {bas : List Addr} {p : Pst} {σ σ0 : SS} {env : List Sl} {vs : List Nat} (r : Rel K F bas G p σ H) (h1 : wipeE p.env vs = wipeE env vs) (h2 : L2.wipe σ vs = L2.wipe σ0 vs) : Rel K F bas G ⟨wipeE env vs, p.bor⟩ (L2.wipe σ0 vs) H := by
  rw [← h1, ← h2]; exact r.wipe
theorem lc_imp {K : PySem.W.Frag} {L : Lc} {ti : TDi} {g : TGd} {tt : TB} {te : TD} : ∀ σ H Q, liftO K L (t_lc ti g tt te vs) σ H Q →
    tLc (liftI K L ti) (uG K L.E vs g) (uT K L.E tt) (uE K L.E te) vs σ H Q := fun σ H Q ⟨G, p, Xd, R, r, x, ht, q⟩ => by
  refine ⟨G, p, Xd, _, r, x, ht, fun ds p1 h1 J G1 H1 s1 r1 iok D hD => ?_⟩
  obtain ⟨hno, h1⟩ := h1
  let Iv : Nat → Hp → Prop := fun i Hh => ∃ G' bor acc vacc, Same G1 G' ∧ Hh D = some (.lst vacc) ∧ RepL K G' acc vacc ∧ Fresh L.F L.bas G' ⟨wipeE p1.env vs, bor⟩ (L2.wipe σ vs) D ∧
    RL K L G' ⟨wipeE p1.env vs, bor⟩ (L2.wipe σ vs) Hh ∧ lcD g tt te vs p1.env (ds.drop i) bor acc fun acc bor => R (.lst acc) ⟨p1.env, bor⟩
  refine ⟨fun i m Hh => m = ds.length - i ∧ i ≤ ds.length ∧ Iv i Hh, ⟨ds.length, by simp, Nat.zero_le _, G1, p1.bor, [], [], Same.refl _, upd_same, rfl, (r1.fresh hD).wipe, (r1.grow (same_upd hD)).wipe, h1⟩, ?_⟩
  rintro i m H2 ⟨rfl, hi, G2, bor, acc, vacc, s2, hD2, ra, f2, r2, h2⟩
  obtain ⟨k1, k2, k3⟩ := iok i H2 (s2.trans r2.sG)
  by_cases hlt : i < ds.length
  · refine .inr ⟨k1 hlt, Iv (i + 1), fun H' hv => ⟨ds.length - (i + 1), by omega, rfl, hlt, hv⟩, fun y H' hy => ?_⟩
    obtain ⟨G3, s3, s4, s5, hnew, rp⟩ := k3 ds[i] (List.getElem?_eq_getElem hlt) y H' hy G2 s2 r2.sG
    have r3 := r2.ext s3 s4 s5 hnew
    have hD3 := s5 _ _ hD2
    have f3 : Fresh L.F L.bas G3 ⟨wipeE p1.env vs, bor⟩ (L2.wipe σ vs) D := by
      refine ⟨?_, f2.f, f2.b, f2.o⟩
      cases e : G3 D with
      | none => rfl
      | some o =>
        rcases hnew D o e with z | z
        · rw [f2.g] at z; cases z
        · rw [hD2] at z; cases z
    have r4 := r3.hold f3 hD3
    rw [List.drop_eq_getElem_cons hlt] at h2
    refine ⟨_, L.bas, G3, _, ds[i], _, r4, rp, h2, fun p4 h4 G4 σ4 H4 s6 r5 hw => ⟨hw.trans wipe_wipe2, _, L.bas, G4, p4, _, _, r5, XOk.no, h4, fun b p5 h5 G5 H5 s7 r6 => ?_⟩⟩
    have hw := hw.trans wipe_wipe2
    cases b with
    | false =>
      have h5 := h5
      simp only [Bool.false_eq_true, if_false] at h5 ⊢
      obtain ⟨e5, h5⟩ := h5
      obtain ⟨r7, hD7, f7⟩ := (r6.wiped e5 hw).unhold f3.f
      exact ⟨G5, p5.bor, acc, vacc, ((s2.trans s3).trans s6).trans s7, hD7, ra.mono ((s3.trans s6).trans s7), f7, r7, h5⟩
    | true =>
      have h5 := h5
      simp only [if_true] at h5 ⊢
      refine ⟨_, L.bas, G5, p5, _, _, r6, XOk.no, h5, fun d p6 h6 v G6 H6 s8 r7 rp6 => ?_⟩
      obtain ⟨e6, hlen, h6⟩ := h6
      obtain ⟨r8, hD8, f8⟩ := (r7.wiped e6 hw).unhold f3.f
      have ra8 : RepL K G6 acc vacc := ra.mono (((s3.trans s6).trans s7).trans s8)
      refine ⟨vacc, hD8, by rw [ra8.length]; exact hlen, G6, p6.bor, acc ++ [d], vacc ++ [v], (((s2.trans s3).trans s6).trans s7).trans s8, upd_same, ra8.append ⟨v, [], rfl, rp6, rfl⟩, f8, r8.free f8, h6⟩
  · have e1 : i = ds.length := by omega
    subst e1
    rw [List.drop_length] at h2
    have r5 := Rel.unwipe (env := p1.env) (b0 := p1.bor) (σ := σ) r1 s2 r2 hno
    exact .inl ⟨k2 rfl, q (.lst acc) ⟨p1.env, bor⟩ h2 D G2 H2 (s1.trans s2) r5 ⟨vacc, hD2, ra⟩ (f2.unwipe hno)⟩
theorem fo_lc {elt tg iter : Expr} {ifs : List Expr} {scope : Scope} {own : List (Str × Nat)} {pos : Pos} {ti : TDi} {g : TGd} {tt : TB} {te : TD} (hc : X.calm = true) (hN : X.N.Nodup) (hi : FI X L tg iter ti) (ok : BlkOk X.N X.env.scope scope own)
    (hg : ∀ (s : Shared) (H : Hp) (C : Addr) (cl : List (Str × Addr)) (fp : List Addr) F bas, FGv (X.blk s H scope (compEnvC scope cl C X.env) fp) ⟨F, bas, L.E⟩ (own.map (·.2)) tg g)
    (htt : ∀ (s : Shared) (H : Hp) (C : Addr) (cl : List (Str × Addr)) (fp : List Addr) F bas, FTs (X.blk s H scope (compEnvC scope cl C X.env) fp) ⟨F, bas, L.E⟩ ifs tt)
    (he : ∀ (s : Shared) (H : Hp) (C : Addr) (cl : List (Str × Addr)) (fp : List Addr) F bas, FE (X.blk s H scope (compEnvC scope cl C X.env) fp) ⟨F, bas, L.E⟩ elt te) (hs : ∀ x, foldedSetIterable iter X.env x = pure x := by intro _; rfl) :
    FO X L (.ListComp elt [⟨tg, iter, ifs, 0⟩] scope pos) (t_lc ti g tt te (own.map (·.2))) :=
  PE.imp (pe_lc hc hN hi ok (fun s H C cl fp => pg_u (hg s H C cl fp)) (fun s H C cl fp => pt_u (htt s H C cl fp)) (fun s H C cl fp => pe_u (he s H C cl fp)) hs) lc_imp
theorem fs_setLc {i : Nat} {y : Str} {py : Pos} {elt tg iter : Expr} {ifs : List Expr} {scope : Scope} {own : List (Str × Nat)} {pos spos : Pos} {ti : TDi} {g : TGd} {tt : TB} {te : TD} (hc : X.calm = true) (hN : X.N.Nodup) (hy : X.N[i]? = some y) (hyl : X.env.scope.names.lookup y = some .local)
    (hsw : swapsWith (.ListComp elt [⟨tg, iter, ifs, 0⟩] scope pos) (some (.Name y py)) spos.line X.env = pure true) (hi : FI X L tg iter ti) (ok : BlkOk X.N X.env.scope scope own)
    (hg : ∀ (s : Shared) (H : Hp) (C : Addr) (cl : List (Str × Addr)) (fp : List Addr) F bas, FGv (X.blk s H scope (compEnvC scope cl C X.env) fp) ⟨F, bas, L.E⟩ (own.map (·.2)) tg g)
    (htt : ∀ (s : Shared) (H : Hp) (C : Addr) (cl : List (Str × Addr)) (fp : List Addr) F bas, FTs (X.blk s H scope (compEnvC scope cl C X.env) fp) ⟨F, bas, L.E⟩ ifs tt)
    (he : ∀ (s : Shared) (H : Hp) (C : Addr) (cl : List (Str × Addr)) (fp : List Addr) F bas, FE (X.blk s H scope (compEnvC scope cl C X.env) fp) ⟨F, bas, L.E⟩ elt te) (hs : ∀ x, foldedSetIterable iter X.env x = pure x := by intro _; rfl) :
    FS X L (.Assign [.Name y py] (.ListComp elt [⟨tg, iter, ifs, 0⟩] scope pos) spos) (t_setO i (t_lc ti g tt te (own.map (·.2)))) :=
  PS.imp (ps_setLc hc hN hy hyl hsw hi ok (fun s H C cl fp => pg_u (hg s H C cl fp)) (fun s H C cl fp => pt_u (htt s H C cl fp)) (fun s H C cl fp => pe_u (he s H C cl fp)) hs) fun D σ H h => by
    obtain ⟨G, p, e, r, ok, h⟩ := h
    refine lc_imp (L := L) (te := te) (g := g) (tt := tt) (ti := ti) σ H _ ⟨G, p, _, _, r, ok.ex, h, fun d p1 h1 a G1 H1 s1 r1 rp1 f1 => ok.nx _ h1 G1 _ H1 s1 (r1.setO' rp1 f1)⟩
end
end DD
/-! DDl: own lists written, mixed results, assignments of several names. -/
namespace DD
open PySem PySem.Spec PyProof.Rows L2
/-- what a slot holds that may be written -/
def Pst.own (p : Pst) (i : Nat) : Option DV := match p.env[i]? with
  | some (.ow d) => some d
  | some (.bo j) => p.bor[j]?
  | _ => none
def Pst.upL (p : Pst) (i : Nat) (d : DV) : Pst := match p.env[i]? with
  | some (.ow _) => p.put i (.ow d)
  | some (.bo j) => { p with bor := p.bor.set j d }
  | _ => p
def Pst.ownL (p : Pst) (i : Nat) (k : List DV → Prop) : Prop := match p.own i with
  | some (.lst ds) => k ds
  | _ => False
theorem Pst.ownL_of {p : Pst} {i : Nat} {k : List DV → Prop} (h : p.ownL i k) : ∃ ds, p.own i = some (.lst ds) ∧ k ds := by
  unfold Pst.ownL at h
  split at h
  · rename_i ds e; exact ⟨ds, e, h⟩
  · exact h.elim
section rel
variable {K : PySem.W.Frag} {F G H : Hp} {bas : List Addr} {p : Pst} {σ : SS} {i : Nat} {d d' : DV}
theorem Rel.own (r : Rel K F bas G p σ H) (h : p.own i = some d) : ∃ a, σ[i]? = some (some (.ref a)) ∧ OwnH K G H a d ∧ G a = none ∧ F a = none := by
  unfold Pst.own at h
  split at h
  · rename_i e he
    cases h
    obtain ⟨a, hs, q, hg, hf, _⟩ := r.ow i _ he
    exact ⟨a, hs, q, hg, hf⟩
  · rename_i j he
    obtain ⟨a, ha, hs⟩ := r.bo i j he
    obtain ⟨q, hg, hf⟩ := r.br j a d ha h
    exact ⟨a, hs, q, hg, hf⟩
  · cases h
theorem Rel.upL {a : Addr} {o : HO} (r : Rel K F bas G p σ H) (h : p.own i = some d) (hs : σ[i]? = some (some (.ref a))) (q : OwnH K G (upd H a o) a d') : Rel K F bas G (p.upL i d') σ (upd H a o) := by
  unfold Pst.own at h
  split at h
  · rename_i e he
    cases h
    have := r.write he hs q
    unfold Pst.upL
    rw [he]
    exact this
  · rename_i j he
    obtain ⟨b, hb, hs2⟩ := r.bo i j he
    rw [hs] at hs2
    cases hs2
    have := r.writeB hb q
    unfold Pst.upL
    rw [he]
    exact this
  · cases h
theorem Rel.ownL {ds : List DV} (r : Rel K F bas G p σ H) (h : p.own i = some (.lst ds)) : ∃ a vs, σ[i]? = some (some (.ref a)) ∧ H a = some (.lst vs) ∧ RepL K G ds vs := by
  obtain ⟨a, hs, ⟨vs, h1, h2⟩, _⟩ := r.own h
  exact ⟨a, vs, hs, h1, h2⟩
/-- own out of a slot -/
theorem Rel.take (r : Rel K F bas G p σ H) (hi : p.env[i]? = some (.ow d)) : ∃ a, σ[i]? = some (some (.ref a)) ∧ OwnH K G H a d ∧ Fresh F bas G (p.put i .un) σ a ∧ Rel K F bas G (p.put i .un) σ H := by
  obtain ⟨a, hs, q, hg, hf, hb⟩ := r.ow i d hi
  have hlt : i < p.env.length := (List.getElem?_eq_some_iff.mp hi).1
  have key : ∀ (j : Nat) (s : Sl), (p.put i .un).env[j]? = some s → s ≠ .un → i ≠ j ∧ p.env[j]? = some s := fun j s hj hs => by
    have hj : (p.env.set i .un)[j]? = some s := hj
    by_cases hij : i = j
    · subst hij; rw [List.getElem?_set_self hlt] at hj; exact absurd (Option.some.inj hj).symm hs
    · rw [List.getElem?_set_ne hij] at hj; exact ⟨hij, hj⟩
  refine ⟨a, hs, q, ⟨hg, hf, hb, fun j e hj hsj => ?_⟩, ⟨r.sF, r.sG, r.dj, ?_, fun j e hj => ?_, fun j e hj => ?_, fun j k e e' hjk hj hk => ?_, fun j e hj => ?_, r.bl, r.br, r.nd⟩⟩
  · obtain ⟨h1, h2⟩ := key j _ hj (by intro z; cases z)
    exact r.di i j d e h1 hi h2 (by rw [hs, hsj])
  · show σ.length = (p.env.set i .un).length
    rw [List.length_set]; exact r.len
  · exact r.sh j e (key j _ hj (by intro z; cases z)).2
  · exact r.ow j e (key j _ hj (by intro z; cases z)).2
  · exact r.di j k e e' hjk (key j _ hj (by intro z; cases z)).2 (key k _ hk (by intro z; cases z)).2
  · exact r.bo j e (key j _ hj (by intro z; cases z)).2
end rel
section
variable {X : Cx} {L : Lc} {e a b c : Expr} {es : List Expr} {t ta tb tc te tk : TD} {p pos tpos px apos : Pos} {i : Nat} {x : Str}
/-- an own name is given away -/
def t_take (i : Nat) : TD := fun _ p R => match p.env[i]? with
  | some (.ow d) => R d (p.put i .un)
  | _ => False
theorem fo_take (h : PE X (.Name x pos) (tVar i)) : FO X L (.Name x pos) (t_take i) := PE.imp h fun σ H Q ⟨G, p, Xd, R, r, x, ht, q⟩ => by
  unfold t_take at ht
  split at ht
  · rename_i d hd
    obtain ⟨a, hs, ho, f, r'⟩ := r.take hd
    exact ⟨_, hs, q d _ ht a G H (Same.refl _) r' ho f⟩
  · exact ht.elim
def one (k : DV → Pst → Prop) : List DV → Pst → Prop
  | [d], p => k d p
  | _, _ => False
theorem one_of {k : DV → Pst → Prop} {ds : List DV} {p : Pst} (h : one k ds p) : ∃ d, ds = [d] ∧ k d p := by
  match ds, h with
  | [d], h => exact ⟨d, rfl, h⟩
/-- x.append(e) -/
def t_app (i : Nat) (t : TD) : TD := fun Xd p R => p.ownL i fun _ => t Xd p fun d p1 => p1.ownL i fun ds => ds.length < sizeLine ∧ R .non (p1.upL i (.lst (ds ++ [d])))
theorem fe_app (hx : PE X (.Name x px) (tVar i)) (he : FE X L e t) (hbase : attributeBase (.Name x px) "append" X.env (eval (.Name x px) X.env) = eval (.Name x px) X.env := by rfl)
    (hfew : ((backTo pos (starEach [e] X.env)).all (fun x => !x.1) && (backToKw pos (keywordEach [] X.env)).all (fun x => x.1.isSome)
      && decide (([e] : List Expr).length + ([] : List Keyword).length + (if ([] : List Keyword).isEmpty then 0 else 1) < 30)) = true := by rfl)
    (hline : (apos.endLine == pos.line) = true := by rfl) (hs : starEach [e] X.env = (false, eval e X.env) :: starEach [] X.env := by rfl) (hplain : (backTo pos (starEach [] X.env)).any (·.1) = false := by rfl) :
    FE X L (.Call (.Attribute (.Name x px) "append" apos) [e] [] pos) (t_app i t) :=
  PE.imp (pe_bm PySem.F.plainAttrs_list PySem.F.slot_list_append PySem.F.type_list_append mt_append hx (fa_cons he fa_nil hs) hbase hfew hline hs hplain) fun σ H Q ⟨G, p, Xd, R, r, x, ht, q⟩ => by
    obtain ⟨ds0, h0, ht⟩ := Pst.ownL_of ht
    obtain ⟨a, vs0, hs, hH, _⟩ := r.ownL h0
    refine ⟨_, hs, .inl ⟨rfl, vs0, .inl (.inl hH)⟩, G, p, Xd, one fun d p1 => p1.ownL i fun ds => ds.length < sizeLine ∧ R .non (p1.upL i (.lst (ds ++ [d]))), r, x, ht, fun ds p1 h1 vs G1 H1 s1 r1 rp1 => ?_⟩
    obtain ⟨d, rfl, h1⟩ := one_of h1
    obtain ⟨v, us, e1, rp, e2⟩ := rp1
    cases e2
    obtain ⟨ds1, h2, hlen, hR⟩ := Pst.ownL_of h1
    obtain ⟨a1, vs1, hs1, hH1, ra1⟩ := r1.ownL h2
    rw [hs] at hs1
    cases hs1
    exact ⟨a, vs1, v, rfl, e1, hH1, by rw [ra1.length]; exact hlen, q _ _ hR .non G1 _ s1 (r1.upL h2 hs ⟨_, upd_same, ra1.append ⟨v, [], rfl, rp, rfl⟩⟩) rfl⟩
/-- x.pop(i) -/
def t_popAt (i : Nat) (t : TD) : TD := fun Xd p R => p.ownL i fun _ => t Xd p fun d p1 => match d with
  | .int k => -(2 ^ 63) ≤ k ∧ k < 2 ^ 63 ∧ p1.ownL i fun ds => match ixN ds.length k with
    | some j => (match ds[j]? with
      | some y => R y (p1.upL i (.lst (ds.eraseIdx j)))
      | none => False)
    | none => False
  | _ => False
theorem RepL.eraseIdx {K : PySem.W.Frag} {G : Hp} : ∀ {ds : List DV} {vs : List V} (n : Nat), RepL K G ds vs → RepL K G (ds.eraseIdx n) (vs.eraseIdx n)
  | [], _, n, h => by cases h; exact rfl
  | e :: ds, vs, 0, ⟨u, ws, h1, h2, h3⟩ => by
    subst h1
    exact h3
  | e :: ds, vs, n + 1, ⟨u, ws, h1, h2, h3⟩ => by
    subst h1
    exact ⟨u, ws.eraseIdx n, rfl, h2, RepL.eraseIdx n h3⟩
theorem fe_popAt (hx : PE X (.Name x px) (tVar i)) (he : FE X L e t) (hbase : attributeBase (.Name x px) "pop" X.env (eval (.Name x px) X.env) = eval (.Name x px) X.env := by rfl)
    (hfew : ((backTo pos (starEach [e] X.env)).all (fun x => !x.1) && (backToKw pos (keywordEach [] X.env)).all (fun x => x.1.isSome)
      && decide (([e] : List Expr).length + ([] : List Keyword).length + (if ([] : List Keyword).isEmpty then 0 else 1) < 30)) = true := by rfl)
    (hline : (apos.endLine == pos.line) = true := by rfl) (hs : starEach [e] X.env = (false, eval e X.env) :: starEach [] X.env := by rfl) (hplain : (backTo pos (starEach [] X.env)).any (·.1) = false := by rfl) :
    FE X L (.Call (.Attribute (.Name x px) "pop" apos) [e] [] pos) (t_popAt i t) :=
  PE.imp (pe_bm PySem.F.plainAttrs_list PySem.F.slot_list_pop PySem.F.type_list_pop mt_popAt hx (fa_cons he fa_nil hs) hbase hfew hline hs hplain) fun σ H Q ⟨G, p, Xd, R, r, x, ht, q⟩ => by
    obtain ⟨ds0, h0, ht⟩ := Pst.ownL_of ht
    obtain ⟨a, vs0, hs, hH, _⟩ := r.ownL h0
    refine ⟨_, hs, .inl ⟨rfl, vs0, .inl (.inl hH)⟩, G, p, Xd, one _, r, x, ht, fun ds p1 h1 vs G1 H1 s1 r1 rp1 => ?_⟩
    obtain ⟨d, rfl, h1⟩ := one_of h1
    obtain ⟨v, us, e1, rp, e2⟩ := rp1
    cases e2
    cases d with
    | int k =>
      cases (show v = V.int k from rp)
      obtain ⟨hk1, hk2, h1⟩ := h1
      obtain ⟨ds1, h2, hR⟩ := Pst.ownL_of h1
      obtain ⟨a1, vs1, hs1, hH1, ra1⟩ := r1.ownL h2
      rw [hs] at hs1
      cases hs1
      split at hR
      · rename_i j hj
        split at hR
        · rename_i y hy
          obtain ⟨w, hw, rw'⟩ := ra1.get hy
          have hj' : ixN vs1.length k = some j := by rw [ra1.length]; exact hj
          exact ⟨a, vs1, k, j, w, rfl, e1, hH1, hk1, hk2, (ixN_seq hj').1, hw, q _ _ hR w G1 _ s1 (r1.upL h2 hs ⟨_, upd_same, ra1.eraseIdx j⟩) rw'⟩
        · exact hR.elim
      · exact hR.elim
    | _ => exact h1.elim
/-- x[i] = e -/
def t_setI (i : Nat) (te tk : TD) : TSd := fun e p => te e.ex p fun v p1 => p1.ownL i fun _ => tk e.ex p1 fun k p2 => match k with
  | .int k => p2.ownL i fun ds => match ixN ds.length k with
    | some j => e.nx (p2.upL i (.lst (ds.set j v)))
    | none => False
  | _ => False
theorem fs_setI (hx : PE X (.Name x px) (tVar i)) (he : FE X L e te) (hk : FE X L b tk) (ha : ∀ v, assign (.Subscript (.Name x px) b apos) X.env v = (do
      let ov ← holding [v] (eval (.Name x px) X.env)
      let iv ← holding [v, ov] (eval b X.env)
      standAt apos
      holding [v, ov, iv] (setItem ov iv v)
      release [v, ov, iv] []) := by intro _; rfl) (hs : swapsWithSole [.Subscript (.Name x px) b apos] e pos.line X.env = pure false := by rfl) (hw : swappedStores [.Subscript (.Name x px) b apos] e X.env = pure none := by rfl)
    (h1 : (assignEach [.Subscript (.Name x px) b apos] X.env).map (·.2) = [assign (.Subscript (.Name x px) b apos) X.env] := by rfl) :
    FS X L (.Assign [.Subscript (.Name x px) b apos] e pos) (t_setI i te tk) := PS.imp (ps_asg he (pg_sub hx hk set_list ha) hs hw h1) fun D σ H ⟨G, p, e, r, ok, h⟩ => by
  refine ⟨G, p, _, _, r, ok.ex, h, fun d p1 h1 v G1 H1 s1 r1 rp1 => ?_⟩
  obtain ⟨ds0, h0, ht⟩ := Pst.ownL_of h1
  obtain ⟨a, vs0, hs, hH, _⟩ := r1.ownL h0
  refine ⟨_, hs, G1, p1, _, _, r1, ok.ex.mono s1, ht, fun k p2 h2 w G2 H2 s2 r2 rp2 => ?_⟩
  cases k with
  | int k =>
    cases (show w = V.int k from rp2)
    obtain ⟨ds1, h3, hR⟩ := Pst.ownL_of h2
    obtain ⟨a1, vs1, hs1, hH1, ra1⟩ := r2.ownL h3
    rw [hs] at hs1
    cases hs1
    split at hR
    · rename_i j hj
      exact ⟨a, vs1, k, j, rfl, rfl, hH1, by rw [ra1.length]; exact hj, ok.nx _ hR G2 σ _ (s1.trans s2) (r2.upL h3 hs ⟨_, upd_same, RepL.set (rp1.mono s2) j ra1⟩)⟩
    · exact hR.elim
  | _ => exact h2.elim
/-- x[i] op= e -/
def rGetL (K : PySem.W.Frag) : V → V → Hp → VK → Prop := fun o i H Q => ∃ p xs k v, o = .ref p ∧ i = .int k ∧ SqL K H p xs ∧ atI xs k = some v ∧ Q v H
theorem get_list : PGet X (rGetL X.K) := by
  intro pins s σ H o i ov iv Q I ro ri h
  obtain ⟨p, xs, k, z, rfl, rfl, hq, he, q⟩ := h
  cases ro
  obtain ⟨t, rfl⟩ := ri
  obtain ⟨its, r, pl, hz⟩ := I.list hq
  obtain ⟨j, h1, h2, h3, h4, h5⟩ := atI_get he
  obtain ⟨w, ew, rw'⟩ := r.get h2
  have hl := r.length
  have hn := line63
  have fin : EP X pins σ Q w s := ⟨z, H, I, rw', q⟩
  by_cases h0 : 0 ≤ k
  · have hj : k.toNat = j := by
      rw [seqIndex_of h0 h5] at h1
      exact Option.some.inj h1
    exact wpAny_getItem_list pl.isList h0 (by omega) (by rw [hj]; simpa using ew) fin
  · have hj : (k + (its.toArray.size : Int)).toNat = j := by
      rw [seqIndex_neg (by omega) h4] at h1
      rw [List.size_toArray, ← hl]
      exact Option.some.inj h1
    exact wpAny_getItem_list_neg pl.isList (by omega) (by rw [List.size_toArray] <;> omega) (by omega) (by rw [hj]; simpa using ew) fin
def t_augI (i : Nat) (tk te : TD) (o : O2) : TSd := fun e p => p.ownL i fun _ => tk e.ex p fun k p1 => match k with
  | .int k => p1.ownL i fun ds => match atI ds k with
    | some x => te e.ex p1 fun y p2 => o x y fun z => p2.ownL i fun ds => (match ixN ds.length k with
      | some j => e.nx (p2.upL i (.lst (ds.set j z)))
      | none => False)
    | none => False
  | _ => False
theorem fs_augI {op : Operator} {o : O2} (ho : IpD X op o) (hx : PE X (.Name x px) (tVar i)) (hk : FE X L b tk) (he : FE X L e te)
    (ha : ∀ ov iv new, augStore b ov iv new = (do holding [new, ov, iv] (setItem ov iv new); release [new, ov, iv] []; pure .next) := by intros; rfl) :
    FS X L (.AugAssign (.Subscript (.Name x px) b tpos) op e pos) (t_augI i tk te o) := PS.imp (ps_augS hx hk get_list he (ipU op) set_list ha) fun D σ H ⟨G, p, e, r, ok, h⟩ => by
  obtain ⟨ds0, h0, ht⟩ := Pst.ownL_of h
  obtain ⟨a, vs0, hs, hH, _⟩ := r.ownL h0
  refine ⟨_, hs, G, p, _, _, r, ok.ex, ht, fun k p1 h1 w G1 H1 s1 r1 rp1 => ?_⟩
  cases k with
  | int k =>
    cases (show w = V.int k from rp1)
    obtain ⟨ds1, h3, hR⟩ := Pst.ownL_of h1
    obtain ⟨a1, vs1, hs1, hH1, ra1⟩ := r1.ownL h3
    rw [hs] at hs1
    cases hs1
    obtain ⟨x, vx, e1, rx, hR⟩ := atI_rep (R := fun x => te e.ex p1 fun y p2 => o x y fun z => p2.ownL i fun ds => (match ixN ds.length k with
      | some j => e.nx (p2.upL i (.lst (ds.set j z)))
      | none => False)) ra1 hR
    refine ⟨a, vs1, k, vx, rfl, rfl, .inl (.inl hH1), e1, G1, p1, _, _, r1, ok.ex.mono s1, hR, fun y p2 h2 vy G2 H2 s2 r2 rp2 => ?_⟩
    refine ho L G2 p2 σ H2 x y vx vy _ _ r2 (rx.mono s2) rp2 h2 fun z hz v3 G3 H3 s3 r3 rp3 => ?_
    obtain ⟨ds2, h4, hR⟩ := Pst.ownL_of hz
    obtain ⟨a2, vs2, hs2, hH2, ra2⟩ := r3.ownL h4
    rw [hs] at hs2
    cases hs2
    split at hR
    · rename_i j hj
      exact ⟨a, vs2, k, j, rfl, rfl, hH2, by rw [ra2.length]; exact hj, ok.nx _ hR G3 σ _ ((s1.trans s2).trans s3) (r3.upL h4 hs ⟨_, upd_same, RepL.set rp3 j ra2⟩)⟩
    · exact hR.elim
  | _ => exact h1.elim
end
end DD
/-! DDm: mixed results, assignments of several names. -/
namespace DD
open PySem PySem.Spec PyProof.Rows L2
/-- none of the own ones is a -/
def ApM (a : Addr) : List Sl → List V → Prop
  | .ow _ :: ss, v :: us => v ≠ .ref a ∧ ApM a ss us
  | _ :: ss, _ :: us => ApM a ss us
  | _, _ => True
/-- results, frozen or own -/
def RepM (K : PySem.W.Frag) (F : Hp) (bas : List Addr) (G : Hp) (p : Pst) (σ : SS) (H : Hp) : List Sl → List V → Prop
  | [], vs => vs = []
  | .sh d :: ss, vs => ∃ v us, vs = v :: us ∧ Rep K G d v ∧ RepM K F bas G p σ H ss us
  | .ow d :: ss, vs => ∃ a us, vs = .ref a :: us ∧ OwnH K G H a d ∧ Fresh F bas G p σ a ∧ ApM a ss us ∧ RepM K F bas G p σ H ss us
  | _, _ => False
theorem none_upd {F : Hp} {a b : Addr} {o : HO} (e : upd F a o b = none) : F b = none ∧ b ≠ a := by
  have hb : b ≠ a := fun z => by rw [z, upd_same] at e; cases e
  rw [upd_ne hb] at e
  exact ⟨e, hb⟩
theorem RepM.unhold {K : PySem.W.Frag} {F G H : Hp} {bas : List Addr} {p : Pst} {σ : SS} {a : Addr} {o : HO} : ∀ {ss : List Sl} {vs : List V}, RepM K (upd F a o) bas G p σ H ss vs → RepM K F bas G p σ H ss vs ∧ ApM a ss vs
  | [], vs, h => by cases (show vs = [] from h); exact ⟨rfl, trivial⟩
  | .sh d :: ss, vs, h => by
    obtain ⟨v, us, e, rp, hr⟩ := (show ∃ v us, vs = v :: us ∧ Rep K G d v ∧ RepM K (upd F a o) bas G p σ H ss us from h)
    obtain ⟨h1, h2⟩ := RepM.unhold hr
    subst e
    exact ⟨⟨v, us, rfl, rp, h1⟩, h2⟩
  | .ow d :: ss, vs, h => by
    obtain ⟨b, us, e, q, f, ap, hr⟩ := (show ∃ b us, vs = V.ref b :: us ∧ OwnH K G H b d ∧ Fresh (upd F a o) bas G p σ b ∧ ApM b ss us ∧ RepM K (upd F a o) bas G p σ H ss us from h)
    obtain ⟨h1, h2⟩ := RepM.unhold hr
    subst e
    obtain ⟨f1, f2⟩ := none_upd f.f
    exact ⟨⟨b, us, rfl, q, ⟨f.g, f1, f.b, f.o⟩, ap, h1⟩, fun z => f2 (by cases z; rfl), h2⟩
  | .un :: ss, vs, h => h.elim
  | .bo j :: ss, vs, h => h.elim
theorem RepM.grow {K : PySem.W.Frag} {F G H H' : Hp} {bas : List Addr} {p : Pst} {σ : SS} (s : Same H H') : ∀ {ss : List Sl} {vs : List V}, RepM K F bas G p σ H ss vs → RepM K F bas G p σ H' ss vs
  | [], vs, h => h
  | .sh d :: ss, vs, h => by
    obtain ⟨v, us, e, rp, hr⟩ := (show ∃ v us, vs = v :: us ∧ Rep K G d v ∧ RepM K F bas G p σ H ss us from h)
    exact ⟨v, us, e, rp, RepM.grow s hr⟩
  | .ow d :: ss, vs, h => by
    obtain ⟨b, us, e, q, f, ap, hr⟩ := (show ∃ b us, vs = V.ref b :: us ∧ OwnH K G H b d ∧ Fresh F bas G p σ b ∧ ApM b ss us ∧ RepM K F bas G p σ H ss us from h)
    exact ⟨b, us, e, q.mono (Same.refl _) (fun o ho => s _ _ ho), f, ap, RepM.grow s hr⟩
  | .un :: ss, vs, h => h.elim
  | .bo j :: ss, vs, h => h.elim
theorem RepM.length {K : PySem.W.Frag} {F G H : Hp} {bas : List Addr} {p : Pst} {σ : SS} : ∀ {ss : List Sl} {vs : List V}, RepM K F bas G p σ H ss vs → vs.length = ss.length
  | [], vs, h => by cases (show vs = [] from h); rfl
  | .sh d :: ss, vs, h => by
    obtain ⟨v, us, e, rp, hr⟩ := (show ∃ v us, vs = v :: us ∧ Rep K G d v ∧ RepM K F bas G p σ H ss us from h)
    subst e
    show us.length + 1 = ss.length + 1
    rw [RepM.length hr]
  | .ow d :: ss, vs, h => by
    obtain ⟨b, us, e, q, f, ap, hr⟩ := (show ∃ b us, vs = V.ref b :: us ∧ OwnH K G H b d ∧ Fresh F bas G p σ b ∧ ApM b ss us ∧ RepM K F bas G p σ H ss us from h)
    subst e
    show us.length + 1 = ss.length + 1
    rw [RepM.length hr]
  | .un :: ss, vs, h => h.elim
  | .bo j :: ss, vs, h => h.elim
theorem Fresh.set {F G : Hp} {bas : List Addr} {p : Pst} {σ : SS} {a : Addr} {i : Nat} {v : V} {s : Sl} (f : Fresh F bas G p σ a) (hv : (∃ d, s = .ow d) → v ≠ .ref a) (hl : σ.length = p.env.length) : Fresh F bas G (p.put i s) (σ.set i (some v)) a := ⟨f.g, f.f, f.b, fun j d hj => by
  have hj : (p.env.set i s)[j]? = some (Sl.ow d) := hj
  by_cases hij : i = j
  · subst hij
    by_cases hlt : i < p.env.length
    · rw [List.getElem?_set_self hlt] at hj
      cases hj
      rw [List.getElem?_set_self (by rw [hl]; exact hlt)]
      intro z
      cases z
      exact hv ⟨d, rfl⟩ rfl
    · rw [List.getElem?_eq_none (by rw [List.length_set]; omega)] at hj; cases hj
  · rw [List.getElem?_set_ne hij] at hj ⊢
    exact f.o j d hj⟩
theorem RepM.set {K : PySem.W.Frag} {F G H : Hp} {bas : List Addr} {p : Pst} {σ : SS} {i : Nat} {v : V} {s : Sl} (hl : σ.length = p.env.length) : ∀ {ss : List Sl} {vs : List V}, RepM K F bas G p σ H ss vs → ((∃ d, s = .ow d) → ∃ a, v = .ref a ∧ ApM a ss vs) → RepM K F bas G (p.put i s) (σ.set i (some v)) H ss vs
  | [], vs, h, _ => h
  | .sh d :: ss, vs, h, hv => by
    obtain ⟨w, us, e, rp, hr⟩ := (show ∃ v us, vs = v :: us ∧ Rep K G d v ∧ RepM K F bas G p σ H ss us from h)
    subst e
    exact ⟨w, us, rfl, rp, RepM.set hl hr hv⟩
  | .ow d :: ss, vs, h, hv => by
    obtain ⟨b, us, e, q, f, ap, hr⟩ := (show ∃ b us, vs = V.ref b :: us ∧ OwnH K G H b d ∧ Fresh F bas G p σ b ∧ ApM b ss us ∧ RepM K F bas G p σ H ss us from h)
    subst e
    refine ⟨b, us, rfl, q, f.set (fun z => ?_) hl, ap, RepM.set hl hr fun z => ?_⟩
    · obtain ⟨a, rfl, h1, _⟩ := hv z
      exact fun z => h1 (by cases z; rfl)
    · obtain ⟨a, e, _, h2⟩ := hv z
      exact ⟨a, e, h2⟩
  | .un :: ss, vs, h, _ => h.elim
  | .bo j :: ss, vs, h, _ => h.elim
abbrev TMs := XD → Pst → (List Sl → Pst → Prop) → Prop
def liftM (K : PySem.W.Frag) (L : Lc) (t : TMs) : TA := fun σ H Q => ∃ G p Xd R, RL K L G p σ H ∧ XOk K L G Xd ∧ t Xd p R ∧ ∀ ss p', R ss p' → ∀ vs G' H', Same G G' → RL K L G' p' σ H' → RepM K L.F L.bas G' p' σ H' ss vs → Q vs H'
abbrev FM (X : Cx) (L : Lc) (es : List Expr) (t : TMs) : Prop := PA X es (liftM X.K L t)
def uM (K : PySem.W.Frag) (bas : List Addr) (E : XK) (t : TMs) : TA := fun σ H Q => ∃ F, liftM K ⟨F, bas, E⟩ t σ H Q
theorem pa_u {X : Cx} {bas : List Addr} {E : XK} {e : List Expr} {t : TMs} (h : ∀ F, FM X ⟨F, bas, E⟩ e t) : PA X e (uM X.K bas E t) := ⟨fun pos pins s σ H Q I ⟨F, x⟩ => (h F).run pos pins s σ H Q I x⟩
section
variable {X : Cx} {L : Lc} {e a b c : Expr} {es : List Expr} {t ta tb tc te tk : TD} {u : TMs} {p pos tpos px py pz pt apos : Pos} {i j l : Nat} {x y z : Str}
def m_nil : TMs := fun _ p R => R [] p
def m_sh (t : TD) (u : TMs) : TMs := fun Xd p R => t Xd p fun d p1 => u Xd p1 fun ss p2 => R (.sh d :: ss) p2
def m_ow (t : TD) (u : TMs) : TMs := fun Xd p R => t Xd p fun d p1 => u Xd p1 fun ss p2 => R (.ow d :: ss) p2
theorem fm_nil : FM X L [] m_nil := PA.imp pa_nil fun σ H Q ⟨G, p, Xd, R, r, x, ht, q⟩ => q [] p ht [] G H (Same.refl _) r rfl
theorem fm_sh (h1 : FE X L e t) (h2 : FM X L es u) (hs : starEach (e :: es) X.env = (false, eval e X.env) :: starEach es X.env := by rfl) : FM X L (e :: es) (m_sh t u) :=
  PA.imp (pa_cons h1 h2 hs) fun σ H Q ⟨G, p, Xd, R, r, x, ht, q⟩ =>
    ⟨G, p, Xd, _, r, x, ht, fun d p1 h1 v G1 H1 s1 r1 rp1 => ⟨G1, p1, Xd, _, r1, x.mono s1, h1, fun ds p2 h2 vs G2 H2 s2 r2 rp2 =>
      q (.sh d :: ds) p2 h2 (v :: vs) G2 H2 (s1.trans s2) r2 ⟨v, vs, rfl, rp1.mono s2, rp2⟩⟩⟩
theorem XOk.hold {K : PySem.W.Frag} {L : Lc} {G : Hp} {Xd : XD} {a : Addr} {o : HO} (x : XOk K L G Xd) (hf : L.F a = none) : XOk K ⟨upd L.F a o, L.bas, L.E⟩ G Xd := fun y p' hy G' H' σ' cls dx s r hx => x y p' hy G' H' σ' cls dx s (Rel.unhold r hf).1 hx
theorem fm_ow (h1 : FO X L e t) (h2 : ∀ F, FM X ⟨F, L.bas, L.E⟩ es u) (hs : starEach (e :: es) X.env = (false, eval e X.env) :: starEach es X.env := by rfl) : FM X L (e :: es) (m_ow t u) :=
  PA.imp (pa_cons h1 (pa_u h2) hs) fun σ H Q ⟨G, p, Xd, R, r, x, ht, q⟩ =>
    ⟨G, p, Xd, _, r, x, ht, fun d p1 h1 a G1 H1 s1 r1 rp1 f1 => by
      obtain ⟨o, ho⟩ := rp1.there
      refine ⟨upd L.F a o, G1, p1, Xd, _, r1.hold f1 ho, (x.mono s1).hold f1.f, h1, fun ds p2 h2 vs G2 H2 s2 r2 rp2 => ?_⟩
      obtain ⟨r3, h3, f3⟩ := Rel.unhold r2 f1.f
      obtain ⟨rp3, ap⟩ := rp2.unhold
      exact q (.ow d :: ds) p2 h2 (.ref a :: vs) G2 H2 (s1.trans s2) r3 ⟨a, vs, rfl, rp1.mono s2 (fun o' ho' => by rw [ho] at ho'; cases ho'; exact h3), f3, ap, rp3⟩⟩
/-- names set to results -/
def putM : Pst → List Nat → List Sl → Pst
  | p, i :: is, s :: ss => putM (p.put i s) is ss
  | p, _, _ => p
theorem Rel.setM {K : PySem.W.Frag} {F G H : Hp} {bas : List Addr} {p : Pst} {σ : SS} {i : Nat} {s : Sl} {ss : List Sl} {vs : List V} (r : Rel K F bas G p σ H) (h : RepM K F bas G p σ H (s :: ss) vs) :
    ∃ v us, vs = v :: us ∧ Rel K F bas G (p.put i s) (σ.set i (some v)) H ∧ RepM K F bas G (p.put i s) (σ.set i (some v)) H ss us := by
  cases s with
  | sh d =>
    obtain ⟨v, us, e, rp, hr⟩ := (show ∃ v us, vs = v :: us ∧ Rep K G d v ∧ RepM K F bas G p σ H ss us from h)
    exact ⟨v, us, e, r.set' rp, RepM.set r.len hr (fun ⟨_, z⟩ => by cases z)⟩
  | ow d =>
    obtain ⟨b, us, e, q, f, ap, hr⟩ := (show ∃ b us, vs = V.ref b :: us ∧ OwnH K G H b d ∧ Fresh F bas G p σ b ∧ ApM b ss us ∧ RepM K F bas G p σ H ss us from h)
    exact ⟨.ref b, us, e, r.setO' q f, RepM.set r.len hr (fun _ => ⟨b, rfl, ap⟩)⟩
  | un => exact h.elim
  | bo j => exact h.elim
def t_par (is : List Nat) (u : TMs) : TSd := fun e p => u e.ex p fun ss p1 => ss.length = is.length ∧ e.nx (putM p1 is ss)
theorem fs_par2 {kt k2 pt2} (hc : X.calm = true) (hN : X.N.Nodup) (hi : X.N[i]? = some x) (hj : X.N[j]? = some y) (hij : i ≠ j)
    (hx : X.env.scope.names.lookup x = some .local) (hy : X.env.scope.names.lookup y = some .local) (ha : FM X L [a, b] u)
    (hw : swappedStores [.Tuple [.Name x px, .Name y py] kt pt] (.Tuple [a, b] k2 pt2) X.env = pure (some [x, y]))
    (hs : swapsWithSole [.Tuple [.Name x px, .Name y py] kt pt] (.Tuple [a, b] k2 pt2) pos.line X.env = pure false := by rfl) :
    FS X L (.Assign [.Tuple [.Name x px, .Name y py] kt pt] (.Tuple [a, b] k2 pt2) pos) (t_par [i, j] u) := PS.imp (ps_par hc hN hi hj hij hx hy ha hw hs) fun D σ H ⟨G, p, e, r, ok, h⟩ =>
  ⟨G, p, _, _, r, ok.ex, h, fun ss p1 ⟨hl, h1⟩ vs G1 H1 s1 r1 rp1 => by
    match ss, hl, h1, rp1 with
    | [s, s'], _, h1, rp1 =>
      obtain ⟨v, us, e1, r2, rp2⟩ := Rel.setM (i := i) r1 rp1
      obtain ⟨w, us', e2, r3, rp3⟩ := Rel.setM (i := j) r2 rp2
      cases (show us' = [] from rp3)
      exact ⟨v, w, by rw [e1, e2], ok.nx _ h1 G1 _ H1 s1 r3⟩⟩
theorem fs_par3 {kt k2 pt2} (hc : X.calm = true) (hN : X.N.Nodup) (hi : X.N[i]? = some x) (hj : X.N[j]? = some y) (hl : X.N[l]? = some z) (hij : i ≠ j) (hil : i ≠ l) (hjl : j ≠ l)
    (hx : X.env.scope.names.lookup x = some .local) (hy : X.env.scope.names.lookup y = some .local) (hz : X.env.scope.names.lookup z = some .local) (ha : FM X L [a, b, c] u)
    (hw : swappedStores [.Tuple [.Name x px, .Name y py, .Name z pz] kt pt] (.Tuple [a, b, c] k2 pt2) X.env = pure (some [x, y, z]))
    (hs : swapsWithSole [.Tuple [.Name x px, .Name y py, .Name z pz] kt pt] (.Tuple [a, b, c] k2 pt2) pos.line X.env = pure false := by rfl) :
    FS X L (.Assign [.Tuple [.Name x px, .Name y py, .Name z pz] kt pt] (.Tuple [a, b, c] k2 pt2) pos) (t_par [i, j, l] u) := PS.imp (ps_par3 hc hN hi hj hl hij hil hjl hx hy hz ha hw hs) fun D σ H ⟨G, p, e, r, ok, h⟩ =>
  ⟨G, p, _, _, r, ok.ex, h, fun ss p1 ⟨hl, h1⟩ vs G1 H1 s1 r1 rp1 => by
    match ss, hl, h1, rp1 with
    | [s, s', s''], _, h1, rp1 =>
      obtain ⟨v, us, e1, r2, rp2⟩ := Rel.setM (i := i) r1 rp1
      obtain ⟨w, us', e2, r3, rp3⟩ := Rel.setM (i := j) r2 rp2
      obtain ⟨w2, us'', e3, r4, rp4⟩ := Rel.setM (i := l) r3 rp3
      cases (show us'' = [] from rp4)
      exact ⟨v, w, w2, by rw [e1, e2, e3], ok.nx _ h1 G1 _ H1 s1 r4⟩⟩
/-! any number of names, by a tuple -/
def liftGM (K : PySem.W.Frag) (L : Lc) (is : List Nat) : TGs := fun vs σ H Q => ∃ G p ss R, RL K L G p σ H ∧ RepM K L.F L.bas G p σ H ss vs ∧ ss.length = is.length ∧ R (putM p is ss) ∧ Later K L G R Q
abbrev FGM (X : Cx) (L : Lc) (tg : List Expr) (is : List Nat) : Prop := PGs X tg (liftGM X.K L is)
theorem gm_nil : FGM X L [] [] := PGs.imp pgs_nil fun vs σ H Q ⟨G, p, ss, R, r, rp, hl, ht, q⟩ => by
  match ss, hl, rp, ht with
  | [], _, rp, ht => exact ⟨rp, q _ ht G _ H (Same.refl _) r⟩
theorem gm_cons {is : List Nat} (h1 : PG X (.Name x px) (gName i)) (h2 : FGM X L es is) (hs : (assignEach (.Name x px :: es) X.env).map (·.2) = assign (.Name x px) X.env :: (assignEach es X.env).map (·.2) := by rfl) : FGM X L (.Name x px :: es) (i :: is) :=
  PGs.imp (pgs_cons h1 h2 hs) fun vs σ H Q ⟨G, p, ss, R, r, rp, hl, ht, q⟩ => by
    match ss, hl, rp, ht with
    | s :: ss, hl, rp, ht =>
      obtain ⟨v, us, e1, r2, rp2⟩ := Rel.setM (i := i) r rp
      exact ⟨v, us, e1, G, _, ss, R, r2, rp2, Nat.succ.inj hl, ht, q⟩
theorem fs_parT {tgs : List Expr} {is : List Nat} {k k2 : Nat} {n : Nat} {pt2 : Pos} (hc : X.calm = true) (ha : FM X L es u) (hg : FGM X L tgs is) (hn : (assignEach tgs X.env).length = n := by rfl) (hnl : is.length = n := by rfl) (hst : (assignEach tgs X.env).findIdx? (·.1) = none := by rfl)
    (hs : swapsWithSole [.Tuple tgs k pt] (.Tuple es k2 pt2) pos.line X.env = pure false := by rfl) (hw : swappedStores [.Tuple tgs k pt] (.Tuple es k2 pt2) X.env = pure none := by rfl) (hasg : (assignEach [.Tuple tgs k pt] X.env).map (·.2) = [assign (.Tuple tgs k pt) X.env] := by rfl) (hz : n ≤ sizeLine := by decide) :
    FS X L (.Assign [.Tuple tgs k pt] (.Tuple es k2 pt2) pos) (t_par is u) := PS.imp (ps_asg (pe_tup ha) (pg_tup hc hg hn hst) hs hw hasg) fun D σ H ⟨G, p, e, r, ok, h⟩ =>
  ⟨G, p, _, _, r, ok.ex, h, fun ss p1 ⟨hl, h1⟩ vs G1 H1 s1 r1 rp1 => by
    have hlen : vs.length = n := by rw [rp1.length, hl, hnl]
    exact ⟨by rw [hlen]; exact hz, fun q hq => ⟨q, vs, rfl, .inl (.inl upd_same), hlen, G1, p1, ss, _, r1.grow (same_upd hq), rp1.grow (same_upd hq), hl, h1, ok.nx.mono s1⟩⟩⟩
end
end DD
/-! DDn: what a def does for its callers; calls. -/
namespace DD
open PySem PySem.Spec PyProof.Rows L2
abbrev XB := DV → List DV → Prop
/-- what a def does: its parameters' slots, what is lent, the exceptions, the results -/
abbrev CD := List Sl → List DV → XB → (DV → List DV → Prop) → Prop
def XOkB (K : PySem.W.Frag) (L : Lc) (G : Hp) (Xd : XB) : Prop := ∀ x b, Xd x b → ∀ G' H' cls dx, Same G G' → RL K L G' ⟨[], b⟩ [] H' → XRep K G' H' x cls dx → L.E cls dx H'
def ResOk (K : PySem.W.Frag) (own : Bool) (F : Hp) (bas : List Addr) (G H : Hp) (b : List DV) (d : DV) (v : V) : Prop :=
  if own = true then ∃ a, v = .ref a ∧ OwnH K G H a d ∧ Fresh F bas G ⟨[], b⟩ [] a else Rep K G d v
def spD (K : PySem.W.Frag) (own : Bool) (n : Nat) (C : CD) : Sp := fun vs H Q E => vs.length = n ∧ ∃ F bas G env bor Xd R, Rel K F bas G ⟨env, bor⟩ (vs.map some) H ∧ XOkB K ⟨F, bas, E⟩ G Xd ∧ C env bor Xd R ∧
  ∀ d b, R d b → ∀ v G' H', Same G G' → Rel K F bas G' ⟨[], b⟩ [] H' → ResOk K own F bas G' H' b d v → Q v H'
section rel
variable {K : PySem.W.Frag} {F G H : Hp} {bas : List Addr} {p : Pst} {σ : SS}
theorem Rel.out (r : Rel K F bas G p σ H) : Rel K F bas G ⟨[], p.bor⟩ [] H := ⟨r.sF, r.sG, r.dj, rfl, fun i d h => by simp at h, fun i d h => by simp at h, fun i j d e _ h => by simp at h, fun i j h => by simp at h, r.bl, r.br, r.nd⟩
theorem rep_get {env : List Sl} {n i : Nat} {s : Sl} (h : (env ++ List.replicate n .un)[i]? = some s) (hs : s ≠ .un) : env[i]? = some s := by
  by_cases hi : i < env.length
  · rw [List.getElem?_append_left hi] at h; exact h
  · rw [List.getElem?_append_right (by omega), List.getElem?_replicate] at h
    split at h
    · exact absurd (Option.some.inj h).symm hs
    · cases h
theorem Rel.start {env : List Sl} {bor : List DV} {vs : List V} {N : List Str} (r : Rel K F bas G ⟨env, bor⟩ (vs.map some) H) : Rel K F bas G ⟨env ++ List.replicate (N.length - env.length) .un, bor⟩ (L2.start N vs) H := by
  have hl : vs.length = env.length := by have := r.len; rw [List.length_map] at this; exact this
  have hσ : ∀ {i : Nat} {s : Sl}, env[i]? = some s → (L2.start N vs)[i]? = (vs.map some)[i]? := fun {i s} h => by
    have hi : i < env.length := (List.getElem?_eq_some_iff.mp h).1
    unfold L2.start
    rw [List.getElem?_append_left (by rw [List.length_map]; omega)]
  refine ⟨r.sF, r.sG, r.dj, ?_, fun i d h => ?_, fun i d h => ?_, fun i j d e hij h1 h2 => ?_, fun i j h => ?_, r.bl, r.br, r.nd⟩
  · show (L2.start N vs).length = (env ++ List.replicate (N.length - env.length) Sl.un).length
    unfold L2.start
    rw [List.length_append, List.length_append, List.length_replicate, List.length_replicate, List.length_map, hl]
  · have h := rep_get h (by intro z; cases z)
    rw [hσ h]
    exact r.sh i d h
  · have h := rep_get h (by intro z; cases z)
    rw [hσ h]
    exact r.ow i d h
  · have h1 := rep_get h1 (by intro z; cases z)
    have h2 := rep_get h2 (by intro z; cases z)
    rw [hσ h1, hσ h2]
    exact r.di i j d e hij h1 h2
  · have h := rep_get h (by intro z; cases z)
    rw [hσ h]
    exact r.bo i j h
/-- behind something that left all that is not frozen as it was -/
theorem Rel.later {G' H' : Hp} (r : Rel K F bas G p σ H) (s : Same G G') (sG : Same G' H') (hk : ∀ a o, G a = none → H a = some o → H' a = some o ∧ G' a = none) : Rel K F bas G' p σ H' where
  sF := fun a o e => (hk a o (r.dj a o e) (r.sF a o e)).1
  sG := sG
  dj := fun a o e => (hk a o (r.dj a o e) (r.sF a o e)).2
  len := r.len
  sh := fun i d hi => by
    obtain ⟨v, hv, q⟩ := r.sh i d hi
    exact ⟨v, hv, q.mono s⟩
  ow := fun i d hi => by
    obtain ⟨a, hs, q, hg, hf, hb⟩ := r.ow i d hi
    obtain ⟨o, ho⟩ := q.there
    obtain ⟨h1, h2⟩ := hk a o hg ho
    exact ⟨a, hs, q.mono s (fun o' ho' => by rw [ho] at ho'; cases ho'; exact h1), h2, hf, hb⟩
  di := r.di
  bo := r.bo
  bl := r.bl
  br := fun j a d h1 h2 => by
    obtain ⟨q, hg, hf⟩ := r.br j a d h1 h2
    obtain ⟨o, ho⟩ := q.there
    obtain ⟨h3, h4⟩ := hk a o hg ho
    exact ⟨q.mono s (fun o' ho' => by rw [ho] at ho'; cases ho'; exact h3), h4, hf⟩
  nd := r.nd
/-- what a callee must leave -/
def rest (G H : Hp) (bs : List Addr) : Hp := fun b => if b ∈ bs then none else match G b with
  | none => H b
  | some _ => none
theorem rest_of {G H : Hp} {bs : List Addr} {a : Addr} {o : HO} (hb : a ∉ bs) (hg : G a = none) (hh : H a = some o) : rest G H bs a = some o := by
  unfold rest
  rw [if_neg hb, hg]
  exact hh
theorem of_rest {G H : Hp} {bs : List Addr} {a : Addr} {o : HO} (h : rest G H bs a = some o) : a ∉ bs ∧ G a = none ∧ H a = some o := by
  unfold rest at h
  split at h
  · cases h
  · rename_i hb
    split at h
    · rename_i hg; exact ⟨hb, hg, h⟩
    · cases h
theorem Rel.back {G' H' : Hp} {b : List DV} (r : Rel K F bas G p σ H) (s : Same G G') (r' : Rel K (rest G H []) [] G' ⟨[], b⟩ [] H') : Rel K F bas G' p σ H' :=
  r.later s r'.sG fun a o hg hh => ⟨r'.sF a o (rest_of (by simp) hg hh), r'.dj a o (rest_of (by simp) hg hh)⟩
theorem Rel.args {ds : List DV} {vs : List V} (r : Rel K F bas G p σ H) (h : RepL K G ds vs) : Rel K (rest G H []) [] G ⟨ds.map .sh, []⟩ (vs.map some) H where
  sF := fun a o e => (of_rest e).2.2
  sG := r.sG
  dj := fun a o e => (of_rest e).2.1
  len := by rw [List.length_map, h.length]; show ds.length = (ds.map Sl.sh).length; rw [List.length_map]
  sh := fun i d hi => by
    have hi : (ds.map Sl.sh)[i]? = some (Sl.sh d) := hi
    rw [List.getElem?_map] at hi
    cases e : ds[i]? with
    | none => rw [e] at hi; cases hi
    | some d' =>
      rw [e] at hi
      cases hi
      obtain ⟨v, hv, rp⟩ := h.get e
      exact ⟨v, by rw [List.getElem?_map, hv]; rfl, rp⟩
  ow := fun i d hi => by
    have hi : (ds.map Sl.sh)[i]? = some (Sl.ow d) := hi
    rw [List.getElem?_map] at hi
    cases e : ds[i]? <;> rw [e] at hi <;> cases hi
  di := fun i j d e hij hi => by
    have hi : (ds.map Sl.sh)[i]? = some (Sl.ow d) := hi
    rw [List.getElem?_map] at hi
    cases e : ds[i]? <;> rw [e] at hi <;> cases hi
  bo := fun i j hi => by
    have hi : (ds.map Sl.sh)[i]? = some (Sl.bo j) := hi
    rw [List.getElem?_map] at hi
    cases e : ds[i]? <;> rw [e] at hi <;> cases hi
  bl := rfl
  br := fun j a d h1 => by simp at h1
  nd := List.nodup_nil
/-- with one thing lent, the first -/
theorem Rel.argsB {ds : List DV} {vs : List V} {a : Addr} {d0 : DV} (r : Rel K F bas G p σ H) (h : RepL K G ds vs) (q : OwnH K G H a d0) (hg : G a = none) : Rel K (rest G H [a]) [a] G ⟨.bo 0 :: ds.map .sh, [d0]⟩ ((V.ref a :: vs).map some) H where
  sF := fun a o e => (of_rest e).2.2
  sG := r.sG
  dj := fun a o e => (of_rest e).2.1
  len := by rw [List.length_map, List.length_cons, h.length]; show ds.length + 1 = (ds.map Sl.sh).length + 1; rw [List.length_map]
  sh := fun i d hi => by
    cases i with
    | zero => cases hi
    | succ i =>
      have hi : (ds.map Sl.sh)[i]? = some (Sl.sh d) := hi
      rw [List.getElem?_map] at hi
      cases e : ds[i]? with
      | none => rw [e] at hi; cases hi
      | some d' =>
        rw [e] at hi
        cases hi
        obtain ⟨v, hv, rp⟩ := h.get e
        exact ⟨v, by rw [List.map_cons, List.getElem?_cons_succ, List.getElem?_map, hv]; rfl, rp⟩
  ow := fun i d hi => by
    cases i with
    | zero => cases hi
    | succ i =>
      have hi : (ds.map Sl.sh)[i]? = some (Sl.ow d) := hi
      rw [List.getElem?_map] at hi
      cases e : ds[i]? <;> rw [e] at hi <;> cases hi
  di := fun i j d e hij hi => by
    cases i with
    | zero => cases hi
    | succ i =>
      have hi : (ds.map Sl.sh)[i]? = some (Sl.ow d) := hi
      rw [List.getElem?_map] at hi
      cases e : ds[i]? <;> rw [e] at hi <;> cases hi
  bo := fun i j hi => by
    cases i with
    | zero => cases hi; exact ⟨a, rfl, rfl⟩
    | succ i =>
      have hi : (ds.map Sl.sh)[i]? = some (Sl.bo j) := hi
      rw [List.getElem?_map] at hi
      cases e : ds[i]? <;> rw [e] at hi <;> cases hi
  bl := rfl
  br := fun j b d h1 h2 => by
    cases j with
    | zero =>
      cases h1
      cases h2
      refine ⟨q, hg, ?_⟩
      unfold rest
      rw [if_pos List.mem_cons_self]
    | succ j => simp at h1
  nd := by simp
theorem upd_upd {H : Hp} {a : Addr} {o o' : HO} (h : H a = some o') : upd (upd H a o) a o' = H := by
  funext b
  by_cases hb : b = a
  · subst hb; rw [upd_same, h]
  · rw [upd_ne hb, upd_ne hb]
theorem Rel.backB {G' H' : Hp} {b : List DV} {a : Addr} {i : Nat} {d0 : DV} (r : Rel K F bas G p σ H) (s : Same G G') (h0 : p.own i = some d0) (hs : σ[i]? = some (some (.ref a))) (r' : Rel K (rest G H [a]) [a] G' ⟨[], b⟩ [] H') :
    ∃ d1, b = [d1] ∧ Rel K F bas G' (p.upL i d1) σ H' := by
  obtain ⟨a', hs', q0, hg0, hf0⟩ := r.own h0
  rw [hs] at hs'
  cases hs'
  have hl := r'.bl
  match b, hl with
  | [d1], _ =>
    obtain ⟨q1, hg1, _⟩ := r'.br 0 a d1 rfl rfl
    obtain ⟨o0, ho0⟩ := q0.there
    obtain ⟨o1, ho1⟩ := q1.there
    have r2 : Rel K F bas G' p σ (upd H' a o0) := r.later s (fun c x e => by rw [upd_ne (fun z => by rw [z, hg1] at e; cases e)]; exact r'.sG c x e) fun c x hg hh => by
      by_cases hc : c = a
      · subst hc
        rw [ho0] at hh
        cases hh
        exact ⟨upd_same, hg1⟩
      · have hc' : c ∉ [a] := by simpa using hc
        rw [upd_ne hc]
        exact ⟨r'.sF c x (rest_of hc' hg hh), r'.dj c x (rest_of hc' hg hh)⟩
    have q2 : OwnH K G' (upd (upd H' a o0) a o1) a d1 := by rw [upd_upd ho1]; exact q1
    have := r2.upL h0 hs q2
    rw [upd_upd ho1] at this
    exact ⟨d1, rfl, this⟩
end rel
/-- a body as what it does -/
def bodyC (own : Bool) (m : Nat) (t : TSd) : CD := fun env bor Xd R => t { nx := fun p => own = false ∧ R .non p.bor, rt := fun d p => own = false ∧ R d p.bor, ex := fun x p => Xd x p.bor, ro := fun d p => own = true ∧ R d p.bor } ⟨env ++ List.replicate (m - env.length) .un, bor⟩
theorem fn_ok {P : Program} {w : World} {K : PySem.W.Frag} {mg : Str → Option Value} {base : Heap} {x qual : Str} {params : Arguments} {body : List Stmt} {scope : Scope} {dvs : List V} {kws : List (Str × V)} {f : Addr} {fd : FuncData} {CX : CXT} {N ps : List Str} {k : Nat} {own : Bool} {t : TSd}
    (F : FunD K x qual params body scope dvs kws f fd) (S : FnScope N ps scope)
    (hbody : ∀ (cdv : Value) (A : Around) (outer : List Env) (s : Shared) (H : Hp) (E : XK) (F' : Hp) (bas : List Addr), Room k (A.deeper (envOfC qual scope s.heap.objs.size f cdv)) → FSs (cxOf CX P w K mg base N qual scope f cdv A outer s H E) ⟨F', bas, E⟩ body t) :
    FnOk P w K mg base CX (k + 1) f fd ps (spD K own ps.length (bodyC own N.length t)) := by
  refine F.ok S (fun vs H Q E h => h.1) fun cdv A outer s H vs Q E hr h => ?_
  obtain ⟨hl, F', bas, G, env, bor, Xd, R, r, x, hC, hq⟩ := h
  have hsame : ∀ {n : Nat}, env.length = vs.length := fun {_} => by have := r.len; rw [List.length_map] at this; exact this.symm
  refine ⟨_, hbody cdv A outer s H E F' bas hr, G, _, _, r.start, ?_, hC⟩
  refine ⟨fun p' h G' σ' H' s1 r1 => ?_, fun d p' h v G' σ' H' s1 r1 rp => ?_, fun p' h => (show False from h).elim, fun p' h => (show False from h).elim, fun y p' h G' H' σ' cls dx s1 r1 hx => x y p'.bor h G' H' cls dx s1 r1.out hx, fun d p' h a G' σ' H' s1 r1 q f1 => ?_⟩
  · obtain ⟨ho, hR⟩ := h
    exact hq _ _ hR .non G' H' s1 r1.out (by unfold ResOk; rw [ho, if_neg (by decide)]; exact rfl)
  · obtain ⟨ho, hR⟩ := h
    exact hq _ _ hR v G' H' s1 r1.out (by unfold ResOk; rw [ho, if_neg (by decide)]; exact rp)
  · obtain ⟨ho, hR⟩ := h
    exact hq _ _ hR _ G' H' s1 r1.out (by unfold ResOk; rw [ho, if_pos rfl]; exact ⟨a, rfl, q, f1⟩)
/-- a def that may be called by its name -/
structure DCal (P : Program) (w : World) (K : PySem.W.Frag) (mg : Str → Option Value) (base : Heap) (CX : CXT) (k : Nat) (x : Str) (own : Bool) (n : Nat) (dds : List DV) (C : CD) : Prop where
  ex : ∃ f fd ps ds dvs, FnOk P w K mg base CX k f fd ps (spD K own (n + dds.length) C) ∧ mg x = some (.ref f) ∧ PySem.W.keepIn K (.ref f) = true ∧ Binds K fd ps ds ∧ Vals dvs ds ∧ ∀ G, RepL K G dds dvs
section
variable {X : Cx} {L : Lc} {e a b c : Expr} {es : List Expr} {t ta tb tc te tk : TD} {u : TDs} {p pos tpos px : Pos} {i j k n : Nat} {x y z : Str} {own : Bool} {dds : List DV} {C : CD} {CX : CXT}
/-- f(..), every argument frozen -/
def t_call (n : Nat) (dds : List DV) (C : CD) (u : TDs) : TD := fun Xd p R => u Xd p fun ds p1 => ds.length = n ∧ C ((ds ++ dds).map .sh) [] (fun x _ => Xd x p1) (fun d _ => R d p1)
theorem call_core {G H : Hp} {p : Pst} {σ : SS} {ds : List DV} {vs dvs : List V} {Xd : XD} {R : DV → Pst → Prop} {Q : VK} (r : RL X.K L G p σ H) (rp : RepL X.K G ds vs) (rd : RepL X.K G dds dvs) (x : XOk X.K L G Xd) (hl : ds.length = n)
    (hC : C ((ds ++ dds).map .sh) [] (fun x _ => Xd x p) (fun d _ => R d p))
    (q : ∀ d, R d p → ∀ v G' H', Same G G' → RL X.K L G' p σ H' → (if own = true then ∃ a, v = .ref a ∧ OwnH X.K G' H' a d ∧ Fresh L.F L.bas G' p σ a else Rep X.K G' d v) → Q v H') :
    spD X.K own (n + dds.length) C (vs ++ dvs) H Q L.E := by
  refine ⟨by rw [List.length_append, rp.length, rd.length, hl], rest G H [], [], G, _, [], _, _, r.args (rp.append rd), fun y b hy G' H' cls dx s r' hx => x y p hy G' H' σ cls dx s (r.back s r') hx, hC, fun d b hd v G' H' s r' hv => ?_⟩
  refine q d hd v G' H' s (r.back s r') ?_
  unfold ResOk at hv
  cases own with
  | false => exact hv
  | true =>
    obtain ⟨a, e, q1, f⟩ := hv
    have hg : G a = none := by
      cases e : G a with
      | none => rfl
      | some o => have := s a o e; rw [f.g] at this; cases this
    have hh : H a = none := by
      cases e : H a with
      | none => rfl
      | some o => have := f.f; rw [rest_of (by simp) hg e] at this; cases this
    have f0 := r.fresh hh
    exact ⟨a, e, q1, ⟨f.g, f0.f, f0.b, f0.o⟩⟩
theorem fe_call (c : DCal X.prog X.w X.K X.mg X.base CX k x false n dds C) (hr : Room j X.A) (hk : k ≤ j) (hg : Gl X x) (hx : Passes CX X L.E) (ha : FA X L (e :: es) u)
    (hdb : (x == ("__debug__" : Str)) = false := by decide) (he : starEach (e :: es) X.env = (false, eval e X.env) :: starEach es X.env := by rfl) (hpl : (backTo pos (starEach es X.env)).any (·.1) = false := by rfl) :
    FE X L (.Call (.Name x p) (e :: es) [] pos) (t_call n dds C u) := by
  obtain ⟨f, fd, ps, ds, dvs, F, hm, kp, hb, hd, rd⟩ := c.ex
  exact PE.imp (pe_call F (hr.mono hk) hg hm kp hb hd hx ha hdb he hpl) fun σ H Q ⟨G, p, Xd, R, r, x, ht, q⟩ => ⟨G, p, Xd, _, r, x, ht, fun ds p1 h1 vs G1 H1 s1 r1 rp1 =>
    call_core (own := false) r1 rp1 (rd G1) (x.mono s1) h1.1 h1.2 fun d hd v G2 H2 s2 r2 hv => q d p1 hd v G2 H2 (s1.trans s2) r2 hv⟩
theorem fo_call (c : DCal X.prog X.w X.K X.mg X.base CX k x true n dds C) (hr : Room j X.A) (hk : k ≤ j) (hg : Gl X x) (hx : Passes CX X L.E) (ha : FA X L (e :: es) u)
    (hdb : (x == ("__debug__" : Str)) = false := by decide) (he : starEach (e :: es) X.env = (false, eval e X.env) :: starEach es X.env := by rfl) (hpl : (backTo pos (starEach es X.env)).any (·.1) = false := by rfl) :
    FO X L (.Call (.Name x p) (e :: es) [] pos) (t_call n dds C u) := by
  obtain ⟨f, fd, ps, ds, dvs, F, hm, kp, hb, hd, rd⟩ := c.ex
  exact PE.imp (pe_call F (hr.mono hk) hg hm kp hb hd hx ha hdb he hpl) fun σ H Q ⟨G, p, Xd, R, r, x, ht, q⟩ => ⟨G, p, Xd, _, r, x, ht, fun ds p1 h1 vs G1 H1 s1 r1 rp1 =>
    call_core (own := true) r1 rp1 (rd G1) (x.mono s1) h1.1 h1.2 fun d hd v G2 H2 s2 r2 ⟨a, e, q1, f1⟩ => by
      subst e
      exact q d p1 hd a G2 H2 (s1.trans s2) r2 q1 f1⟩
/-- f(x, ..), x lent -/
def t_callB (n : Nat) (dds : List DV) (C : CD) (i : Nat) (u : TDs) : TD := fun Xd p R => (p.own i).isSome = true ∧ u Xd p fun ds p1 => match p1.own i with
  | some d0 => ds.length + 1 = n ∧ C (.bo 0 :: (ds ++ dds).map .sh) [d0] (fun x b => match b with
    | [d1] => Xd x (p1.upL i d1)
    | _ => False) (fun d b => match b with
    | [d1] => R d (p1.upL i d1)
    | _ => False)
  | none => False
theorem callB_core {G H : Hp} {p : Pst} {σ : SS} {ds : List DV} {vs dvs : List V} {a : Addr} {d0 : DV} {Xd : XD} {R : DV → Pst → Prop} {Q : VK} (r : RL X.K L G p σ H) (rp : RepL X.K G ds vs) (rd : RepL X.K G dds dvs) (x : XOk X.K L G Xd) (hl : ds.length + 1 = n)
    (h0 : p.own i = some d0) (hs : σ[i]? = some (some (.ref a)))
    (hC : C (.bo 0 :: (ds ++ dds).map .sh) [d0] (fun x b => match b with
    | [d1] => Xd x (p.upL i d1)
    | _ => False) (fun d b => match b with
    | [d1] => R d (p.upL i d1)
    | _ => False))
    (q : ∀ d d1, R d (p.upL i d1) → ∀ v G' H', Same G G' → RL X.K L G' (p.upL i d1) σ H' → (if own = true then ∃ a, v = .ref a ∧ OwnH X.K G' H' a d ∧ Fresh L.F L.bas G' (p.upL i d1) σ a else Rep X.K G' d v) → Q v H') :
    spD X.K own (n + dds.length) C (V.ref a :: vs ++ dvs) H Q L.E := by
  obtain ⟨a', hs', q0, hg0, hf0⟩ := r.own h0
  rw [hs] at hs'
  cases hs'
  refine ⟨by rw [List.length_append, List.length_cons, rp.length, rd.length, hl], rest G H [a], [a], G, _, [d0], _, _, r.argsB (rp.append rd) q0 hg0, fun y b hy G' H' cls dx s r' hx => ?_, hC, fun d b hd v G' H' s r' hv => ?_⟩
  · obtain ⟨d1, rfl, r2⟩ := r.backB s h0 hs r'
    exact x y _ hy G' H' σ cls dx s r2 hx
  · obtain ⟨d1, rfl, r2⟩ := r.backB s h0 hs r'
    refine q d d1 hd v G' H' s r2 ?_
    unfold ResOk at hv
    cases own with
    | false => exact hv
    | true =>
      obtain ⟨c, e, q1, f⟩ := hv
      have hg : G c = none := by
        cases e : G c with
        | none => rfl
        | some o => have := s c o e; rw [f.g] at this; cases this
      have hh : H c = none := by
        cases e : H c with
        | none => rfl
        | some o => have := f.f; rw [rest_of f.b hg e] at this; cases this
      have f0 := r.fresh hh
      refine ⟨c, e, q1, ⟨f.g, f0.f, f0.b, fun k d' hk hs' => ?_⟩⟩
      have hca : c ≠ a := fun z => f.b (by rw [z]; exact List.mem_cons_self)
      unfold Pst.upL at hk
      split at hk
      · have hk : (p.env.set i (.ow d1))[k]? = some (Sl.ow d') := hk
        by_cases hik : i = k
        · subst hik
          rw [hs] at hs'
          cases hs'
          exact hca rfl
        · rw [List.getElem?_set_ne hik] at hk
          exact f0.o k d' hk hs'
      · exact f0.o k d' hk hs'
      · exact f0.o k d' hk hs'
theorem fe_callB (c : DCal X.prog X.w X.K X.mg X.base CX k x false n dds C) (hr : Room j X.A) (hk : k ≤ j) (hg : Gl X x) (hx : Passes CX X L.E) (hv : PE X (.Name y px) (tVar i)) (ha : FA X L es u)
    (hdb : (x == ("__debug__" : Str)) = false := by decide) (he : starEach (.Name y px :: es) X.env = (false, eval (.Name y px) X.env) :: starEach es X.env := by rfl) (hpl : (backTo pos (starEach es X.env)).any (·.1) = false := by rfl) :
    FE X L (.Call (.Name x p) (.Name y px :: es) [] pos) (t_callB n dds C i u) := by
  obtain ⟨f, fd, ps, ds, dvs, F, hm, kp, hb, hd, rd⟩ := c.ex
  exact PE.imp (pe_call F (hr.mono hk) hg hm kp hb hd hx (pa_cons hv ha he) hdb he hpl) fun σ H Q ⟨G, p, Xd, R, r, x, ⟨h0, ht⟩, q⟩ => by
    obtain ⟨d0, hd0⟩ := Option.isSome_iff_exists.mp h0
    obtain ⟨a, hs, _⟩ := r.own hd0
    refine ⟨.ref a, hs, G, p, Xd, _, r, x, ht, fun ds p1 h1 vs G1 H1 s1 r1 rp1 => ?_⟩
    split at h1
    · rename_i d1 hd1
      exact callB_core (own := false) (vs := vs) r1 rp1 (rd G1) (x.mono s1) h1.1 hd1 hs h1.2 fun d d1 hd v G2 H2 s2 r2 hv => q d _ hd v G2 H2 (s1.trans s2) r2 hv
    · exact h1.elim
theorem fo_callB (c : DCal X.prog X.w X.K X.mg X.base CX k x true n dds C) (hr : Room j X.A) (hk : k ≤ j) (hg : Gl X x) (hx : Passes CX X L.E) (hv : PE X (.Name y px) (tVar i)) (ha : FA X L es u)
    (hdb : (x == ("__debug__" : Str)) = false := by decide) (he : starEach (.Name y px :: es) X.env = (false, eval (.Name y px) X.env) :: starEach es X.env := by rfl) (hpl : (backTo pos (starEach es X.env)).any (·.1) = false := by rfl) :
    FO X L (.Call (.Name x p) (.Name y px :: es) [] pos) (t_callB n dds C i u) := by
  obtain ⟨f, fd, ps, ds, dvs, F, hm, kp, hb, hd, rd⟩ := c.ex
  exact PE.imp (pe_call F (hr.mono hk) hg hm kp hb hd hx (pa_cons hv ha he) hdb he hpl) fun σ H Q ⟨G, p, Xd, R, r, x, ⟨h0, ht⟩, q⟩ => by
    obtain ⟨d0, hd0⟩ := Option.isSome_iff_exists.mp h0
    obtain ⟨a, hs, _⟩ := r.own hd0
    refine ⟨.ref a, hs, G, p, Xd, _, r, x, ht, fun ds p1 h1 vs G1 H1 s1 r1 rp1 => ?_⟩
    split at h1
    · rename_i d1 hd1
      exact callB_core (own := true) (vs := vs) r1 rp1 (rd G1) (x.mono s1) h1.1 hd1 hs h1.2 fun d d1 hd v G2 H2 s2 r2 ⟨a, e, q1, f1⟩ => by
        subst e
        exact q d _ hd a G2 H2 (s1.trans s2) r2 q1 f1
    · exact h1.elim
end
end DD
/-! DDo: more rules: list(range), a list so many times, a lent temporary, list comprehensions set frozen. -/
namespace DD
open PySem PySem.Spec PyProof.Rows L2
theorem RepL.of_get {K : PySem.W.Frag} {G : Hp} : ∀ {ds : List DV} {vs : List V}, vs.length = ds.length → (∀ (i : Nat) (d : DV) (v : V), ds[i]? = some d → vs[i]? = some v → Rep K G d v) → RepL K G ds vs
  | [], [], _, _ => rfl
  | [], _ :: _, h, _ => by simp at h
  | _ :: _, [], h, _ => by simp at h
  | d :: ds, v :: vs, h, f => ⟨v, vs, rfl, f 0 d v rfl rfl, RepL.of_get (by simpa using h) fun i d' v' h1 h2 => f (i + 1) d' v' (by simpa using h1) (by simpa using h2)⟩
theorem repL_rg {K : PySem.W.Frag} {G : Hp} {a b : Int} : RepL K G (rangeD a 1 (b - a).toNat) (rgV a b) := RepL.of_get (by rw [rgV_length, rangeD_length]) fun i d v h1 h2 => by
  have hi : i < (b - a).toNat := by
    have := (List.getElem?_eq_some_iff.mp h1).1
    rwa [rangeD_length] at this
  rw [rangeD_get 1 _ _ _ hi] at h1
  cases h1
  unfold rgV at h2
  rw [List.getElem?_map, List.getElem?_range hi] at h2
  cases h2
  show V.int _ = V.int _
  rw [Int.mul_one]
section
variable {X : Cx} {L : Lc} {e a b c : Expr} {es : List Expr} {t ta tb tc te tk : TD} {u : TDs} {p pos tpos px apos : Pos} {i j k n : Nat} {x y z : Str} {dds : List DV} {C : CD} {CX : CXT}
def t_lrg1 (t : TD) : TD := fun Xd p R => t Xd p fun d p1 => match d with
  | .int n => RgOk 0 n ∧ R (.lst (rangeD 0 1 (n - 0).toNat)) p1
  | _ => False
def t_lrg2 (ta tb : TD) : TD := fun Xd p R => ta Xd p fun d p1 => tb Xd p1 fun d2 p2 => match d, d2 with
  | .int m, .int n => RgOk m n ∧ R (.lst (rangeD m 1 (n - m).toNat)) p2
  | _, _ => False
theorem fo_lrg1 {p2 pos2 : Pos} (hc : X.calm = true) (hg : Gl X "list") (hm : X.mg "list" = none) (hg2 : Gl X "range") (hm2 : X.mg "range" = none) (ha : FE X L a ta)
    (na : starEach [a] X.env = (false, eval a X.env) :: starEach [] X.env := by rfl) (na2 : starEach [.Call (.Name "range" p2) [a] [] pos2] X.env = (false, eval (.Call (.Name "range" p2) [a] [] pos2) X.env) :: starEach [] X.env := by rfl) :
    FO X L (.Call (.Name "list" p) [.Call (.Name "range" p2) [a] [] pos2] [] pos) (t_lrg1 ta) := PE.imp (pe_listRg hc hg hm (prg_1 hg2 hm2 ha na) na2) fun σ H Q ⟨G, p, Xd, R, r, x, ht, q⟩ =>
  ⟨G, p, Xd, _, r, x, ht, fun d p1 h1 v G1 H1 s1 r1 rp1 => by
    cases d with
    | int n =>
      refine ⟨n, rp1, h1.1, fun l hl => ?_⟩
      obtain ⟨r2, o2, f2⟩ := fo_new (X := X) r1 hl (repL_rg (a := 0) (b := n))
      exact q _ p1 h1.2 l G1 _ s1 r2 o2 f2
    | _ => exact h1.elim⟩
theorem fo_lrg2 {p2 pos2 : Pos} (hc : X.calm = true) (hg : Gl X "list") (hm : X.mg "list" = none) (hg2 : Gl X "range") (hm2 : X.mg "range" = none) (ha : FE X L a ta) (hb : FE X L b tb)
    (na : starEach [a, b] X.env = (false, eval a X.env) :: starEach [b] X.env := by rfl) (nb : starEach [b] X.env = (false, eval b X.env) :: starEach [] X.env := by rfl) (hp : (backTo pos2 (starEach [b] X.env)).any (·.1) = false := by rfl)
    (na2 : starEach [.Call (.Name "range" p2) [a, b] [] pos2] X.env = (false, eval (.Call (.Name "range" p2) [a, b] [] pos2) X.env) :: starEach [] X.env := by rfl) :
    FO X L (.Call (.Name "list" p) [.Call (.Name "range" p2) [a, b] [] pos2] [] pos) (t_lrg2 ta tb) := PE.imp (pe_listRg hc hg hm (prg_2 hg2 hm2 ha hb na nb hp) na2) fun σ H Q ⟨G, p, Xd, R, r, x, ht, q⟩ =>
  ⟨G, p, Xd, _, r, x, ht, fun d p1 h1 v G1 H1 s1 r1 rp1 => ⟨G1, p1, Xd, _, r1, x.mono s1, h1, fun d2 p2 h2 v2 G2 H2 s2 r2 rp2 => by
    cases d with
    | int m =>
      cases d2 with
      | int n =>
        refine ⟨m, n, rp1, rp2, h2.1, fun l hl => ?_⟩
        obtain ⟨r3, o3, f3⟩ := fo_new (X := X) r2 hl (repL_rg (a := m) (b := n))
        exact q _ p2 h2.2 l G2 _ (s1.trans s2) r3 o3 f3
      | _ => exact h2.elim
    | _ => exact h2.elim⟩⟩
/-- a list so many times, own -/
def t_mulL (ta tb : TD) : TD := fun Xd p R => ta Xd p fun d p1 => tb Xd p1 fun d2 p2 => match d, d2 with
  | .lst ds, .int j => -(2 ^ 63) ≤ j ∧ j < 2 ^ 63 ∧ ds.length * j.toNat ≤ sizeLine ∧ R (.lst (List.replicate j.toNat ds).flatten) p2
  | _, _ => False
theorem fo_mulL (ha : FE X L a ta) (hb : FE X L b tb) : FO X L (.BinOp a .Mult b pos) (t_mulL ta tb) := PE.imp (pe_op op_rep ha hb) fun σ H Q ⟨G, p, Xd, R, r, x, ht, q⟩ =>
  ⟨G, p, Xd, _, r, x, ht, fun d p1 h1 v G1 H1 s1 r1 rp1 => ⟨G1, p1, Xd, _, r1, x.mono s1, h1, fun d2 p2 h2 v2 G2 H2 s2 r2 rp2 => by
    cases d with
    | lst ds =>
      cases d2 with
      | int j =>
        obtain ⟨a, vs, rfl, h3, h4⟩ := rp1.mono s2
        cases (show v2 = V.int j from rp2)
        refine ⟨a, j, vs, rfl, rfl, r2.sG _ _ h3, h2.1, h2.2.1, by rw [h4.length]; exact h2.2.2.1, fun l hl => ?_⟩
        obtain ⟨r3, o3, f3⟩ := fo_new (X := X) r2 hl (h4.rep j.toNat)
        exact q _ p2 h2.2.2.2 l G2 _ (s1.trans s2) r3 o3 f3
      | _ => exact h2.elim
    | _ => exact h2.elim⟩⟩
/-- lists put together, own -/
def t_addL (ta tb : TD) : TD := fun Xd p R => ta Xd p fun d p1 => tb Xd p1 fun d2 p2 => match d, d2 with
  | .lst ds, .lst es => ds.length + es.length ≤ sizeLine ∧ R (.lst (ds ++ es)) p2
  | _, _ => False
/-- f(temp, ..), the temporary lent -/
def t_callT (n : Nat) (dds : List DV) (C : CD) (t : TD) : TD := fun Xd p R => t Xd p fun d0 p1 => n = 1 ∧ C (.bo 0 :: dds.map .sh) [d0] (fun x _ => Xd x p1) (fun d _ => R d p1)
theorem Rel.backT {K : PySem.W.Frag} {F G G' H H' : Hp} {bas : List Addr} {p : Pst} {σ : SS} {b : List DV} {a : Addr} {d0 : DV} (r : Rel K F bas G p σ H) (s : Same G G') (q : OwnH K G H a d0) (f : Fresh F bas G p σ a) (r' : Rel K (rest G H [a]) [a] G' ⟨[], b⟩ [] H') : Rel K F bas G' p σ H' := by
  have hl := r'.bl
  match b, hl with
  | [d1], _ =>
    obtain ⟨q1, hg1, _⟩ := r'.br 0 a d1 rfl rfl
    obtain ⟨o0, ho0⟩ := q.there
    obtain ⟨o1, ho1⟩ := q1.there
    have r2 : Rel K F bas G' p σ (upd H' a o0) := r.later s (fun c x e => by rw [upd_ne (fun z => by rw [z, hg1] at e; cases e)]; exact r'.sG c x e) fun c x hg hh => by
      by_cases hc : c = a
      · subst hc
        rw [ho0] at hh
        cases hh
        exact ⟨upd_same, hg1⟩
      · have hc' : c ∉ [a] := by simpa using hc
        rw [upd_ne hc]
        exact ⟨r'.sF c x (rest_of hc' hg hh), r'.dj c x (rest_of hc' hg hh)⟩
    have := r2.free (o := o1) ⟨hg1, f.f, f.b, f.o⟩
    rwa [upd_upd ho1] at this
theorem fe_callT (c : DCal X.prog X.w X.K X.mg X.base CX k x false n dds C) (hr : Room j X.A) (hk : k ≤ j) (hg : Gl X x) (hx : Passes CX X L.E) (h0 : FO X L e t)
    (hdb : (x == ("__debug__" : Str)) = false := by decide) (he : starEach [e] X.env = (false, eval e X.env) :: starEach [] X.env := by rfl) (hpl : (backTo pos (starEach [] X.env)).any (·.1) = false := by rfl) :
    FE X L (.Call (.Name x p) [e] [] pos) (t_callT n dds C t) := by
  obtain ⟨f, fd, ps, ds, dvs, F, hm, kp, hb, hd, rd⟩ := c.ex
  exact PE.imp (pe_call F (hr.mono hk) hg hm kp hb hd hx (pa_cons h0 pa_nil he) hdb he hpl) fun σ H Q ⟨G, p, Xd, R, r, x, ht, q⟩ => ⟨G, p, Xd, _, r, x, ht, fun d0 p1 h1 a G1 H1 s1 r1 q1 f1 => by
    obtain ⟨hn, hC⟩ := h1
    refine ⟨?_, rest G1 H1 [a], [a], G1, _, [d0], _, _, r1.argsB (ds := dds) (rd G1) q1 f1.g, fun y b hy G' H' cls dx s r' hx => x y p1 hy G' H' σ cls dx (s1.trans s) (r1.backT s q1 f1 r') hx, hC, fun d b hd v G' H' s r' hv => q d p1 hd v G' H' (s1.trans s) (r1.backT s q1 f1 r') hv⟩
    rw [List.length_append, (rd G1).length, hn]
    rfl⟩
/-- name = [..] on one line, frozen at once -/
theorem fs_setLcE {elt tg iter : Expr} {ifs : List Expr} {scope : Scope} {own : List (Str × Nat)} {pos spos py : Pos} {ti : TDi} {g : TGd} {tt : TB} {te : TD} (hc : X.calm = true) (hN : X.N.Nodup) (hy : X.N[i]? = some y) (hyl : X.env.scope.names.lookup y = some .local)
    (hsw : swapsWith (.ListComp elt [⟨tg, iter, ifs, 0⟩] scope pos) (some (.Name y py)) spos.line X.env = pure true) (hi : FI X L tg iter ti) (ok : BlkOk X.N X.env.scope scope own)
    (hg : ∀ (s : Shared) (H : Hp) (C : Addr) (cl : List (Str × Addr)) (fp : List Addr) F bas, FGv (X.blk s H scope (compEnvC scope cl C X.env) fp) ⟨F, bas, L.E⟩ (own.map (·.2)) tg g)
    (htt : ∀ (s : Shared) (H : Hp) (C : Addr) (cl : List (Str × Addr)) (fp : List Addr) F bas, FTs (X.blk s H scope (compEnvC scope cl C X.env) fp) ⟨F, bas, L.E⟩ ifs tt)
    (he : ∀ (s : Shared) (H : Hp) (C : Addr) (cl : List (Str × Addr)) (fp : List Addr) F bas, FE (X.blk s H scope (compEnvC scope cl C X.env) fp) ⟨F, bas, L.E⟩ elt te) (hs : ∀ x, foldedSetIterable iter X.env x = pure x := by intro _; rfl) :
    FS X L (.Assign [.Name y py] (.ListComp elt [⟨tg, iter, ifs, 0⟩] scope pos) spos) (t_set i (t_lc ti g tt te (own.map (·.2)))) :=
  PS.imp (ps_setLc hc hN hy hyl hsw hi ok (fun s H C cl fp => pg_u (hg s H C cl fp)) (fun s H C cl fp => pt_u (htt s H C cl fp)) (fun s H C cl fp => pe_u (he s H C cl fp)) hs) fun D σ H h => by
    obtain ⟨G, p, e, r, ok, h⟩ := h
    refine lc_imp (L := L) (te := te) (g := g) (tt := tt) (ti := ti) σ H _ ⟨G, p, _, _, r, ok.ex, h, fun d p1 h1 a G1 H1 s1 r1 rp1 f1 => ?_⟩
    obtain ⟨o, ho⟩ := rp1.there
    exact ok.nx _ h1 (upd G1 a o) _ H1 (s1.trans (same_upd f1.g)) ((r1.freeze f1 ho).set' (rp1.rep ho f1.g))
end
end DD
/-! DDp: starred displays, extend. -/
namespace DD
open PySem PySem.Spec PyProof.Rows L2
section
variable {X : Cx} {L : Lc} {e : Expr} {es : List Expr} {t : TD} {u : TDs} {p pos px apos : Pos} {i : Nat} {x : Str}
/-- *e, .. -/
def t_star (t : TD) (u : TDs) : TDs := fun Xd p R => t Xd p fun d p1 => d.items fun xs => u Xd p1 fun ys p2 => R (xs ++ ys) p2
theorem fa_star (he : FE X L e t) (hr : FA X L es u) (hs : starEach (.Starred e p :: es) X.env = (true, eval e X.env) :: starEach es X.env := by rfl) : FA X L (.Starred e p :: es) (t_star t u) :=
  PA.imp (StX.pa_star he hr hs) fun σ H Q ⟨G, p, Xd, R, r, x, ht, q⟩ => ⟨G, p, Xd, _, r, x, ht, fun d p1 h1 v G1 H1 s1 r1 rp1 => by
    obtain ⟨ds, a, sk, vs, hk, e, hs, hr⟩ := items_of h1 rp1
    refine ⟨a, vs, e, ?_, G1, p1, Xd, _, r1, x.mono s1, hk, fun ys p2 h2 ws G2 H2 s2 r2 rp2 => q (ds ++ ys) p2 h2 (vs ++ ws) G2 H2 (s1.trans s2) r2 ((hr.mono s2).append rp2)⟩
    have hs := Same.sqk r1.sG hs
    cases sk with
    | L => exact .inr hs
    | T => exact .inl hs⟩
/-- x.extend(e) of a list -/
def t_ext (i : Nat) (t : TD) : TD := fun Xd p R => p.ownL i fun _ => t Xd p fun d p1 => match d with
  | .lst zs => p1.ownL i fun ds => ds.length + zs.length ≤ sizeLine ∧ R .non (p1.upL i (.lst (ds ++ zs)))
  | _ => False
theorem fe_ext (hx : PE X (.Name x px) (tVar i)) (he : FE X L e t) (hbase : attributeBase (.Name x px) "extend" X.env (eval (.Name x px) X.env) = eval (.Name x px) X.env := by rfl)
    (hfew : ((backTo pos (starEach [e] X.env)).all (fun x => !x.1) && (backToKw pos (keywordEach [] X.env)).all (fun x => x.1.isSome)
      && decide (([e] : List Expr).length + ([] : List Keyword).length + (if ([] : List Keyword).isEmpty then 0 else 1) < 30)) = true := by rfl)
    (hline : (apos.endLine == pos.line) = true := by rfl) (hs : starEach [e] X.env = (false, eval e X.env) :: starEach [] X.env := by rfl) (hplain : (backTo pos (starEach [] X.env)).any (·.1) = false := by rfl) :
    FE X L (.Call (.Attribute (.Name x px) "extend" apos) [e] [] pos) (t_ext i t) :=
  PE.imp (pe_bm PySem.F.plainAttrs_list PySem.F.slot_list_extend PySem.F.type_list_extend mt_extend hx (fa_cons he fa_nil hs) hbase hfew hline hs hplain) fun σ H Q ⟨G, p, Xd, R, r, x, ht, q⟩ => by
    obtain ⟨ds0, h0, ht⟩ := Pst.ownL_of ht
    obtain ⟨a, vs0, hs, hH, _⟩ := r.ownL h0
    refine ⟨_, hs, .inl ⟨rfl, vs0, .inl (.inl hH)⟩, G, p, Xd, one _, r, x, ht, fun ds p1 h1 vs G1 H1 s1 r1 rp1 => ?_⟩
    obtain ⟨d, rfl, h1⟩ := one_of h1
    obtain ⟨v, us, e1, rp, e2⟩ := rp1
    cases e2
    cases d with
    | lst zs =>
      obtain ⟨b, ws, rfl, hb, rb⟩ := rp
      obtain ⟨ds1, h2, hlen, hR⟩ := Pst.ownL_of h1
      obtain ⟨a1, vs1, hs1, hH1, ra1⟩ := r1.ownL h2
      rw [hs] at hs1
      cases hs1
      exact ⟨a, b, vs1, ws, rfl, e1, hH1, r1.sG _ _ hb, by rw [ra1.length, rb.length]; exact hlen, q _ _ hR .non G1 _ s1 (r1.upL h2 hs ⟨_, upd_same, ra1.append rb⟩) rfl⟩
    | _ => exact h1.elim
end
end DD
/-! DDq: sorted(set(xs)), len(set(xs)), xs a list or a tuple of ints; sorted of a tuple. -/
namespace DD
open PySem PySem.Spec PyProof.Rows L2
section
variable {P : Program} {w : World} {A : Around} {E : Value → Shared → Prop} {s : Shared}
/-- the object of a new set -/
abbrev soN (b : Bool) : Obj := { cls := .type "set", dict := none, data := .set #[] 0 (.fresh 0 0 b) }
abbrev soB (w : World) : Bool := !w.params.followText "set-order"
/-- s's heap with a new set -/
abbrev soH (w : World) (s : Shared) : Heap := s.heap.push (soN (soB w))
set_option maxHeartbeats 3200000 in
theorem set_of_list {p : Addr} {xs : Array Value} (is : List Int) {R : Value → Shared → Prop} (quiet : A.handled = none) (isl : s.heap.IsList p xs) (its : IntsAre xs.toList is) (few : is.length + 1 < scanBound)
    (go : ∀ (g : Heap) (tk c : Nat), SetR w g s.heap.objs.size (fun j => decide (j ∈ is)) c → c ≤ is.length → (∀ b o, s.heap.get? b = some o → g.get? b = some o) → R (.ref s.heap.objs.size) { s with heap := g, toks := tk }) :
    wpAny (model P w) A (call (.type "set") [.ref p]) R E s := by
  have size : xs.size = is.length := by
    have z := IntsAre.length its; rw [Array.length_toList] at z; exact z
  obtain ⟨mc, mt, mro⟩ := F.called_set.mro
  have md := F.called_set.made; have sb := F.called_set.sub
  refine wpAny_call (codeAny_of_tree ?_); show wpAny _ _ (callAny (.type "set") _) _ _ _
  refine wpAny_pure (And.intro (Code.quiet_builtin _ (by decide +kernel)) (codeAny_builtin F.entry_type_call ?_))
  rw [Around.under_plain (weight_type_call_type "set" [.ref p] []) rfl]
  have n1 := F.called_set.notType; have n2 := F.called_set.canCreate; have n3 := F.typeCall_set_1 (.ref p)
  repeat (any_goals (first | assumption | wp_step))

  refine codeAny_mono (code_set_led1 (.ref p) (E := E) (Q₁ := fun y s₁ => y = .ref s.heap.objs.size ∧ s₁ = { s with heap := soH w s }) ⟨rfl, rfl⟩) fun r s₁ hr => ?_
  cases r with
  | error e => exact hr
  | ok fl =>
    cases fl with
    | ret y =>
      obtain ⟨rfl, rfl⟩ := hr
      have new : (soH w s).get? s.heap.objs.size = some (soN (soB w)) := Heap.get?_push_size _ rfl
      have ty : Shared.TypeIs { s with heap := soH w s } (.ref s.heap.objs.size) "set" := ⟨_, new, rfl⟩
      have i1 := F.called_set.init.lookup; have i2 := F.called_set.init.bind (.ref s.heap.objs.size)
      repeat (any_goals (first | assumption | wp_step))

      refine codeAny_mono (codeAny_call_builtin (R := wants (fun r s₂ => r = .none ∧ ∃ g tk c, s₂ = { s with heap := g, toks := tk } ∧ SetR w g s.heap.objs.size (fun j => decide (j ∈ is)) c ∧ c ≤ is.length ∧
          (∀ b o, s.heap.get? b = some o → g.get? b = some o)) E) F.called_set.init.plain F.entry_set_init (check_set_init_1 ty ?_)) fun r₂ s₂ hr₂ => ?_
      · obtain ⟨ob, hob, ec, nb, ed⟩ := isl
        obtain ⟨oc, od, oda, osl⟩ := ob
        simp only at ec ed; subst ec ed
        have hob2 : (soH w s).get? p = some { cls := .type "list", dict := od, data := .seq xs nb, slots := osl } := Heap.get?_push_of_some _ hob
        have x1 := F.sub_list_set; have x2 := F.sub_list_frozenset
        have x3 : (Value.type "list" == Value.type "dict") = false := by decide
        have isl2 : (soH w s).IsList p xs := ⟨_, hob2, rfl, nb, rfl⟩
        unfold Builtin.«set.__init__» noKeywords Builtin.Frozenset.updateFrom
        generalize hPI : pyIter = PI
        wp_walk; subst hPI

        refine wpAny_pyIter_list isl2 (wpAny_bind (wpAny_runValue ?_))
        have lt : p < s.heap.objs.size := Heap.lt_size hob
        have q3 : A.in1.in1.in1.handled = none := by simp [quiet]
        have sz : (soH w s).objs.size = s.heap.objs.size + 1 := Heap.size_push ..
        have ne : p ≠ (soH w s).objs.size := by rw [sz]; exact Nat.ne_of_lt (Nat.lt_succ_of_lt lt)
        have nin : s.heap.objs.size ∉ [(soH w s).objs.size, p] := by
          rw [sz]; simp only [List.mem_cons, List.mem_singleton, List.not_mem_nil, or_false, not_or]; exact ⟨Nat.ne_of_lt (Nat.lt_succ_self _), Nat.ne_of_gt lt⟩
        have val : ∀ (i : Nat) (v : Value), xs[i]? = some v → ∃ k t, is[i]? = some k ∧ v = .int k t := fun i v hv => by
          have hi : i < is.length := by rw [← size]; exact (Array.getElem?_eq_some_iff.mp hv).1
          obtain ⟨t, e⟩ := IntsAre.int_at its i v (by rw [Array.getElem?_toList]; exact hv)
          refine ⟨is[i], t, List.getElem?_eq_getElem hi, e.trans ?_⟩
          rw [List.getD_eq_getElem?_getD, List.getElem?_eq_getElem hi]; rfl
        refine set_update_ints ((Walks.list q3 _ p ne xs).toS) s.heap.objs.size nin is size few val (xs.size - 0) 0 _ (by omega) (Nat.zero_le _) ⟨⟨_, Heap.get?_push_size _ rfl, rfl, rfl⟩, (isl2.push _)⟩ ?setS ?setR
        case setS => exact ⟨0, Nat.le_refl 0, setR_new_at (Heap.get?_push_of_some _ new)⟩
        case setR =>
          intro s' c' mv hc' hS
          obtain ⟨g, g2, d', tk', os'⟩ := s'
          cases (show g2 = s.gens from mv.gens); cases (show d' = s.drawn from mv.drawn); cases (show os' = s.os from mv.os)
          show wpAny _ _ _ _ _ _
          refine wpAny_pure (?_ : wpAny _ _ (ret Value.none) _ _ _)
          rw [size] at hc'
          refine wpAny_pure ⟨rfl, g, tk', c', rfl, hS, hc', fun b o e => mv.heap b o ?_ (Heap.get?_push_of_some _ (Heap.get?_push_of_some _ e))⟩
          have b0 : b < s.heap.objs.size := Heap.lt_size e
          rw [sz]; simp only [List.mem_cons, List.mem_singleton, List.not_mem_nil, or_false, not_or]; exact ⟨Nat.ne_of_lt b0, Nat.ne_of_lt (Nat.lt_succ_of_lt b0)⟩

      · cases r₂ with
        | error e => exact hr₂
        | ok fl₂ =>
          cases fl₂ with
          | ret r =>
            obtain ⟨rfl, g, tk, c', rfl, hS, hc', hk⟩ := hr₂
            repeat (any_goals (first | assumption | wp_step))
            exact go _ _ _ hS hc' hk
          | _ => exact hr₂.elim
    | _ => exact hr.elim
end
/-! ascending, each once -/
def insU (x : Int) : List Int → List Int
  | [] => [x]
  | y :: ys => if x < y then x :: y :: ys else if x = y then y :: ys else y :: insU x ys
def sdd : List Int → List Int
  | [] => []
  | x :: xs => insU x (sdd xs)
theorem mem_insU {x k : Int} : ∀ {l : List Int}, k ∈ insU x l ↔ k = x ∨ k ∈ l
  | [] => by simp [insU]
  | y :: ys => by
    unfold insU
    split
    · simp
    · split
      · rename_i h; subst h; simp
      · simp only [List.mem_cons, mem_insU (l := ys)]
        constructor
        · rintro (h | h | h)
          · exact .inr (.inl h)
          · exact .inl h
          · exact .inr (.inr h)
        · rintro (h | h | h)
          · exact .inr (.inl h)
          · exact .inl h
          · exact .inr (.inr h)
theorem mem_sdd {k : Int} : ∀ {l : List Int}, k ∈ sdd l ↔ k ∈ l
  | [] => by simp [sdd]
  | y :: ys => by unfold sdd; rw [mem_insU, mem_sdd, List.mem_cons]
theorem insU_pw {x : Int} : ∀ {l : List Int}, l.Pairwise (· < ·) → (insU x l).Pairwise (· < ·)
  | [], _ => by simp [insU]
  | y :: ys, h => by
    obtain ⟨h1, h2⟩ := List.pairwise_cons.mp h
    unfold insU
    split
    · refine List.pairwise_cons.mpr ⟨fun z hz => ?_, h⟩
      rcases List.mem_cons.mp hz with e | hz
      · subst e; assumption
      · have := h1 z hz; omega
    · split
      · exact h
      · refine List.pairwise_cons.mpr ⟨fun z hz => ?_, insU_pw h2⟩
        rcases mem_insU.mp hz with e | hz
        · subst e; omega
        · exact h1 z hz
theorem sdd_pw : ∀ (l : List Int), (sdd l).Pairwise (· < ·)
  | [] => List.Pairwise.nil
  | x :: xs => insU_pw (sdd_pw xs)
theorem rise_eq : ∀ {a b : List Int}, a.Pairwise (· < ·) → b.Pairwise (· < ·) → (∀ k, k ∈ a ↔ k ∈ b) → a = b
  | [], [], _, _, _ => rfl
  | [], y :: ys, _, _, h => absurd ((h y).mpr List.mem_cons_self) (by simp)
  | x :: xs, [], _, _, h => absurd ((h x).mp List.mem_cons_self) (by simp)
  | x :: xs, y :: ys, ha, hb, h => by
    obtain ⟨a1, a2⟩ := List.pairwise_cons.mp ha
    obtain ⟨b1, b2⟩ := List.pairwise_cons.mp hb
    have e : x = y := by
      rcases List.mem_cons.mp ((h x).mp List.mem_cons_self) with e | e
      · exact e
      · rcases List.mem_cons.mp ((h y).mpr List.mem_cons_self) with e' | e'
        · exact e'.symm
        · have := b1 x e; have := a1 y e'; omega
    subst e
    congr 1
    refine rise_eq a2 b2 fun k => ⟨fun hk => ?_, fun hk => ?_⟩
    · rcases List.mem_cons.mp ((h k).mp (List.mem_cons_of_mem _ hk)) with e | e
      · have := a1 k hk; omega
      · exact e
    · rcases List.mem_cons.mp ((h k).mpr (List.mem_cons_of_mem _ hk)) with e | e
      · have := b1 k hk; omega
      · exact e
theorem rise_nodup {l : List Int} (h : l.Pairwise (· < ·)) : l.Nodup := h.imp fun h => by omega
theorem sdd_len_le : ∀ (l : List Int), (sdd l).length ≤ l.length := by
  have hi : ∀ (x : Int) (l : List Int), (insU x l).length ≤ l.length + 1 := by
    intro x l
    induction l with
    | nil => simp [insU]
    | cons y ys ih =>
      unfold insU
      split
      · simp
      · split
        · simp
        · simp only [List.length_cons]; omega
  intro l
  induction l with
  | nil => simp [sdd]
  | cons x xs ih => have := hi x (sdd xs); unfold sdd; simp only [List.length_cons]; omega
theorem setR_len {w : World} {h : Heap} {a : Addr} {is : List Int} {n : Nat} (R : SetR w h a (fun j => decide (j ∈ is)) n) : n = (sdd is).length := by
  obtain ⟨o, es, ep, t, ho, hex, hd, g, nd, hm, hb, hf, hn, hr, hl⟩ := R
  have hp : (es.toList.map keyOf).Perm (sdd is) := (List.perm_ext_iff_of_nodup nd (rise_nodup (sdd_pw is))).mpr fun k => by
    rw [← hm k, mem_sdd, decide_eq_true_eq]
  have := hp.length_eq
  rw [List.length_map, Array.length_toList] at this
  omega
section
variable {X : Cx} {L : Lc} {e : Expr} {es : List Expr} {t : TD} {u : TDs} {p p2 q pos px apos : Pos} {i : Nat} {x : Str}
/-- set(xs) of a list, a tuple of ints -/
def rSetI (K : PySem.W.Frag) (w : World) : List V → Hp → VK → Prop := fun vs H Q => ∃ (l : Addr) (is : List Int), vs = [V.ref l] ∧ (SqL K H l (is.map V.int) ∨ SqT K H l (is.map V.int)) ∧ is.length ≤ 1000 ∧
  ∀ a, H a = none → Q (.ref a) (upd H a (SetO w a (fun j => decide (j ∈ is)) (sdd is).length))
theorem cr_setI (hc : X.calm = true) : CallR X (.type "set") (rSetI X.K X.w) := by
  intro pins s σ H vs us Q I r h
  obtain ⟨l, is, rfl, hs, hl, go⟩ := h
  rw [Vals.ref1 r]
  have key : ∀ (g : Heap) (tk c : Nat), SetR X.w g s.heap.objs.size (fun j => decide (j ∈ is)) c → (∀ b o, s.heap.get? b = some o → g.get? b = some o) →
      ∃ (y : V) (H1 : Hp), Inv X pins σ H1 { s with heap := g, toks := tk } ∧ RelV y (Value.ref s.heap.objs.size) ∧ Q y H1 := fun g tk c hR hk => by
    have e := setR_len hR
    subst e
    exact ⟨.ref _, _, I.laid (t' := tk) hk (Nat.le_refl _) (setO_new hR), rfl, go _ (I.hok.fresh (Nat.le_refl _))⟩
  rcases hs with hs | hs
  · obtain ⟨its, rv, pl, hz⟩ := I.list hs
    exact set_of_list is (I.ok.hd hc) pl.isList (by simpa using rv.ints) (by unfold scanBound; omega) fun g tk c hR _ hk => key g tk c hR hk
  · obtain ⟨its, rv, pt, hz⟩ := I.tuple hs
    exact call_set_tupI is (I.ok.hd hc) (show s.heap.IsTuple l its.toArray from pt) (by simpa using rv.ints) (by unfold scanBound; omega) fun g tk c hR _ hk => key g tk c hR hk
theorem cr_lenSet (hc : X.calm = true) : CallR X (.builtin "len") (fun vs H Q => ∃ (a : Addr) (S : Int → Bool) (n : Nat), vs = [V.ref a] ∧ H a = some (SetO X.w a S n) ∧ Q (.int (n : Nat)) H) := by
  intro pins s σ H vs us Q I r h
  obtain ⟨a, S, n, rfl, ha, q⟩ := h
  have R := setO_get I ha
  rw [Vals.ref1 r]
  obtain ⟨o, es, ep, t, ho, hex, hd, _, _, _, hb, hf, hn, _, _⟩ := R
  subst hn
  exact call_len_set ho hex hd hf (by unfold scanBound at hb; omega) ⟨.int es.size, H, I.tok _, ⟨_, rfl⟩, q⟩
def o_sset : O1
  | .lst ds, R => ∃ is : List Int, ds = is.map DV.int ∧ is.length < 64 ∧ R (.lst ((sdd is).map DV.int))
  | .tup ds, R => ∃ is : List Int, ds = is.map DV.int ∧ is.length < 64 ∧ R (.lst ((sdd is).map DV.int))
  | _, _ => False
def o_lset : O1
  | .lst ds, R => ∃ is : List Int, ds = is.map DV.int ∧ is.length ≤ 1000 ∧ R (.int ((sdd is).length : Nat))
  | .tup ds, R => ∃ is : List Int, ds = is.map DV.int ∧ is.length ≤ 1000 ∧ R (.int ((sdd is).length : Nat))
  | _, _ => False
theorem ints_at {G : Hp} {ps : Pst} {σ : SS} {H : Hp} {d : DV} {v : V} {is : List Int} (r : RL X.K L G ps σ H) (h : RRep X.K G H d v) (hd : d = .lst (is.map DV.int) ∨ d = .tup (is.map DV.int)) : ∃ l, v = .ref l ∧ (SqL X.K H l (is.map V.int) ∨ SqT X.K H l (is.map V.int)) := by
  rcases hd with rfl | rfl
  · obtain ⟨a, vs, rfl, h1, h2⟩ := rr_lst r h
    rw [repL_int h2] at h1
    exact ⟨a, rfl, .inl (.inl (.inl h1))⟩
  · obtain ⟨a, vs, rfl, h1, h2⟩ := rr_tup r h
    rw [repL_int h2] at h1
    exact ⟨a, rfl, .inr h1⟩
theorem rl_upd {G : Hp} {ps : Pst} {σ : SS} {H : Hp} {a : Addr} {o : HO} (r : RL X.K L G ps σ H) (ha : H a = none) : RL X.K L G ps σ (upd H a o) := Rel.grow r (same_upd ha)
theorem fo_sset (hc : X.calm = true) (hg : Gl X "sorted") (hm : X.mg "sorted" = none) (hg2 : Gl X "set") (hm2 : X.mg "set" = none) (h : FR X L e t) (hs : starEach [e] X.env = (false, eval e X.env) :: starEach [] X.env := by rfl) :
    FO X L (.Call (.Name "sorted" p) [.Call (.Name "set" p2) [e] [] q] [] pos) (t_c1 o_sset t) :=
  PE.imp (pe_callB (cr_sortedSet hc) hg hm rfl (pa_cons (pe_callTy (cr_setI hc) hg2 hm2 rfl (pa_cons h pa_nil hs) (he := hs) (hpl := rfl)) pa_nil rfl) (he := rfl) (hpl := rfl)) fun σ H Q ⟨G, ps, Xd, R, r, x, ht, qq⟩ =>
    ⟨G, ps, Xd, _, r, x, ht, fun d p1 h1 v G1 H1 s1 r1 rp1 => by
      have key : ∀ is : List Int, d = .lst (is.map DV.int) ∨ d = .tup (is.map DV.int) → is.length < 64 → R (.lst ((sdd is).map DV.int)) p1 → rSetI X.K X.w [v] H1 (fun x H2 => rSortedSet X.w [x] H2 Q) := fun is hd hl hR => by
        obtain ⟨l, rfl, hq⟩ := ints_at r1 rp1 hd
        refine ⟨l, is, rfl, hq, by omega, fun a ha => ⟨a, _, _, rfl, upd_same, by have := sdd_len_le is; omega, fun ns b hpw hmem hlen hb => ?_⟩⟩
        have e : ns = sdd is := rise_eq hpw (sdd_pw is) fun k => by rw [hmem k, mem_sdd, decide_eq_true_eq]
        subst e
        have r2 := rl_upd (o := SetO X.w a (fun j => decide (j ∈ is)) (sdd is).length) r1 ha
        have rp : RepL X.K G1 ((sdd is).map DV.int) ((sdd is).map V.int) := by
          generalize sdd is = l
          induction l with
          | nil => exact rfl
          | cons y ys ih => exact ⟨_, _, rfl, rfl, ih⟩
        obtain ⟨r3, o3, f3⟩ := fo_new (X := X) r2 hb rp
        exact qq _ p1 hR b G1 _ s1 r3 o3 f3
      cases d with
      | lst ds =>
        obtain ⟨is, rfl, hl, hR⟩ := h1
        exact key is (.inl rfl) hl hR
      | tup ds =>
        obtain ⟨is, rfl, hl, hR⟩ := h1
        exact key is (.inr rfl) hl hR
      | _ => exact h1.elim⟩
theorem fe_lset (hc : X.calm = true) (hg : Gl X "len") (hm : X.mg "len" = none) (hg2 : Gl X "set") (hm2 : X.mg "set" = none) (h : FR X L e t) (hs : starEach [e] X.env = (false, eval e X.env) :: starEach [] X.env := by rfl) :
    FE X L (.Call (.Name "len" p) [.Call (.Name "set" p2) [e] [] q] [] pos) (t_c1 o_lset t) :=
  PE.imp (pe_callB (cr_lenSet hc) hg hm rfl (pa_cons (pe_callTy (cr_setI hc) hg2 hm2 rfl (pa_cons h pa_nil hs) (he := hs) (hpl := rfl)) pa_nil rfl) (he := rfl) (hpl := rfl)) fun σ H Q ⟨G, ps, Xd, R, r, x, ht, qq⟩ =>
    ⟨G, ps, Xd, _, r, x, ht, fun d p1 h1 v G1 H1 s1 r1 rp1 => by
      have key : ∀ is : List Int, d = .lst (is.map DV.int) ∨ d = .tup (is.map DV.int) → is.length ≤ 1000 → R (.int ((sdd is).length : Nat)) p1 → rSetI X.K X.w [v] H1 (fun x H2 => ∃ (a : Addr) (S : Int → Bool) (n : Nat), [x] = [V.ref a] ∧ H2 a = some (SetO X.w a S n) ∧ Q (.int (n : Nat)) H2) := fun is hd hl hR => by
        obtain ⟨l, rfl, hq⟩ := ints_at r1 rp1 hd
        refine ⟨l, is, rfl, hq, hl, fun a ha => ⟨a, _, _, rfl, upd_same, ?_⟩⟩
        exact qq _ p1 hR _ G1 _ s1 (rl_upd r1 ha) rfl
      cases d with
      | lst ds =>
        obtain ⟨is, rfl, hl, hR⟩ := h1
        exact key is (.inl rfl) hl hR
      | tup ds =>
        obtain ⟨is, rfl, hl, hR⟩ := h1
        exact key is (.inr rfl) hl hR
      | _ => exact h1.elim⟩
/-! sorted(xs), xs a tuple -/
/-- the heap with a copy of the items -/
abbrev soC (s : Shared) (vs : List Value) : Heap := (s.heap.push (seqObj "list" #[] 0)).update s.heap.objs.size (Obj.mapSeq (· ++ vs.toArray))
theorem items_of_tup {P : Program} {w : World} {A : Around} {E : Value → Shared → Prop} {s : Shared} {l : Addr} {vs : List Value} {Q : List Value → Shared → Prop} (hl : s.heap.IsTuple l vs.toArray) (few : vs.length ≤ sizeLine)
    (go : Q vs { s with heap := soC s vs }) : wpAny (model P w) A (collect (.ref l)) Q E s := by
  obtain ⟨ob, hob, ec, n, ed⟩ := id hl
  unfold collect
  refine wpAny_bind (wpAny_runValue (codeAny_builtin entry_proto_collect' (?_ : wpAny _ _ (do again (.builtin "list.__iadd__" ⟨[← newList [], .ref l], []⟩)) _ _ s)))
  refine wpAny_bind (wpAny_newList (wpAny_pure (And.intro (Code.quiet_builtin _ (by decide +kernel)) (codeAny_builtin entry_list_iadd' (?_ : wpAny _ _ (Builtin.List.listExtendWith (.ref s.heap.objs.size) (.ref l) (.ref s.heap.objs.size)) _ _ { s with heap := s.heap.push (seqObj "list" #[] 0) })))))
  unfold Builtin.List.listExtendWith
  have hob2 : (s.heap.push (seqObj "list" #[] 0)).get? l = some ob := Heap.get?_push_of_some _ hob
  refine wpAny_bind (wpAny_typeOf (T := "tuple") ⟨ob, hob2, ec⟩ ?_)
  rw [if_pos (by rw [show (Value.type "tuple" == Value.type "tuple") = true from rfl]; simp)]
  refine wpAny_bind (listItems_at hob2 ed (wpAny_bind (listItems_at (xs := #[]) (n := 0) (Heap.get?_push_size _ rfl) rfl ?_)))
  rw [if_neg (by simp)]
  refine wpAny_bind (listUpdate_at (xs := #[]) (n := 0) (Heap.get?_push_size _ rfl) rfl (wpAny_pure ?_) (Nat.zero_le _) (by show (#[] ++ vs.toArray).size ≤ sizeLine + 1; simp only [Array.size_append, List.size_toArray, List.length_nil]; omega))
  show wpAny (model P w) A (do
      let y ← load s.heap.objs.size
      match y.data with
      | .seq xs _ => pure xs.toList
      | _ => unsupported "internal:collect") Q E { s with heap := soC s vs }
  refine wpAny_bind (wpAny_load (get?_update_seq (Heap.get?_push_size _ rfl) _) ?_)
  show wpAny _ _ (pure ((#[] : Array Value) ++ vs.toArray).toList) Q E _
  rw [show ((#[] : Array Value) ++ vs.toArray).toList = vs by simp]; exact wpAny_pure go
theorem soC_size (s : Shared) (vs : List Value) : (soC s vs).objs.size = s.heap.objs.size + 1 := (Heap.size_update ..).trans (size_push' ..)
theorem soC_old {s : Shared} {vs : List Value} {b : Addr} {o : Obj} (e : s.heap.get? b = some o) : (soC s vs).get? b = some o := by
  have lt : b < s.heap.objs.size := Heap.lt_size e
  unfold soC
  exact ((Heap.get?_update_ne _ _ _ _ (Nat.ne_of_lt lt)).trans (Heap.get?_push_ne _ _ _ (Nat.ne_of_lt lt))).trans e
theorem sort_tup {P : Program} {w : World} {A : Around} {E : Value → Shared → Prop} {s : Shared} {β : Type} {vs : List Value} {bs : List β} {enc : β → PyData} {M : Value → β → Prop} {l : Addr} {Q : Value → Shared → Prop} (hl : s.heap.IsTuple l vs.toArray)
    (e1 : PySem.W.EachIs M vs bs) (e2 : PySem.W.EachIs (fun v b => ∃ as, Reads s.heap v (enc b) as) vs bs) (al : PySem.W.AllAlike (bs.map enc)) (so : PySem.W.Sortable (bs.map enc)) (few : bs.length ≤ sizeLine)
    (un : ∀ b, b ∈ bs → A.units + 2 + (enc b).depth < cLine)
    (go : ∀ (out : List Value) (g : Heap) (a : Addr) (c : Nat), out.length = bs.length → PySem.W.EachIs M out (bs.mergeSort (PySem.W.dataLe false enc)) → (∀ b o, s.heap.get? b = some o → g.get? b = some o) → s.heap.objs.size ≤ a → g.get? a = some (seqObj "list" out.toArray c) → Q (.ref a) { s with heap := g }) :
    wpAny (model P w) A (call (.builtin "sorted") [.ref l]) Q E s := by
  have hlen : vs.length = bs.length := e1.length
  obtain ⟨o, ho, hc, n, hd⟩ := hl
  refine Calls.call_function_entry kind_sorted plain_sorted entry_sorted (args_sorted1 _) ?_
  unfold Builtin.«sorted»
  refine wpAny_bind (m := checkCount "sorted" 1 1 _) (wpAny_pure ?_)
  refine wpAny_bind (items_of_tup ⟨o, ho, hc, n, hd⟩ (by rw [hlen]; exact few) ?_)
  obtain ⟨h', eh⟩ : ∃ h' : Heap, h' = soC s vs := ⟨_, rfl⟩
  rw [← eh]
  have k : ∀ b u, s.heap.get? b = some u → h'.get? b = some u := fun b u e => by rw [eh]; exact soC_old e
  refine wpAny_bind (wpAny_newList ?_ (by rw [hlen]; exact few))
  have hoL : (h'.push (seqObj "list" vs.toArray 0)).get? h'.objs.size = some (seqObj "list" vs.toArray 0) := Heap.get?_push_size _ rfl
  have sz : s.heap.objs.size ≤ h'.objs.size := by rw [eh, soC_size]; exact Nat.le_succ _
  have kk : ∀ b u, s.heap.get? b = some u → (PySem.W.sortingHeap (h'.push (seqObj "list" vs.toArray 0)) h'.objs.size vs).get? b = some u := fun b u e =>
    PySem.W.sortingHeap_old (Nat.ne_of_lt (Heap.lt_size (k b u e))) (Heap.get?_push_of_some _ (k b u e))
  have er' : PySem.W.EachIs (fun v b => ∃ as, Reads (PySem.W.sortingHeap (h'.push (seqObj "list" vs.toArray 0)) h'.objs.size vs) v (enc b) as) vs bs := e2.mono fun _ _ ⟨as, r⟩ => ⟨as, Reads.keeps (fun b u e => kk b u e) r⟩
  refine wpAny_bind (wpAny_holding (wpAny_call_entry slot_list_sort ⟨_, hoL, rfl⟩ entry_list_sort (PySem.W.list_sort_vals (s := { s with heap := h'.push (seqObj "list" vs.toArray 0) }) hoL
    (PySem.W.SortsAt.data (s := { s with heap := PySem.W.sortingHeap (h'.push (seqObj "list" vs.toArray 0)) h'.objs.size vs }) (PySem.W.each_map (R := fun v d => ∃ as, Reads (PySem.W.sortingHeap (h'.push (seqObj "list" vs.toArray 0)) h'.objs.size vs) v d as) enc er') al so (PySem.W.bound_map un)) (by rw [hlen]; exact few) ⟨.none, rfl, ?_⟩) (args_list_sort _)))
  obtain ⟨c, hcc⟩ := sortedHeap_at (vs := vs) (out := (PySem.W.sortVals (PySem.W.dataKind (PySem.W.sortingHeap (h'.push (seqObj "list" vs.toArray 0)) h'.objs.size vs) (bs.map enc)) false vs vs).toArray) hoL
  refine wpAny_pure ⟨_, rfl, go _ _ _ c (by rw [PySem.W.sortVals_length false rfl]; exact hlen) (PySem.W.sortVals_data false e1 er' al) (fun b u e => ?_) sz hcc⟩
  have q := k b u e
  rw [sortedHeap_old (Nat.ne_of_lt (Heap.lt_size q)) (by rw [size_push']; exact Nat.lt_succ_of_lt (Heap.lt_size q))]
  exact Heap.get?_push_of_some _ q
theorem cr_sortTup (hu : X.A.units + 64 < cLine) : CallR X (.builtin "sorted") (fun ws H Q => ∃ (G : Hp) (a : Addr) (vs : List V) (ds : List DV), ws = [V.ref a] ∧ SqT X.K H a vs ∧ Same G H ∧ RepL X.K G ds vs ∧ Sortb ds ∧
    ∀ (l : Addr) (vs' : List V), H l = none → RepL X.K G (ds.mergeSort dle) vs' → Q (.ref l) (upd H l (.lst vs'))) := by
  intro pins s σ H ws us Q I r h
  obtain ⟨G, a, vs, ds, rfl, hs, sg, hr, ⟨hcm, hso⟩, q⟩ := h
  rw [Vals.ref1 r]
  obtain ⟨its, rv, hl, hz⟩ := I.tuple hs
  obtain ⟨e1, e2⟩ := EachIs_of (K := X.K) I sg hcm.1 hr rv
  refine sort_tup (M := fun v d => ∃ w, RelV w v ∧ Rep X.K G d w) (enc := DV.py) (show s.heap.IsTuple a its.toArray from hl) e1 e2 (fun d hd d' hd' => ?_) hso (by rw [← hr.length]; exact hz) (fun b hb => ?_) fun out g p c h1 h2 k hp hg => ?_
  · obtain ⟨x, hx, rfl⟩ := List.mem_map.mp hd
    obtain ⟨y, hy, rfl⟩ := List.mem_map.mp hd'
    exact hcm.2.1 x hx y hy
  · have := (hcm.1 b hb).shape.2
    omega
  · obtain ⟨vs', k1, k2⟩ := each_vals h2
    rw [dataLe_dle] at k2
    have hlen : vs'.length ≤ sizeLine := by
      rw [k1.length, h1, ← hr.length]; exact hz
    exact ⟨.ref _, upd H p (.lst vs'), I.laid (t' := s.toks) k hp ⟨hlen, out, c, k1, hg⟩, rfl, q _ _ (I.hok.fresh hp) k2⟩
def o_sortedT : O1
  | .tup ds, R => Sortb ds ∧ R (.lst (ds.mergeSort dle))
  | .lst ds, R => Sortb ds ∧ R (.lst (ds.mergeSort dle))
  | _, _ => False
theorem co_sortedT (hu : X.A.units + 64 < cLine) : CO1 X (.builtin "sorted") o_sortedT := fun L G p σ H x vx R Q r rx ho q => by
  cases x with
  | tup ds =>
    obtain ⟨a, vs, rfl, h1, h2⟩ := rr_tup r rx
    exact ⟨_, cr_sortTup hu, G, a, vs, ds, rfl, h1, r.sG, h2, ho.1, fun l vs' hl hr => q.laid r hl ho.2 hr⟩
  | lst ds =>
    obtain ⟨a, vs, rfl, h1, h2⟩ := rr_lst r rx
    exact ⟨_, cr_sortedD hu, G, a, vs, ds, rfl, .inl (.inl h1), r.sG, h2, ho.1, fun l vs' hl hr => q.laid r hl ho.2 hr⟩
  | _ => exact ho.elim
end
end DD
/-! DDr: steps of readings. -/
namespace DD
open PySem PySem.Spec PyProof.Rows L2
section
variable {e : ED} {p p1 p2 : Pst} {A B : TSd} {t ta tb tc : TD} {u : TDs} {um : TMs} {Xd : XD} {R : DV → Pst → Prop} {Rs : List DV → Pst → Prop} {Rm : List Sl → Pst → Prop} {i j : Nat} {d x y z : DV} {o o' : O2} {g : TGd} {k k2 : Bool} {TA TB' : TB}
/-! statements -/
theorem s_seq (h : A { e with nx := fun p' => B e p' } p) : t_seq A B e p := h
theorem s_skip (h : e.nx p) : t_skip e p := h
theorem s_expr (h : t e.ex p fun _ p1 => e.nx p1) : t_expr t e p := h
theorem s_ret (h : t e.ex p e.rt) : t_ret t e p := h
theorem s_retO (h : t e.ex p e.ro) : t_retO t e p := h
theorem s_retN (h : e.rt .non p) : t_retN e p := h
theorem s_set (h : t e.ex p fun d p1 => e.nx (p1.put i (.sh d))) : t_set i t e p := h
theorem s_setO (h : t e.ex p fun d p1 => e.nx (p1.put i (.ow d))) : t_setO i t e p := h
theorem s_asg (h : t e.ex p fun d p1 => g d p1 e.nx) : t_asg t g e p := h
theorem s_aug (hi : p.env[i]? = some (.sh x)) (h : t e.ex p fun y p1 => o x y fun z => e.nx (p1.put i (.sh z))) : t_aug i t o e p := by
  unfold t_aug
  rw [hi]
  exact h
theorem s_par {is : List Nat} (h : um e.ex p fun ss p1 => ss.length = is.length ∧ e.nx (putM p1 is ss)) : t_par is um e p := h
theorem s_brk (h : e.bk p) : t_brk e p := h
theorem s_cnt (h : e.ct p) : t_cnt e p := h
theorem s_for {ti : TDi} (h : ti e.ex p fun ds p1 => forD g B ds e p1) : t_for ti g B e p := h
theorem s_ownL {κ : List DV → Prop} {ds : List DV} (h0 : p.own i = some (.lst ds)) (h : κ ds) : p.ownL i κ := by
  unfold Pst.ownL
  rw [h0]
  exact h
theorem s_setI {te tk : TD} (h : te e.ex p fun v p1 => p1.ownL i fun _ => tk e.ex p1 fun k p2 => match k with
  | .int k => p2.ownL i fun ds => match ixN ds.length k with
    | some j => e.nx (p2.upL i (.lst (ds.set j v)))
    | none => False
  | _ => False) : t_setI i te tk e p := h
theorem s_augI {te tk : TD} (h : p.ownL i fun _ => tk e.ex p fun k p1 => match k with
  | .int k => p1.ownL i fun ds => match atI ds k with
    | some x => te e.ex p1 fun y p2 => o x y fun z => p2.ownL i fun ds => (match ixN ds.length k with
      | some j => e.nx (p2.upL i (.lst (ds.set j z)))
      | none => False)
    | none => False
  | _ => False) : t_augI i tk te o e p := h
/-! tests -/
def TV (t : TB) (p : Pst) (k : Bool) (p' : Pst) : Prop := ∀ Xd R, R k p' → t Xd p R
def EV (t : TD) (p : Pst) (d : DV) (p' : Pst) : Prop := ∀ Xd R, R d p' → t Xd p R
theorem s_if {c : TB} {p' : Pst} (hc : TV c p k p') (ht : k = true → A e p') (hf : k = false → B e p') : t_if c A B e p := hc _ _ (by
  show if k = true then A e p' else B e p'
  cases k with
  | true => exact ht rfl
  | false => exact hf rfl)
theorem s_ifT {c : TB} {p' : Pst} (hc : TV c p true p') (h : A e p') : t_if c A B e p := hc _ _ h
theorem s_ifF {c : TB} {p' : Pst} (hc : TV c p false p') (h : B e p') : t_if c A B e p := hc _ _ h
theorem tv_tst (h : EV t p (.bl k) p1) : TV (t_tst t) p k p1 := fun Xd R q => h Xd _ q
theorem tv_and (h1 : TV TA p k p) (h2 : k = true → TV TB' p k2 p) : TV (t_and TA TB') p (k && k2) p := fun Xd R q => h1 Xd _ (by
  cases k with
  | true => exact h2 rfl Xd _ q
  | false => exact q)
theorem tv_or (h1 : TV TA p k p) (h2 : k = false → TV TB' p k2 p) : TV (t_or TA TB') p (k || k2) p := fun Xd R q => h1 Xd _ (by
  cases k with
  | true => exact q
  | false => exact h2 rfl Xd _ q)
theorem tv_not (h1 : TV TA p k p1) : TV (t_not TA) p (!k) p1 := fun Xd R q => h1 Xd _ q
theorem EV.use {p' : Pst} (h : EV t p d p') (q : R d p') : t Xd p R := h Xd R q
theorem TV.use {c : TB} {p' : Pst} {Rb : Bool → Pst → Prop} (h : TV c p k p') (q : Rb k p') : c Xd p Rb := h Xd Rb q
/-! expressions by value -/
theorem ev_v (hi : p.env[i]? = some (.sh d)) : EV (t_v i) p d p := fun Xd R q => by
  unfold t_v
  rw [hi]
  exact q
theorem ev_vo (hi : p.env[i]? = some (.ow d)) : EV (t_v i) p d (p.put i (.sh d)) := fun Xd R q => by
  unfold t_v
  rw [hi]
  exact q
theorem at_sh {κ : DV → Prop} (hi : p.env[i]? = some (.sh d)) (h : κ d) : p.at i κ := by unfold Pst.at; rw [hi]; exact h
theorem at_ow {κ : DV → Prop} (hi : p.env[i]? = some (.ow d)) (h : κ d) : p.at i κ := by unfold Pst.at; rw [hi]; exact h
theorem at_bo {κ : DV → Prop} (hi : p.env[i]? = some (.bo j)) (hj : p.bor[j]? = some d) (h : κ d) : p.at i κ := by
  unfold Pst.at
  rw [hi]
  simp only [hj]
  exact h
theorem ev_rd (hi : p.env[i]? = some (.sh d)) : EV (t_rd i) p d p := fun Xd R q => at_sh hi q
theorem ev_rdo (hi : p.env[i]? = some (.ow d)) : EV (t_rd i) p d p := fun Xd R q => at_ow hi q
theorem ev_rdb (hi : p.env[i]? = some (.bo j)) (hj : p.bor[j]? = some d) : EV (t_rd i) p d p := fun Xd R q => at_bo hi hj q
theorem ev_take (hi : p.env[i]? = some (.ow d)) : EV (t_take i) p d (p.put i .un) := fun Xd R q => by
  unfold t_take
  rw [hi]
  exact q
theorem ev_c : EV (t_c d) p d p := fun Xd R q => q
def OV (o : O2) (x y z : DV) : Prop := ∀ R : DV → Prop, R z → o x y R
def UV (o : O1) (x z : DV) : Prop := ∀ R : DV → Prop, R z → o x R
def NV (o : On) (xs : List DV) (z : DV) : Prop := ∀ R : DV → Prop, R z → o xs R
theorem ev_bin (ha : EV ta p x p1) (hb : EV tb p1 y p2) (ho : OV o x y z) : EV (t_bin o ta tb) p z p2 := fun Xd R q => ha Xd _ (hb Xd _ (ho _ q))
theorem ev_c1 {o : O1} (ha : EV ta p x p1) (ho : UV o x z) : EV (t_c1 o ta) p z p1 := fun Xd R q => ha Xd _ (ho _ q)
def AV (u : TDs) (p : Pst) (ds : List DV) (p' : Pst) : Prop := ∀ Xd R, R ds p' → u Xd p R
theorem av_nil : AV t_nil p [] p := fun Xd R q => q
theorem av_cons {ds : List DV} (h1 : EV t p d p1) (h2 : AV u p1 ds p2) : AV (t_cons t u) p (d :: ds) p2 := fun Xd R q => h1 Xd _ (h2 Xd _ q)
theorem ev_cn {o : On} {ds : List DV} (ha : AV u p ds p1) (ho : NV o ds z) : EV (t_cn o u) p z p1 := fun Xd R q => ha Xd _ (ho _ q)
theorem ev_tup {ds : List DV} (ha : AV u p ds p1) (hl : ds.length ≤ sizeLine) : EV (t_tup u) p (.tup ds) p1 := fun Xd R q => ha Xd _ ⟨hl, q⟩
theorem ev_lst {ds : List DV} (ha : AV u p ds p1) (hl : ds.length ≤ sizeLine) : EV (t_lst u) p (.lst ds) p1 := fun Xd R q => ha Xd _ ⟨hl, q⟩
theorem ev_andV (h1 : EV ta p (.bl k) p) (h2 : k = true → EV tb p (.bl k2) p) : EV (t_andV ta tb) p (.bl (k && k2)) p := fun Xd R q => h1 Xd _ (by
  cases k with
  | true => exact h2 rfl Xd _ q
  | false => exact q)
theorem ev_orV (h1 : EV ta p (.bl k) p) (h2 : k = false → EV tb p (.bl k2) p) : EV (t_orV ta tb) p (.bl (k || k2)) p := fun Xd R q => h1 Xd _ (by
  cases k with
  | true => exact q
  | false => exact h2 rfl Xd _ q)
theorem ev_notV (h1 : EV ta p (.bl k) p1) : EV (t_notV ta) p (.bl (!k)) p1 := fun Xd R q => h1 Xd _ q
theorem ev_chain (ha : EV ta p x p) (hb : EV tb p y p) (ho : OV o x y (.bl k)) (hc : k = true → EV tc p z p) (ho' : k = true → OV o' y z (.bl k2)) : EV (t_chain o o' ta tb tc) p (.bl (k && k2)) p := fun Xd R q => ha Xd _ (hb Xd _ (ho _ (by
  cases k with
  | true => exact hc rfl Xd _ (ho' rfl _ q)
  | false => exact q)))
theorem ev_ifT {c : TB} (hc : TV c p true p1) (h : EV ta p1 d p2) : EV (t_ifE c ta tb) p d p2 := fun Xd R q => hc Xd _ (h Xd _ q)
theorem ev_ifF {c : TB} (hc : TV c p false p1) (h : EV tb p1 d p2) : EV (t_ifE c ta tb) p d p2 := fun Xd R q => hc Xd _ (h Xd _ q)
theorem ev_ix (ha : EV ta p x p1) (hb : EV tb p1 y p2) (ho : OV o_ix x y z) : EV (t_bin o_ix ta tb) p z p2 := ev_bin ha hb ho
theorem ev_ixv (hi : p.env[i]? = some (.sh x)) (hb : EV tb p y p) (ho : OV o_ix x y z) : EV (t_ixv i tb) p z p := fun Xd R q => at_sh hi (hb Xd _ (at_sh hi (ho _ q)))
theorem ev_ixvo (hi : p.env[i]? = some (.ow x)) (hb : EV tb p y p) (ho : OV o_ix x y z) : EV (t_ixv i tb) p z p := fun Xd R q => at_ow hi (hb Xd _ (at_ow hi (ho _ q)))
theorem ev_ixvb (hi : p.env[i]? = some (.bo j)) (hj : p.bor[j]? = some x) (hb : EV tb p y p) (ho : OV o_ix x y z) : EV (t_ixv i tb) p z p := fun Xd R q => at_bo hi hj (hb Xd _ (at_bo hi hj (ho _ q)))
def CV (C : CD) (env : List Sl) (bor : List DV) (d : DV) (bor' : List DV) : Prop := ∀ Xd R, R d bor' → C env bor Xd R
theorem ev_call {n : Nat} {C : CD} {ds : List DV} (ha : AV u p ds p1) (hl : ds.length = n) (hC : CV C (ds.map .sh) [] d []) : EV (t_call n [] C u) p d p1 := fun Xd R q => ha Xd _ ⟨hl, by rw [List.append_nil]; exact hC _ _ q⟩
def PV (t : TDo) (p : Pst) (o : Option Int) : Prop := ∀ Xd R, R o p → t Xd p R
theorem pv_none : PV t_none p none := fun Xd R q => q
theorem pv_some {n : Int} (h : EV t p (.int n) p) : PV (t_some t) p (some n) := fun Xd R q => h Xd _ q
theorem ev_slv {tl th : TDo} {lo hi : Option Int} (h : p.env[i]? = some (.sh x)) (hl : PV tl p lo) (hh : PV th p hi) (ho : ∀ R : DV → Prop, R z → o_sl x lo hi R) : EV (t_slv i tl th) p z p := fun Xd R q => at_sh h (hl Xd _ (hh Xd _ (at_sh h (ho _ q))))
/-! operators -/
theorem ov_add {i j : Int} : OV o_add (.int i) (.int j) (.int (i + j)) := fun R q => q
theorem ov_addT {xs ys : List DV} (h : xs.length + ys.length ≤ sizeLine) : OV o_add (.tup xs) (.tup ys) (.tup (xs ++ ys)) := fun R q => ⟨h, q⟩
theorem ov_sub {i j : Int} : OV o_sub (.int i) (.int j) (.int (i - j)) := fun R q => q
theorem ov_mul {i j : Int} (h : CMulX i j) : OV o_mul (.int i) (.int j) (.int (i * j)) := fun R q => ⟨h, q⟩
theorem ov_fdiv {i j : Int} (h : CDivW i j) : OV o_fdiv (.int i) (.int j) (.int (i / j)) := fun R q => ⟨h, q⟩
theorem ov_mod {i j : Int} (h : 0 < j) : OV o_mod (.int i) (.int j) (.int (i % j)) := fun R q => ⟨h, q⟩
theorem ov_pow {i j : Int} (h : CPowX i j) : OV o_pow (.int i) (.int j) (.int (i ^ j.toNat)) := fun R q => ⟨h, q⟩
theorem ov_lt {i j : Int} : OV o_lt (.int i) (.int j) (.bl (decide (i < j))) := fun R q => q
theorem ov_le {i j : Int} : OV o_le (.int i) (.int j) (.bl (decide (i ≤ j))) := fun R q => q
theorem ov_gt {i j : Int} : OV o_gt (.int i) (.int j) (.bl (decide (j < i))) := fun R q => q
theorem ov_ge {i j : Int} : OV o_ge (.int i) (.int j) (.bl (decide (j ≤ i))) := fun R q => q
theorem ov_eq (hx : Pl 20 x) (hy : Pl 20 y) : OV o_eq x y (.bl (deq x y)) := fun R q => ⟨hx, hy, q⟩
theorem ov_ne (hx : Pl 20 x) (hy : Pl 20 y) : OV o_ne x y (.bl (!deq x y)) := fun R q => ⟨hx, hy, q⟩
theorem ov_eqi {i j : Int} : OV o_eq (.int i) (.int j) (.bl (decide (i = j))) := fun R q => ⟨trivial, trivial, by
  have e : deq (.int i) (.int j) = decide (i = j) := by simp only [deq, DV.py, PyData.eqv]; exact Bool.eq_iff_iff.mpr (by simp)
  rw [e]; exact q⟩
theorem ov_nei {i j : Int} : OV o_ne (.int i) (.int j) (.bl (!decide (i = j))) := fun R q => ⟨trivial, trivial, by
  have e : deq (.int i) (.int j) = decide (i = j) := by simp only [deq, DV.py, PyData.eqv]; exact Bool.eq_iff_iff.mpr (by simp)
  rw [e]; exact q⟩
theorem ov_isN : OV o_is x .non (.bl x.isNon) := fun R q => by cases x <;> exact q
theorem ov_isntN : OV o_isnt x .non (.bl (!x.isNon)) := fun R q => by cases x <;> exact q
theorem ov_isB {a b : Bool} : OV o_is (.bl a) (.bl b) (.bl (decide (a = b))) := fun R q => q
theorem ov_isntB {a b : Bool} : OV o_isnt (.bl a) (.bl b) (.bl (!decide (a = b))) := fun R q => q
theorem ov_ixL {xs : List DV} {i : Int} (h : atI xs i = some z) : OV o_ix (.lst xs) (.int i) z := fun R q => by
  show (match atI xs i with | some d => R d | none => False)
  rw [h]; exact q
theorem ov_ixR {xs : List DV} {i : Int} (h : atI xs i = some z) : OV o_ix (.rol xs) (.int i) z := fun R q => by
  show (match atI xs i with | some d => R d | none => False)
  rw [h]; exact q
theorem ov_ixT {xs : List DV} {i : Int} (h : atI xs i = some z) : OV o_ix (.tup xs) (.int i) z := fun R q => by
  show (match atI xs i with | some d => R d | none => False)
  rw [h]; exact q
theorem uv_lenL {xs : List DV} : UV o_len (.lst xs) (.int xs.length) := fun R q => q
theorem uv_lenT {xs : List DV} : UV o_len (.tup xs) (.int xs.length) := fun R q => q
theorem uv_lenR {xs : List DV} : UV o_len (.rol xs) (.int xs.length) := fun R q => q
theorem uv_int {i : Int} : UV o_int (.int i) (.int i) := fun R q => q
theorem uv_intB {b : Bool} : UV o_int (.bl b) (.int (if b then 1 else 0)) := fun R q => q
theorem uv_abs {i : Int} : UV o_abs (.int i) (.int (if i < 0 then -i else i)) := fun R q => q
theorem uv_sum {ns : List Int} : UV o_sum (.lst (ns.map .int)) (.int ns.sum) := fun R q => ⟨ns, rfl, q⟩
theorem uv_sumR {ns : List Int} : UV o_sum (.rol (ns.map .int)) (.int ns.sum) := fun R q => ⟨ns, rfl, q⟩
theorem uv_sumT {ns : List Int} : UV o_sum (.tup (ns.map .int)) (.int ns.sum) := fun R q => ⟨ns, rfl, q⟩
theorem uv_all {bs : List Bool} : UV o_all (.lst (bs.map .bl)) (.bl (bs.all _root_.id)) := fun R q => ⟨bs, rfl, q⟩
theorem uv_any {bs : List Bool} : UV o_any (.lst (bs.map .bl)) (.bl (bs.any _root_.id)) := fun R q => ⟨bs, rfl, q⟩
theorem uv_tupL {xs : List DV} : UV o_tuple (.lst xs) (.tup xs) := fun R q => q
theorem uv_tupT {xs : List DV} : UV o_tuple (.tup xs) (.tup xs) := fun R q => q
theorem uv_lstL {xs : List DV} : UV o_list (.lst xs) (.lst xs) := fun R q => q
theorem uv_lstT {xs : List DV} : UV o_list (.tup xs) (.lst xs) := fun R q => q
theorem uv_isi {κ : DV → Bool} (h : x.data = true) : UV (fun x R => x.data = true ∧ R (.bl (κ x))) x (.bl (κ x)) := fun R q => ⟨h, q⟩
theorem nv_min2 {i j : Int} : NV o_min2 [.int i, .int j] (.int (min i j)) := fun R q => by
  have e : min i j = if j < i then j else i := by rw [Int.min_def]; split <;> split <;> omega
  rw [e] at q
  exact q
theorem nv_max2 {i j : Int} : NV o_max2 [.int i, .int j] (.int (max i j)) := fun R q => by
  have e : max i j = if j > i then j else i := by rw [Int.max_def]; split <;> split <;> omega
  rw [e] at q
  exact q
/-! comprehensions -/
theorem lcD_map {tt : TB} {te : TD} {vs : List Nat} {env : List Sl} {bor : List DV} {κ : List DV → List DV → Prop} (f : DV → DV) (E : DV → List Sl) : ∀ {ds acc : List DV},
    (∀ d ∈ ds, ∀ (kf : Pst → Prop) (κ' : DV → Pst → Prop), κ' (f d) ⟨E d, bor⟩ → g d ⟨wipeE env vs, bor⟩ fun p2 => tt (fun _ _ => False) p2 fun b p3 => if b = true then te (fun _ _ => False) p3 κ' else kf p3) →
    (∀ d ∈ ds, wipeE (E d) vs = wipeE env vs) → acc.length + ds.length ≤ sizeLine → κ (acc ++ ds.map f) bor → lcD g tt te vs env ds bor acc κ
  | [], acc, _, _, _, q => by rw [List.map_nil, List.append_nil] at q; exact q
  | d :: ds, acc, h, hE, hl, q => by
    rw [List.length_cons] at hl
    refine h d List.mem_cons_self _ _ ⟨hE d List.mem_cons_self, by omega, ?_⟩
    refine lcD_map f E (fun d' hd => h d' (List.mem_cons_of_mem _ hd)) (fun d' hd => hE d' (List.mem_cons_of_mem _ hd)) (by rw [List.length_append, List.length_singleton]; omega) ?_
    rw [List.append_assoc]
    exact q
theorem lcD_fil {tt : TB} {te : TD} {vs : List Nat} {env : List Sl} {bor : List DV} {κ : List DV → List DV → Prop} (f : DV → DV) (b : DV → Bool) (E E' : DV → List Sl) : ∀ {ds acc : List DV},
    (∀ d ∈ ds, ∀ (kf : Pst → Prop) (κ' : DV → Pst → Prop), (b d = true → κ' (f d) ⟨E d, bor⟩) → (b d = false → kf ⟨E' d, bor⟩) → g d ⟨wipeE env vs, bor⟩ fun p2 => tt (fun _ _ => False) p2 fun b p3 => if b = true then te (fun _ _ => False) p3 κ' else kf p3) →
    (∀ d ∈ ds, wipeE (E d) vs = wipeE env vs) → (∀ d ∈ ds, wipeE (E' d) vs = wipeE env vs) → acc.length + ds.length ≤ sizeLine → κ (acc ++ (ds.filter b).map f) bor → lcD g tt te vs env ds bor acc κ
  | [], acc, _, _, _, _, q => by rw [List.filter_nil, List.map_nil, List.append_nil] at q; exact q
  | d :: ds, acc, h, hE, hE', hl, q => by
    rw [List.length_cons] at hl
    refine h d List.mem_cons_self _ _ (fun hb => ⟨hE d List.mem_cons_self, by omega, ?_⟩) (fun hb => ⟨hE' d List.mem_cons_self, ?_⟩)
    · refine lcD_fil f b E E' (fun d' hd => h d' (List.mem_cons_of_mem _ hd)) (fun d' hd => hE d' (List.mem_cons_of_mem _ hd)) (fun d' hd => hE' d' (List.mem_cons_of_mem _ hd)) (by rw [List.length_append, List.length_singleton]; omega) ?_
      rw [List.filter_cons_of_pos hb, List.map_cons] at q
      rw [List.append_assoc]
      exact q
    · refine lcD_fil f b E E' (fun d' hd => h d' (List.mem_cons_of_mem _ hd)) (fun d' hd => hE d' (List.mem_cons_of_mem _ hd)) (fun d' hd => hE' d' (List.mem_cons_of_mem _ hd)) (by omega) ?_
      rw [List.filter_cons_of_neg (by rw [hb]; exact Bool.false_ne_true)] at q
      exact q
/-! walks, targets, comprehensions by value -/
def noOwnB (env : List Sl) : List Nat → Bool
  | [] => true
  | v :: vs => (match env[v]? with
    | some (.ow _) => false
    | some (.bo _) => false
    | _ => true) && noOwnB env vs
theorem noown_ok {env : List Sl} : ∀ {vs : List Nat}, noOwnB env vs = true → NoOwn env vs
  | [], _ => trivial
  | v :: vs, h => by
    unfold noOwnB at h
    rw [Bool.and_eq_true] at h
    refine ⟨?_, noown_ok h.2⟩
    have h1 := h.1
    cases e : env[v]? with
    | none => trivial
    | some s =>
      rw [e] at h1
      cases s <;> first | exact True.intro | cases h1
def IV (ti : TDi) (p : Pst) (ds : List DV) (p' : Pst) : Prop := ∀ Xd R, R ds p' → ti Xd p R
theorem iv_itL {ds : List DV} (h : EV t p (.lst ds) p1) : IV (t_it t) p ds p1 := fun Xd R q => h Xd _ q
theorem iv_itT {ds : List DV} (h : EV t p (.tup ds) p1) : IV (t_it t) p ds p1 := fun Xd R q => h Xd _ q
theorem iv_enumL {ds : List DV} (h : EV t p (.lst ds) p1) : IV (t_enum t) p (enumD 0 ds) p1 := fun Xd R q => h Xd _ q
theorem iv_enumT {ds : List DV} (h : EV t p (.tup ds) p1) : IV (t_enum t) p (enumD 0 ds) p1 := fun Xd R q => h Xd _ q
theorem iv_zipTT {ds es : List DV} (h : EV ta p (.tup ds) p1) (h2 : EV tb p1 (.tup es) p2) : IV (t_zip ta tb) p (zipD ds es) p2 := fun Xd R q => h Xd _ (h2 Xd _ q)
theorem iv_rng1 {n : Int} (h : AV u p [.int n] p1) (hn : B62 n) : IV (t_rng1 u) p (rangeD 0 1 n.toNat) p1 := fun Xd R q => h Xd _ ⟨hn, q⟩
theorem iv_rng2 {m n : Int} (h : AV u p [.int m, .int n] p1) (hm : B62 m) (hn : B62 n) : IV (t_rng2 u) p (rangeD m 1 (n - m).toNat) p1 := fun Xd R q => h Xd _ ⟨hm, hn, q⟩
def GV (g : TGd) (d : DV) (p p' : Pst) : Prop := ∀ R : Pst → Prop, R p' → g d p R
def GVs (g : TGds) (ds : List DV) (p p' : Pst) : Prop := ∀ R : Pst → Prop, R p' → g ds p R
theorem gv_name : GV (g_name i) d p (p.put i (.sh d)) := fun R q => q
theorem gv_tup {n : Nat} {gs : TGds} {ds : List DV} (hl : ds.length = n) (h : GVs gs ds p p1) : GV (g_tup n gs) (.tup ds) p p1 := fun R q => ⟨hl, h R q⟩
theorem gv_nil : GVs g_nil [] p p := fun R q => q
theorem gv_cons {gs : TGds} {ds : List DV} (h1 : GV g d p p1) (h2 : GVs gs ds p1 p2) : GVs (g_cons g gs) (d :: ds) p p2 := fun R q => h1 _ (h2 _ q)
def LV (g : TGd) (tt : TB) (te : TD) (vs : List Nat) (env : List Sl) (ds bor acc : List DV) : Prop := ∀ κ : List DV → List DV → Prop, κ acc bor → lcD g tt te vs env ds bor [] κ
theorem ev_lc {ti : TDi} {tt : TB} {te : TD} {vs : List Nat} {ds acc : List DV} (hi : IV ti p ds p1) (hn : NoOwn p1.env vs) (hl : LV g tt te vs p1.env ds p1.bor acc) : EV (t_lc ti g tt te vs) p (.lst acc) p1 := fun Xd R q => hi Xd _ ⟨hn, hl _ q⟩
def LS (g : TGd) (tt : TB) (te : TD) (vs : List Nat) (env : List Sl) (bor : List DV) (d y : DV) (E : List Sl) : Prop := ∀ (kf : Pst → Prop) (κ' : DV → Pst → Prop), κ' y ⟨E, bor⟩ → g d ⟨wipeE env vs, bor⟩ fun p2 => tt (fun _ _ => False) p2 fun b p3 => if b = true then te (fun _ _ => False) p3 κ' else kf p3
theorem ls_yes {te : TD} {vs : List Nat} {env : List Sl} {bor : List DV} {E : List Sl} {y' : DV} {p3 : Pst} (hg : GV g d ⟨wipeE env vs, bor⟩ p2) (he : EV te p2 y' p3) (hy : y' = y) (hp : p3 = ⟨E, bor⟩) : LS g t_yes te vs env bor d y E := fun kf κ' q => by
  subst hy hp
  exact hg _ (he _ _ q)
theorem lv_map {α : Type} {xs : List α} {tt : TB} {te : TD} {vs : List Nat} {env : List Sl} {ds bor acc : List DV} (F f : α → DV) (E : α → List Sl) (h : ∀ x ∈ xs, LS g tt te vs env bor (F x) (f x) (E x)) (hE : ∀ x ∈ xs, wipeE (E x) vs = wipeE env vs) (hl : xs.length ≤ sizeLine) (hds : ds = xs.map F) (ha : acc = xs.map f) : LV g tt te vs env ds bor acc := by
  subst hds ha
  intro κ q
  have key : ∀ (xs : List α) (acc : List DV), (∀ x ∈ xs, LS g tt te vs env bor (F x) (f x) (E x)) → (∀ x ∈ xs, wipeE (E x) vs = wipeE env vs) → acc.length + xs.length ≤ sizeLine → κ (acc ++ xs.map f) bor → lcD g tt te vs env (xs.map F) bor acc κ := by
    intro xs
    induction xs with
    | nil => intro acc _ _ _ q; rw [List.map_nil, List.append_nil] at q; exact q
    | cons x xs ih =>
      intro acc h hE hl q
      rw [List.length_cons] at hl
      refine h x List.mem_cons_self _ _ ⟨hE x List.mem_cons_self, by omega, ?_⟩
      refine ih _ (fun d' hd => h d' (List.mem_cons_of_mem _ hd)) (fun d' hd => hE d' (List.mem_cons_of_mem _ hd)) (by rw [List.length_append, List.length_singleton]; omega) ?_
      rw [List.append_assoc]
      exact q
  exact key xs [] h hE (by simpa using hl) (by simpa using q)
/-- with a test -/
def LF (g : TGd) (tt : TB) (te : TD) (vs : List Nat) (env : List Sl) (bor : List DV) (d : DV) (b : Bool) (y : DV) (E E' : List Sl) : Prop := ∀ (kf : Pst → Prop) (κ' : DV → Pst → Prop), (b = true → κ' y ⟨E, bor⟩) → (b = false → kf ⟨E', bor⟩) → g d ⟨wipeE env vs, bor⟩ fun p2 => tt (fun _ _ => False) p2 fun b p3 => if b = true then te (fun _ _ => False) p3 κ' else kf p3
theorem lf_of {tt : TB} {te : TD} {vs : List Nat} {env : List Sl} {bor : List DV} {E E' : List Sl} {k' : Bool} {p3 p4 : Pst} {y' : DV} (hg : GV g d ⟨wipeE env vs, bor⟩ p2) (ht : TV tt p2 k' p3) (hk : k' = k) (hp3 : p3 = ⟨E', bor⟩) (he : EV te p3 y' p4) (hy : y' = y) (hp4 : p4 = ⟨E, bor⟩) : LF g tt te vs env bor d k y E E' := fun kf κ' q1 q2 => hg _ (ht _ _ (by
  subst hk hy hp3 hp4
  cases k' with
  | true => exact he _ _ (q1 rfl)
  | false => exact q2 rfl))
theorem lv_fil {α : Type} {xs : List α} {tt : TB} {te : TD} {vs : List Nat} {env : List Sl} {ds bor acc : List DV} (F f : α → DV) (b : α → Bool) (E E' : α → List Sl) (h : ∀ x ∈ xs, LF g tt te vs env bor (F x) (b x) (f x) (E x) (E' x)) (hE : ∀ x ∈ xs, wipeE (E x) vs = wipeE env vs) (hE' : ∀ x ∈ xs, wipeE (E' x) vs = wipeE env vs) (hl : xs.length ≤ sizeLine) (hds : ds = xs.map F) (ha : acc = (xs.filter b).map f) : LV g tt te vs env ds bor acc := by
  subst hds ha
  intro κ q
  have key : ∀ (xs : List α) (acc : List DV), (∀ x ∈ xs, LF g tt te vs env bor (F x) (b x) (f x) (E x) (E' x)) → (∀ x ∈ xs, wipeE (E x) vs = wipeE env vs) → (∀ x ∈ xs, wipeE (E' x) vs = wipeE env vs) → acc.length + xs.length ≤ sizeLine → κ (acc ++ (xs.filter b).map f) bor → lcD g tt te vs env (xs.map F) bor acc κ := by
    intro xs
    induction xs with
    | nil => intro acc _ _ _ _ q; rw [List.filter_nil, List.map_nil, List.append_nil] at q; exact q
    | cons x xs ih =>
      intro acc h hE hE' hl q
      rw [List.length_cons] at hl
      refine h x List.mem_cons_self _ _ (fun hb => ⟨hE x List.mem_cons_self, by omega, ?_⟩) (fun hb => ⟨hE' x List.mem_cons_self, ?_⟩)
      · refine ih _ (fun d' hd => h d' (List.mem_cons_of_mem _ hd)) (fun d' hd => hE d' (List.mem_cons_of_mem _ hd)) (fun d' hd => hE' d' (List.mem_cons_of_mem _ hd)) (by rw [List.length_append, List.length_singleton]; omega) ?_
        rw [List.filter_cons_of_pos hb, List.map_cons] at q
        rw [List.append_assoc]
        exact q
      · refine ih _ (fun d' hd => h d' (List.mem_cons_of_mem _ hd)) (fun d' hd => hE d' (List.mem_cons_of_mem _ hd)) (fun d' hd => hE' d' (List.mem_cons_of_mem _ hd)) (by omega) ?_
        rw [List.filter_cons_of_neg (by rw [hb]; exact Bool.false_ne_true)] at q
        exact q
  exact key xs [] h hE hE' (by simpa using hl) (by simpa using q)
theorem forD_nil {b : TSd} (h : e.nx p) : forD g b [] e p := h
theorem forD_cons {b : TSd} {ds : List DV} (h : g d p fun p1 => b { e with nx := fun p2 => forD g b ds e p2, ct := fun p2 => forD g b ds e p2, bk := e.nx } p1) : forD g b (d :: ds) e p := h
theorem forD_z {b : TSd} {lo c : Int} (h : e.nx p) : forD g b (rangeD lo c 0) e p := h
theorem forD_s {b : TSd} {lo c : Int} {m : Nat} (h : g (.int lo) p fun p1 => b { e with nx := fun p2 => forD g b (rangeD (lo + c) c m) e p2, ct := fun p2 => forD g b (rangeD (lo + c) c m) e p2, bk := e.nx } p1) : forD g b (rangeD lo c (m + 1)) e p := h
theorem atI_0 {α : Type} {x : α} {l : List α} : atI (x :: l) 0 = some x := by
  unfold atI ixN
  rw [if_pos (by omega), if_pos (by simp only [List.length_cons]; omega)]
  rfl
theorem atI_1 {α : Type} {x y : α} {l : List α} : atI (x :: y :: l) 1 = some y := by
  unfold atI ixN
  rw [if_pos (by omega), if_pos (by simp only [List.length_cons]; omega)]
  rfl
theorem atI_2 {α : Type} {x y z : α} {l : List α} : atI (x :: y :: z :: l) 2 = some z := by
  unfold atI ixN
  rw [if_pos (by omega), if_pos (by simp only [List.length_cons]; omega)]
  rfl
theorem atI_n {α : Type} {l : List α} {x : α} {i : Int} {n : Nat} (h : l[n]? = some x) (e : i = (n : Int)) : atI l i = some x := by
  have hl := (List.getElem?_eq_some_iff.mp h).1
  subst e
  unfold atI ixN
  rw [if_pos (by omega), if_pos (by omega)]
  simpa using h
theorem iv_use {ti : TDi} {ds : List DV} (h : IV ti p ds p1) (q : Rs ds p1) : ti Xd p Rs := h Xd Rs q
theorem gv_use {κ : Pst → Prop} (h : GV g d p p1) (q : κ p1) : g d p κ := h κ q
theorem hr_of {e : ED} {d d' : DV} {p : Pst} {b : List DV} (h : ∀ p, p.bor = b → e.rt d p) (hp : p.bor = b) (hd : d' = d) : e.rt d' p := by subst hd; exact h p hp
/-- a body's end -/
theorem cv_body {m : Nat} {T : TSd} {env : List Sl} {bor b' : List DV} (h : ∀ e : ED, (∀ p, p.bor = b' → e.rt d p) → (d = .non → ∀ p, p.bor = b' → e.nx p) → T e ⟨env ++ List.replicate (m - env.length) .un, bor⟩) : CV (bodyC false m T) env bor d b' := fun Xd R q =>
  h _ (fun p hp => ⟨rfl, by rw [hp]; exact q⟩) (fun hd p hp => ⟨rfl, by subst hd; rw [hp]; exact q⟩)
theorem dv_body {m : Nat} {T : TSd} {env : List Sl} {bor : List DV} {Xd : XB} {κ : DV → List DV → Prop} (h : ∀ e : ED, (∀ d p, κ d p.bor → e.rt d p) → (∀ p, κ .non p.bor → e.nx p) → T e ⟨env ++ List.replicate (m - env.length) .un, bor⟩) : bodyC false m T env bor Xd κ :=
  h _ (fun d p q => ⟨rfl, q⟩) (fun p q => ⟨rfl, q⟩)
theorem dv_bodyO {m : Nat} {T : TSd} {env : List Sl} {bor : List DV} {Xd : XB} {κ : DV → List DV → Prop} (h : ∀ e : ED, (∀ d p, κ d p.bor → e.ro d p) → T e ⟨env ++ List.replicate (m - env.length) .un, bor⟩) : bodyC true m T env bor Xd κ :=
  h _ (fun d p q => ⟨rfl, q⟩)
/-! more statements -/
theorem ov_addI {i j : Int} : OV o_addI (.int i) (.int j) (.int (i + j)) := fun R q => q
theorem s_call {n : Nat} {C : CD} {ds : List DV} (ha : AV u p ds p1) (hl : ds.length = n) (hC : C (ds.map .sh) [] (fun x _ => Xd x p1) (fun d _ => R d p1)) : t_call n [] C u Xd p R := ha Xd _ ⟨hl, by rw [List.append_nil]; exact hC⟩
theorem s_bin (h : ta Xd p fun x p1 => tb Xd p1 fun y p2 => o x y fun d => R d p2) : t_bin o ta tb Xd p R := h
theorem s_c1 {o : O1} (h : t Xd p fun x p1 => o x fun d => R d p1) : t_c1 o t Xd p R := h
theorem s_cn {o : On} (h : u Xd p fun xs p1 => o xs fun d => R d p1) : t_cn o u Xd p R := h
theorem s_tup (h : u Xd p fun ds p1 => ds.length ≤ sizeLine ∧ R (.tup ds) p1) : t_tup u Xd p R := h
theorem s_lst (h : u Xd p fun ds p1 => ds.length ≤ sizeLine ∧ R (.lst ds) p1) : t_lst u Xd p R := h
theorem s_nil (h : Rs [] p) : t_nil Xd p Rs := h
theorem s_cons (h : t Xd p fun d p1 => u Xd p1 fun ds p2 => Rs (d :: ds) p2) : t_cons t u Xd p Rs := h
theorem s_tst {Rb : Bool → Pst → Prop} (h : t Xd p fun d p1 => match d with
  | .bl b => Rb b p1
  | _ => False) : t_tst t Xd p Rb := h
theorem sm_nil (h : Rm [] p) : m_nil Xd p Rm := h
theorem sm_sh (h : t Xd p fun d p1 => um Xd p1 fun ss p2 => Rm (.sh d :: ss) p2) : m_sh t um Xd p Rm := h
theorem sm_ow (h : t Xd p fun d p1 => um Xd p1 fun ss p2 => Rm (.ow d :: ss) p2) : m_ow t um Xd p Rm := h
def MV (um : TMs) (p : Pst) (ss : List Sl) (p' : Pst) : Prop := ∀ Xd R, R ss p' → um Xd p R
theorem MV.use {ss : List Sl} (h : MV um p ss p1) (q : Rm ss p1) : um Xd p Rm := h Xd Rm q
theorem mv_nil : MV m_nil p [] p := fun Xd R q => q
theorem mv_sh {ss : List Sl} (h1 : EV t p d p1) (h2 : MV um p1 ss p2) : MV (m_sh t um) p (.sh d :: ss) p2 := fun Xd R q => h1 Xd _ (h2 Xd _ q)
theorem mv_ow {ss : List Sl} (h1 : EV t p d p1) (h2 : MV um p1 ss p2) : MV (m_ow t um) p (.ow d :: ss) p2 := fun Xd R q => h1 Xd _ (h2 Xd _ q)
theorem ev_mulL {ds : List DV} {j : Int} (ha : EV ta p (.lst ds) p1) (hb : EV tb p1 (.int j) p2) (h1 : -(2 ^ 63) ≤ j) (h2 : j < 2 ^ 63) (h3 : ds.length * j.toNat ≤ sizeLine) : EV (t_mulL ta tb) p (.lst (List.replicate j.toNat ds).flatten) p2 := fun Xd R q => ha Xd _ (hb Xd _ ⟨h1, h2, h3, q⟩)
theorem ev_lrg1 {n : Int} (h : EV t p (.int n) p1) (hn : RgOk 0 n) : EV (t_lrg1 t) p (.lst (rangeD 0 1 (n - 0).toNat)) p1 := fun Xd R q => h Xd _ ⟨hn, q⟩
theorem ev_app {ds : List DV} (h0 : p.own i = some (.lst ds)) (h : EV t p d p) (hl : ds.length < sizeLine) : EV (t_app i t) p .non (p.upL i (.lst (ds ++ [d]))) := fun Xd R q => s_ownL h0 (h Xd _ (s_ownL h0 ⟨hl, q⟩))
theorem s_app {ds0 : List DV} (h0 : p.own i = some (.lst ds0)) (h : t Xd p fun d p1 => p1.ownL i fun ds => ds.length < sizeLine ∧ R .non (p1.upL i (.lst (ds ++ [d])))) : t_app i t Xd p R := s_ownL h0 h
theorem s_augIv {te tk : TD} {ds : List DV} {k : Int} {n : Nat} (h0 : p.own i = some (.lst ds)) (hk : EV tk p (.int k) p) (hj : ixN ds.length k = some n) (hx : ds[n]? = some x) (he : EV te p y p) (ho : OV o x y z) (h : e.nx (p.upL i (.lst (ds.set n z)))) : t_augI i tk te o e p := by
  refine s_ownL h0 (hk _ _ (s_ownL h0 ?_))
  have e1 : atI ds k = some x := by unfold atI; rw [hj]; exact hx
  show (match atI ds k with
    | some x => te e.ex p fun y p2 => o x y fun z => p2.ownL i fun ds => (match ixN ds.length k with
      | some j => e.nx (p2.upL i (.lst (ds.set j z)))
      | none => False)
    | none => False)
  rw [e1]
  refine he _ _ (ho _ (s_ownL h0 ?_))
  rw [hj]
  exact h
theorem s_setIv {te tk : TD} {ds : List DV} {k : Int} {n : Nat} (he : EV te p y p) (h0 : p.own i = some (.lst ds)) (hk : EV tk p (.int k) p) (hj : ixN ds.length k = some n) (h : e.nx (p.upL i (.lst (ds.set n y)))) : t_setI i te tk e p := by
  refine he _ _ (s_ownL h0 (hk _ _ (s_ownL h0 ?_)))
  rw [hj]
  exact h
theorem s_augv (hi : p.env[i]? = some (.sh x)) (he : EV t p y p) (ho : OV o x y z) (h : e.nx (p.put i (.sh z))) : t_aug i t o e p := s_aug hi (he _ _ (ho _ h))
theorem s_while {c : TB} {b : TSd} (n : Nat) (h : whD c b n e p) : t_while c b e p := ⟨n, h⟩
theorem whD_step {c : TB} {b : TSd} {n : Nat} (hc : TV c p k p1) (ht : k = true → b { e with nx := fun p2 => whD c b n e p2, ct := fun p2 => whD c b n e p2, bk := e.nx } p1) (hf : k = false → e.nx p1) : whD c b (n + 1) e p := hc _ _ (by
  show if k = true then _ else _
  cases k with
  | true => exact ht rfl
  | false => exact hf rfl)
theorem ixN_nat {n : Nat} {k : Int} {j : Nat} (e : k = (j : Int)) (h : j < n) : ixN n k = some j := by
  subst e
  unfold ixN
  rw [if_pos (by omega), if_pos (by omega)]
  rfl
/-! lent -/
def cbK (n : Nat) (C : CD) (i : Nat) (Xd : XD) (R : DV → Pst → Prop) : List DV → Pst → Prop := fun ds p1 => match p1.own i with
  | some d0 => ds.length + 1 = n ∧ C (.bo 0 :: (ds ++ []).map .sh) [d0] (fun x b => match b with
    | [d1] => Xd x (p1.upL i d1)
    | _ => False) (fun d b => match b with
    | [d1] => R d (p1.upL i d1)
    | _ => False)
  | none => False
theorem s_callB {n : Nat} {C : CD} (h0 : (p.own i).isSome = true) (h : u Xd p (cbK n C i Xd R)) : t_callB n [] C i u Xd p R := ⟨h0, h⟩
theorem cb_of {n : Nat} {C : CD} {ds : List DV} {d0 : DV} (h0 : p.own i = some d0) (hl : ds.length + 1 = n) (hC : C (.bo 0 :: ds.map .sh) [d0] (fun x b => match b with
    | [d1] => Xd x (p.upL i d1)
    | _ => False) (fun d b => match b with
    | [d1] => R d (p.upL i d1)
    | _ => False)) : cbK n C i Xd R ds p := by
  unfold cbK
  rw [h0]
  exact ⟨hl, by rw [List.append_nil]; exact hC⟩
theorem s_callT {n : Nat} {C : CD} (h : t Xd p fun d0 p1 => n = 1 ∧ C [.bo 0] [d0] (fun x _ => Xd x p1) (fun d _ => R d p1)) : t_callT n [] C t Xd p R := h
theorem s_ixv (hi : p.env[i]? = some (.sh x)) (h : tb Xd p fun y p1 => p1.at i fun d => o_ix d y fun z => R z p1) : t_ixv i tb Xd p R := at_sh hi h
theorem s_popAt {ds0 : List DV} (h0 : p.own i = some (.lst ds0)) (h : t Xd p fun d p1 => match d with
  | .int k => -(2 ^ 63) ≤ k ∧ k < 2 ^ 63 ∧ p1.ownL i fun ds => (match ixN ds.length k with
    | some j => (match ds[j]? with
      | some y => R y (p1.upL i (.lst (ds.eraseIdx j)))
      | none => False)
    | none => False)
  | _ => False) : t_popAt i t Xd p R := s_ownL h0 h
theorem pop_of {κ : Nat → DV → Prop} {ds : List DV} {k : Int} {j : Nat} (hj : ixN ds.length k = some j) (hx : ds[j]? = some x) (h : κ j x) : match ixN ds.length k with
    | some j => (match ds[j]? with
      | some y => κ j y
      | none => False)
    | none => False := by
  rw [hj]
  simp only [hx]
  exact h
theorem s_lrg1 (h : t Xd p fun d p1 => match d with
  | .int n => RgOk 0 n ∧ R (.lst (rangeD 0 1 (n - 0).toNat)) p1
  | _ => False) : t_lrg1 t Xd p R := h
theorem s_ifE {c : TB} (h : c Xd p fun k p1 => if k = true then ta Xd p1 R else tb Xd p1 R) : t_ifE c ta tb Xd p R := h
theorem s_it (h : t Xd p fun d p1 => d.items fun ds => Rs ds p1) : t_it t Xd p Rs := h
theorem s_rng1 (h : u Xd p fun ds p1 => match ds with
  | [.int j] => B62 j ∧ Rs (rangeD 0 1 j.toNat) p1
  | _ => False) : t_rng1 u Xd p Rs := h
theorem tv_andF (h1 : TV TA p false p1) : TV (t_and TA TB') p false p1 := fun Xd R q => h1 Xd _ q
theorem tv_andT (h1 : TV TA p true p1) (h2 : TV TB' p1 k p2) : TV (t_and TA TB') p k p2 := fun Xd R q => h1 Xd _ (h2 Xd _ q)
theorem tv_orT (h1 : TV TA p true p1) : TV (t_or TA TB') p true p1 := fun Xd R q => h1 Xd _ q
theorem tv_orF (h1 : TV TA p false p1) (h2 : TV TB' p1 k p2) : TV (t_or TA TB') p k p2 := fun Xd R q => h1 Xd _ (h2 Xd _ q)
theorem tv_as {t : TB} (h : TV t p k p1) (e : k = k2) : TV t p k2 p1 := by subst e; exact h
theorem ev_as (h : EV t p d p1) (e : d = x) : EV t p x p1 := by subst e; exact h
end
end DD
/-! DDs: more steps of readings. -/
namespace DD
open PySem PySem.Spec PyProof.Rows L2
section
variable {e : ED} {p p1 p2 : Pst} {A B : TSd} {t ta tb tc : TD} {u : TDs} {um : TMs} {Xd : XD} {R : DV → Pst → Prop} {Rs : List DV → Pst → Prop} {i j : Nat} {d x y z : DV}
theorem ev_neg {i : Int} (h : EV ta p (.int i) p1) : EV (t_neg ta) p (.int (-i)) p1 := fun Xd R q => h Xd _ q
theorem iv_zipLL {ds es : List DV} (h : EV ta p (.lst ds) p1) (h2 : EV tb p1 (.lst es) p2) : IV (t_zip ta tb) p (zipD ds es) p2 := fun Xd R q => h Xd _ (h2 Xd _ q)
theorem iv_zipLT {ds es : List DV} (h : EV ta p (.lst ds) p1) (h2 : EV tb p1 (.tup es) p2) : IV (t_zip ta tb) p (zipD ds es) p2 := fun Xd R q => h Xd _ (h2 Xd _ q)
theorem iv_zipTL {ds es : List DV} (h : EV ta p (.tup ds) p1) (h2 : EV tb p1 (.lst es) p2) : IV (t_zip ta tb) p (zipD ds es) p2 := fun Xd R q => h Xd _ (h2 Xd _ q)
theorem ov_addL {xs ys : List DV} (h : xs.length + ys.length ≤ sizeLine) : OV o_add (.lst xs) (.lst ys) (.lst (xs ++ ys)) := fun R q => ⟨h, q⟩
theorem ov_mulT {xs : List DV} {j : Int} (h1 : xs ≠ []) (h2 : 2 ≤ j) (h3 : j ≤ 1000) (h4 : xs.length ≤ 1000) : OV o_mul (.tup xs) (.int j) (.tup (List.replicate j.toNat xs).flatten) := fun R q => ⟨h1, h2, h3, h4, q⟩
theorem av_starL {xs ys : List DV} (h1 : EV t p (.lst xs) p1) (h2 : AV u p1 ys p2) : AV (t_star t u) p (xs ++ ys) p2 := fun Xd R q => h1 Xd _ (h2 Xd _ q)
theorem av_starT {xs ys : List DV} (h1 : EV t p (.tup xs) p1) (h2 : AV u p1 ys p2) : AV (t_star t u) p (xs ++ ys) p2 := fun Xd R q => h1 Xd _ (h2 Xd _ q)
theorem ev_ext {zs ds : List DV} (h0 : p.own i = some (.lst ds)) (h : EV t p (.lst zs) p) (hl : ds.length + zs.length ≤ sizeLine) : EV (t_ext i t) p .non (p.upL i (.lst (ds ++ zs))) := fun Xd R q => s_ownL h0 (h Xd _ (s_ownL h0 ⟨hl, q⟩))
theorem cutD_tail {α : Type} (xs : List α) : cutD xs (some 1) none = xs.tail := by
  unfold cutD
  rw [show (1 : Int) = ((1 : Nat) : Int) from rfl, HT.sIx_nat, HT.sIx_none]
  cases xs with
  | nil => rfl
  | cons x xs =>
    rw [List.length_cons, Nat.min_eq_left (by omega), Nat.add_sub_cancel]
    simp
theorem cutD_nat {α : Type} (xs : List α) (a b : Nat) (h : b ≤ xs.length) (hab : a ≤ b) : cutD xs (some (a : Int)) (some (b : Int)) = (xs.drop a).take (b - a) := by
  unfold cutD
  rw [HT.sIx_nat, HT.sIx_nat, Nat.min_eq_left h, Nat.min_eq_left (by omega)]
theorem cutD_take {α : Type} (xs : List α) (b : Nat) : cutD xs none (some (b : Int)) = xs.take b := by
  unfold cutD
  rw [HT.sIx_nat, HT.sIx_none]
  simp only [List.drop_zero, Nat.sub_zero]
  rcases Nat.le_total b xs.length with h | h
  · rw [Nat.min_eq_left h]
  · rw [Nat.min_eq_right h, List.take_of_length_le (Nat.le_refl _), List.take_of_length_le h]
theorem cutD_mapD {α β : Type} (f : α → β) (l : List α) (lo hi : Option Int) : cutD (l.map f) lo hi = (cutD l lo hi).map f := by
  unfold cutD
  rw [List.length_map, List.map_take, List.map_drop]
theorem sl_T {xs : List DV} {lo hi : Option Int} (h : cutD xs lo hi = ys) : ∀ R : DV → Prop, R (.tup ys) → o_sl (.tup xs) lo hi R := fun R q => by subst h; exact q
theorem sl_L {xs : List DV} {lo hi : Option Int} (h : cutD xs lo hi = ys) : ∀ R : DV → Prop, R (.lst ys) → o_sl (.lst xs) lo hi R := fun R q => by subst h; exact q
theorem sl_T1 {xs : List DV} : ∀ R : DV → Prop, R (.tup xs.tail) → o_sl (.tup xs) (some 1) none R := sl_T (cutD_tail xs)
theorem sl_L1 {xs : List DV} : ∀ R : DV → Prop, R (.lst xs.tail) → o_sl (.lst xs) (some 1) none R := sl_L (cutD_tail xs)
theorem iv_zsL {ds es : List DV} (h : p.env[i]? = some (.sh (.lst ds))) (h2 : p.env[j]? = some (.sh (.lst es))) : IV (t_zip (t_v i) (t_slv j (t_some (t_c (.int 1))) t_none)) p (zipD ds es.tail) p := iv_zipLL (ev_v h) (ev_slv h2 (pv_some ev_c) pv_none sl_L1)
theorem iv_zsT {ds es : List DV} (h : p.env[i]? = some (.sh (.tup ds))) (h2 : p.env[j]? = some (.sh (.tup es))) : IV (t_zip (t_v i) (t_slv j (t_some (t_c (.int 1))) t_none)) p (zipD ds es.tail) p := iv_zipTT (ev_v h) (ev_slv h2 (pv_some ev_c) pv_none sl_T1)
theorem iv_zvLL {ds es : List DV} (h : p.env[i]? = some (.sh (.lst ds))) (h2 : p.env[j]? = some (.sh (.lst es))) : IV (t_zip (t_v i) (t_v j)) p (zipD ds es) p := iv_zipLL (ev_v h) (ev_v h2)
theorem iv_zvLT {ds es : List DV} (h : p.env[i]? = some (.sh (.lst ds))) (h2 : p.env[j]? = some (.sh (.tup es))) : IV (t_zip (t_v i) (t_v j)) p (zipD ds es) p := iv_zipLT (ev_v h) (ev_v h2)
theorem iv_zvTL {ds es : List DV} (h : p.env[i]? = some (.sh (.tup ds))) (h2 : p.env[j]? = some (.sh (.lst es))) : IV (t_zip (t_v i) (t_v j)) p (zipD ds es) p := iv_zipTL (ev_v h) (ev_v h2)
theorem iv_zvTT {ds es : List DV} (h : p.env[i]? = some (.sh (.tup ds))) (h2 : p.env[j]? = some (.sh (.tup es))) : IV (t_zip (t_v i) (t_v j)) p (zipD ds es) p := iv_zipTT (ev_v h) (ev_v h2)
theorem uv_lsetT {is : List Int} (h : is.length ≤ 1000) : UV o_lset (.tup (is.map .int)) (.int (sdd is).length) := fun R q => ⟨_, rfl, h, q⟩
theorem uv_lsetL {is : List Int} (h : is.length ≤ 1000) : UV o_lset (.lst (is.map .int)) (.int (sdd is).length) := fun R q => ⟨_, rfl, h, q⟩
theorem uv_sset {ds : List DV} {is : List Int} (e : ds = is.map .int) (h : is.length < 64) : UV o_sset (.lst ds) (.lst ((sdd is).map .int)) := fun R q => ⟨_, e, h, q⟩
theorem uv_sortL {ds es : List DV} (h : Sortb ds) (e : ds.mergeSort dle = es) : UV o_sortedT (.lst ds) (.lst es) := fun R q => by subst e; exact ⟨h, q⟩
theorem uv_sortT {ds es : List DV} (h : Sortb ds) (e : ds.mergeSort dle = es) : UV o_sortedT (.tup ds) (.lst es) := fun R q => by subst e; exact ⟨h, q⟩
theorem pl_int {i : Int} : Pl 20 (.int i) := trivial
theorem pl_part : Pl 20 (.str "part") := by show PyData.strOk _ = true; decide +kernel
theorem pl_money : Pl 20 (.str "money") := by show PyData.strOk _ = true; decide +kernel
theorem pl_same : Pl 20 (.str "same") := by show PyData.strOk _ = true; decide +kernel
theorem pl_two : Pl 20 (.str "two") := by show PyData.strOk _ = true; decide +kernel
theorem ov_eqs {i j : Str} (h1 : Pl 20 (.str i)) (h2 : Pl 20 (.str j)) : OV o_eq (.str i) (.str j) (.bl (decide (i = j))) := fun R q => ⟨h1, h2, q⟩
theorem ev_ifE {c : TB} {k : Bool} (hc : TV c p k p1) (h1 : k = true → EV ta p1 x p2) (h2 : k = false → EV tb p1 y p2) : EV (t_ifE c ta tb) p (if k = true then x else y) p2 := by
  cases k with
  | true => exact ev_ifT hc (h1 rfl)
  | false => exact ev_ifF hc (h2 rfl)
theorem s_ext {ds0 : List DV} (h0 : p.own i = some (.lst ds0)) (h : t Xd p fun d p1 => match d with
  | .lst zs => p1.ownL i fun ds => ds.length + zs.length ≤ sizeLine ∧ R .non (p1.upL i (.lst (ds ++ zs)))
  | _ => False) : t_ext i t Xd p R := s_ownL h0 h
theorem ov_inL {ds : List DV} (hx : Pl 20 x) (hd : Pl 20 (.lst ds)) : OV (o_in false) x (.lst ds) (.bl (dIn x ds)) := fun R q => ⟨hx, hd, q⟩
theorem ov_ninL {ds : List DV} (hx : Pl 20 x) (hd : Pl 20 (.lst ds)) : OV (o_in true) x (.lst ds) (.bl (!dIn x ds)) := fun R q => ⟨hx, hd, q⟩
theorem plL_ints (xs : List Int) : Pl 20 (.lst (xs.map DV.int)) := fun d hd => by
  obtain ⟨y, _, rfl⟩ := List.mem_map.mp hd
  trivial
theorem plT_ints (xs : List Int) : Pl 20 (.tup (xs.map DV.int)) := fun d hd => by
  obtain ⟨y, _, rfl⟩ := List.mem_map.mp hd
  trivial
theorem dIn_ints (k : Int) (xs : List Int) : dIn (.int k) (xs.map DV.int) = decide (k ∈ xs) := by
  unfold dIn
  rw [List.any_map]
  refine Bool.eq_iff_iff.mpr ?_
  rw [List.any_eq_true, decide_eq_true_eq]
  constructor
  · rintro ⟨z, hz, h⟩
    have : z = k := by simpa using h
    rw [← this]; exact hz
  · intro h
    exact ⟨k, h, by simp⟩
theorem dlt_ii2 {a b c d : Int} : dlt (.tup [.int a, .int b]) (.tup [.int c, .int d]) = (decide (a < c) || (!decide (c < a) && decide (b < d))) := by
  have hb : ∀ x y : Int, itemLt (.inl x) (.inl y) = decide (x < y) := fun x y => rfl
  show PyProof.Rows.lexLt PyProof.Rows.itemOrd [.inl 1, .inl a, .inl 1, .inl b, .inl 0] [.inl 1, .inl c, .inl 1, .inl d, .inl 0] = _
  simp only [PyProof.Rows.lexLt, hb]
  by_cases h1 : a < c <;> by_cases h2 : c < a <;> by_cases h3 : b < d <;> by_cases h4 : d < b <;> simp [h1, h2, h3, h4]
theorem cmpb_ii (l : List (Int × Int)) : Cmpb (l.map fun p => .tup [.int p.1, .int p.2]) := by
  refine ⟨fun d hd => ?_, fun x hx y hy => ?_, fun x hx => ?_⟩
  · obtain ⟨p, _, rfl⟩ := List.mem_map.mp hd
    intro d hd
    rcases List.mem_cons.mp hd with rfl | hd
    · trivial
    · rcases List.mem_cons.mp hd with rfl | hd
      · trivial
      · cases hd
  · obtain ⟨p, _, rfl⟩ := List.mem_map.mp hx
    obtain ⟨q, _, rfl⟩ := List.mem_map.mp hy
    rfl
  · obtain ⟨p, _, rfl⟩ := List.mem_map.mp hx
    rfl
theorem cmpb_ints (l : List Int) : Cmpb (l.map DV.int) := by
  refine ⟨fun d hd => ?_, fun x hx y hy => ?_, fun x hx => ?_⟩
  · obtain ⟨p, _, rfl⟩ := List.mem_map.mp hd; trivial
  · obtain ⟨p, _, rfl⟩ := List.mem_map.mp hx
    obtain ⟨q, _, rfl⟩ := List.mem_map.mp hy
    rfl
  · obtain ⟨p, _, rfl⟩ := List.mem_map.mp hx; rfl
theorem sortb_ii (l : List (Int × Int)) : Sortb (l.map fun p => .tup [.int p.1, .int p.2]) := ⟨cmpb_ii l, .inl fun d hd => by
  rw [List.map_map] at hd
  obtain ⟨p, _, rfl⟩ := List.mem_map.mp hd
  exact ⟨_, _, rfl⟩⟩
theorem sortb_ints (l : List Int) : Sortb (l.map DV.int) := ⟨cmpb_ints l, .inr fun d hd => by
  rw [List.map_map] at hd
  obtain ⟨p, _, rfl⟩ := List.mem_map.mp hd
  exact ⟨(fun z => by cases (show PyData.int p = PyData.none from z)), fun xs z => by cases (show PyData.int p = PyData.tuple xs from z)⟩⟩
theorem av_stTv {xs ys : List DV} (h1 : p.env[i]? = some (.sh (.tup xs))) (h2 : AV u p ys p2) : AV (t_star (t_v i) u) p (xs ++ ys) p2 := av_starT (ev_v h1) h2
theorem av_stLv {xs ys : List DV} (h1 : p.env[i]? = some (.sh (.lst xs))) (h2 : AV u p ys p2) : AV (t_star (t_v i) u) p (xs ++ ys) p2 := av_starL (ev_v h1) h2
theorem av_stLo {xs ys : List DV} (h1 : p.env[i]? = some (.ow (.lst xs))) (h2 : AV u (p.put i (.sh (.lst xs))) ys p2) : AV (t_star (t_v i) u) p (xs ++ ys) p2 := av_starL (ev_vo h1) h2
theorem plT2 {i j : Int} : Pl 20 (.tup [.int i, .int j]) := fun d hd => by
  rcases List.mem_cons.mp hd with rfl | hd
  · trivial
  · rcases List.mem_cons.mp hd with rfl | hd
    · trivial
    · cases hd
theorem ev_call1 {C : CD} {x v : DV} (ha : AV u p [x] p1) (hC : CV C [.sh x] [] v []) : EV (t_call 1 [] C u) p v p1 := ev_call ha rfl hC
theorem ev_call2 {C : CD} {x y v : DV} (ha : AV u p [x, y] p1) (hC : CV C [.sh x, .sh y] [] v []) : EV (t_call 2 [] C u) p v p1 := ev_call ha rfl hC
theorem ev_call3 {C : CD} {x y z v : DV} (ha : AV u p [x, y, z] p1) (hC : CV C [.sh x, .sh y, .sh z] [] v []) : EV (t_call 3 [] C u) p v p1 := ev_call ha rfl hC
theorem ev_call4 {C : CD} {x y z w v : DV} (ha : AV u p [x, y, z, w] p1) (hC : CV C [.sh x, .sh y, .sh z, .sh w] [] v []) : EV (t_call 4 [] C u) p v p1 := ev_call ha rfl hC
theorem zipD_maps {α β : Type} (F : α → DV) (G : β → DV) : ∀ (xs : List α) (ys : List β), zipD (xs.map F) (ys.map G) = (xs.zip ys).map fun p => .tup [F p.1, G p.2]
  | [], ys => by simp [zipD]
  | x :: xs, [] => by simp [zipD]
  | x :: xs, y :: ys => by simp only [List.map_cons, zipD, List.zip_cons_cons, zipD_maps F G xs ys]
theorem enumD_maps {α : Type} (F : α → DV) : ∀ (xs : List α) (n : Nat), enumD n (xs.map F) = (xs.zipIdx n).map fun q => .tup [.int q.2, F q.1]
  | [], n => rfl
  | x :: xs, n => by rw [List.map_cons, enumD, enumD_maps F xs (n + 1), List.zipIdx_cons, List.map_cons]
theorem rangeD_maps (n : Nat) : ∀ (lo : Int), rangeD lo 1 n = (List.range n).map fun (i : Nat) => DV.int (lo + i) := by
  induction n with
  | zero => intro lo; rfl
  | succ n ih =>
    intro lo
    rw [rangeD, ih, List.range_succ_eq_map, List.map_cons, List.map_map]
    congr 1
    · simp
    · refine List.map_congr_left fun a _ => ?_
      show DV.int (lo + 1 + a) = DV.int (lo + ((a + 1 : Nat) : Int))
      congr 1
      omega
theorem rangeD_nat (n : Nat) : rangeD 0 1 n = (List.range n).map fun (i : Nat) => DV.int (i : Int) := by
  rw [rangeD_maps]
  exact List.map_congr_left fun a _ => by rw [Int.zero_add]
theorem atI_last {α : Type} {l : List α} {x : α} (h : l.getLast? = some x) : atI l (-1) = some x := by
  cases l with
  | nil => simp at h
  | cons a l =>
    unfold atI ixN
    rw [if_neg (by omega), if_pos (by simp only [List.length_cons]; omega)]
    have e : (-1 + ((l.length + 1 : Nat) : Int)).toNat = l.length := by omega
    rw [List.getLast?_eq_getElem?] at h
    simp only [List.length_cons, Nat.add_sub_cancel] at h
    simp only [List.length_cons]
    rw [e]
    exact h
theorem cutD_ints {xs : List Int} : cutD (xs.map DV.int) (some 1) none = xs.tail.map DV.int := by rw [cutD_mapD, cutD_tail]
/-! equality -/
theorem deqL_maps {α : Type} {F : α → DV} {c : α → α → Bool} (h : ∀ a b, deq (F a) (F b) = c a b) (hc : ∀ a b, c a b = true ↔ a = b) : ∀ (xs ys : List α), deqL (xs.map F) (ys.map F) = true ↔ xs = ys
  | [], [] => by simp
  | [], y :: ys => by simp
  | x :: xs, [] => by simp
  | x :: xs, y :: ys => by
    rw [List.map_cons, List.map_cons, deqL_cc, h, Bool.and_eq_true, hc, deqL_maps h hc xs ys, List.cons.injEq]
theorem deqL_ints (xs ys : List Int) : deqL (xs.map DV.int) (ys.map DV.int) = true ↔ xs = ys := deqL_maps (F := DV.int) (c := fun a b => decide (a = b)) deq_ii (fun a b => decide_eq_true_iff) xs ys
theorem pl_ints : ∀ (xs : List Int), ∀ d ∈ xs.map DV.int, ∀ n, Pl n d := fun xs d hd n => by
  obtain ⟨x, _, rfl⟩ := List.mem_map.mp hd
  cases n <;> trivial
/-! sorted -/
theorem dle_ints (a b : Int) : dle (.int a) (.int b) = decide (a ≤ b) := by
  have hb : ∀ x y : Int, itemLt (.inl x) (.inl y) = decide (x < y) := fun x y => rfl
  show (!PyProof.Rows.lexLt PyProof.Rows.itemOrd [.inl b] [.inl a]) = _
  simp only [PyProof.Rows.lexLt, hb]
  by_cases h1 : b < a <;> by_cases h2 : a < b <;> simp [h1, h2] <;> omega
theorem sort_ints {xs : List Int} (h : xs.Pairwise (· ≤ ·)) : (xs.map DV.int).mergeSort dle = xs.map DV.int := by
  refine List.mergeSort_of_pairwise ?_
  rw [List.pairwise_map]
  exact h.imp fun {a b} hab => by rw [dle_ints]; exact decide_eq_true hab
end
end DD
/-! DDt: two more. -/
namespace DD
open PySem PySem.Spec PyProof.Rows L2
theorem pl_non : Pl 20 .non := trivial
theorem ev_tupLC {ti : TDi} {g : TGd} {tt : TB} {te : TD} {vs : List Nat} {p p1 : Pst} {acc : List DV} (h : EV (t_lc ti g tt te vs) p (.lst acc) p1) : EV (t_c1 o_tuple (t_lc ti g tt te vs)) p (.tup acc) p1 := fun Xd R q => h Xd _ q
end DD
set_option maxHeartbeats 0
namespace Dr
open PySem PySem.Spec PyProof.Rows L2 DD
def top (i : Nat) : Stmt := PySem.Challenge.pw_paidasused_k72_whole_estimates_and_disco.main.body.getD i (.Pass ⟨0, 0, 0, 0⟩)
def dF (i : Nat) (x : Str) : He.DefD := ⟨(x, none), x, x, defArgs (top i), defBody (top i), defScope (top i), [], []⟩
def fn : List He.DefD := [dF 8 "is_int", dF 9 "are_ints", dF 10 "is_told", dF 11 "is_rising", dF 12 "is_order", dF 18 "look_at_profile", dF 19 "are_counts", dF 20 "look_at_estimated", dF 21 "told_gap", dF 22 "told_counts", dF 23 "estimated", dF 24 "uses_by_hours", dF 25 "estimated_at", dF 26 "look_at_more", dF 27 "told_with", dF 28 "put_right", dF 29 "off_at", dF 30 "worst_off", dF 31 "best_hour", dF 39 "is_discount", dF 40 "look_at_discounts", dF 41 "lowest", dF 42 "told_off", dF 43 "told_price", dF 44 "price_of", dF 45 "told_split", dF 46 "lowest_price", dF 47 "highest_price", dF 48 "is_price", dF 49 "shows_lowest_price", dF 50 "shows_highest_price", dF 51 "does_order_matter", dF 53 "_law_pot", dF 54 "_law_take", dF 55 "_law_of", dF 56 "_law_cells", dF 57 "_law_some", dF 58 "_law_are_estimates_right", dF 59 "_law_are_discounts_right", dF 60 "_law_right", dF 61 "law"]
def fa : List He.Fa := [.glo "is_int", .glo "are_ints", .glo "is_told", .glo "is_rising", .glo "is_order", .glo "look_at_profile", .glo "are_counts", .glo "look_at_estimated", .glo "told_gap", .glo "told_counts", .glo "estimated", .glo "uses_by_hours", .glo "estimated_at", .glo "look_at_more", .glo "told_with", .glo "put_right", .glo "off_at", .glo "worst_off", .glo "best_hour", .glo "is_discount", .glo "look_at_discounts", .glo "lowest", .glo "told_off", .glo "told_price", .glo "price_of", .glo "told_split", .glo "lowest_price", .glo "highest_price", .glo "is_price", .glo "shows_lowest_price", .glo "shows_highest_price", .glo "does_order_matter", .glo "_law_pot", .glo "_law_take", .glo "_law_of", .glo "_law_cells", .glo "_law_some", .glo "_law_are_estimates_right", .glo "_law_are_discounts_right", .glo "_law_right", .glo "law", .free "ValueError", .free "abs", .free "all", .free "bool", .free "enumerate", .free "int", .free "isinstance", .free "len", .free "list", .free "max", .free "min", .free "range", .free "set", .free "sorted", .free "str", .free "sum", .free "super", .free "tuple", .free "zip", .int "MOST_HOURS" (200), .int "MOST_WEIGHT" (10000), .int "MOST_COUNT" (10000000), .int "MOST_READINGS" (40), .int "MOST_PRICE" (1000000000), .int "MOST_OFF" (12), .str "PART" "part", .str "MONEY" "money", .str "SAME" "same", .str "TWO" "two", .glo "BillError", .glo "BadInt", .glo "BadParts", .glo "BadHours", .glo "BadReadings", .glo "BadShares"]
theorem hu64 {A : Around} {k : Nat} (hr : Room k A) : A.units + 64 < cLine := by have := hr.un; omega
theorem hu65 {A : Around} {k : Nat} (hr : Room k A) : A.units + 65 < cLine := by have := hr.un; omega
theorem PO_never {X : Cx} : PassesOwn (model X.nox.prog X.nox.w) X.nox.A X.nox.env X.nox.xe := PassesOwn.never
theorem ps0 {X : Cx} {E : XK} : Passes CX0 X E := fun _ _ _ _ _ _ _ h => h.elim
section
variable {P : Program} {w : World} {K : PySem.W.Frag} {mg : Str → Option Value} {base h : Heap}
def N_is_int : List Str := ["value", "low", "high"]
def t_is_int : TSd := (t_ret (t_andV (t_c1 (fun x R => x.data = true ∧ R (.bl (DV.isInt x))) (t_v 0)) (t_andV (t_notV (t_c1 (fun x R => x.data = true ∧ R (.bl (DV.isBool x))) (t_v 0))) (t_chain o_le o_le (t_v 1) (t_v 0) (t_v 2)))))
def c_is_int : CD := bodyC false 3 t_is_int
theorem sc_is_int : FnScope N_is_int ["value", "low", "high"] (defScope (top 8)) := ⟨rfl, rfl, rfl, by decide +kernel, rfl, by decide +kernel, by decide +kernel⟩
theorem ok_is_int (X : K.In h) (G : h.Ns mainGlobals mg) (c : He.SaysD fa fn K) : DCal P w K mg base CX0 1 "is_int" false 3 [] c_is_int := by
  obtain ⟨fd, F⟩ := c.def_ 0 (d := dF 8 "is_int") rfl
  have nd := (sc_is_int).nd
  refine ⟨_, fd, ["value", "low", "high"], [], [], fn_ok F sc_is_int (fun cdv A outer s H E F' bas hr => PSs.nox ?_), He.glo_ok X G (c.fact 0 (f := .glo "is_int") rfl), F.kp, F.bindsN (fun _ _ _ _ _ _ us hl => match us, hl with | [_, _, _], _ => rfl), .nil, fun _ => rfl⟩
  exact (fss_one (fs_ret (fe_and (fe_isi isi_int rfl (He.free_ok X G (c.fact 47 (f := .free "isinstance") rfl)) rfl (fe_v (pv 0)) rfl (He.free_ok X G (c.fact 46 (f := .free "int") rfl)) rfl) (fe_and (fe_not (fe_isi isi_bool rfl (He.free_ok X G (c.fact 47 (f := .free "isinstance") rfl)) rfl (fe_v (pv 0)) rfl (He.free_ok X G (c.fact 44 (f := .free "bool") rfl)) rfl)) (fe_one (fe_chain od_le od_le (fe_v (pv 1)) (fe_v (pv 0)) (fe_v (pv 2))))))))
def N_is_told : List Str := ["value", "sizes"]
def t_is_told : TSd := (t_ret (t_andV (t_c1 (fun x R => x.data = true ∧ R (.bl (DV.isTup x))) (t_v 0)) (t_andV (t_bin (o_in false) (t_c1 o_len (t_rd 0)) (t_v 1)) (t_c1 (fun x R => x.data = true ∧ R (.bl (DV.isStr x))) (t_ixv 0 (t_c (.int 0)))))))
def c_is_told : CD := bodyC false 2 t_is_told
theorem sc_is_told : FnScope N_is_told ["value", "sizes"] (defScope (top 10)) := ⟨rfl, rfl, rfl, by decide +kernel, rfl, by decide +kernel, by decide +kernel⟩
theorem ok_is_told (X : K.In h) (G : h.Ns mainGlobals mg) (c : He.SaysD fa fn K) : DCal P w K mg base CX0 1 "is_told" false 2 [] c_is_told := by
  obtain ⟨fd, F⟩ := c.def_ 2 (d := dF 10 "is_told") rfl
  have nd := (sc_is_told).nd
  refine ⟨_, fd, ["value", "sizes"], [], [], fn_ok F sc_is_told (fun cdv A outer s H E F' bas hr => PSs.nox ?_), He.glo_ok X G (c.fact 2 (f := .glo "is_told") rfl), F.kp, F.bindsN (fun _ _ _ _ _ _ us hl => match us, hl with | [_, _], _ => rfl), .nil, fun _ => rfl⟩
  exact (fss_one (fs_ret (fe_and (fe_isi isi_tup rfl (He.free_ok X G (c.fact 47 (f := .free "isinstance") rfl)) rfl (fe_v (pv 0)) rfl (He.free_ok X G (c.fact 58 (f := .free "tuple") rfl)) rfl) (fe_and (fe_cmp (od_in (hu65 hr)) (fe_B1 cd_len rfl (He.free_ok X G (c.fact 48 (f := .free "len") rfl)) rfl (fr_v (pv 0))) (fe_v (pv 1)) (by rfl)) (fe_one (fe_isi isi_str rfl (He.free_ok X G (c.fact 47 (f := .free "isinstance") rfl)) rfl (fe_ixv (pv 0) fe_int (fun _ _ => rfl)) rfl (He.free_ok X G (c.fact 55 (f := .free "str") rfl)) rfl))))))
def N_is_rising : List Str := ["some", "one", "other"]
def t_is_rising : TSd := (t_ret (t_c1 o_all (t_lc (t_zip (t_v 0) (t_slv 0 (t_some (t_c (.int 1))) t_none)) (g_tup 2 (g_cons (g_name 1) (g_cons (g_name 2) g_nil))) t_yes (t_bin o_lt (t_v 1) (t_v 2)) [1, 2])))
def c_is_rising : CD := bodyC false 3 t_is_rising
theorem sc_is_rising : FnScope N_is_rising ["some"] (defScope (top 11)) := ⟨rfl, rfl, rfl, by decide +kernel, rfl, by decide +kernel, by decide +kernel⟩
theorem ok_is_rising (X : K.In h) (G : h.Ns mainGlobals mg) (c : He.SaysD fa fn K) : DCal P w K mg base CX0 1 "is_rising" false 1 [] c_is_rising := by
  obtain ⟨fd, F⟩ := c.def_ 3 (d := dF 11 "is_rising") rfl
  have nd := (sc_is_rising).nd
  refine ⟨_, fd, ["some"], [], [], fn_ok F sc_is_rising (fun cdv A outer s H E F' bas hr => PSs.nox ?_), He.glo_ok X G (c.fact 3 (f := .glo "is_rising") rfl), F.kp, F.bindsN (fun _ _ _ _ _ _ us hl => match us, hl with | [_], _ => rfl), .nil, fun _ => rfl⟩
  exact (fss_one (fs_ret (fe_B1 (cd_all rfl) rfl (He.free_ok X G (c.fact 43 (f := .free "all") rfl)) rfl (FO.toR (fo_lc (own := [("one", 1), ("other", 2)]) rfl nd (fi_zip rfl (He.free_ok X G (c.fact 59 (f := .free "zip") rfl)) (fe_v (pv 0)) (fe_slv (pv 0) (fp_some fe_int) fp_none)) (blkOk_by (N := N_is_rising) (sc := (defScope (top 11))) (by decide +kernel)) (fun _ _ _ _ _ _ _ => (fgv_tup rfl (fgvs_cons (fgv_name (by decide) (pg_name (i := 1) nd rfl (.inl rfl) (by first | exact .inl rfl | exact .inr rfl))) (fgvs_cons (fgv_name (by decide) (pg_name (i := 2) nd rfl (.inl rfl) (by first | exact .inl rfl | exact .inr rfl))) fgvs_nil)))) (fun _ _ _ _ _ _ _ => fts_nil) (fun _ _ _ _ _ _ _ => (fe_cmp od_lt (fe_v (pv 1)) (fe_v (pv 2)) (by rfl))))))))
def N_told_gap : List Str := ["profile", "one", "other", "early", "first", "late", "last", "weights", "whole", "found", "so_far", "at", "weight", "part"]
def L_told_gap_1 : TSd := (t_seq (t_set 13 (t_ifE (t_tst (t_bin o_gt (t_v 8) (t_c (.int 0)))) (t_bin o_fdiv (t_bin o_mul (t_bin o_sub (t_v 6) (t_v 4)) (t_v 10)) (t_v 8)) (t_bin o_fdiv (t_bin o_mul (t_bin o_sub (t_v 6) (t_v 4)) (t_v 11)) (t_bin o_sub (t_v 5) (t_v 3))))) (t_seq (t_expr (t_app 9 (t_bin o_add (t_v 4) (t_v 13)))) (t_aug 10 (t_v 12) o_addI)))
def t_told_gap : TSd := (t_seq (t_asg (t_tup (t_cons (t_v 1) (t_cons (t_v 2) t_nil))) (g_tup 2 (g_cons (g_tup 2 (g_cons (g_name 3) (g_cons (g_name 4) g_nil))) (g_cons (g_tup 2 (g_cons (g_name 5) (g_cons (g_name 6) g_nil))) g_nil)))) (t_seq (t_set 7 (t_slv 0 (t_some (t_v 3)) (t_some (t_v 5)))) (t_seq (t_par [8, 9, 10] (m_sh (t_c1 o_sum (t_rd 7)) (m_ow (t_lst t_nil) (m_sh (t_c (.int 0)) m_nil)))) (t_seq (t_for (t_enum (t_v 7)) (g_tup 2 (g_cons (g_name 11) (g_cons (g_name 12) g_nil))) L_told_gap_1) (t_ret (t_v 9))))))
def c_told_gap : CD := bodyC false 14 t_told_gap
theorem sc_told_gap : FnScope N_told_gap ["profile", "one", "other"] (defScope (top 21)) := ⟨rfl, rfl, rfl, by decide +kernel, rfl, by decide +kernel, by decide +kernel⟩
theorem ok_told_gap (X : K.In h) (G : h.Ns mainGlobals mg) (c : He.SaysD fa fn K) : DCal P w K mg base CX0 1 "told_gap" false 3 [] c_told_gap := by
  obtain ⟨fd, F⟩ := c.def_ 8 (d := dF 21 "told_gap") rfl
  have nd := (sc_told_gap).nd
  refine ⟨_, fd, ["profile", "one", "other"], [], [], fn_ok F sc_told_gap (fun cdv A outer s H E F' bas hr => PSs.nox ?_), He.glo_ok X G (c.fact 8 (f := .glo "told_gap") rfl), F.kp, F.bindsN (fun _ _ _ _ _ _ us hl => match us, hl with | [_, _, _], _ => rfl), .nil, fun _ => rfl⟩
  exact (fss_cons (fs_asg (fe_tup (fa_cons (fe_v (pv 1)) (fa_cons (fe_v (pv 2)) fa_nil))) (fg_tup rfl (fgs_cons (fg_tup rfl (fgs_cons (fg_name (pg_name (i := 3) nd rfl (.inl rfl) (by first | exact .inl rfl | exact .inr rfl))) (fgs_cons (fg_name (pg_name (i := 4) nd rfl (.inl rfl) (by first | exact .inl rfl | exact .inr rfl))) fgs_nil))) (fgs_cons (fg_tup rfl (fgs_cons (fg_name (pg_name (i := 5) nd rfl (.inl rfl) (by first | exact .inl rfl | exact .inr rfl))) (fgs_cons (fg_name (pg_name (i := 6) nd rfl (.inl rfl) (by first | exact .inl rfl | exact .inr rfl))) fgs_nil))) fgs_nil))))
  (fss_cons (fs_set (i := 7) nd rfl (.inl rfl) (fe_slv (pv 0) (fp_some (fe_v (pv 3))) (fp_some (fe_v (pv 5)))) (by first | exact .inl rfl | exact .inr rfl))
  (fss_cons (fs_par3 (i := 8) (j := 9) (l := 10) rfl nd rfl rfl rfl (by decide) (by decide) (by decide) rfl rfl rfl (fm_sh (fe_B1 (cd_sum rfl) rfl (He.free_ok X G (c.fact 56 (f := .free "sum") rfl)) rfl (fr_v (pv 7))) (fm_ow (fo_lst fa_nil) (fun _ => (fm_sh fe_int fm_nil)))) (by rfl))
  (fss_cons (fs_for PO_never rfl (fi_enum rfl (He.free_ok X G (c.fact 45 (f := .free "enumerate") rfl)) (fe_v (pv 7))) (fg_tup rfl (fgs_cons (fg_name (pg_name (i := 11) nd rfl (.inl rfl) (by first | exact .inl rfl | exact .inr rfl))) (fgs_cons (fg_name (pg_name (i := 12) nd rfl (.inl rfl) (by first | exact .inl rfl | exact .inr rfl))) fgs_nil))) (fss_cons (fs_set (i := 13) nd rfl (.inl rfl) (fe_ifE (ft_cmp od_gt (fe_v (pv 8)) fe_int (by rfl)) (fe_bin od_fdiv (fe_bin od_mul (fe_bin od_sub (fe_v (pv 6)) (fe_v (pv 4))) (fe_v (pv 10))) (fe_v (pv 8))) (fe_bin od_fdiv (fe_bin od_mul (fe_bin od_sub (fe_v (pv 6)) (fe_v (pv 4))) (fe_v (pv 11))) (fe_bin od_sub (fe_v (pv 5)) (fe_v (pv 3))))) (by first | exact .inl rfl | exact .inr rfl))
  (fss_cons (fs_expr (fe_app (pv 9) (fe_bin od_add (fe_v (pv 4)) (fe_v (pv 13)))))
  (fss_one (fs_aug (i := 10) id_add nd rfl (.inl rfl) (fe_v (pv 12)) (by first | exact .inl rfl | exact .inr rfl))))))
  (fss_one (fs_ret (fe_v (pv 9))))))))
def N_lowest : List Str := ["top", "bottom", "one", "other"]
def L_lowest_1 : TSd := (t_par [2, 3] (m_sh (t_v 3) (m_sh (t_bin o_mod (t_v 2) (t_v 3)) m_nil)))
def t_lowest : TSd := (t_seq (t_par [2, 3] (m_sh (t_v 0) (m_sh (t_v 1) m_nil))) (t_seq (t_while (t_tst (t_bin o_ne (t_v 3) (t_c (.int 0)))) L_lowest_1) (t_ret (t_tup (t_cons (t_bin o_fdiv (t_v 0) (t_v 2)) (t_cons (t_bin o_fdiv (t_v 1) (t_v 2)) t_nil))))))
def c_lowest : CD := bodyC false 4 t_lowest
theorem sc_lowest : FnScope N_lowest ["top", "bottom"] (defScope (top 41)) := ⟨rfl, rfl, rfl, by decide +kernel, rfl, by decide +kernel, by decide +kernel⟩
theorem ok_lowest (X : K.In h) (G : h.Ns mainGlobals mg) (c : He.SaysD fa fn K) : DCal P w K mg base CX0 1 "lowest" false 2 [] c_lowest := by
  obtain ⟨fd, F⟩ := c.def_ 21 (d := dF 41 "lowest") rfl
  have nd := (sc_lowest).nd
  refine ⟨_, fd, ["top", "bottom"], [], [], fn_ok F sc_lowest (fun cdv A outer s H E F' bas hr => PSs.nox ?_), He.glo_ok X G (c.fact 21 (f := .glo "lowest") rfl), F.kp, F.bindsN (fun _ _ _ _ _ _ us hl => match us, hl with | [_, _], _ => rfl), .nil, fun _ => rfl⟩
  exact (fss_cons (fs_par2 (i := 2) (j := 3) rfl nd rfl rfl (by decide) rfl rfl (fm_sh (fe_v (pv 0)) (fm_sh (fe_v (pv 1)) fm_nil)) (by rfl))
  (fss_cons (fs_while PO_never (ft_cmp (od_ne (hu64 hr)) (fe_v (pv 3)) fe_int (by rfl)) (fss_one (fs_par2 (i := 2) (j := 3) rfl nd rfl rfl (by decide) rfl rfl (fm_sh (fe_v (pv 3)) (fm_sh (fe_bin od_mod (fe_v (pv 2)) (fe_v (pv 3))) fm_nil)) (by rfl))))
  (fss_one (fs_ret (fe_tup (fa_cons (fe_bin od_fdiv (fe_v (pv 0)) (fe_v (pv 2))) (fa_cons (fe_bin od_fdiv (fe_v (pv 1)) (fe_v (pv 2))) fa_nil)))))))
def N_told_split : List Str := ["discounts", "parts", "at", "one"]
def t_told_split : TSd := (t_seq (t_set 1 (t_lc (t_enum (t_v 0)) (g_tup 2 (g_cons (g_name 2) (g_cons (g_name 3) g_nil))) (t_tst (t_bin o_eq (t_ixv 3 (t_c (.int 0))) (t_c (.str "part")))) (t_v 2) [2, 3])) (t_ret (t_tup (t_cons (t_v 1) (t_cons (t_lc (t_enum (t_v 0)) (g_tup 2 (g_cons (g_name 2) (g_cons (g_name 3) g_nil))) (t_tst (t_bin o_eq (t_ixv 3 (t_c (.int 0))) (t_c (.str "money")))) (t_v 2) [2, 3]) t_nil)))))
def c_told_split : CD := bodyC false 4 t_told_split
theorem sc_told_split : FnScope N_told_split ["discounts"] (defScope (top 45)) := ⟨rfl, rfl, rfl, by decide +kernel, rfl, by decide +kernel, by decide +kernel⟩
theorem ok_told_split (X : K.In h) (G : h.Ns mainGlobals mg) (c : He.SaysD fa fn K) : DCal P w K mg base CX0 1 "told_split" false 1 [] c_told_split := by
  obtain ⟨k_MONEY, h_MONEY⟩ := He.str_ok X G (c.fact 67 (f := .str "MONEY" "money") rfl)
  obtain ⟨k_PART, h_PART⟩ := He.str_ok X G (c.fact 66 (f := .str "PART" "part") rfl)
  obtain ⟨fd, F⟩ := c.def_ 25 (d := dF 45 "told_split") rfl
  have nd := (sc_told_split).nd
  refine ⟨_, fd, ["discounts"], [], [], fn_ok F sc_told_split (fun cdv A outer s H E F' bas hr => PSs.nox ?_), He.glo_ok X G (c.fact 25 (f := .glo "told_split") rfl), F.kp, F.bindsN (fun _ _ _ _ _ _ us hl => match us, hl with | [_], _ => rfl), .nil, fun _ => rfl⟩
  exact (fss_cons (fs_setLcE (i := 1) (own := [("at", 2), ("one", 3)]) rfl nd rfl rfl (sw_true rfl rfl rfl (by decide +kernel)) (fi_enum rfl (He.free_ok X G (c.fact 45 (f := .free "enumerate") rfl)) (fe_v (pv 0))) (blkOk_by (N := N_told_split) (sc := (defScope (top 45))) (by decide +kernel)) (fun _ _ _ _ _ _ _ => (fgv_tup rfl (fgvs_cons (fgv_name (by decide) (pg_name (i := 2) nd rfl (.inl rfl) (by first | exact .inl rfl | exact .inr rfl))) (fgvs_cons (fgv_name (by decide) (pg_name (i := 3) nd rfl (.inl rfl) (by first | exact .inl rfl | exact .inr rfl))) fgvs_nil)))) (fun _ _ _ _ _ _ _ => (fts_one (ft_cmp (od_eq (hu64 hr)) (fe_ixv (pv 3) fe_int (fun _ _ => rfl)) (fe_gstr rfl h_PART) (by rfl)))) (fun _ _ _ _ _ _ _ => (fe_v (pv 2))))
  (fss_one (fs_ret (fe_tup (fa_cons (fe_v (pv 1)) (fa_cons (FO.toE (fo_lc (own := [("at", 2), ("one", 3)]) rfl nd (fi_enum rfl (He.free_ok X G (c.fact 45 (f := .free "enumerate") rfl)) (fe_v (pv 0))) (blkOk_by (N := N_told_split) (sc := (defScope (top 45))) (by decide +kernel)) (fun _ _ _ _ _ _ _ => (fgv_tup rfl (fgvs_cons (fgv_name (by decide) (pg_name (i := 2) nd rfl (.inl rfl) (by first | exact .inl rfl | exact .inr rfl))) (fgvs_cons (fgv_name (by decide) (pg_name (i := 3) nd rfl (.inl rfl) (by first | exact .inl rfl | exact .inr rfl))) fgvs_nil)))) (fun _ _ _ _ _ _ _ => (fts_one (ft_cmp (od_eq (hu64 hr)) (fe_ixv (pv 3) fe_int (fun _ _ => rfl)) (fe_gstr rfl h_MONEY) (by rfl)))) (fun _ _ _ _ _ _ _ => (fe_v (pv 2))))) fa_nil))))))
def N__law_pot : List Str := ["script", "place", "cell", "own", "small"]
def t__law_pot : TSd := (t_seq (t_set 2 (t_ifE (t_tst (t_bin o_lt (t_v 1) (t_c1 o_len (t_rd 0)))) (t_ixv 0 (t_v 1)) (t_bin o_add (t_bin o_add (t_bin o_mod (t_c1 o_int (t_c1 o_sum (t_slv 0 t_none (t_some (t_c (.int 1)))))) (t_c (.int 1000357))) (t_bin o_mul (t_c (.int 6661)) (t_v 1))) (t_c (.int 4507))))) (t_seq (t_set 3 (t_bin o_mul (t_bin o_mod (t_c1 o_int (t_c1 o_abs (t_rd 2))) (t_bin o_pow (t_bin o_pow (t_c (.int 10)) (t_c (.int 60))) (t_c (.int 5)))) (t_c1 o_int (t_bin o_ge (t_c1 o_abs (t_rd 2)) (t_bin o_pow (t_c (.int 10)) (t_c (.int 18))))))) (t_seq (t_set 4 (t_bin o_mod (t_c1 o_int (t_rd 2)) (t_c (.int 2305843009213693951)))) (t_retO (t_lst (t_cons (t_v 3) (t_cons (t_bin o_mod (t_c1 o_int (t_bin o_add (t_bin o_add (t_bin o_mul (t_v 4) (t_c (.int 98009))) (t_bin o_mul (t_bin o_mul (t_c (.int 13513)) (t_v 1)) (t_v 1))) (t_c (.int 4001)))) (t_c (.int 2305843009213693921))) (t_cons (t_c (.int 0)) t_nil))))))))
def c__law_pot : CD := bodyC true 5 t__law_pot
theorem sc__law_pot : FnScope N__law_pot ["script", "place"] (defScope (top 53)) := ⟨rfl, rfl, rfl, by decide +kernel, rfl, by decide +kernel, by decide +kernel⟩
theorem ok__law_pot (X : K.In h) (G : h.Ns mainGlobals mg) (c : He.SaysD fa fn K) : DCal P w K mg base CX0 1 "_law_pot" true 2 [] c__law_pot := by
  obtain ⟨fd, F⟩ := c.def_ 32 (d := dF 53 "_law_pot") rfl
  have nd := (sc__law_pot).nd
  refine ⟨_, fd, ["script", "place"], [], [], fn_ok F sc__law_pot (fun cdv A outer s H E F' bas hr => PSs.nox ?_), He.glo_ok X G (c.fact 32 (f := .glo "_law_pot") rfl), F.kp, F.bindsN (fun _ _ _ _ _ _ us hl => match us, hl with | [_, _], _ => rfl), .nil, fun _ => rfl⟩
  exact (fss_cons (fs_set (i := 2) nd rfl (.inl rfl) (fe_ifE (ft_cmp od_lt (fe_v (pv 1)) (fe_B1 cd_len rfl (He.free_ok X G (c.fact 48 (f := .free "len") rfl)) rfl (fr_v (pv 0))) (by rfl)) (fe_ixv (pv 0) (fe_v (pv 1)) (fun _ _ => rfl)) (fe_bin od_add (fe_bin od_add (fe_bin od_mod (fe_T1 cd_int rfl (He.free_ok X G (c.fact 46 (f := .free "int") rfl)) rfl (FE.toR (fe_B1 (cd_sum rfl) rfl (He.free_ok X G (c.fact 56 (f := .free "sum") rfl)) rfl (FE.toR (fe_slv (pv 0) fp_none (fp_some fe_int)))))) fe_int) (fe_bin od_mul fe_int (fe_v (pv 1)))) fe_int)) (by first | exact .inl rfl | exact .inr rfl))
  (fss_cons (fs_set (i := 3) nd rfl (.inl rfl) (fe_bin od_mul (fe_bin od_mod (fe_T1 cd_int rfl (He.free_ok X G (c.fact 46 (f := .free "int") rfl)) rfl (FE.toR (fe_B1 cd_abs rfl (He.free_ok X G (c.fact 42 (f := .free "abs") rfl)) rfl (fr_v (pv 2))))) (fe_bin od_pow (fe_bin od_pow fe_int fe_int) fe_int)) (fe_T1 cd_int rfl (He.free_ok X G (c.fact 46 (f := .free "int") rfl)) rfl (FE.toR (fe_cmp od_ge (fe_B1 cd_abs rfl (He.free_ok X G (c.fact 42 (f := .free "abs") rfl)) rfl (fr_v (pv 2))) (fe_bin od_pow fe_int fe_int) (by rfl))))) (by first | exact .inl rfl | exact .inr rfl))
  (fss_cons (fs_set (i := 4) nd rfl (.inl rfl) (fe_bin od_mod (fe_T1 cd_int rfl (He.free_ok X G (c.fact 46 (f := .free "int") rfl)) rfl (fr_v (pv 2))) fe_int) (by first | exact .inl rfl | exact .inr rfl))
  (fss_one (fs_retO (fo_lst (fa_cons (fe_v (pv 3)) (fa_cons (fe_bin od_mod (fe_T1 cd_int rfl (He.free_ok X G (c.fact 46 (f := .free "int") rfl)) rfl (FE.toR (fe_bin od_add (fe_bin od_add (fe_bin od_mul (fe_v (pv 4)) fe_int) (fe_bin od_mul (fe_bin od_mul fe_int (fe_v (pv 1))) (fe_v (pv 1)))) fe_int))) fe_int) (fa_cons fe_int fa_nil)))))))))
def N__law_take : List Str := ["pot", "upto", "digit", "prime", "blend"]
def t__law_take : TSd := (t_seq (t_if (t_tst (t_bin o_gt (t_ixv 0 (t_c (.int 0))) (t_c (.int 0)))) (t_seq (t_set 2 (t_bin o_mod (t_c1 o_int (t_ixv 0 (t_c (.int 0)))) (t_v 1))) (t_seq (t_setI 0 (t_bin o_fdiv (t_ixv 0 (t_c (.int 0))) (t_v 1)) (t_c (.int 0))) (t_ret (t_v 2)))) t_skip) (t_seq (t_setI 0 (t_bin o_add (t_ixv 0 (t_c (.int 2))) (t_c (.int 1))) (t_c (.int 2))) (t_seq (t_set 3 (t_bin o_ix (t_lst (t_cons (t_c (.int 2147483647)) (t_cons (t_c (.int 2147483629)) (t_cons (t_c (.int 2147483587)) (t_cons (t_c (.int 2147483579)) (t_cons (t_c (.int 2147483563)) t_nil)))))) (t_bin o_mod (t_c1 o_int (t_ixv 0 (t_c (.int 2)))) (t_c (.int 5))))) (t_seq (t_set 4 (t_bin o_mod (t_c1 o_int (t_bin o_pow (t_c1 o_int (t_bin o_add (t_bin o_add (t_ixv 0 (t_c (.int 1))) (t_bin o_mul (t_bin o_mul (t_c (.int 108793)) (t_ixv 0 (t_c (.int 2)))) (t_ixv 0 (t_c (.int 2))))) (t_c (.int 4507)))) (t_c (.int 3)))) (t_v 3))) (t_seq (t_set 4 (t_bin o_mod (t_c1 o_int (t_bin o_mul (t_v 4) (t_bin o_add (t_bin o_mod (t_c1 o_int (t_rd 4)) (t_c (.int 13121))) (t_bin o_mul (t_c (.int 457)) (t_ixv 0 (t_c (.int 2))))))) (t_c (.int 2305843009213693907)))) (t_ret (t_bin o_mod (t_c1 o_int (t_bin o_fdiv (t_v 4) (t_c (.int 293)))) (t_v 1))))))))
def c__law_take : CD := bodyC false 5 t__law_take
theorem sc__law_take : FnScope N__law_take ["pot", "upto"] (defScope (top 54)) := ⟨rfl, rfl, rfl, by decide +kernel, rfl, by decide +kernel, by decide +kernel⟩
theorem ok__law_take (X : K.In h) (G : h.Ns mainGlobals mg) (c : He.SaysD fa fn K) : DCal P w K mg base CX0 1 "_law_take" false 2 [] c__law_take := by
  obtain ⟨fd, F⟩ := c.def_ 33 (d := dF 54 "_law_take") rfl
  have nd := (sc__law_take).nd
  refine ⟨_, fd, ["pot", "upto"], [], [], fn_ok F sc__law_take (fun cdv A outer s H E F' bas hr => PSs.nox ?_), He.glo_ok X G (c.fact 33 (f := .glo "_law_take") rfl), F.kp, F.bindsN (fun _ _ _ _ _ _ us hl => match us, hl with | [_, _], _ => rfl), .nil, fun _ => rfl⟩
  exact (fss_cons (fs_if (ft_cmp od_gt (fe_ixv (pv 0) fe_int (fun _ _ => rfl)) fe_int (by rfl)) (fss_cons (fs_set (i := 2) nd rfl (.inl rfl) (fe_bin od_mod (fe_T1 cd_int rfl (He.free_ok X G (c.fact 46 (f := .free "int") rfl)) rfl (FE.toR (fe_ixv (pv 0) fe_int (fun _ _ => rfl)))) (fe_v (pv 1))) (by first | exact .inl rfl | exact .inr rfl))
  (fss_cons (fs_setI (pv 0) (fe_bin od_fdiv (fe_ixv (pv 0) fe_int (fun _ _ => rfl)) (fe_v (pv 1))) fe_int)
  (fss_one (fs_ret (fe_v (pv 2)))))) fss_nil)
  (fss_cons (fs_setI (pv 0) (fe_bin od_add (fe_ixv (pv 0) fe_int (fun _ _ => rfl)) fe_int) fe_int)
  (fss_cons (fs_set (i := 3) nd rfl (.inl rfl) (fe_ix (FO.toE (fo_lst (fa_cons fe_int (fa_cons fe_int (fa_cons fe_int (fa_cons fe_int (fa_cons fe_int fa_nil))))))) (fe_bin od_mod (fe_T1 cd_int rfl (He.free_ok X G (c.fact 46 (f := .free "int") rfl)) rfl (FE.toR (fe_ixv (pv 0) fe_int (fun _ _ => rfl)))) fe_int) (fun _ _ => rfl)) (by first | exact .inl rfl | exact .inr rfl))
  (fss_cons (fs_set (i := 4) nd rfl (.inl rfl) (fe_bin od_mod (fe_T1 cd_int rfl (He.free_ok X G (c.fact 46 (f := .free "int") rfl)) rfl (FE.toR (fe_bin od_pow (fe_T1 cd_int rfl (He.free_ok X G (c.fact 46 (f := .free "int") rfl)) rfl (FE.toR (fe_bin od_add (fe_bin od_add (fe_ixv (pv 0) fe_int (fun _ _ => rfl)) (fe_bin od_mul (fe_bin od_mul fe_int (fe_ixv (pv 0) fe_int (fun _ _ => rfl))) (fe_ixv (pv 0) fe_int (fun _ _ => rfl)))) fe_int))) fe_int))) (fe_v (pv 3))) (by first | exact .inl rfl | exact .inr rfl))
  (fss_cons (fs_set (i := 4) nd rfl (.inl rfl) (fe_bin od_mod (fe_T1 cd_int rfl (He.free_ok X G (c.fact 46 (f := .free "int") rfl)) rfl (FE.toR (fe_bin od_mul (fe_v (pv 4)) (fe_bin od_add (fe_bin od_mod (fe_T1 cd_int rfl (He.free_ok X G (c.fact 46 (f := .free "int") rfl)) rfl (fr_v (pv 4))) fe_int) (fe_bin od_mul fe_int (fe_ixv (pv 0) fe_int (fun _ _ => rfl))))))) fe_int) (by first | exact .inl rfl | exact .inr rfl))
  (fss_one (fs_ret (fe_bin od_mod (fe_T1 cd_int rfl (He.free_ok X G (c.fact 46 (f := .free "int") rfl)) rfl (FE.toR (fe_bin od_fdiv (fe_v (pv 4)) fe_int))) (fe_v (pv 1))))))))))
def N__law_cells : List Str := ["script", "most"]
def t__law_cells : TSd := (t_ret (t_lrg1 (t_cn o_max2 (t_cons (t_c (.int 1)) (t_cons (t_cn o_min2 (t_cons (t_v 1) (t_cons (t_c1 o_len (t_rd 0)) t_nil))) t_nil)))))
def c__law_cells : CD := bodyC false 2 t__law_cells
theorem sc__law_cells : FnScope N__law_cells ["script", "most"] (defScope (top 56)) := ⟨rfl, rfl, rfl, by decide +kernel, rfl, by decide +kernel, by decide +kernel⟩
theorem ok__law_cells (X : K.In h) (G : h.Ns mainGlobals mg) (c : He.SaysD fa fn K) : DCal P w K mg base CX0 1 "_law_cells" false 2 [] c__law_cells := by
  obtain ⟨fd, F⟩ := c.def_ 35 (d := dF 56 "_law_cells") rfl
  have nd := (sc__law_cells).nd
  refine ⟨_, fd, ["script", "most"], [], [], fn_ok F sc__law_cells (fun cdv A outer s H E F' bas hr => PSs.nox ?_), He.glo_ok X G (c.fact 35 (f := .glo "_law_cells") rfl), F.kp, F.bindsN (fun _ _ _ _ _ _ us hl => match us, hl with | [_, _], _ => rfl), .nil, fun _ => rfl⟩
  exact (fss_one (fs_ret (FO.toE (fo_lrg1 rfl rfl (He.free_ok X G (c.fact 49 (f := .free "list") rfl)) rfl (He.free_ok X G (c.fact 52 (f := .free "range") rfl)) (fe_Bn (cd_max2 rfl) rfl (He.free_ok X G (c.fact 50 (f := .free "max") rfl)) rfl (fa_cons fe_int (fa_cons (fe_Bn (cd_min2 rfl) rfl (He.free_ok X G (c.fact 51 (f := .free "min") rfl)) rfl (fa_cons (fe_v (pv 1)) (fa_cons (fe_B1 cd_len rfl (He.free_ok X G (c.fact 48 (f := .free "len") rfl)) rfl (fr_v (pv 0))) fa_nil))) fa_nil)))))))
def N_are_ints : List Str := ["value", "low", "high", "one"]
def t_are_ints : TSd := (t_ret (t_andV (t_c1 (fun x R => x.data = true ∧ R (.bl (DV.isTup x))) (t_v 0)) (t_c1 o_all (t_lc (t_it (t_v 0)) (g_name 3) t_yes (t_call 3 [] c_is_int (t_cons (t_v 3) (t_cons (t_v 1) (t_cons (t_v 2) t_nil)))) [3]))))
def c_are_ints : CD := bodyC false 4 t_are_ints
theorem sc_are_ints : FnScope N_are_ints ["value", "low", "high"] (defScope (top 9)) := ⟨rfl, rfl, rfl, by decide +kernel, rfl, by decide +kernel, by decide +kernel⟩
theorem ok_are_ints (X : K.In h) (G : h.Ns mainGlobals mg) (c : He.SaysD fa fn K) : DCal P w K mg base CX0 2 "are_ints" false 3 [] c_are_ints := by
  obtain ⟨fd, F⟩ := c.def_ 1 (d := dF 9 "are_ints") rfl
  have nd := (sc_are_ints).nd
  refine ⟨_, fd, ["value", "low", "high"], [], [], fn_ok F sc_are_ints (fun cdv A outer s H E F' bas hr => PSs.nox ?_), He.glo_ok X G (c.fact 1 (f := .glo "are_ints") rfl), F.kp, F.bindsN (fun _ _ _ _ _ _ us hl => match us, hl with | [_, _, _], _ => rfl), .nil, fun _ => rfl⟩
  exact (fss_one (fs_ret (fe_and (fe_isi isi_tup rfl (He.free_ok X G (c.fact 47 (f := .free "isinstance") rfl)) rfl (fe_v (pv 0)) rfl (He.free_ok X G (c.fact 58 (f := .free "tuple") rfl)) rfl) (fe_one (fe_B1 (cd_all rfl) rfl (He.free_ok X G (c.fact 43 (f := .free "all") rfl)) rfl (FO.toR (fo_lc (own := [("one", 3)]) rfl nd (fi_it (fe_v (pv 0))) (blkOk_by (N := N_are_ints) (sc := (defScope (top 9))) (by decide +kernel)) (fun _ _ _ _ _ _ _ => (fgv_name (by decide) (pg_name (i := 3) nd rfl (.inl rfl) (by first | exact .inl rfl | exact .inr rfl)))) (fun _ _ _ _ _ _ _ => fts_nil) (fun _ _ _ _ _ _ _ => (fe_call (ok_is_int X G c) hr (by decide) rfl ps0 (fa_cons (fe_v (pv 3)) (fa_cons (fe_v (pv 1)) (fa_cons (fe_v (pv 2)) fa_nil))))))))))))
def N_told_counts : List Str := ["profile", "readings", "found", "one", "other"]
def L_told_counts_1 : TSd := (t_expr (t_ext 2 (t_call 3 [] c_told_gap (t_cons (t_v 0) (t_cons (t_v 3) (t_cons (t_v 4) t_nil))))))
def t_told_counts : TSd := (t_seq (t_setO 2 (t_lst t_nil)) (t_seq (t_for (t_zip (t_v 1) (t_slv 1 (t_some (t_c (.int 1))) t_none)) (g_tup 2 (g_cons (g_name 3) (g_cons (g_name 4) g_nil))) L_told_counts_1) (t_ret (t_lst (t_star (t_v 2) (t_cons (t_bin o_ix (t_ixv 1 (t_neg (t_c (.int 1)))) (t_c (.int 1))) t_nil))))))
def c_told_counts : CD := bodyC false 5 t_told_counts
theorem sc_told_counts : FnScope N_told_counts ["profile", "readings"] (defScope (top 22)) := ⟨rfl, rfl, rfl, by decide +kernel, rfl, by decide +kernel, by decide +kernel⟩
theorem ok_told_counts (X : K.In h) (G : h.Ns mainGlobals mg) (c : He.SaysD fa fn K) : DCal P w K mg base CX0 2 "told_counts" false 2 [] c_told_counts := by
  obtain ⟨fd, F⟩ := c.def_ 9 (d := dF 22 "told_counts") rfl
  have nd := (sc_told_counts).nd
  refine ⟨_, fd, ["profile", "readings"], [], [], fn_ok F sc_told_counts (fun cdv A outer s H E F' bas hr => PSs.nox ?_), He.glo_ok X G (c.fact 9 (f := .glo "told_counts") rfl), F.kp, F.bindsN (fun _ _ _ _ _ _ us hl => match us, hl with | [_, _], _ => rfl), .nil, fun _ => rfl⟩
  exact (fss_cons (fs_setO (i := 2) nd rfl (.inl rfl) (fo_lst fa_nil) (by first | exact .inl rfl | exact .inr rfl))
  (fss_cons (fs_for PO_never rfl (fi_zip rfl (He.free_ok X G (c.fact 59 (f := .free "zip") rfl)) (fe_v (pv 1)) (fe_slv (pv 1) (fp_some fe_int) fp_none)) (fg_tup rfl (fgs_cons (fg_name (pg_name (i := 3) nd rfl (.inl rfl) (by first | exact .inl rfl | exact .inr rfl))) (fgs_cons (fg_name (pg_name (i := 4) nd rfl (.inl rfl) (by first | exact .inl rfl | exact .inr rfl))) fgs_nil))) (fss_one (fs_expr (fe_ext (pv 2) (fe_call (ok_told_gap X G c) hr (by decide) rfl ps0 (fa_cons (fe_v (pv 0)) (fa_cons (fe_v (pv 3)) (fa_cons (fe_v (pv 4)) fa_nil))))))))
  (fss_one (fs_ret (FO.toE (fo_lst (fa_star (fe_v (pv 2)) (fa_cons (fe_ix (fe_ixv (pv 1) (fe_neg fe_int) (fun _ _ => rfl)) fe_int (fun _ _ => rfl)) fa_nil))))))))
def N_is_discount : List Str := ["value"]
def t_is_discount : TSd := (t_seq (t_if (t_not (t_tst (t_call 2 [] c_is_told (t_cons (t_v 0) (t_cons (t_tup (t_cons (t_c (.int 2)) t_nil)) t_nil))))) (t_ret (t_c (.bl false))) t_skip) (t_seq (t_if (t_tst (t_bin o_eq (t_ixv 0 (t_c (.int 0))) (t_c (.str "part")))) (t_ret (t_call 3 [] c_is_int (t_cons (t_ixv 0 (t_c (.int 1))) (t_cons (t_c (.int 0)) (t_cons (t_c (.int 100)) t_nil))))) t_skip) (t_ret (t_andV (t_bin o_eq (t_ixv 0 (t_c (.int 0))) (t_c (.str "money"))) (t_call 3 [] c_is_int (t_cons (t_ixv 0 (t_c (.int 1))) (t_cons (t_c (.int 0)) (t_cons (t_c (.int (1000000000))) t_nil))))))))
def c_is_discount : CD := bodyC false 1 t_is_discount
theorem sc_is_discount : FnScope N_is_discount ["value"] (defScope (top 39)) := ⟨rfl, rfl, rfl, by decide +kernel, rfl, by decide +kernel, by decide +kernel⟩
theorem ok_is_discount (X : K.In h) (G : h.Ns mainGlobals mg) (c : He.SaysD fa fn K) : DCal P w K mg base CX0 2 "is_discount" false 1 [] c_is_discount := by
  obtain ⟨k_MONEY, h_MONEY⟩ := He.str_ok X G (c.fact 67 (f := .str "MONEY" "money") rfl)
  obtain ⟨k_MOST_PRICE, h_MOST_PRICE⟩ := He.int_ok X G (c.fact 64 (f := .int "MOST_PRICE" 1000000000) rfl)
  obtain ⟨k_PART, h_PART⟩ := He.str_ok X G (c.fact 66 (f := .str "PART" "part") rfl)
  obtain ⟨fd, F⟩ := c.def_ 19 (d := dF 39 "is_discount") rfl
  have nd := (sc_is_discount).nd
  refine ⟨_, fd, ["value"], [], [], fn_ok F sc_is_discount (fun cdv A outer s H E F' bas hr => PSs.nox ?_), He.glo_ok X G (c.fact 19 (f := .glo "is_discount") rfl), F.kp, F.bindsN (fun _ _ _ _ _ _ us hl => match us, hl with | [_], _ => rfl), .nil, fun _ => rfl⟩
  exact (fss_cons (fs_if (ft_not (ft_val (fe_call (ok_is_told X G c) hr (by decide) rfl ps0 (fa_cons (fe_v (pv 0)) (fa_cons (fe_tup (fa_cons fe_int fa_nil)) fa_nil))))) (fss_one (fs_ret fe_bl)) fss_nil)
  (fss_cons (fs_if (ft_cmp (od_eq (hu64 hr)) (fe_ixv (pv 0) fe_int (fun _ _ => rfl)) (fe_gstr rfl h_PART) (by rfl)) (fss_one (fs_ret (fe_call (ok_is_int X G c) hr (by decide) rfl ps0 (fa_cons (fe_ixv (pv 0) fe_int (fun _ _ => rfl)) (fa_cons fe_int (fa_cons fe_int fa_nil)))))) fss_nil)
  (fss_one (fs_ret (fe_and (fe_cmp (od_eq (hu64 hr)) (fe_ixv (pv 0) fe_int (fun _ _ => rfl)) (fe_gstr rfl h_MONEY) (by rfl)) (fe_one (fe_call (ok_is_int X G c) hr (by decide) rfl ps0 (fa_cons (fe_ixv (pv 0) fe_int (fun _ _ => rfl)) (fa_cons fe_int (fa_cons (fe_gint rfl h_MOST_PRICE) fa_nil))))))))))
def N_told_off : List Str := ["price", "discount", "top", "bottom"]
def t_told_off : TSd := (t_seq (t_asg (t_v 0) (g_tup 2 (g_cons (g_name 2) (g_cons (g_name 3) g_nil)))) (t_seq (t_if (t_tst (t_bin o_eq (t_ixv 1 (t_c (.int 0))) (t_c (.str "part")))) (t_ret (t_call 2 [] c_lowest (t_cons (t_bin o_mul (t_v 2) (t_bin o_sub (t_c (.int 100)) (t_ixv 1 (t_c (.int 1))))) (t_cons (t_bin o_mul (t_v 3) (t_c (.int 100))) t_nil)))) t_skip) (t_ret (t_call 2 [] c_lowest (t_cons (t_cn o_max2 (t_cons (t_c (.int 0)) (t_cons (t_bin o_sub (t_v 2) (t_bin o_mul (t_ixv 1 (t_c (.int 1))) (t_v 3))) t_nil))) (t_cons (t_v 3) t_nil))))))
def c_told_off : CD := bodyC false 4 t_told_off
theorem sc_told_off : FnScope N_told_off ["price", "discount"] (defScope (top 42)) := ⟨rfl, rfl, rfl, by decide +kernel, rfl, by decide +kernel, by decide +kernel⟩
theorem ok_told_off (X : K.In h) (G : h.Ns mainGlobals mg) (c : He.SaysD fa fn K) : DCal P w K mg base CX0 2 "told_off" false 2 [] c_told_off := by
  obtain ⟨k_PART, h_PART⟩ := He.str_ok X G (c.fact 66 (f := .str "PART" "part") rfl)
  obtain ⟨fd, F⟩ := c.def_ 22 (d := dF 42 "told_off") rfl
  have nd := (sc_told_off).nd
  refine ⟨_, fd, ["price", "discount"], [], [], fn_ok F sc_told_off (fun cdv A outer s H E F' bas hr => PSs.nox ?_), He.glo_ok X G (c.fact 22 (f := .glo "told_off") rfl), F.kp, F.bindsN (fun _ _ _ _ _ _ us hl => match us, hl with | [_, _], _ => rfl), .nil, fun _ => rfl⟩
  exact (fss_cons (fs_asg (fe_v (pv 0)) (fg_tup rfl (fgs_cons (fg_name (pg_name (i := 2) nd rfl (.inl rfl) (by first | exact .inl rfl | exact .inr rfl))) (fgs_cons (fg_name (pg_name (i := 3) nd rfl (.inl rfl) (by first | exact .inl rfl | exact .inr rfl))) fgs_nil))))
  (fss_cons (fs_if (ft_cmp (od_eq (hu64 hr)) (fe_ixv (pv 1) fe_int (fun _ _ => rfl)) (fe_gstr rfl h_PART) (by rfl)) (fss_one (fs_ret (fe_call (ok_lowest X G c) hr (by decide) rfl ps0 (fa_cons (fe_bin od_mul (fe_v (pv 2)) (fe_bin od_sub fe_int (fe_ixv (pv 1) fe_int (fun _ _ => rfl)))) (fa_cons (fe_bin od_mul (fe_v (pv 3)) fe_int) fa_nil))))) fss_nil)
  (fss_one (fs_ret (fe_call (ok_lowest X G c) hr (by decide) rfl ps0 (fa_cons (fe_Bn (cd_max2 rfl) rfl (He.free_ok X G (c.fact 50 (f := .free "max") rfl)) rfl (fa_cons fe_int (fa_cons (fe_bin od_sub (fe_v (pv 2)) (fe_bin od_mul (fe_ixv (pv 1) fe_int (fun _ _ => rfl)) (fe_v (pv 3)))) fa_nil))) (fa_cons (fe_v (pv 3)) fa_nil)))))))
def N__law_of : List Str := ["pot", "some"]
def t__law_of : TSd := (t_ret (t_ixv 1 (t_callB 2 [] c__law_take 0 (t_cons (t_c1 o_len (t_rd 1)) t_nil))))
def c__law_of : CD := bodyC false 2 t__law_of
theorem sc__law_of : FnScope N__law_of ["pot", "some"] (defScope (top 55)) := ⟨rfl, rfl, rfl, by decide +kernel, rfl, by decide +kernel, by decide +kernel⟩
theorem ok__law_of (X : K.In h) (G : h.Ns mainGlobals mg) (c : He.SaysD fa fn K) : DCal P w K mg base CX0 2 "_law_of" false 2 [] c__law_of := by
  obtain ⟨fd, F⟩ := c.def_ 34 (d := dF 55 "_law_of") rfl
  have nd := (sc__law_of).nd
  refine ⟨_, fd, ["pot", "some"], [], [], fn_ok F sc__law_of (fun cdv A outer s H E F' bas hr => PSs.nox ?_), He.glo_ok X G (c.fact 34 (f := .glo "_law_of") rfl), F.kp, F.bindsN (fun _ _ _ _ _ _ us hl => match us, hl with | [_, _], _ => rfl), .nil, fun _ => rfl⟩
  exact (fss_one (fs_ret (fe_ixv (pv 1) (fe_callB (ok__law_take X G c) hr (by decide) rfl ps0 (pv 0) (fa_cons (fe_B1 cd_len rfl (He.free_ok X G (c.fact 48 (f := .free "len") rfl)) rfl (fr_v (pv 1))) fa_nil)) (fun _ _ => rfl))))
def N__law_some : List Str := ["pot", "pool", "many", "rests", "found", "lap"]
def L__law_some_1 : TSd := (t_expr (t_app 4 (t_popAt 3 (t_callB 2 [] c__law_take 0 (t_cons (t_c1 o_len (t_rd 3)) t_nil)))))
def t__law_some : TSd := (t_seq (t_par [3, 4] (m_ow (t_c1 o_list (t_rd 1)) (m_ow (t_lst t_nil) m_nil))) (t_seq (t_for (t_rng1 (t_cons (t_v 2) t_nil)) (g_name 5) L__law_some_1) (t_ret (t_v 4))))
def c__law_some : CD := bodyC false 6 t__law_some
theorem sc__law_some : FnScope N__law_some ["pot", "pool", "many"] (defScope (top 57)) := ⟨rfl, rfl, rfl, by decide +kernel, rfl, by decide +kernel, by decide +kernel⟩
theorem ok__law_some (X : K.In h) (G : h.Ns mainGlobals mg) (c : He.SaysD fa fn K) : DCal P w K mg base CX0 2 "_law_some" false 3 [] c__law_some := by
  obtain ⟨fd, F⟩ := c.def_ 36 (d := dF 57 "_law_some") rfl
  have nd := (sc__law_some).nd
  refine ⟨_, fd, ["pot", "pool", "many"], [], [], fn_ok F sc__law_some (fun cdv A outer s H E F' bas hr => PSs.nox ?_), He.glo_ok X G (c.fact 36 (f := .glo "_law_some") rfl), F.kp, F.bindsN (fun _ _ _ _ _ _ us hl => match us, hl with | [_, _, _], _ => rfl), .nil, fun _ => rfl⟩
  exact (fss_cons (fs_par2 (i := 3) (j := 4) rfl nd rfl rfl (by decide) rfl rfl (fm_ow (fo_T1 (co_list rfl) rfl (He.free_ok X G (c.fact 49 (f := .free "list") rfl)) rfl (fr_v (pv 1))) (fun _ => (fm_ow (fo_lst fa_nil) (fun _ => fm_nil)))) (by rfl))
  (fss_cons (fs_for PO_never rfl (fi_rng1 rfl (He.free_ok X G (c.fact 52 (f := .free "range") rfl)) (fa_cons (fe_v (pv 2)) fa_nil)) (fg_name (pg_name (i := 5) nd rfl (.inl rfl) (by first | exact .inl rfl | exact .inr rfl))) (fss_one (fs_expr (fe_app (pv 4) (fe_popAt (pv 3) (fe_callB (ok__law_take X G c) hr (by decide) rfl ps0 (pv 0) (fa_cons (fe_B1 cd_len rfl (He.free_ok X G (c.fact 48 (f := .free "len") rfl)) rfl (fr_v (pv 3))) fa_nil)))))))
  (fss_one (fs_ret (fe_v (pv 4))))))
def N_is_order : List Str := ["value", "many"]
def t_is_order : TSd := (t_ret (t_andV (t_call 3 [] c_are_ints (t_cons (t_v 0) (t_cons (t_c (.int 0)) (t_cons (t_bin o_sub (t_v 1) (t_c (.int 1))) t_nil)))) (t_andV (t_bin o_eq (t_c1 o_len (t_rd 0)) (t_v 1)) (t_bin o_eq (t_c1 o_lset (t_rd 0)) (t_v 1)))))
def c_is_order : CD := bodyC false 2 t_is_order
theorem sc_is_order : FnScope N_is_order ["value", "many"] (defScope (top 12)) := ⟨rfl, rfl, rfl, by decide +kernel, rfl, by decide +kernel, by decide +kernel⟩
theorem ok_is_order (X : K.In h) (G : h.Ns mainGlobals mg) (c : He.SaysD fa fn K) : DCal P w K mg base CX0 3 "is_order" false 2 [] c_is_order := by
  obtain ⟨fd, F⟩ := c.def_ 4 (d := dF 12 "is_order") rfl
  have nd := (sc_is_order).nd
  refine ⟨_, fd, ["value", "many"], [], [], fn_ok F sc_is_order (fun cdv A outer s H E F' bas hr => PSs.nox ?_), He.glo_ok X G (c.fact 4 (f := .glo "is_order") rfl), F.kp, F.bindsN (fun _ _ _ _ _ _ us hl => match us, hl with | [_, _], _ => rfl), .nil, fun _ => rfl⟩
  exact (fss_one (fs_ret (fe_and (fe_call (ok_are_ints X G c) hr (by decide) rfl ps0 (fa_cons (fe_v (pv 0)) (fa_cons fe_int (fa_cons (fe_bin od_sub (fe_v (pv 1)) fe_int) fa_nil)))) (fe_and (fe_cmp (od_eq (hu64 hr)) (fe_B1 cd_len rfl (He.free_ok X G (c.fact 48 (f := .free "len") rfl)) rfl (fr_v (pv 0))) (fe_v (pv 1)) (by rfl)) (fe_one (fe_cmp (od_eq (hu64 hr)) (fe_lset rfl rfl (He.free_ok X G (c.fact 48 (f := .free "len") rfl)) rfl (He.free_ok X G (c.fact 53 (f := .free "set") rfl)) (fr_v (pv 0))) (fe_v (pv 1)) (by rfl)))))))
def N_look_at_profile : List Str := ["profile"]
def t_look_at_profile : TSd := (t_if (t_or (t_not (t_tst (t_call 3 [] c_are_ints (t_cons (t_v 0) (t_cons (t_c (.int 0)) (t_cons (t_c (.int (10000))) t_nil)))))) (t_not (t_tst (t_chain o_le o_le (t_c (.int 1)) (t_c1 o_len (t_rd 0)) (t_c (.int (200))))))) t_never t_skip)
def c_look_at_profile : CD := bodyC false 1 t_look_at_profile
theorem sc_look_at_profile : FnScope N_look_at_profile ["profile"] (defScope (top 18)) := ⟨rfl, rfl, rfl, by decide +kernel, rfl, by decide +kernel, by decide +kernel⟩
theorem ok_look_at_profile (X : K.In h) (G : h.Ns mainGlobals mg) (c : He.SaysD fa fn K) : DCal P w K mg base CX0 3 "look_at_profile" false 1 [] c_look_at_profile := by
  obtain ⟨k_MOST_HOURS, h_MOST_HOURS⟩ := He.int_ok X G (c.fact 60 (f := .int "MOST_HOURS" 200) rfl)
  obtain ⟨k_MOST_WEIGHT, h_MOST_WEIGHT⟩ := He.int_ok X G (c.fact 61 (f := .int "MOST_WEIGHT" 10000) rfl)
  obtain ⟨fd, F⟩ := c.def_ 5 (d := dF 18 "look_at_profile") rfl
  have nd := (sc_look_at_profile).nd
  refine ⟨_, fd, ["profile"], [], [], fn_ok F sc_look_at_profile (fun cdv A outer s H E F' bas hr => PSs.nox ?_), He.glo_ok X G (c.fact 5 (f := .glo "look_at_profile") rfl), F.kp, F.bindsN (fun _ _ _ _ _ _ us hl => match us, hl with | [_], _ => rfl), .nil, fun _ => rfl⟩
  exact (fss_one (fs_if (FW.t (fw_or (ft_not (ft_val (fe_call (ok_are_ints X G c) hr (by decide) rfl ps0 (fa_cons (fe_v (pv 0)) (fa_cons fe_int (fa_cons (fe_gint rfl h_MOST_WEIGHT) fa_nil)))))) (fw_or1 (ft_not (ft_chain od_le od_le fe_int (fe_B1 cd_len rfl (He.free_ok X G (c.fact 48 (f := .free "len") rfl)) rfl (fr_v (pv 0))) (fe_gint rfl h_MOST_HOURS)))))) (fss_one fs_never) fss_nil))
def N_are_counts : List Str := ["value", "last", "reading", "hour", "count", "one", "other"]
def t_are_counts : TSd := (t_seq (t_if (t_or (t_not (t_tst (t_c1 (fun x R => x.data = true ∧ R (.bl (DV.isTup x))) (t_v 0)))) (t_not (t_tst (t_chain o_le o_le (t_c (.int 1)) (t_c1 o_len (t_rd 0)) (t_c (.int (40))))))) (t_ret (t_c (.bl false))) t_skip) (t_seq (t_if (t_not (t_tst (t_c1 o_all (t_lc (t_it (t_v 0)) (g_name 2) t_yes (t_andV (t_call 3 [] c_are_ints (t_cons (t_v 2) (t_cons (t_c (.int 0)) (t_cons (t_c (.int (10000000))) t_nil)))) (t_andV (t_bin o_eq (t_c1 o_len (t_rd 2)) (t_c (.int 2))) (t_bin o_le (t_ixv 2 (t_c (.int 0))) (t_v 1)))) [2])))) (t_ret (t_c (.bl false))) t_skip) (t_seq (t_if (t_not (t_tst (t_call 1 [] c_is_rising (t_cons (t_lc (t_it (t_v 0)) (g_tup 2 (g_cons (g_name 3) (g_cons (g_name 4) g_nil))) t_yes (t_v 3) [3, 4]) t_nil)))) (t_ret (t_c (.bl false))) t_skip) (t_ret (t_c1 o_all (t_lc (t_zip (t_v 0) (t_slv 0 (t_some (t_c (.int 1))) t_none)) (g_tup 2 (g_cons (g_name 5) (g_cons (g_name 6) g_nil))) t_yes (t_bin o_le (t_ixv 5 (t_c (.int 1))) (t_ixv 6 (t_c (.int 1)))) [5, 6]))))))
def c_are_counts : CD := bodyC false 7 t_are_counts
theorem sc_are_counts : FnScope N_are_counts ["value", "last"] (defScope (top 19)) := ⟨rfl, rfl, rfl, by decide +kernel, rfl, by decide +kernel, by decide +kernel⟩
theorem ok_are_counts (X : K.In h) (G : h.Ns mainGlobals mg) (c : He.SaysD fa fn K) : DCal P w K mg base CX0 3 "are_counts" false 2 [] c_are_counts := by
  obtain ⟨k_MOST_COUNT, h_MOST_COUNT⟩ := He.int_ok X G (c.fact 62 (f := .int "MOST_COUNT" 10000000) rfl)
  obtain ⟨k_MOST_READINGS, h_MOST_READINGS⟩ := He.int_ok X G (c.fact 63 (f := .int "MOST_READINGS" 40) rfl)
  obtain ⟨fd, F⟩ := c.def_ 6 (d := dF 19 "are_counts") rfl
  have nd := (sc_are_counts).nd
  refine ⟨_, fd, ["value", "last"], [], [], fn_ok F sc_are_counts (fun cdv A outer s H E F' bas hr => PSs.nox ?_), He.glo_ok X G (c.fact 6 (f := .glo "are_counts") rfl), F.kp, F.bindsN (fun _ _ _ _ _ _ us hl => match us, hl with | [_, _], _ => rfl), .nil, fun _ => rfl⟩
  exact (fss_cons (fs_if (FW.t (fw_or (ft_not (ft_val (fe_isi isi_tup rfl (He.free_ok X G (c.fact 47 (f := .free "isinstance") rfl)) rfl (fe_v (pv 0)) rfl (He.free_ok X G (c.fact 58 (f := .free "tuple") rfl)) rfl))) (fw_or1 (ft_not (ft_chain od_le od_le fe_int (fe_B1 cd_len rfl (He.free_ok X G (c.fact 48 (f := .free "len") rfl)) rfl (fr_v (pv 0))) (fe_gint rfl h_MOST_READINGS)))))) (fss_one (fs_ret fe_bl)) fss_nil)
  (fss_cons (fs_if (ft_not (ft_val (fe_B1 (cd_all rfl) rfl (He.free_ok X G (c.fact 43 (f := .free "all") rfl)) rfl (FO.toR (fo_lc (own := [("reading", 2)]) rfl nd (fi_it (fe_v (pv 0))) (blkOk_by (N := N_are_counts) (sc := (defScope (top 19))) (by decide +kernel)) (fun _ _ _ _ _ _ _ => (fgv_name (by decide) (pg_name (i := 2) nd rfl (.inl rfl) (by first | exact .inl rfl | exact .inr rfl)))) (fun _ _ _ _ _ _ _ => fts_nil) (fun _ _ _ _ _ _ _ => (fe_and (fe_call (ok_are_ints X G c) hr (by decide) rfl ps0 (fa_cons (fe_v (pv 2)) (fa_cons fe_int (fa_cons (fe_gint rfl h_MOST_COUNT) fa_nil)))) (fe_and (fe_cmp (od_eq (hu64 hr)) (fe_B1 cd_len rfl (He.free_ok X G (c.fact 48 (f := .free "len") rfl)) rfl (fr_v (pv 2))) fe_int (by rfl)) (fe_one (fe_cmp od_le (fe_ixv (pv 2) fe_int (fun _ _ => rfl)) (fe_v (pv 1)) (by rfl))))))))))) (fss_one (fs_ret fe_bl)) fss_nil)
  (fss_cons (fs_if (ft_not (ft_val (fe_call (ok_is_rising X G c) hr (by decide) rfl ps0 (fa_cons (FO.toE (fo_lc (own := [("hour", 3), ("count", 4)]) rfl nd (fi_it (fe_v (pv 0))) (blkOk_by (N := N_are_counts) (sc := (defScope (top 19))) (by decide +kernel)) (fun _ _ _ _ _ _ _ => (fgv_tup rfl (fgvs_cons (fgv_name (by decide) (pg_name (i := 3) nd rfl (.inl rfl) (by first | exact .inl rfl | exact .inr rfl))) (fgvs_cons (fgv_name (by decide) (pg_name (i := 4) nd rfl (.inl rfl) (by first | exact .inl rfl | exact .inr rfl))) fgvs_nil)))) (fun _ _ _ _ _ _ _ => fts_nil) (fun _ _ _ _ _ _ _ => (fe_v (pv 3))))) fa_nil)))) (fss_one (fs_ret fe_bl)) fss_nil)
  (fss_one (fs_ret (fe_B1 (cd_all rfl) rfl (He.free_ok X G (c.fact 43 (f := .free "all") rfl)) rfl (FO.toR (fo_lc (own := [("one", 5), ("other", 6)]) rfl nd (fi_zip rfl (He.free_ok X G (c.fact 59 (f := .free "zip") rfl)) (fe_v (pv 0)) (fe_slv (pv 0) (fp_some fe_int) fp_none)) (blkOk_by (N := N_are_counts) (sc := (defScope (top 19))) (by decide +kernel)) (fun _ _ _ _ _ _ _ => (fgv_tup rfl (fgvs_cons (fgv_name (by decide) (pg_name (i := 5) nd rfl (.inl rfl) (by first | exact .inl rfl | exact .inr rfl))) (fgvs_cons (fgv_name (by decide) (pg_name (i := 6) nd rfl (.inl rfl) (by first | exact .inl rfl | exact .inr rfl))) fgvs_nil)))) (fun _ _ _ _ _ _ _ => fts_nil) (fun _ _ _ _ _ _ _ => (fe_cmp od_le (fe_ixv (pv 5) fe_int (fun _ _ => rfl)) (fe_ixv (pv 6) fe_int (fun _ _ => rfl)) (by rfl)))))))))))
def N_told_with : List Str := ["readings", "reading", "hour", "count"]
def t_told_with : TSd := (t_seq (t_if (t_or (t_not (t_tst (t_call 3 [] c_are_ints (t_cons (t_v 1) (t_cons (t_c (.int 0)) (t_cons (t_c (.int (10000000))) t_nil)))))) (t_or (t_tst (t_bin o_ne (t_c1 o_len (t_rd 1)) (t_c (.int 2)))) (t_tst (t_bin (o_in false) (t_ixv 1 (t_c (.int 0))) (t_lc (t_it (t_v 0)) (g_tup 2 (g_cons (g_name 2) (g_cons (g_name 3) g_nil))) t_yes (t_v 2) [2, 3]))))) (t_ret (t_c .non)) t_skip) (t_ret (t_c1 o_tuple (t_c1 o_sortedT (t_lst (t_star (t_v 0) (t_cons (t_v 1) t_nil)))))))
def c_told_with : CD := bodyC false 4 t_told_with
theorem sc_told_with : FnScope N_told_with ["readings", "reading"] (defScope (top 27)) := ⟨rfl, rfl, rfl, by decide +kernel, rfl, by decide +kernel, by decide +kernel⟩
theorem ok_told_with (X : K.In h) (G : h.Ns mainGlobals mg) (c : He.SaysD fa fn K) : DCal P w K mg base CX0 3 "told_with" false 2 [] c_told_with := by
  obtain ⟨k_MOST_COUNT, h_MOST_COUNT⟩ := He.int_ok X G (c.fact 62 (f := .int "MOST_COUNT" 10000000) rfl)
  obtain ⟨fd, F⟩ := c.def_ 14 (d := dF 27 "told_with") rfl
  have nd := (sc_told_with).nd
  refine ⟨_, fd, ["readings", "reading"], [], [], fn_ok F sc_told_with (fun cdv A outer s H E F' bas hr => PSs.nox ?_), He.glo_ok X G (c.fact 14 (f := .glo "told_with") rfl), F.kp, F.bindsN (fun _ _ _ _ _ _ us hl => match us, hl with | [_, _], _ => rfl), .nil, fun _ => rfl⟩
  exact (fss_cons (fs_if (FW.t (fw_or (ft_not (ft_val (fe_call (ok_are_ints X G c) hr (by decide) rfl ps0 (fa_cons (fe_v (pv 1)) (fa_cons fe_int (fa_cons (fe_gint rfl h_MOST_COUNT) fa_nil)))))) (fw_or (ft_cmp (od_ne (hu64 hr)) (fe_B1 cd_len rfl (He.free_ok X G (c.fact 48 (f := .free "len") rfl)) rfl (fr_v (pv 1))) fe_int (by rfl)) (fw_or1 (ft_cmp (od_in (hu65 hr)) (fe_ixv (pv 1) fe_int (fun _ _ => rfl)) (FO.toE (fo_lc (own := [("hour", 2), ("count", 3)]) rfl nd (fi_it (fe_v (pv 0))) (blkOk_by (N := N_told_with) (sc := (defScope (top 27))) (by decide +kernel)) (fun _ _ _ _ _ _ _ => (fgv_tup rfl (fgvs_cons (fgv_name (by decide) (pg_name (i := 2) nd rfl (.inl rfl) (by first | exact .inl rfl | exact .inr rfl))) (fgvs_cons (fgv_name (by decide) (pg_name (i := 3) nd rfl (.inl rfl) (by first | exact .inl rfl | exact .inr rfl))) fgvs_nil)))) (fun _ _ _ _ _ _ _ => fts_nil) (fun _ _ _ _ _ _ _ => (fe_v (pv 2))))) (by rfl)))))) (fss_one (fs_ret fe_non)) fss_nil)
  (fss_one (fs_ret (fe_T1 cd_tuple rfl (He.free_ok X G (c.fact 58 (f := .free "tuple") rfl)) rfl (FO.toR (fo_B1 (co_sortedT (hu64 hr)) rfl (He.free_ok X G (c.fact 54 (f := .free "sorted") rfl)) rfl (FO.toR (fo_lst (fa_star (fe_v (pv 0)) (fa_cons (fe_v (pv 1)) fa_nil))))))))))
def N_look_at_discounts : List Str := ["price", "discounts", "one"]
def t_look_at_discounts : TSd := (t_seq (t_if (t_not (t_tst (t_call 3 [] c_is_int (t_cons (t_v 0) (t_cons (t_c (.int 0)) (t_cons (t_c (.int (1000000000))) t_nil)))))) t_never t_skip) (t_seq (t_if (t_or (t_not (t_tst (t_c1 (fun x R => x.data = true ∧ R (.bl (DV.isTup x))) (t_v 1)))) (t_tst (t_bin o_gt (t_c1 o_len (t_rd 1)) (t_c (.int (12)))))) t_never t_skip) (t_if (t_not (t_tst (t_c1 o_all (t_lc (t_it (t_v 1)) (g_name 2) t_yes (t_call 1 [] c_is_discount (t_cons (t_v 2) t_nil)) [2])))) t_never t_skip)))
def c_look_at_discounts : CD := bodyC false 3 t_look_at_discounts
theorem sc_look_at_discounts : FnScope N_look_at_discounts ["price", "discounts"] (defScope (top 40)) := ⟨rfl, rfl, rfl, by decide +kernel, rfl, by decide +kernel, by decide +kernel⟩
theorem ok_look_at_discounts (X : K.In h) (G : h.Ns mainGlobals mg) (c : He.SaysD fa fn K) : DCal P w K mg base CX0 3 "look_at_discounts" false 2 [] c_look_at_discounts := by
  obtain ⟨k_MOST_OFF, h_MOST_OFF⟩ := He.int_ok X G (c.fact 65 (f := .int "MOST_OFF" 12) rfl)
  obtain ⟨k_MOST_PRICE, h_MOST_PRICE⟩ := He.int_ok X G (c.fact 64 (f := .int "MOST_PRICE" 1000000000) rfl)
  obtain ⟨fd, F⟩ := c.def_ 20 (d := dF 40 "look_at_discounts") rfl
  have nd := (sc_look_at_discounts).nd
  refine ⟨_, fd, ["price", "discounts"], [], [], fn_ok F sc_look_at_discounts (fun cdv A outer s H E F' bas hr => PSs.nox ?_), He.glo_ok X G (c.fact 20 (f := .glo "look_at_discounts") rfl), F.kp, F.bindsN (fun _ _ _ _ _ _ us hl => match us, hl with | [_, _], _ => rfl), .nil, fun _ => rfl⟩
  exact (fss_cons (fs_if (ft_not (ft_val (fe_call (ok_is_int X G c) hr (by decide) rfl ps0 (fa_cons (fe_v (pv 0)) (fa_cons fe_int (fa_cons (fe_gint rfl h_MOST_PRICE) fa_nil)))))) (fss_one fs_never) fss_nil)
  (fss_cons (fs_if (FW.t (fw_or (ft_not (ft_val (fe_isi isi_tup rfl (He.free_ok X G (c.fact 47 (f := .free "isinstance") rfl)) rfl (fe_v (pv 1)) rfl (He.free_ok X G (c.fact 58 (f := .free "tuple") rfl)) rfl))) (fw_or1 (ft_cmp od_gt (fe_B1 cd_len rfl (He.free_ok X G (c.fact 48 (f := .free "len") rfl)) rfl (fr_v (pv 1))) (fe_gint rfl h_MOST_OFF) (by rfl))))) (fss_one fs_never) fss_nil)
  (fss_one (fs_if (ft_not (ft_val (fe_B1 (cd_all rfl) rfl (He.free_ok X G (c.fact 43 (f := .free "all") rfl)) rfl (FO.toR (fo_lc (own := [("one", 2)]) rfl nd (fi_it (fe_v (pv 1))) (blkOk_by (N := N_look_at_discounts) (sc := (defScope (top 40))) (by decide +kernel)) (fun _ _ _ _ _ _ _ => (fgv_name (by decide) (pg_name (i := 2) nd rfl (.inl rfl) (by first | exact .inl rfl | exact .inr rfl)))) (fun _ _ _ _ _ _ _ => fts_nil) (fun _ _ _ _ _ _ _ => (fe_call (ok_is_discount X G c) hr (by decide) rfl ps0 (fa_cons (fe_v (pv 2)) fa_nil)))))))) (fss_one fs_never) fss_nil))))
def N_told_price : List Str := ["price", "discounts", "order", "found", "at"]
def L_told_price_1 : TSd := (t_set 3 (t_call 2 [] c_told_off (t_cons (t_v 3) (t_cons (t_ixv 1 (t_v 4)) t_nil))))
def t_told_price : TSd := (t_seq (t_set 3 (t_tup (t_cons (t_v 0) (t_cons (t_c (.int 1)) t_nil)))) (t_seq (t_for (t_it (t_v 2)) (g_name 4) L_told_price_1) (t_ret (t_v 3))))
def c_told_price : CD := bodyC false 5 t_told_price
theorem sc_told_price : FnScope N_told_price ["price", "discounts", "order"] (defScope (top 43)) := ⟨rfl, rfl, rfl, by decide +kernel, rfl, by decide +kernel, by decide +kernel⟩
theorem ok_told_price (X : K.In h) (G : h.Ns mainGlobals mg) (c : He.SaysD fa fn K) : DCal P w K mg base CX0 3 "told_price" false 3 [] c_told_price := by
  obtain ⟨fd, F⟩ := c.def_ 23 (d := dF 43 "told_price") rfl
  have nd := (sc_told_price).nd
  refine ⟨_, fd, ["price", "discounts", "order"], [], [], fn_ok F sc_told_price (fun cdv A outer s H E F' bas hr => PSs.nox ?_), He.glo_ok X G (c.fact 23 (f := .glo "told_price") rfl), F.kp, F.bindsN (fun _ _ _ _ _ _ us hl => match us, hl with | [_, _, _], _ => rfl), .nil, fun _ => rfl⟩
  exact (fss_cons (fs_set (i := 3) nd rfl (.inl rfl) (fe_tup (fa_cons (fe_v (pv 0)) (fa_cons fe_int fa_nil))) (by first | exact .inl rfl | exact .inr rfl))
  (fss_cons (fs_for PO_never rfl (fi_it (fe_v (pv 2))) (fg_name (pg_name (i := 4) nd rfl (.inl rfl) (by first | exact .inl rfl | exact .inr rfl))) (fss_one (fs_set (i := 3) nd rfl (.inl rfl) (fe_call (ok_told_off X G c) hr (by decide) rfl ps0 (fa_cons (fe_v (pv 3)) (fa_cons (fe_ixv (pv 1) (fe_v (pv 4)) (fun _ _ => rfl)) fa_nil))) (by first | exact .inl rfl | exact .inr rfl))))
  (fss_one (fs_ret (fe_v (pv 3))))))
def N_look_at_estimated : List Str := ["profile", "readings"]
def t_look_at_estimated : TSd := (t_seq (t_expr (t_call 1 [] c_look_at_profile (t_cons (t_v 0) t_nil))) (t_if (t_not (t_tst (t_call 2 [] c_are_counts (t_cons (t_v 1) (t_cons (t_c1 o_len (t_rd 0)) t_nil))))) t_never t_skip))
def c_look_at_estimated : CD := bodyC false 2 t_look_at_estimated
theorem sc_look_at_estimated : FnScope N_look_at_estimated ["profile", "readings"] (defScope (top 20)) := ⟨rfl, rfl, rfl, by decide +kernel, rfl, by decide +kernel, by decide +kernel⟩
theorem ok_look_at_estimated (X : K.In h) (G : h.Ns mainGlobals mg) (c : He.SaysD fa fn K) : DCal P w K mg base CX0 4 "look_at_estimated" false 2 [] c_look_at_estimated := by
  obtain ⟨fd, F⟩ := c.def_ 7 (d := dF 20 "look_at_estimated") rfl
  have nd := (sc_look_at_estimated).nd
  refine ⟨_, fd, ["profile", "readings"], [], [], fn_ok F sc_look_at_estimated (fun cdv A outer s H E F' bas hr => PSs.nox ?_), He.glo_ok X G (c.fact 7 (f := .glo "look_at_estimated") rfl), F.kp, F.bindsN (fun _ _ _ _ _ _ us hl => match us, hl with | [_, _], _ => rfl), .nil, fun _ => rfl⟩
  exact (fss_cons (fs_expr (fe_call (ok_look_at_profile X G c) hr (by decide) rfl ps0 (fa_cons (fe_v (pv 0)) fa_nil)))
  (fss_one (fs_if (ft_not (ft_val (fe_call (ok_are_counts X G c) hr (by decide) rfl ps0 (fa_cons (fe_v (pv 1)) (fa_cons (fe_B1 cd_len rfl (He.free_ok X G (c.fact 48 (f := .free "len") rfl)) rfl (fr_v (pv 0))) fa_nil))))) (fss_one fs_never) fss_nil)))
def N_price_of : List Str := ["price", "discounts", "order"]
def t_price_of : TSd := (t_seq (t_expr (t_call 2 [] c_look_at_discounts (t_cons (t_v 0) (t_cons (t_v 1) t_nil)))) (t_seq (t_if (t_not (t_tst (t_call 2 [] c_is_order (t_cons (t_v 2) (t_cons (t_c1 o_len (t_rd 1)) t_nil))))) t_never t_skip) (t_ret (t_call 3 [] c_told_price (t_cons (t_v 0) (t_cons (t_v 1) (t_cons (t_v 2) t_nil)))))))
def c_price_of : CD := bodyC false 3 t_price_of
theorem sc_price_of : FnScope N_price_of ["price", "discounts", "order"] (defScope (top 44)) := ⟨rfl, rfl, rfl, by decide +kernel, rfl, by decide +kernel, by decide +kernel⟩
theorem ok_price_of (X : K.In h) (G : h.Ns mainGlobals mg) (c : He.SaysD fa fn K) : DCal P w K mg base CX0 4 "price_of" false 3 [] c_price_of := by
  obtain ⟨fd, F⟩ := c.def_ 24 (d := dF 44 "price_of") rfl
  have nd := (sc_price_of).nd
  refine ⟨_, fd, ["price", "discounts", "order"], [], [], fn_ok F sc_price_of (fun cdv A outer s H E F' bas hr => PSs.nox ?_), He.glo_ok X G (c.fact 24 (f := .glo "price_of") rfl), F.kp, F.bindsN (fun _ _ _ _ _ _ us hl => match us, hl with | [_, _, _], _ => rfl), .nil, fun _ => rfl⟩
  exact (fss_cons (fs_expr (fe_call (ok_look_at_discounts X G c) hr (by decide) rfl ps0 (fa_cons (fe_v (pv 0)) (fa_cons (fe_v (pv 1)) fa_nil))))
  (fss_cons (fs_if (ft_not (ft_val (fe_call (ok_is_order X G c) hr (by decide) rfl ps0 (fa_cons (fe_v (pv 2)) (fa_cons (fe_B1 cd_len rfl (He.free_ok X G (c.fact 48 (f := .free "len") rfl)) rfl (fr_v (pv 1))) fa_nil))))) (fss_one fs_never) fss_nil)
  (fss_one (fs_ret (fe_call (ok_told_price X G c) hr (by decide) rfl ps0 (fa_cons (fe_v (pv 0)) (fa_cons (fe_v (pv 1)) (fa_cons (fe_v (pv 2)) fa_nil))))))))
def N_lowest_price : List Str := ["price", "discounts", "parts", "money"]
def t_lowest_price : TSd := (t_seq (t_expr (t_call 2 [] c_look_at_discounts (t_cons (t_v 0) (t_cons (t_v 1) t_nil)))) (t_seq (t_asg (t_call 1 [] c_told_split (t_cons (t_v 1) t_nil)) (g_tup 2 (g_cons (g_name 2) (g_cons (g_name 3) g_nil)))) (t_ret (t_tup (t_cons (t_call 3 [] c_told_price (t_cons (t_v 0) (t_cons (t_v 1) (t_cons (t_lst (t_star (t_v 2) (t_star (t_v 3) t_nil))) t_nil)))) (t_cons (t_tup (t_star (t_v 2) (t_star (t_v 3) t_nil))) t_nil))))))
def c_lowest_price : CD := bodyC false 4 t_lowest_price
theorem sc_lowest_price : FnScope N_lowest_price ["price", "discounts"] (defScope (top 46)) := ⟨rfl, rfl, rfl, by decide +kernel, rfl, by decide +kernel, by decide +kernel⟩
theorem ok_lowest_price (X : K.In h) (G : h.Ns mainGlobals mg) (c : He.SaysD fa fn K) : DCal P w K mg base CX0 4 "lowest_price" false 2 [] c_lowest_price := by
  obtain ⟨fd, F⟩ := c.def_ 26 (d := dF 46 "lowest_price") rfl
  have nd := (sc_lowest_price).nd
  refine ⟨_, fd, ["price", "discounts"], [], [], fn_ok F sc_lowest_price (fun cdv A outer s H E F' bas hr => PSs.nox ?_), He.glo_ok X G (c.fact 26 (f := .glo "lowest_price") rfl), F.kp, F.bindsN (fun _ _ _ _ _ _ us hl => match us, hl with | [_, _], _ => rfl), .nil, fun _ => rfl⟩
  exact (fss_cons (fs_expr (fe_call (ok_look_at_discounts X G c) hr (by decide) rfl ps0 (fa_cons (fe_v (pv 0)) (fa_cons (fe_v (pv 1)) fa_nil))))
  (fss_cons (fs_asg (fe_call (ok_told_split X G c) hr (by decide) rfl ps0 (fa_cons (fe_v (pv 1)) fa_nil)) (fg_tup rfl (fgs_cons (fg_name (pg_name (i := 2) nd rfl (.inl rfl) (by first | exact .inl rfl | exact .inr rfl))) (fgs_cons (fg_name (pg_name (i := 3) nd rfl (.inl rfl) (by first | exact .inl rfl | exact .inr rfl))) fgs_nil))))
  (fss_one (fs_ret (fe_tup (fa_cons (fe_call (ok_told_price X G c) hr (by decide) rfl ps0 (fa_cons (fe_v (pv 0)) (fa_cons (fe_v (pv 1)) (fa_cons (FO.toE (fo_lst (fa_star (fe_v (pv 2)) (fa_star (fe_v (pv 3)) fa_nil)))) fa_nil)))) (fa_cons (fe_tup (fa_star (fe_v (pv 2)) (fa_star (fe_v (pv 3)) fa_nil))) fa_nil)))))))
def N_highest_price : List Str := ["price", "discounts", "parts", "money"]
def t_highest_price : TSd := (t_seq (t_expr (t_call 2 [] c_look_at_discounts (t_cons (t_v 0) (t_cons (t_v 1) t_nil)))) (t_seq (t_asg (t_call 1 [] c_told_split (t_cons (t_v 1) t_nil)) (g_tup 2 (g_cons (g_name 2) (g_cons (g_name 3) g_nil)))) (t_ret (t_tup (t_cons (t_call 3 [] c_told_price (t_cons (t_v 0) (t_cons (t_v 1) (t_cons (t_lst (t_star (t_v 3) (t_star (t_v 2) t_nil))) t_nil)))) (t_cons (t_tup (t_star (t_v 3) (t_star (t_v 2) t_nil))) t_nil))))))
def c_highest_price : CD := bodyC false 4 t_highest_price
theorem sc_highest_price : FnScope N_highest_price ["price", "discounts"] (defScope (top 47)) := ⟨rfl, rfl, rfl, by decide +kernel, rfl, by decide +kernel, by decide +kernel⟩
theorem ok_highest_price (X : K.In h) (G : h.Ns mainGlobals mg) (c : He.SaysD fa fn K) : DCal P w K mg base CX0 4 "highest_price" false 2 [] c_highest_price := by
  obtain ⟨fd, F⟩ := c.def_ 27 (d := dF 47 "highest_price") rfl
  have nd := (sc_highest_price).nd
  refine ⟨_, fd, ["price", "discounts"], [], [], fn_ok F sc_highest_price (fun cdv A outer s H E F' bas hr => PSs.nox ?_), He.glo_ok X G (c.fact 27 (f := .glo "highest_price") rfl), F.kp, F.bindsN (fun _ _ _ _ _ _ us hl => match us, hl with | [_, _], _ => rfl), .nil, fun _ => rfl⟩
  exact (fss_cons (fs_expr (fe_call (ok_look_at_discounts X G c) hr (by decide) rfl ps0 (fa_cons (fe_v (pv 0)) (fa_cons (fe_v (pv 1)) fa_nil))))
  (fss_cons (fs_asg (fe_call (ok_told_split X G c) hr (by decide) rfl ps0 (fa_cons (fe_v (pv 1)) fa_nil)) (fg_tup rfl (fgs_cons (fg_name (pg_name (i := 2) nd rfl (.inl rfl) (by first | exact .inl rfl | exact .inr rfl))) (fgs_cons (fg_name (pg_name (i := 3) nd rfl (.inl rfl) (by first | exact .inl rfl | exact .inr rfl))) fgs_nil))))
  (fss_one (fs_ret (fe_tup (fa_cons (fe_call (ok_told_price X G c) hr (by decide) rfl ps0 (fa_cons (fe_v (pv 0)) (fa_cons (fe_v (pv 1)) (fa_cons (FO.toE (fo_lst (fa_star (fe_v (pv 3)) (fa_star (fe_v (pv 2)) fa_nil)))) fa_nil)))) (fa_cons (fe_tup (fa_star (fe_v (pv 3)) (fa_star (fe_v (pv 2)) fa_nil))) fa_nil)))))))
def N_is_price : List Str := ["price", "discounts", "due", "value", "one", "its"]
def t_is_price : TSd := (t_seq (t_if (t_or (t_not (t_tst (t_c1 (fun x R => x.data = true ∧ R (.bl (DV.isTup x))) (t_v 3)))) (t_or (t_tst (t_bin o_ne (t_c1 o_len (t_rd 3)) (t_c (.int 2)))) (t_or (t_not (t_tst (t_c1 (fun x R => x.data = true ∧ R (.bl (DV.isTup x))) (t_ixv 3 (t_c (.int 0)))))) (t_tst (t_bin o_ne (t_c1 o_len (t_ixv 3 (t_c (.int 0)))) (t_c (.int 2))))))) (t_ret (t_c (.bl false))) t_skip) (t_seq (t_if (t_not (t_tst (t_c1 o_all (t_lc (t_zip (t_ixv 3 (t_c (.int 0))) (t_v 2)) (g_tup 2 (g_cons (g_name 4) (g_cons (g_name 5) g_nil))) t_yes (t_call 3 [] c_is_int (t_cons (t_v 4) (t_cons (t_v 5) (t_cons (t_v 5) t_nil)))) [4, 5])))) (t_ret (t_c (.bl false))) t_skip) (t_ret (t_andV (t_call 2 [] c_is_order (t_cons (t_ixv 3 (t_c (.int 1))) (t_cons (t_c1 o_len (t_rd 1)) t_nil))) (t_bin o_eq (t_call 3 [] c_told_price (t_cons (t_v 0) (t_cons (t_v 1) (t_cons (t_ixv 3 (t_c (.int 1))) t_nil)))) (t_v 2))))))
def c_is_price : CD := bodyC false 6 t_is_price
theorem sc_is_price : FnScope N_is_price ["price", "discounts", "due", "value"] (defScope (top 48)) := ⟨rfl, rfl, rfl, by decide +kernel, rfl, by decide +kernel, by decide +kernel⟩
theorem ok_is_price (X : K.In h) (G : h.Ns mainGlobals mg) (c : He.SaysD fa fn K) : DCal P w K mg base CX0 4 "is_price" false 4 [] c_is_price := by
  obtain ⟨fd, F⟩ := c.def_ 28 (d := dF 48 "is_price") rfl
  have nd := (sc_is_price).nd
  refine ⟨_, fd, ["price", "discounts", "due", "value"], [], [], fn_ok F sc_is_price (fun cdv A outer s H E F' bas hr => PSs.nox ?_), He.glo_ok X G (c.fact 28 (f := .glo "is_price") rfl), F.kp, F.bindsN (fun _ _ _ _ _ _ us hl => match us, hl with | [_, _, _, _], _ => rfl), .nil, fun _ => rfl⟩
  exact (fss_cons (fs_if (FW.t (fw_or (ft_not (ft_val (fe_isi isi_tup rfl (He.free_ok X G (c.fact 47 (f := .free "isinstance") rfl)) rfl (fe_v (pv 3)) rfl (He.free_ok X G (c.fact 58 (f := .free "tuple") rfl)) rfl))) (fw_or (ft_cmp (od_ne (hu64 hr)) (fe_B1 cd_len rfl (He.free_ok X G (c.fact 48 (f := .free "len") rfl)) rfl (fr_v (pv 3))) fe_int (by rfl)) (fw_or (ft_not (ft_val (fe_isi isi_tup rfl (He.free_ok X G (c.fact 47 (f := .free "isinstance") rfl)) rfl (fe_ixv (pv 3) fe_int (fun _ _ => rfl)) rfl (He.free_ok X G (c.fact 58 (f := .free "tuple") rfl)) rfl))) (fw_or1 (ft_cmp (od_ne (hu64 hr)) (fe_B1 cd_len rfl (He.free_ok X G (c.fact 48 (f := .free "len") rfl)) rfl (FE.toR (fe_ixv (pv 3) fe_int (fun _ _ => rfl)))) fe_int (by rfl))))))) (fss_one (fs_ret fe_bl)) fss_nil)
  (fss_cons (fs_if (ft_not (ft_val (fe_B1 (cd_all rfl) rfl (He.free_ok X G (c.fact 43 (f := .free "all") rfl)) rfl (FO.toR (fo_lc (own := [("one", 4), ("its", 5)]) rfl nd (fi_zip rfl (He.free_ok X G (c.fact 59 (f := .free "zip") rfl)) (fe_ixv (pv 3) fe_int (fun _ _ => rfl)) (fe_v (pv 2))) (blkOk_by (N := N_is_price) (sc := (defScope (top 48))) (by decide +kernel)) (fun _ _ _ _ _ _ _ => (fgv_tup rfl (fgvs_cons (fgv_name (by decide) (pg_name (i := 4) nd rfl (.inl rfl) (by first | exact .inl rfl | exact .inr rfl))) (fgvs_cons (fgv_name (by decide) (pg_name (i := 5) nd rfl (.inl rfl) (by first | exact .inl rfl | exact .inr rfl))) fgvs_nil)))) (fun _ _ _ _ _ _ _ => fts_nil) (fun _ _ _ _ _ _ _ => (fe_call (ok_is_int X G c) hr (by decide) rfl ps0 (fa_cons (fe_v (pv 4)) (fa_cons (fe_v (pv 5)) (fa_cons (fe_v (pv 5)) fa_nil)))))))))) (fss_one (fs_ret fe_bl)) fss_nil)
  (fss_one (fs_ret (fe_and (fe_call (ok_is_order X G c) hr (by decide) rfl ps0 (fa_cons (fe_ixv (pv 3) fe_int (fun _ _ => rfl)) (fa_cons (fe_B1 cd_len rfl (He.free_ok X G (c.fact 48 (f := .free "len") rfl)) rfl (fr_v (pv 1))) fa_nil))) (fe_one (fe_cmp (od_eq (hu64 hr)) (fe_call (ok_told_price X G c) hr (by decide) rfl ps0 (fa_cons (fe_v (pv 0)) (fa_cons (fe_v (pv 1)) (fa_cons (fe_ixv (pv 3) fe_int (fun _ _ => rfl)) fa_nil)))) (fe_v (pv 2)) (by rfl))))))))
def N_estimated : List Str := ["profile", "readings"]
def t_estimated : TSd := (t_seq (t_expr (t_call 2 [] c_look_at_estimated (t_cons (t_v 0) (t_cons (t_v 1) t_nil)))) (t_ret (t_c1 o_tuple (t_call 2 [] c_told_counts (t_cons (t_v 0) (t_cons (t_v 1) t_nil))))))
def c_estimated : CD := bodyC false 2 t_estimated
theorem sc_estimated : FnScope N_estimated ["profile", "readings"] (defScope (top 23)) := ⟨rfl, rfl, rfl, by decide +kernel, rfl, by decide +kernel, by decide +kernel⟩
theorem ok_estimated (X : K.In h) (G : h.Ns mainGlobals mg) (c : He.SaysD fa fn K) : DCal P w K mg base CX0 5 "estimated" false 2 [] c_estimated := by
  obtain ⟨fd, F⟩ := c.def_ 10 (d := dF 23 "estimated") rfl
  have nd := (sc_estimated).nd
  refine ⟨_, fd, ["profile", "readings"], [], [], fn_ok F sc_estimated (fun cdv A outer s H E F' bas hr => PSs.nox ?_), He.glo_ok X G (c.fact 10 (f := .glo "estimated") rfl), F.kp, F.bindsN (fun _ _ _ _ _ _ us hl => match us, hl with | [_, _], _ => rfl), .nil, fun _ => rfl⟩
  exact (fss_cons (fs_expr (fe_call (ok_look_at_estimated X G c) hr (by decide) rfl ps0 (fa_cons (fe_v (pv 0)) (fa_cons (fe_v (pv 1)) fa_nil))))
  (fss_one (fs_ret (fe_T1 cd_tuple rfl (He.free_ok X G (c.fact 58 (f := .free "tuple") rfl)) rfl (FE.toR (fe_call (ok_told_counts X G c) hr (by decide) rfl ps0 (fa_cons (fe_v (pv 0)) (fa_cons (fe_v (pv 1)) fa_nil))))))))
def N_estimated_at : List Str := ["profile", "readings", "hour"]
def t_estimated_at : TSd := (t_seq (t_expr (t_call 2 [] c_look_at_estimated (t_cons (t_v 0) (t_cons (t_v 1) t_nil)))) (t_seq (t_if (t_not (t_tst (t_call 3 [] c_is_int (t_cons (t_v 2) (t_cons (t_bin o_ix (t_ixv 1 (t_c (.int 0))) (t_c (.int 0))) (t_cons (t_bin o_ix (t_ixv 1 (t_neg (t_c (.int 1)))) (t_c (.int 0))) t_nil)))))) t_never t_skip) (t_ret (t_bin o_ix (t_call 2 [] c_told_counts (t_cons (t_v 0) (t_cons (t_v 1) t_nil))) (t_bin o_sub (t_v 2) (t_bin o_ix (t_ixv 1 (t_c (.int 0))) (t_c (.int 0))))))))
def c_estimated_at : CD := bodyC false 3 t_estimated_at
theorem sc_estimated_at : FnScope N_estimated_at ["profile", "readings", "hour"] (defScope (top 25)) := ⟨rfl, rfl, rfl, by decide +kernel, rfl, by decide +kernel, by decide +kernel⟩
theorem ok_estimated_at (X : K.In h) (G : h.Ns mainGlobals mg) (c : He.SaysD fa fn K) : DCal P w K mg base CX0 5 "estimated_at" false 3 [] c_estimated_at := by
  obtain ⟨fd, F⟩ := c.def_ 12 (d := dF 25 "estimated_at") rfl
  have nd := (sc_estimated_at).nd
  refine ⟨_, fd, ["profile", "readings", "hour"], [], [], fn_ok F sc_estimated_at (fun cdv A outer s H E F' bas hr => PSs.nox ?_), He.glo_ok X G (c.fact 12 (f := .glo "estimated_at") rfl), F.kp, F.bindsN (fun _ _ _ _ _ _ us hl => match us, hl with | [_, _, _], _ => rfl), .nil, fun _ => rfl⟩
  exact (fss_cons (fs_expr (fe_call (ok_look_at_estimated X G c) hr (by decide) rfl ps0 (fa_cons (fe_v (pv 0)) (fa_cons (fe_v (pv 1)) fa_nil))))
  (fss_cons (fs_if (ft_not (ft_val (fe_call (ok_is_int X G c) hr (by decide) rfl ps0 (fa_cons (fe_v (pv 2)) (fa_cons (fe_ix (fe_ixv (pv 1) fe_int (fun _ _ => rfl)) fe_int (fun _ _ => rfl)) (fa_cons (fe_ix (fe_ixv (pv 1) (fe_neg fe_int) (fun _ _ => rfl)) fe_int (fun _ _ => rfl)) fa_nil)))))) (fss_one fs_never) fss_nil)
  (fss_one (fs_ret (fe_ix (fe_call (ok_told_counts X G c) hr (by decide) rfl ps0 (fa_cons (fe_v (pv 0)) (fa_cons (fe_v (pv 1)) fa_nil))) (fe_bin od_sub (fe_v (pv 2)) (fe_ix (fe_ixv (pv 1) fe_int (fun _ _ => rfl)) fe_int (fun _ _ => rfl))) (fun _ _ => rfl))))))
def N_look_at_more : List Str := ["profile", "readings", "reading", "made"]
def t_look_at_more : TSd := (t_seq (t_expr (t_call 2 [] c_look_at_estimated (t_cons (t_v 0) (t_cons (t_v 1) t_nil)))) (t_seq (t_set 3 (t_call 2 [] c_told_with (t_cons (t_v 1) (t_cons (t_v 2) t_nil)))) (t_if (t_or (t_tst (t_bin o_is (t_v 3) (t_c .non))) (t_or (t_not (t_tst (t_call 2 [] c_are_counts (t_cons (t_v 3) (t_cons (t_c1 o_len (t_rd 0)) t_nil))))) (t_not (t_tst (t_chain o_le o_le (t_bin o_ix (t_ixv 1 (t_c (.int 0))) (t_c (.int 0))) (t_ixv 2 (t_c (.int 0))) (t_bin o_ix (t_ixv 1 (t_neg (t_c (.int 1)))) (t_c (.int 0)))))))) t_never t_skip)))
def c_look_at_more : CD := bodyC false 4 t_look_at_more
theorem sc_look_at_more : FnScope N_look_at_more ["profile", "readings", "reading"] (defScope (top 26)) := ⟨rfl, rfl, rfl, by decide +kernel, rfl, by decide +kernel, by decide +kernel⟩
theorem ok_look_at_more (X : K.In h) (G : h.Ns mainGlobals mg) (c : He.SaysD fa fn K) : DCal P w K mg base CX0 5 "look_at_more" false 3 [] c_look_at_more := by
  obtain ⟨fd, F⟩ := c.def_ 13 (d := dF 26 "look_at_more") rfl
  have nd := (sc_look_at_more).nd
  refine ⟨_, fd, ["profile", "readings", "reading"], [], [], fn_ok F sc_look_at_more (fun cdv A outer s H E F' bas hr => PSs.nox ?_), He.glo_ok X G (c.fact 13 (f := .glo "look_at_more") rfl), F.kp, F.bindsN (fun _ _ _ _ _ _ us hl => match us, hl with | [_, _, _], _ => rfl), .nil, fun _ => rfl⟩
  exact (fss_cons (fs_expr (fe_call (ok_look_at_estimated X G c) hr (by decide) rfl ps0 (fa_cons (fe_v (pv 0)) (fa_cons (fe_v (pv 1)) fa_nil))))
  (fss_cons (fs_set (i := 3) nd rfl (.inl rfl) (fe_call (ok_told_with X G c) hr (by decide) rfl ps0 (fa_cons (fe_v (pv 1)) (fa_cons (fe_v (pv 2)) fa_nil))) (by first | exact .inl rfl | exact .inr rfl))
  (fss_one (fs_if (FW.t (fw_or (ft_cmp od_is (fe_v (pv 3)) fe_non (by rfl)) (fw_or (ft_not (ft_val (fe_call (ok_are_counts X G c) hr (by decide) rfl ps0 (fa_cons (fe_v (pv 3)) (fa_cons (fe_B1 cd_len rfl (He.free_ok X G (c.fact 48 (f := .free "len") rfl)) rfl (fr_v (pv 0))) fa_nil))))) (fw_or1 (ft_not (ft_chain od_le od_le (fe_ix (fe_ixv (pv 1) fe_int (fun _ _ => rfl)) fe_int (fun _ _ => rfl)) (fe_ixv (pv 2) fe_int (fun _ _ => rfl)) (fe_ix (fe_ixv (pv 1) (fe_neg fe_int) (fun _ _ => rfl)) fe_int (fun _ _ => rfl)))))))) (fss_one fs_never) fss_nil))))
def N_worst_off : List Str := ["profile", "readings", "hour", "count", "low", "high", "when", "shown"]
def t_worst_off : TSd := (t_seq (t_expr (t_call 2 [] c_look_at_estimated (t_cons (t_v 0) (t_cons (t_v 1) t_nil)))) (t_seq (t_if (t_not (t_tst (t_call 3 [] c_is_int (t_cons (t_v 2) (t_cons (t_bin o_ix (t_ixv 1 (t_c (.int 0))) (t_c (.int 0))) (t_cons (t_bin o_ix (t_ixv 1 (t_neg (t_c (.int 1)))) (t_c (.int 0))) t_nil)))))) t_never t_skip) (t_seq (t_set 3 (t_bin o_ix (t_call 2 [] c_told_counts (t_cons (t_v 0) (t_cons (t_v 1) t_nil))) (t_bin o_sub (t_v 2) (t_bin o_ix (t_ixv 1 (t_c (.int 0))) (t_c (.int 0)))))) (t_seq (t_set 4 (t_bin o_ix (t_lc (t_it (t_v 1)) (g_tup 2 (g_cons (g_name 6) (g_cons (g_name 7) g_nil))) (t_tst (t_bin o_le (t_v 6) (t_v 2))) (t_v 7) [6, 7]) (t_neg (t_c (.int 1))))) (t_seq (t_set 5 (t_bin o_ix (t_lc (t_it (t_v 1)) (g_tup 2 (g_cons (g_name 6) (g_cons (g_name 7) g_nil))) (t_tst (t_bin o_ge (t_v 6) (t_v 2))) (t_v 7) [6, 7]) (t_c (.int 0)))) (t_ret (t_tup (t_cons (t_bin o_sub (t_v 4) (t_v 3)) (t_cons (t_bin o_sub (t_v 5) (t_v 3)) t_nil)))))))))
def c_worst_off : CD := bodyC false 8 t_worst_off
theorem sc_worst_off : FnScope N_worst_off ["profile", "readings", "hour"] (defScope (top 30)) := ⟨rfl, rfl, rfl, by decide +kernel, rfl, by decide +kernel, by decide +kernel⟩
theorem ok_worst_off (X : K.In h) (G : h.Ns mainGlobals mg) (c : He.SaysD fa fn K) : DCal P w K mg base CX0 5 "worst_off" false 3 [] c_worst_off := by
  obtain ⟨fd, F⟩ := c.def_ 17 (d := dF 30 "worst_off") rfl
  have nd := (sc_worst_off).nd
  refine ⟨_, fd, ["profile", "readings", "hour"], [], [], fn_ok F sc_worst_off (fun cdv A outer s H E F' bas hr => PSs.nox ?_), He.glo_ok X G (c.fact 17 (f := .glo "worst_off") rfl), F.kp, F.bindsN (fun _ _ _ _ _ _ us hl => match us, hl with | [_, _, _], _ => rfl), .nil, fun _ => rfl⟩
  exact (fss_cons (fs_expr (fe_call (ok_look_at_estimated X G c) hr (by decide) rfl ps0 (fa_cons (fe_v (pv 0)) (fa_cons (fe_v (pv 1)) fa_nil))))
  (fss_cons (fs_if (ft_not (ft_val (fe_call (ok_is_int X G c) hr (by decide) rfl ps0 (fa_cons (fe_v (pv 2)) (fa_cons (fe_ix (fe_ixv (pv 1) fe_int (fun _ _ => rfl)) fe_int (fun _ _ => rfl)) (fa_cons (fe_ix (fe_ixv (pv 1) (fe_neg fe_int) (fun _ _ => rfl)) fe_int (fun _ _ => rfl)) fa_nil)))))) (fss_one fs_never) fss_nil)
  (fss_cons (fs_set (i := 3) nd rfl (.inl rfl) (fe_ix (fe_call (ok_told_counts X G c) hr (by decide) rfl ps0 (fa_cons (fe_v (pv 0)) (fa_cons (fe_v (pv 1)) fa_nil))) (fe_bin od_sub (fe_v (pv 2)) (fe_ix (fe_ixv (pv 1) fe_int (fun _ _ => rfl)) fe_int (fun _ _ => rfl))) (fun _ _ => rfl)) (by first | exact .inl rfl | exact .inr rfl))
  (fss_cons (fs_set (i := 4) nd rfl (.inl rfl) (fe_ix (FO.toE (fo_lc (own := [("when", 6), ("shown", 7)]) rfl nd (fi_it (fe_v (pv 1))) (blkOk_by (N := N_worst_off) (sc := (defScope (top 30))) (by decide +kernel)) (fun _ _ _ _ _ _ _ => (fgv_tup rfl (fgvs_cons (fgv_name (by decide) (pg_name (i := 6) nd rfl (.inl rfl) (by first | exact .inl rfl | exact .inr rfl))) (fgvs_cons (fgv_name (by decide) (pg_name (i := 7) nd rfl (.inl rfl) (by first | exact .inl rfl | exact .inr rfl))) fgvs_nil)))) (fun _ _ _ _ _ _ _ => (fts_one (ft_cmp od_le (fe_v (pv 6)) (fe_v (pv 2)) (by rfl)))) (fun _ _ _ _ _ _ _ => (fe_v (pv 7))))) (fe_neg fe_int) (fun _ _ => rfl)) (by first | exact .inl rfl | exact .inr rfl))
  (fss_cons (fs_set (i := 5) nd rfl (.inl rfl) (fe_ix (FO.toE (fo_lc (own := [("when", 6), ("shown", 7)]) rfl nd (fi_it (fe_v (pv 1))) (blkOk_by (N := N_worst_off) (sc := (defScope (top 30))) (by decide +kernel)) (fun _ _ _ _ _ _ _ => (fgv_tup rfl (fgvs_cons (fgv_name (by decide) (pg_name (i := 6) nd rfl (.inl rfl) (by first | exact .inl rfl | exact .inr rfl))) (fgvs_cons (fgv_name (by decide) (pg_name (i := 7) nd rfl (.inl rfl) (by first | exact .inl rfl | exact .inr rfl))) fgvs_nil)))) (fun _ _ _ _ _ _ _ => (fts_one (ft_cmp od_ge (fe_v (pv 6)) (fe_v (pv 2)) (by rfl)))) (fun _ _ _ _ _ _ _ => (fe_v (pv 7))))) fe_int (fun _ _ => rfl)) (by first | exact .inl rfl | exact .inr rfl))
  (fss_one (fs_ret (fe_tup (fa_cons (fe_bin od_sub (fe_v (pv 4)) (fe_v (pv 3))) (fa_cons (fe_bin od_sub (fe_v (pv 5)) (fe_v (pv 3))) fa_nil))))))))))
def N_best_hour : List Str := ["profile", "readings", "found", "hour", "rest", "gaps", "when", "shown", "later"]
def L_best_hour_1 : TSd := (t_seq (t_set 4 (t_c1 o_sset (t_lst (t_star (t_lc (t_it (t_v 1)) (g_tup 2 (g_cons (g_name 6) (g_cons (g_name 7) g_nil))) t_yes (t_v 6) [6, 7]) (t_cons (t_v 3) t_nil))))) (t_seq (t_set 5 (t_lc (t_zip (t_v 4) (t_slv 4 (t_some (t_c (.int 1))) t_none)) (g_tup 2 (g_cons (g_name 6) (g_cons (g_name 8) g_nil))) t_yes (t_bin o_sub (t_v 8) (t_v 6)) [6, 8])) (t_expr (t_app 2 (t_tup (t_cons (t_c1 o_max (t_lst (t_cons (t_c (.int 0)) (t_star (t_v 5) t_nil)))) (t_cons (t_v 3) t_nil)))))))
def t_best_hour : TSd := (t_seq (t_expr (t_call 2 [] c_look_at_estimated (t_cons (t_v 0) (t_cons (t_v 1) t_nil)))) (t_seq (t_setO 2 (t_lst t_nil)) (t_seq (t_for (t_rng2 (t_cons (t_bin o_ix (t_ixv 1 (t_c (.int 0))) (t_c (.int 0))) (t_cons (t_bin o_add (t_bin o_ix (t_ixv 1 (t_neg (t_c (.int 1)))) (t_c (.int 0))) (t_c (.int 1))) t_nil))) (g_name 3) L_best_hour_1) (t_ret (t_c1 o_min (t_rd 2))))))
def c_best_hour : CD := bodyC false 9 t_best_hour
theorem sc_best_hour : FnScope N_best_hour ["profile", "readings"] (defScope (top 31)) := ⟨rfl, rfl, rfl, by decide +kernel, rfl, by decide +kernel, by decide +kernel⟩
theorem ok_best_hour (X : K.In h) (G : h.Ns mainGlobals mg) (c : He.SaysD fa fn K) : DCal P w K mg base CX0 5 "best_hour" false 2 [] c_best_hour := by
  obtain ⟨fd, F⟩ := c.def_ 18 (d := dF 31 "best_hour") rfl
  have nd := (sc_best_hour).nd
  refine ⟨_, fd, ["profile", "readings"], [], [], fn_ok F sc_best_hour (fun cdv A outer s H E F' bas hr => PSs.nox ?_), He.glo_ok X G (c.fact 18 (f := .glo "best_hour") rfl), F.kp, F.bindsN (fun _ _ _ _ _ _ us hl => match us, hl with | [_, _], _ => rfl), .nil, fun _ => rfl⟩
  exact (fss_cons (fs_expr (fe_call (ok_look_at_estimated X G c) hr (by decide) rfl ps0 (fa_cons (fe_v (pv 0)) (fa_cons (fe_v (pv 1)) fa_nil))))
  (fss_cons (fs_setO (i := 2) nd rfl (.inl rfl) (fo_lst fa_nil) (by first | exact .inl rfl | exact .inr rfl))
  (fss_cons (fs_for PO_never rfl (fi_rng2 rfl (He.free_ok X G (c.fact 52 (f := .free "range") rfl)) (fa_cons (fe_ix (fe_ixv (pv 1) fe_int (fun _ _ => rfl)) fe_int (fun _ _ => rfl)) (fa_cons (fe_bin od_add (fe_ix (fe_ixv (pv 1) (fe_neg fe_int) (fun _ _ => rfl)) fe_int (fun _ _ => rfl)) fe_int) fa_nil))) (fg_name (pg_name (i := 3) nd rfl (.inl rfl) (by first | exact .inl rfl | exact .inr rfl))) (fss_cons (fs_set (i := 4) nd rfl (.inl rfl) (FO.toE (fo_sset rfl rfl (He.free_ok X G (c.fact 54 (f := .free "sorted") rfl)) rfl (He.free_ok X G (c.fact 53 (f := .free "set") rfl)) (FO.toR (fo_lst (fa_star (FO.toE (fo_lc (own := [("when", 6), ("shown", 7)]) rfl nd (fi_it (fe_v (pv 1))) (blkOk_by (N := N_best_hour) (sc := (defScope (top 31))) (by decide +kernel)) (fun _ _ _ _ _ _ _ => (fgv_tup rfl (fgvs_cons (fgv_name (by decide) (pg_name (i := 6) nd rfl (.inl rfl) (by first | exact .inl rfl | exact .inr rfl))) (fgvs_cons (fgv_name (by decide) (pg_name (i := 7) nd rfl (.inl rfl) (by first | exact .inl rfl | exact .inr rfl))) fgvs_nil)))) (fun _ _ _ _ _ _ _ => fts_nil) (fun _ _ _ _ _ _ _ => (fe_v (pv 6))))) (fa_cons (fe_v (pv 3)) fa_nil)))))) (by first | exact .inl rfl | exact .inr rfl))
  (fss_cons (fs_setLcE (i := 5) (own := [("when", 6), ("later", 8)]) rfl nd rfl rfl (sw_true rfl rfl rfl (by decide +kernel)) (fi_zip rfl (He.free_ok X G (c.fact 59 (f := .free "zip") rfl)) (fe_v (pv 4)) (fe_slv (pv 4) (fp_some fe_int) fp_none)) (blkOk_by (N := N_best_hour) (sc := (defScope (top 31))) (by decide +kernel)) (fun _ _ _ _ _ _ _ => (fgv_tup rfl (fgvs_cons (fgv_name (by decide) (pg_name (i := 6) nd rfl (.inl rfl) (by first | exact .inl rfl | exact .inr rfl))) (fgvs_cons (fgv_name (by decide) (pg_name (i := 8) nd rfl (.inl rfl) (by first | exact .inl rfl | exact .inr rfl))) fgvs_nil)))) (fun _ _ _ _ _ _ _ => fts_nil) (fun _ _ _ _ _ _ _ => (fe_bin od_sub (fe_v (pv 8)) (fe_v (pv 6)))))
  (fss_one (fs_expr (fe_app (pv 2) (fe_tup (fa_cons (fe_B1 (cd_max rfl (hu64 hr)) rfl (He.free_ok X G (c.fact 50 (f := .free "max") rfl)) rfl (FO.toR (fo_lst (fa_cons fe_int (fa_star (fe_v (pv 5)) fa_nil))))) (fa_cons (fe_v (pv 3)) fa_nil)))))))))
  (fss_one (fs_ret (fe_B1 (cd_min rfl (hu64 hr)) rfl (He.free_ok X G (c.fact 51 (f := .free "min") rfl)) rfl (fr_v (pv 2))))))))
def N_shows_lowest_price : List Str := ["price", "discounts", "value"]
def t_shows_lowest_price : TSd := (t_ret (t_call 4 [] c_is_price (t_cons (t_v 0) (t_cons (t_v 1) (t_cons (t_bin o_ix (t_call 2 [] c_lowest_price (t_cons (t_v 0) (t_cons (t_v 1) t_nil))) (t_c (.int 0))) (t_cons (t_v 2) t_nil))))))
def c_shows_lowest_price : CD := bodyC false 3 t_shows_lowest_price
theorem sc_shows_lowest_price : FnScope N_shows_lowest_price ["price", "discounts", "value"] (defScope (top 49)) := ⟨rfl, rfl, rfl, by decide +kernel, rfl, by decide +kernel, by decide +kernel⟩
theorem ok_shows_lowest_price (X : K.In h) (G : h.Ns mainGlobals mg) (c : He.SaysD fa fn K) : DCal P w K mg base CX0 5 "shows_lowest_price" false 3 [] c_shows_lowest_price := by
  obtain ⟨fd, F⟩ := c.def_ 29 (d := dF 49 "shows_lowest_price") rfl
  have nd := (sc_shows_lowest_price).nd
  refine ⟨_, fd, ["price", "discounts", "value"], [], [], fn_ok F sc_shows_lowest_price (fun cdv A outer s H E F' bas hr => PSs.nox ?_), He.glo_ok X G (c.fact 29 (f := .glo "shows_lowest_price") rfl), F.kp, F.bindsN (fun _ _ _ _ _ _ us hl => match us, hl with | [_, _, _], _ => rfl), .nil, fun _ => rfl⟩
  exact (fss_one (fs_ret (fe_call (ok_is_price X G c) hr (by decide) rfl ps0 (fa_cons (fe_v (pv 0)) (fa_cons (fe_v (pv 1)) (fa_cons (fe_ix (fe_call (ok_lowest_price X G c) hr (by decide) rfl ps0 (fa_cons (fe_v (pv 0)) (fa_cons (fe_v (pv 1)) fa_nil))) fe_int (fun _ _ => rfl)) (fa_cons (fe_v (pv 2)) fa_nil)))))))
def N_shows_highest_price : List Str := ["price", "discounts", "value"]
def t_shows_highest_price : TSd := (t_ret (t_call 4 [] c_is_price (t_cons (t_v 0) (t_cons (t_v 1) (t_cons (t_bin o_ix (t_call 2 [] c_highest_price (t_cons (t_v 0) (t_cons (t_v 1) t_nil))) (t_c (.int 0))) (t_cons (t_v 2) t_nil))))))
def c_shows_highest_price : CD := bodyC false 3 t_shows_highest_price
theorem sc_shows_highest_price : FnScope N_shows_highest_price ["price", "discounts", "value"] (defScope (top 50)) := ⟨rfl, rfl, rfl, by decide +kernel, rfl, by decide +kernel, by decide +kernel⟩
theorem ok_shows_highest_price (X : K.In h) (G : h.Ns mainGlobals mg) (c : He.SaysD fa fn K) : DCal P w K mg base CX0 5 "shows_highest_price" false 3 [] c_shows_highest_price := by
  obtain ⟨fd, F⟩ := c.def_ 30 (d := dF 50 "shows_highest_price") rfl
  have nd := (sc_shows_highest_price).nd
  refine ⟨_, fd, ["price", "discounts", "value"], [], [], fn_ok F sc_shows_highest_price (fun cdv A outer s H E F' bas hr => PSs.nox ?_), He.glo_ok X G (c.fact 30 (f := .glo "shows_highest_price") rfl), F.kp, F.bindsN (fun _ _ _ _ _ _ us hl => match us, hl with | [_, _, _], _ => rfl), .nil, fun _ => rfl⟩
  exact (fss_one (fs_ret (fe_call (ok_is_price X G c) hr (by decide) rfl ps0 (fa_cons (fe_v (pv 0)) (fa_cons (fe_v (pv 1)) (fa_cons (fe_ix (fe_call (ok_highest_price X G c) hr (by decide) rfl ps0 (fa_cons (fe_v (pv 0)) (fa_cons (fe_v (pv 1)) fa_nil))) fe_int (fun _ _ => rfl)) (fa_cons (fe_v (pv 2)) fa_nil)))))))
def N_does_order_matter : List Str := ["price", "discounts", "low", "high"]
def t_does_order_matter : TSd := (t_seq (t_expr (t_call 2 [] c_look_at_discounts (t_cons (t_v 0) (t_cons (t_v 1) t_nil)))) (t_seq (t_par [2, 3] (m_sh (t_call 2 [] c_lowest_price (t_cons (t_v 0) (t_cons (t_v 1) t_nil))) (m_sh (t_call 2 [] c_highest_price (t_cons (t_v 0) (t_cons (t_v 1) t_nil))) m_nil))) (t_ret (t_ifE (t_tst (t_bin o_eq (t_ixv 2 (t_c (.int 0))) (t_ixv 3 (t_c (.int 0))))) (t_tup (t_cons (t_c (.str "same")) t_nil)) (t_tup (t_cons (t_c (.str "two")) (t_cons (t_ixv 2 (t_c (.int 1))) (t_cons (t_ixv 3 (t_c (.int 1))) t_nil))))))))
def c_does_order_matter : CD := bodyC false 4 t_does_order_matter
theorem sc_does_order_matter : FnScope N_does_order_matter ["price", "discounts"] (defScope (top 51)) := ⟨rfl, rfl, rfl, by decide +kernel, rfl, by decide +kernel, by decide +kernel⟩
theorem ok_does_order_matter (X : K.In h) (G : h.Ns mainGlobals mg) (c : He.SaysD fa fn K) : DCal P w K mg base CX0 5 "does_order_matter" false 2 [] c_does_order_matter := by
  obtain ⟨k_SAME, h_SAME⟩ := He.str_ok X G (c.fact 68 (f := .str "SAME" "same") rfl)
  obtain ⟨k_TWO, h_TWO⟩ := He.str_ok X G (c.fact 69 (f := .str "TWO" "two") rfl)
  obtain ⟨fd, F⟩ := c.def_ 31 (d := dF 51 "does_order_matter") rfl
  have nd := (sc_does_order_matter).nd
  refine ⟨_, fd, ["price", "discounts"], [], [], fn_ok F sc_does_order_matter (fun cdv A outer s H E F' bas hr => PSs.nox ?_), He.glo_ok X G (c.fact 31 (f := .glo "does_order_matter") rfl), F.kp, F.bindsN (fun _ _ _ _ _ _ us hl => match us, hl with | [_, _], _ => rfl), .nil, fun _ => rfl⟩
  exact (fss_cons (fs_expr (fe_call (ok_look_at_discounts X G c) hr (by decide) rfl ps0 (fa_cons (fe_v (pv 0)) (fa_cons (fe_v (pv 1)) fa_nil))))
  (fss_cons (fs_par2 (i := 2) (j := 3) rfl nd rfl rfl (by decide) rfl rfl (fm_sh (fe_call (ok_lowest_price X G c) hr (by decide) rfl ps0 (fa_cons (fe_v (pv 0)) (fa_cons (fe_v (pv 1)) fa_nil))) (fm_sh (fe_call (ok_highest_price X G c) hr (by decide) rfl ps0 (fa_cons (fe_v (pv 0)) (fa_cons (fe_v (pv 1)) fa_nil))) fm_nil)) (by rfl))
  (fss_one (fs_ret (fe_ifE (ft_cmp (od_eq (hu64 hr)) (fe_ixv (pv 2) fe_int (fun _ _ => rfl)) (fe_ixv (pv 3) fe_int (fun _ _ => rfl)) (by rfl)) (fe_tup (fa_cons (fe_gstr rfl h_SAME) fa_nil)) (fe_tup (fa_cons (fe_gstr rfl h_TWO) (fa_cons (fe_ixv (pv 2) fe_int (fun _ _ => rfl)) (fa_cons (fe_ixv (pv 3) fe_int (fun _ _ => rfl)) fa_nil)))))))))
def N_uses_by_hours : List Str := ["profile", "readings", "counts", "count", "later"]
def t_uses_by_hours : TSd := (t_seq (t_set 2 (t_call 2 [] c_estimated (t_cons (t_v 0) (t_cons (t_v 1) t_nil)))) (t_ret (t_c1 o_tuple (t_lc (t_zip (t_v 2) (t_slv 2 (t_some (t_c (.int 1))) t_none)) (g_tup 2 (g_cons (g_name 3) (g_cons (g_name 4) g_nil))) t_yes (t_bin o_sub (t_v 4) (t_v 3)) [3, 4]))))
def c_uses_by_hours : CD := bodyC false 5 t_uses_by_hours
theorem sc_uses_by_hours : FnScope N_uses_by_hours ["profile", "readings"] (defScope (top 24)) := ⟨rfl, rfl, rfl, by decide +kernel, rfl, by decide +kernel, by decide +kernel⟩
theorem ok_uses_by_hours (X : K.In h) (G : h.Ns mainGlobals mg) (c : He.SaysD fa fn K) : DCal P w K mg base CX0 6 "uses_by_hours" false 2 [] c_uses_by_hours := by
  obtain ⟨fd, F⟩ := c.def_ 11 (d := dF 24 "uses_by_hours") rfl
  have nd := (sc_uses_by_hours).nd
  refine ⟨_, fd, ["profile", "readings"], [], [], fn_ok F sc_uses_by_hours (fun cdv A outer s H E F' bas hr => PSs.nox ?_), He.glo_ok X G (c.fact 11 (f := .glo "uses_by_hours") rfl), F.kp, F.bindsN (fun _ _ _ _ _ _ us hl => match us, hl with | [_, _], _ => rfl), .nil, fun _ => rfl⟩
  exact (fss_cons (fs_set (i := 2) nd rfl (.inl rfl) (fe_call (ok_estimated X G c) hr (by decide) rfl ps0 (fa_cons (fe_v (pv 0)) (fa_cons (fe_v (pv 1)) fa_nil))) (by first | exact .inl rfl | exact .inr rfl))
  (fss_one (fs_ret (fe_T1 cd_tuple rfl (He.free_ok X G (c.fact 58 (f := .free "tuple") rfl)) rfl (FO.toR (fo_lc (own := [("count", 3), ("later", 4)]) rfl nd (fi_zip rfl (He.free_ok X G (c.fact 59 (f := .free "zip") rfl)) (fe_v (pv 2)) (fe_slv (pv 2) (fp_some fe_int) fp_none)) (blkOk_by (N := N_uses_by_hours) (sc := (defScope (top 24))) (by decide +kernel)) (fun _ _ _ _ _ _ _ => (fgv_tup rfl (fgvs_cons (fgv_name (by decide) (pg_name (i := 3) nd rfl (.inl rfl) (by first | exact .inl rfl | exact .inr rfl))) (fgvs_cons (fgv_name (by decide) (pg_name (i := 4) nd rfl (.inl rfl) (by first | exact .inl rfl | exact .inr rfl))) fgvs_nil)))) (fun _ _ _ _ _ _ _ => fts_nil) (fun _ _ _ _ _ _ _ => (fe_bin od_sub (fe_v (pv 4)) (fe_v (pv 3))))))))))
def N_put_right : List Str := ["profile", "readings", "reading", "before", "now", "mine", "its", "count", "later", "one", "other"]
def t_put_right : TSd := (t_seq (t_expr (t_call 3 [] c_look_at_more (t_cons (t_v 0) (t_cons (t_v 1) (t_cons (t_v 2) t_nil))))) (t_seq (t_par [3, 4] (m_sh (t_call 2 [] c_told_counts (t_cons (t_v 0) (t_cons (t_v 1) t_nil))) (m_sh (t_call 2 [] c_told_counts (t_cons (t_v 0) (t_cons (t_call 2 [] c_told_with (t_cons (t_v 1) (t_cons (t_v 2) t_nil))) t_nil))) m_nil))) (t_seq (t_set 5 (t_lc (t_zip (t_v 3) (t_slv 3 (t_some (t_c (.int 1))) t_none)) (g_tup 2 (g_cons (g_name 7) (g_cons (g_name 8) g_nil))) t_yes (t_bin o_sub (t_v 8) (t_v 7)) [7, 8])) (t_seq (t_set 6 (t_lc (t_zip (t_v 4) (t_slv 4 (t_some (t_c (.int 1))) t_none)) (g_tup 2 (g_cons (g_name 7) (g_cons (g_name 8) g_nil))) t_yes (t_bin o_sub (t_v 8) (t_v 7)) [7, 8])) (t_ret (t_c1 o_tuple (t_lc (t_zip (t_v 5) (t_v 6)) (g_tup 2 (g_cons (g_name 9) (g_cons (g_name 10) g_nil))) t_yes (t_bin o_sub (t_v 10) (t_v 9)) [9, 10])))))))
def c_put_right : CD := bodyC false 11 t_put_right
theorem sc_put_right : FnScope N_put_right ["profile", "readings", "reading"] (defScope (top 28)) := ⟨rfl, rfl, rfl, by decide +kernel, rfl, by decide +kernel, by decide +kernel⟩
theorem ok_put_right (X : K.In h) (G : h.Ns mainGlobals mg) (c : He.SaysD fa fn K) : DCal P w K mg base CX0 6 "put_right" false 3 [] c_put_right := by
  obtain ⟨fd, F⟩ := c.def_ 15 (d := dF 28 "put_right") rfl
  have nd := (sc_put_right).nd
  refine ⟨_, fd, ["profile", "readings", "reading"], [], [], fn_ok F sc_put_right (fun cdv A outer s H E F' bas hr => PSs.nox ?_), He.glo_ok X G (c.fact 15 (f := .glo "put_right") rfl), F.kp, F.bindsN (fun _ _ _ _ _ _ us hl => match us, hl with | [_, _, _], _ => rfl), .nil, fun _ => rfl⟩
  exact (fss_cons (fs_expr (fe_call (ok_look_at_more X G c) hr (by decide) rfl ps0 (fa_cons (fe_v (pv 0)) (fa_cons (fe_v (pv 1)) (fa_cons (fe_v (pv 2)) fa_nil)))))
  (fss_cons (fs_par2 (i := 3) (j := 4) rfl nd rfl rfl (by decide) rfl rfl (fm_sh (fe_call (ok_told_counts X G c) hr (by decide) rfl ps0 (fa_cons (fe_v (pv 0)) (fa_cons (fe_v (pv 1)) fa_nil))) (fm_sh (fe_call (ok_told_counts X G c) hr (by decide) rfl ps0 (fa_cons (fe_v (pv 0)) (fa_cons (fe_call (ok_told_with X G c) hr (by decide) rfl ps0 (fa_cons (fe_v (pv 1)) (fa_cons (fe_v (pv 2)) fa_nil))) fa_nil))) fm_nil)) (by rfl))
  (fss_cons (fs_setLcE (i := 5) (own := [("count", 7), ("later", 8)]) rfl nd rfl rfl (sw_true rfl rfl rfl (by decide +kernel)) (fi_zip rfl (He.free_ok X G (c.fact 59 (f := .free "zip") rfl)) (fe_v (pv 3)) (fe_slv (pv 3) (fp_some fe_int) fp_none)) (blkOk_by (N := N_put_right) (sc := (defScope (top 28))) (by decide +kernel)) (fun _ _ _ _ _ _ _ => (fgv_tup rfl (fgvs_cons (fgv_name (by decide) (pg_name (i := 7) nd rfl (.inl rfl) (by first | exact .inl rfl | exact .inr rfl))) (fgvs_cons (fgv_name (by decide) (pg_name (i := 8) nd rfl (.inl rfl) (by first | exact .inl rfl | exact .inr rfl))) fgvs_nil)))) (fun _ _ _ _ _ _ _ => fts_nil) (fun _ _ _ _ _ _ _ => (fe_bin od_sub (fe_v (pv 8)) (fe_v (pv 7)))))
  (fss_cons (fs_setLcE (i := 6) (own := [("count", 7), ("later", 8)]) rfl nd rfl rfl (sw_true rfl rfl rfl (by decide +kernel)) (fi_zip rfl (He.free_ok X G (c.fact 59 (f := .free "zip") rfl)) (fe_v (pv 4)) (fe_slv (pv 4) (fp_some fe_int) fp_none)) (blkOk_by (N := N_put_right) (sc := (defScope (top 28))) (by decide +kernel)) (fun _ _ _ _ _ _ _ => (fgv_tup rfl (fgvs_cons (fgv_name (by decide) (pg_name (i := 7) nd rfl (.inl rfl) (by first | exact .inl rfl | exact .inr rfl))) (fgvs_cons (fgv_name (by decide) (pg_name (i := 8) nd rfl (.inl rfl) (by first | exact .inl rfl | exact .inr rfl))) fgvs_nil)))) (fun _ _ _ _ _ _ _ => fts_nil) (fun _ _ _ _ _ _ _ => (fe_bin od_sub (fe_v (pv 8)) (fe_v (pv 7)))))
  (fss_one (fs_ret (fe_T1 cd_tuple rfl (He.free_ok X G (c.fact 58 (f := .free "tuple") rfl)) rfl (FO.toR (fo_lc (own := [("one", 9), ("other", 10)]) rfl nd (fi_zip rfl (He.free_ok X G (c.fact 59 (f := .free "zip") rfl)) (fe_v (pv 5)) (fe_v (pv 6))) (blkOk_by (N := N_put_right) (sc := (defScope (top 28))) (by decide +kernel)) (fun _ _ _ _ _ _ _ => (fgv_tup rfl (fgvs_cons (fgv_name (by decide) (pg_name (i := 9) nd rfl (.inl rfl) (by first | exact .inl rfl | exact .inr rfl))) (fgvs_cons (fgv_name (by decide) (pg_name (i := 10) nd rfl (.inl rfl) (by first | exact .inl rfl | exact .inr rfl))) fgvs_nil)))) (fun _ _ _ _ _ _ _ => fts_nil) (fun _ _ _ _ _ _ _ => (fe_bin od_sub (fe_v (pv 10)) (fe_v (pv 9)))))))))))))
def N_off_at : List Str := ["profile", "readings", "reading"]
def t_off_at : TSd := (t_seq (t_expr (t_call 3 [] c_look_at_more (t_cons (t_v 0) (t_cons (t_v 1) (t_cons (t_v 2) t_nil))))) (t_ret (t_bin o_sub (t_ixv 2 (t_c (.int 1))) (t_bin o_ix (t_call 2 [] c_told_counts (t_cons (t_v 0) (t_cons (t_v 1) t_nil))) (t_bin o_sub (t_ixv 2 (t_c (.int 0))) (t_bin o_ix (t_ixv 1 (t_c (.int 0))) (t_c (.int 0))))))))
def c_off_at : CD := bodyC false 3 t_off_at
theorem sc_off_at : FnScope N_off_at ["profile", "readings", "reading"] (defScope (top 29)) := ⟨rfl, rfl, rfl, by decide +kernel, rfl, by decide +kernel, by decide +kernel⟩
theorem ok_off_at (X : K.In h) (G : h.Ns mainGlobals mg) (c : He.SaysD fa fn K) : DCal P w K mg base CX0 6 "off_at" false 3 [] c_off_at := by
  obtain ⟨fd, F⟩ := c.def_ 16 (d := dF 29 "off_at") rfl
  have nd := (sc_off_at).nd
  refine ⟨_, fd, ["profile", "readings", "reading"], [], [], fn_ok F sc_off_at (fun cdv A outer s H E F' bas hr => PSs.nox ?_), He.glo_ok X G (c.fact 16 (f := .glo "off_at") rfl), F.kp, F.bindsN (fun _ _ _ _ _ _ us hl => match us, hl with | [_, _, _], _ => rfl), .nil, fun _ => rfl⟩
  exact (fss_cons (fs_expr (fe_call (ok_look_at_more X G c) hr (by decide) rfl ps0 (fa_cons (fe_v (pv 0)) (fa_cons (fe_v (pv 1)) (fa_cons (fe_v (pv 2)) fa_nil)))))
  (fss_one (fs_ret (fe_bin od_sub (fe_ixv (pv 2) fe_int (fun _ _ => rfl)) (fe_ix (fe_call (ok_told_counts X G c) hr (by decide) rfl ps0 (fa_cons (fe_v (pv 0)) (fa_cons (fe_v (pv 1)) fa_nil))) (fe_bin od_sub (fe_ixv (pv 2) fe_int (fun _ _ => rfl)) (fe_ix (fe_ixv (pv 1) fe_int (fun _ _ => rfl)) fe_int (fun _ _ => rfl))) (fun _ _ => rfl))))))
def N__law_are_discounts_right : List Str := ["pot", "price", "some", "discount", "many", "order", "low", "high", "mine", "parts", "money", "more", "times", "far", "wide", "none", "at", "word", "much"]
def L__law_are_discounts_right_1 : TSd := (t_if (t_tst (t_bin o_eq (t_callB 2 [] c__law_take 0 (t_cons (t_c (.int 2)) t_nil)) (t_c (.int 0)))) (t_expr (t_app 2 (t_tup (t_cons (t_c (.str "part")) (t_cons (t_c1 o_int (t_callB 2 [] c__law_take 0 (t_cons (t_c (.int 101)) t_nil))) t_nil))))) (t_expr (t_app 2 (t_tup (t_cons (t_c (.str "money")) (t_cons (t_c1 o_int (t_callB 2 [] c__law_take 0 (t_cons (t_bin o_add (t_c (.int 1)) (t_bin o_fdiv (t_v 1) (t_c (.int 4)))) t_nil))) t_nil))))))
def t__law_are_discounts_right : TSd := (t_seq (t_par [1, 2] (m_sh (t_c1 o_int (t_callB 2 [] c__law_take 0 (t_cons (t_callB 2 [] c__law_of 0 (t_cons (t_lst (t_cons (t_c (.int 50)) (t_cons (t_bin o_pow (t_c (.int 10)) (t_c (.int 6))) t_nil))) t_nil)) t_nil))) (m_ow (t_lst t_nil) m_nil))) (t_seq (t_for (t_rng1 (t_cons (t_callB 2 [] c__law_take 0 (t_cons (t_c (.int 12)) t_nil)) t_nil)) (g_name 3) L__law_are_discounts_right_1) (t_seq (t_par [2, 4] (m_sh (t_c1 o_tuple (t_rd 2)) (m_sh (t_c1 o_len (t_rd 2)) m_nil))) (t_seq (t_set 5 (t_c1 o_tuple (t_lc (t_it (t_callB 3 [] c__law_some 0 (t_cons (t_lrg1 (t_v 4)) (t_cons (t_v 4) t_nil)))) (g_name 16) t_yes (t_c1 o_int (t_rd 16)) [16]))) (t_seq (t_par [6, 7, 8] (m_sh (t_call 2 [] c_lowest_price (t_cons (t_v 1) (t_cons (t_v 2) t_nil))) (m_sh (t_call 2 [] c_highest_price (t_cons (t_v 1) (t_cons (t_v 2) t_nil))) (m_sh (t_call 3 [] c_price_of (t_cons (t_v 1) (t_cons (t_v 2) (t_cons (t_v 5) t_nil)))) m_nil)))) (t_seq (t_if (t_or (t_tst (t_bin o_gt (t_bin o_mul (t_bin o_ix (t_ixv 6 (t_c (.int 0))) (t_c (.int 0))) (t_ixv 8 (t_c (.int 1)))) (t_bin o_mul (t_ixv 8 (t_c (.int 0))) (t_bin o_ix (t_ixv 6 (t_c (.int 0))) (t_c (.int 1)))))) (t_tst (t_bin o_gt (t_bin o_mul (t_ixv 8 (t_c (.int 0))) (t_bin o_ix (t_ixv 7 (t_c (.int 0))) (t_c (.int 1)))) (t_bin o_mul (t_bin o_ix (t_ixv 7 (t_c (.int 0))) (t_c (.int 0))) (t_ixv 8 (t_c (.int 1))))))) (t_ret (t_c (.bl false))) t_skip) (t_seq (t_set 9 (t_c1 o_tuple (t_lc (t_it (t_v 5)) (g_name 16) (t_tst (t_bin o_eq (t_bin o_ix (t_ixv 2 (t_v 16)) (t_c (.int 0))) (t_c (.str "part")))) (t_v 16) [16]))) (t_seq (t_set 10 (t_c1 o_tuple (t_lc (t_it (t_v 5)) (g_name 16) (t_tst (t_bin o_eq (t_bin o_ix (t_ixv 2 (t_v 16)) (t_c (.int 0))) (t_c (.str "money")))) (t_v 16) [16]))) (t_seq (t_if (t_or (t_tst (t_bin o_ne (t_call 3 [] c_price_of (t_cons (t_v 1) (t_cons (t_v 2) (t_cons (t_bin o_add (t_v 9) (t_v 10)) t_nil)))) (t_ixv 6 (t_c (.int 0))))) (t_tst (t_bin o_ne (t_call 3 [] c_price_of (t_cons (t_v 1) (t_cons (t_v 2) (t_cons (t_bin o_add (t_v 10) (t_v 9)) t_nil)))) (t_ixv 7 (t_c (.int 0)))))) (t_ret (t_c (.bl false))) t_skip) (t_seq (t_if (t_tst (t_bin o_isnt (t_call 3 [] c_shows_lowest_price (t_cons (t_v 1) (t_cons (t_v 2) (t_cons (t_tup (t_cons (t_ixv 6 (t_c (.int 0))) (t_cons (t_bin o_add (t_v 9) (t_v 10)) t_nil))) t_nil)))) (t_c (.bl true)))) (t_ret (t_c (.bl false))) t_skip) (t_seq (t_if (t_tst (t_bin o_isnt (t_call 3 [] c_shows_highest_price (t_cons (t_v 1) (t_cons (t_v 2) (t_cons (t_tup (t_cons (t_ixv 7 (t_c (.int 0))) (t_cons (t_bin o_add (t_v 10) (t_v 9)) t_nil))) t_nil)))) (t_c (.bl true)))) (t_ret (t_c (.bl false))) t_skip) (t_seq (t_if (t_or (t_tst (t_bin o_eq (t_v 9) (t_tup t_nil))) (t_or (t_tst (t_bin o_eq (t_v 10) (t_tup t_nil))) (t_tst (t_bin o_eq (t_ixv 6 (t_c (.int 0))) (t_ixv 7 (t_c (.int 0))))))) (t_if (t_or (t_tst (t_bin o_ne (t_call 2 [] c_does_order_matter (t_cons (t_v 1) (t_cons (t_v 2) t_nil))) (t_tup (t_cons (t_c (.str "same")) t_nil)))) (t_tst (t_bin o_ne (t_v 8) (t_ixv 6 (t_c (.int 0)))))) (t_ret (t_c (.bl false))) t_skip) t_skip) (t_seq (t_set 11 (t_bin o_add (t_v 2) (t_tup (t_cons (t_tup (t_cons (t_c (.str "part")) (t_cons (t_c1 o_int (t_callB 2 [] c__law_take 0 (t_cons (t_c (.int 101)) t_nil))) t_nil))) t_nil)))) (t_seq (t_if (t_and (t_tst (t_bin o_lt (t_v 4) (t_c (.int 12)))) (t_tst (t_bin o_gt (t_bin o_mul (t_bin o_ix (t_bin o_ix (t_call 2 [] c_lowest_price (t_cons (t_v 1) (t_cons (t_v 11) t_nil))) (t_c (.int 0))) (t_c (.int 0))) (t_bin o_ix (t_ixv 6 (t_c (.int 0))) (t_c (.int 1)))) (t_bin o_mul (t_bin o_ix (t_ixv 6 (t_c (.int 0))) (t_c (.int 0))) (t_bin o_ix (t_bin o_ix (t_call 2 [] c_lowest_price (t_cons (t_v 1) (t_cons (t_v 11) t_nil))) (t_c (.int 0))) (t_c (.int 1))))))) (t_ret (t_c (.bl false))) t_skip) (t_seq (t_set 12 (t_bin o_add (t_c (.int 2)) (t_c1 o_int (t_callB 2 [] c__law_take 0 (t_cons (t_c (.int 5)) t_nil))))) (t_seq (t_set 13 (t_c1 o_tuple (t_lc (t_it (t_v 2)) (g_tup 2 (g_cons (g_name 17) (g_cons (g_name 18) g_nil))) t_yes (t_tup (t_cons (t_v 17) (t_cons (t_ifE (t_tst (t_bin o_eq (t_v 17) (t_c (.str "part")))) (t_v 18) (t_bin o_mul (t_v 12) (t_v 18))) t_nil))) [17, 18]))) (t_seq (t_set 14 (t_call 3 [] c_price_of (t_cons (t_bin o_mul (t_v 12) (t_v 1)) (t_cons (t_v 13) (t_cons (t_v 5) t_nil))))) (t_seq (t_if (t_tst (t_bin o_ne (t_bin o_mul (t_ixv 14 (t_c (.int 0))) (t_ixv 8 (t_c (.int 1)))) (t_bin o_mul (t_bin o_mul (t_v 12) (t_ixv 8 (t_c (.int 0)))) (t_ixv 14 (t_c (.int 1)))))) (t_ret (t_c (.bl false))) t_skip) (t_seq (t_set 15 (t_tup (t_cons (t_tup (t_cons (t_c (.str "part")) (t_cons (t_c (.int 0)) t_nil))) (t_cons (t_tup (t_cons (t_c (.str "money")) (t_cons (t_c (.int 0)) t_nil))) t_nil)))) (t_ret (t_andV (t_bin o_eq (t_call 3 [] c_price_of (t_cons (t_v 1) (t_cons (t_v 15) (t_cons (t_tup (t_cons (t_c (.int 1)) (t_cons (t_c (.int 0)) t_nil))) t_nil)))) (t_tup (t_cons (t_v 1) (t_cons (t_c (.int 1)) t_nil)))) (t_bin o_eq (t_call 3 [] c_price_of (t_cons (t_v 1) (t_cons (t_tup (t_cons (t_tup (t_cons (t_c (.str "part")) (t_cons (t_c (.int 100)) t_nil))) t_nil)) (t_cons (t_tup (t_cons (t_c (.int 0)) t_nil)) t_nil)))) (t_tup (t_cons (t_c (.int 0)) (t_cons (t_c (.int 1)) t_nil)))))))))))))))))))))))))
def c__law_are_discounts_right : CD := bodyC false 19 t__law_are_discounts_right
theorem sc__law_are_discounts_right : FnScope N__law_are_discounts_right ["pot"] (defScope (top 59)) := ⟨rfl, rfl, rfl, by decide +kernel, rfl, by decide +kernel, by decide +kernel⟩
theorem ok__law_are_discounts_right (X : K.In h) (G : h.Ns mainGlobals mg) (c : He.SaysD fa fn K) : DCal P w K mg base CX0 6 "_law_are_discounts_right" false 1 [] c__law_are_discounts_right := by
  obtain ⟨fd, F⟩ := c.def_ 38 (d := dF 59 "_law_are_discounts_right") rfl
  have nd := (sc__law_are_discounts_right).nd
  refine ⟨_, fd, ["pot"], [], [], fn_ok F sc__law_are_discounts_right (fun cdv A outer s H E F' bas hr => PSs.nox ?_), He.glo_ok X G (c.fact 38 (f := .glo "_law_are_discounts_right") rfl), F.kp, F.bindsN (fun _ _ _ _ _ _ us hl => match us, hl with | [_], _ => rfl), .nil, fun _ => rfl⟩
  exact (fss_cons (fs_parT (n := 2) rfl (fm_sh (fe_T1 cd_int rfl (He.free_ok X G (c.fact 46 (f := .free "int") rfl)) rfl (FE.toR (fe_callB (ok__law_take X G c) hr (by decide) rfl ps0 (pv 0) (fa_cons (fe_callB (ok__law_of X G c) hr (by decide) rfl ps0 (pv 0) (fa_cons (FO.toE (fo_lst (fa_cons fe_int (fa_cons (fe_bin od_pow fe_int fe_int) fa_nil)))) fa_nil)) fa_nil)))) (fm_ow (fo_lst fa_nil) (fun _ => fm_nil))) (gm_cons (pg_name (i := 1) nd rfl (.inl rfl) (by first | exact .inl rfl | exact .inr rfl)) (gm_cons (pg_name (i := 2) nd rfl (.inr rfl) (by first | exact .inl rfl | exact .inr rfl)) gm_nil)))
  (fss_cons (fs_for PO_never rfl (fi_rng1 rfl (He.free_ok X G (c.fact 52 (f := .free "range") rfl)) (fa_cons (fe_callB (ok__law_take X G c) hr (by decide) rfl ps0 (pv 0) (fa_cons fe_int fa_nil)) fa_nil)) (fg_name (pg_name (i := 3) nd rfl (.inl rfl) (by first | exact .inl rfl | exact .inr rfl))) (fss_one (fs_if (ft_cmp (od_eq (hu64 hr)) (fe_callB (ok__law_take X G c) hr (by decide) rfl ps0 (pv 0) (fa_cons fe_int fa_nil)) fe_int (by rfl)) (fss_one (fs_expr (fe_app (pv 2) (fe_tup (fa_cons fe_str (fa_cons (fe_T1 cd_int rfl (He.free_ok X G (c.fact 46 (f := .free "int") rfl)) rfl (FE.toR (fe_callB (ok__law_take X G c) hr (by decide) rfl ps0 (pv 0) (fa_cons fe_int fa_nil)))) fa_nil)))))) (fss_one (fs_expr (fe_app (pv 2) (fe_tup (fa_cons fe_str (fa_cons (fe_T1 cd_int rfl (He.free_ok X G (c.fact 46 (f := .free "int") rfl)) rfl (FE.toR (fe_callB (ok__law_take X G c) hr (by decide) rfl ps0 (pv 0) (fa_cons (fe_bin od_add fe_int (fe_bin od_fdiv (fe_v (pv 1)) fe_int)) fa_nil)))) fa_nil)))))))))
  (fss_cons (fs_parT (n := 2) rfl (fm_sh (fe_T1 cd_tuple rfl (He.free_ok X G (c.fact 58 (f := .free "tuple") rfl)) rfl (fr_v (pv 2))) (fm_sh (fe_B1 cd_len rfl (He.free_ok X G (c.fact 48 (f := .free "len") rfl)) rfl (fr_v (pv 2))) fm_nil)) (gm_cons (pg_name (i := 2) nd rfl (.inr rfl) (by first | exact .inl rfl | exact .inr rfl)) (gm_cons (pg_name (i := 4) nd rfl (.inl rfl) (by first | exact .inl rfl | exact .inr rfl)) gm_nil)))
  (fss_cons (fs_set (i := 5) nd rfl (.inl rfl) (fe_T1 cd_tuple rfl (He.free_ok X G (c.fact 58 (f := .free "tuple") rfl)) rfl (FO.toR (fo_lc (own := [("at", 16)]) rfl nd (fi_it (fe_callB (ok__law_some X G c) hr (by decide) rfl ps0 (pv 0) (fa_cons (FO.toE (fo_lrg1 rfl rfl (He.free_ok X G (c.fact 49 (f := .free "list") rfl)) rfl (He.free_ok X G (c.fact 52 (f := .free "range") rfl)) (fe_v (pv 4)))) (fa_cons (fe_v (pv 4)) fa_nil)))) (blkOk_by (N := N__law_are_discounts_right) (sc := (defScope (top 59))) (by decide +kernel)) (fun _ _ _ _ _ _ _ => (fgv_name (by decide) (pg_name (i := 16) nd rfl (.inl rfl) (by first | exact .inl rfl | exact .inr rfl)))) (fun _ _ _ _ _ _ _ => fts_nil) (fun _ _ _ _ _ _ _ => (fe_T1 cd_int rfl (He.free_ok X G (c.fact 46 (f := .free "int") rfl)) rfl (fr_v (pv 16))))))) (by first | exact .inl rfl | exact .inr rfl))
  (fss_cons (fs_par3 (i := 6) (j := 7) (l := 8) rfl nd rfl rfl rfl (by decide) (by decide) (by decide) rfl rfl rfl (fm_sh (fe_call (ok_lowest_price X G c) hr (by decide) rfl ps0 (fa_cons (fe_v (pv 1)) (fa_cons (fe_v (pv 2)) fa_nil))) (fm_sh (fe_call (ok_highest_price X G c) hr (by decide) rfl ps0 (fa_cons (fe_v (pv 1)) (fa_cons (fe_v (pv 2)) fa_nil))) (fm_sh (fe_call (ok_price_of X G c) hr (by decide) rfl ps0 (fa_cons (fe_v (pv 1)) (fa_cons (fe_v (pv 2)) (fa_cons (fe_v (pv 5)) fa_nil)))) fm_nil))) (by rfl))
  (fss_cons (fs_if (FW.t (fw_or (ft_cmp od_gt (fe_bin od_mul (fe_ix (fe_ixv (pv 6) fe_int (fun _ _ => rfl)) fe_int (fun _ _ => rfl)) (fe_ixv (pv 8) fe_int (fun _ _ => rfl))) (fe_bin od_mul (fe_ixv (pv 8) fe_int (fun _ _ => rfl)) (fe_ix (fe_ixv (pv 6) fe_int (fun _ _ => rfl)) fe_int (fun _ _ => rfl))) (by rfl)) (fw_or1 (ft_cmp od_gt (fe_bin od_mul (fe_ixv (pv 8) fe_int (fun _ _ => rfl)) (fe_ix (fe_ixv (pv 7) fe_int (fun _ _ => rfl)) fe_int (fun _ _ => rfl))) (fe_bin od_mul (fe_ix (fe_ixv (pv 7) fe_int (fun _ _ => rfl)) fe_int (fun _ _ => rfl)) (fe_ixv (pv 8) fe_int (fun _ _ => rfl))) (by rfl))))) (fss_one (fs_ret fe_bl)) fss_nil)
  (fss_cons (fs_set (i := 9) nd rfl (.inl rfl) (fe_T1 cd_tuple rfl (He.free_ok X G (c.fact 58 (f := .free "tuple") rfl)) rfl (FO.toR (fo_lc (own := [("at", 16)]) rfl nd (fi_it (fe_v (pv 5))) (blkOk_by (N := N__law_are_discounts_right) (sc := (defScope (top 59))) (by decide +kernel)) (fun _ _ _ _ _ _ _ => (fgv_name (by decide) (pg_name (i := 16) nd rfl (.inl rfl) (by first | exact .inl rfl | exact .inr rfl)))) (fun _ _ _ _ _ _ _ => (fts_one (ft_cmp (od_eq (hu64 hr)) (fe_ix (fe_ixv (pv 2) (fe_v (pv 16)) (fun _ _ => rfl)) fe_int (fun _ _ => rfl)) fe_str (by rfl)))) (fun _ _ _ _ _ _ _ => (fe_v (pv 16)))))) (by first | exact .inl rfl | exact .inr rfl))
  (fss_cons (fs_set (i := 10) nd rfl (.inl rfl) (fe_T1 cd_tuple rfl (He.free_ok X G (c.fact 58 (f := .free "tuple") rfl)) rfl (FO.toR (fo_lc (own := [("at", 16)]) rfl nd (fi_it (fe_v (pv 5))) (blkOk_by (N := N__law_are_discounts_right) (sc := (defScope (top 59))) (by decide +kernel)) (fun _ _ _ _ _ _ _ => (fgv_name (by decide) (pg_name (i := 16) nd rfl (.inl rfl) (by first | exact .inl rfl | exact .inr rfl)))) (fun _ _ _ _ _ _ _ => (fts_one (ft_cmp (od_eq (hu64 hr)) (fe_ix (fe_ixv (pv 2) (fe_v (pv 16)) (fun _ _ => rfl)) fe_int (fun _ _ => rfl)) fe_str (by rfl)))) (fun _ _ _ _ _ _ _ => (fe_v (pv 16)))))) (by first | exact .inl rfl | exact .inr rfl))
  (fss_cons (fs_if (FW.t (fw_or (ft_cmp (od_ne (hu64 hr)) (fe_call (ok_price_of X G c) hr (by decide) rfl ps0 (fa_cons (fe_v (pv 1)) (fa_cons (fe_v (pv 2)) (fa_cons (fe_bin od_add (fe_v (pv 9)) (fe_v (pv 10))) fa_nil)))) (fe_ixv (pv 6) fe_int (fun _ _ => rfl)) (by rfl)) (fw_or1 (ft_cmp (od_ne (hu64 hr)) (fe_call (ok_price_of X G c) hr (by decide) rfl ps0 (fa_cons (fe_v (pv 1)) (fa_cons (fe_v (pv 2)) (fa_cons (fe_bin od_add (fe_v (pv 10)) (fe_v (pv 9))) fa_nil)))) (fe_ixv (pv 7) fe_int (fun _ _ => rfl)) (by rfl))))) (fss_one (fs_ret fe_bl)) fss_nil)
  (fss_cons (fs_if (ft_cmp od_isnt (fe_call (ok_shows_lowest_price X G c) hr (by decide) rfl ps0 (fa_cons (fe_v (pv 1)) (fa_cons (fe_v (pv 2)) (fa_cons (fe_tup (fa_cons (fe_ixv (pv 6) fe_int (fun _ _ => rfl)) (fa_cons (fe_bin od_add (fe_v (pv 9)) (fe_v (pv 10))) fa_nil))) fa_nil)))) fe_bl (by rfl)) (fss_one (fs_ret fe_bl)) fss_nil)
  (fss_cons (fs_if (ft_cmp od_isnt (fe_call (ok_shows_highest_price X G c) hr (by decide) rfl ps0 (fa_cons (fe_v (pv 1)) (fa_cons (fe_v (pv 2)) (fa_cons (fe_tup (fa_cons (fe_ixv (pv 7) fe_int (fun _ _ => rfl)) (fa_cons (fe_bin od_add (fe_v (pv 10)) (fe_v (pv 9))) fa_nil))) fa_nil)))) fe_bl (by rfl)) (fss_one (fs_ret fe_bl)) fss_nil)
  (fss_cons (fs_if (FW.t (fw_or (ft_cmp (od_eq (hu64 hr)) (fe_v (pv 9)) (fe_tup fa_nil) (by rfl)) (fw_or (ft_cmp (od_eq (hu64 hr)) (fe_v (pv 10)) (fe_tup fa_nil) (by rfl)) (fw_or1 (ft_cmp (od_eq (hu64 hr)) (fe_ixv (pv 6) fe_int (fun _ _ => rfl)) (fe_ixv (pv 7) fe_int (fun _ _ => rfl)) (by rfl)))))) (fss_one (fs_if (FW.t (fw_or (ft_cmp (od_ne (hu64 hr)) (fe_call (ok_does_order_matter X G c) hr (by decide) rfl ps0 (fa_cons (fe_v (pv 1)) (fa_cons (fe_v (pv 2)) fa_nil))) (fe_tup (fa_cons fe_str fa_nil)) (by rfl)) (fw_or1 (ft_cmp (od_ne (hu64 hr)) (fe_v (pv 8)) (fe_ixv (pv 6) fe_int (fun _ _ => rfl)) (by rfl))))) (fss_one (fs_ret fe_bl)) fss_nil)) fss_nil)
  (fss_cons (fs_set (i := 11) nd rfl (.inl rfl) (fe_bin od_add (fe_v (pv 2)) (fe_tup (fa_cons (fe_tup (fa_cons fe_str (fa_cons (fe_T1 cd_int rfl (He.free_ok X G (c.fact 46 (f := .free "int") rfl)) rfl (FE.toR (fe_callB (ok__law_take X G c) hr (by decide) rfl ps0 (pv 0) (fa_cons fe_int fa_nil)))) fa_nil))) fa_nil))) (by first | exact .inl rfl | exact .inr rfl))
  (fss_cons (fs_if (FW.t (fw_and (ft_cmp od_lt (fe_v (pv 4)) fe_int (by rfl)) (fw_and1 (ft_cmp od_gt (fe_bin od_mul (fe_ix (fe_ix (fe_call (ok_lowest_price X G c) hr (by decide) rfl ps0 (fa_cons (fe_v (pv 1)) (fa_cons (fe_v (pv 11)) fa_nil))) fe_int (fun _ _ => rfl)) fe_int (fun _ _ => rfl)) (fe_ix (fe_ixv (pv 6) fe_int (fun _ _ => rfl)) fe_int (fun _ _ => rfl))) (fe_bin od_mul (fe_ix (fe_ixv (pv 6) fe_int (fun _ _ => rfl)) fe_int (fun _ _ => rfl)) (fe_ix (fe_ix (fe_call (ok_lowest_price X G c) hr (by decide) rfl ps0 (fa_cons (fe_v (pv 1)) (fa_cons (fe_v (pv 11)) fa_nil))) fe_int (fun _ _ => rfl)) fe_int (fun _ _ => rfl))) (by rfl))))) (fss_one (fs_ret fe_bl)) fss_nil)
  (fss_cons (fs_set (i := 12) nd rfl (.inr rfl) (fe_bin od_add fe_int (fe_T1 cd_int rfl (He.free_ok X G (c.fact 46 (f := .free "int") rfl)) rfl (FE.toR (fe_callB (ok__law_take X G c) hr (by decide) rfl ps0 (pv 0) (fa_cons fe_int fa_nil))))) (by first | exact .inl rfl | exact .inr rfl))
  (fss_cons (fs_set (i := 13) nd rfl (.inl rfl) (fe_T1 cd_tuple rfl (He.free_ok X G (c.fact 58 (f := .free "tuple") rfl)) rfl (FO.toR (fo_lc (own := [("word", 17), ("much", 18)]) rfl nd (fi_it (fe_v (pv 2))) (blkOk_by (N := N__law_are_discounts_right) (sc := (defScope (top 59))) (by decide +kernel)) (fun _ _ _ _ _ _ _ => (fgv_tup rfl (fgvs_cons (fgv_name (by decide) (pg_name (i := 17) nd rfl (.inl rfl) (by first | exact .inl rfl | exact .inr rfl))) (fgvs_cons (fgv_name (by decide) (pg_name (i := 18) nd rfl (.inl rfl) (by first | exact .inl rfl | exact .inr rfl))) fgvs_nil)))) (fun _ _ _ _ _ _ _ => fts_nil) (fun _ _ _ _ _ _ _ => (fe_tup (fa_cons (fe_v (pv 17)) (fa_cons (fe_ifE (ft_cmp (od_eq (hu64 hr)) (fe_v (pv 17)) fe_str (by rfl)) (fe_v (pv 18)) (fe_bin od_mul (fe_v (pv 12)) (fe_v (pv 18)))) fa_nil))))))) (by first | exact .inl rfl | exact .inr rfl))
  (fss_cons (fs_set (i := 14) nd rfl (.inl rfl) (fe_call (ok_price_of X G c) hr (by decide) rfl ps0 (fa_cons (fe_bin od_mul (fe_v (pv 12)) (fe_v (pv 1))) (fa_cons (fe_v (pv 13)) (fa_cons (fe_v (pv 5)) fa_nil)))) (by first | exact .inl rfl | exact .inr rfl))
  (fss_cons (fs_if (ft_cmp (od_ne (hu64 hr)) (fe_bin od_mul (fe_ixv (pv 14) fe_int (fun _ _ => rfl)) (fe_ixv (pv 8) fe_int (fun _ _ => rfl))) (fe_bin od_mul (fe_bin od_mul (fe_v (pv 12)) (fe_ixv (pv 8) fe_int (fun _ _ => rfl))) (fe_ixv (pv 14) fe_int (fun _ _ => rfl))) (by rfl)) (fss_one (fs_ret fe_bl)) fss_nil)
  (fss_cons (fs_set (i := 15) nd rfl (.inl rfl) (fe_tup (fa_cons (fe_tup (fa_cons fe_str (fa_cons fe_int fa_nil))) (fa_cons (fe_tup (fa_cons fe_str (fa_cons fe_int fa_nil))) fa_nil))) (by first | exact .inl rfl | exact .inr rfl))
  (fss_one (fs_ret (fe_and (fe_cmp (od_eq (hu64 hr)) (fe_call (ok_price_of X G c) hr (by decide) rfl ps0 (fa_cons (fe_v (pv 1)) (fa_cons (fe_v (pv 15)) (fa_cons (fe_tup (fa_cons fe_int (fa_cons fe_int fa_nil))) fa_nil)))) (fe_tup (fa_cons (fe_v (pv 1)) (fa_cons fe_int fa_nil))) (by rfl)) (fe_one (fe_cmp (od_eq (hu64 hr)) (fe_call (ok_price_of X G c) hr (by decide) rfl ps0 (fa_cons (fe_v (pv 1)) (fa_cons (fe_tup (fa_cons (fe_tup (fa_cons fe_str (fa_cons fe_int fa_nil))) fa_nil)) (fa_cons (fe_tup (fa_cons fe_int fa_nil)) fa_nil)))) (fe_tup (fa_cons fe_int (fa_cons fe_int fa_nil))) (by rfl)))))))))))))))))))))))))
def N__law_are_estimates_right : List Str := "pot" :: "hours" :: "profile" :: "ticks" :: "count" :: "readings" :: "hour" :: "counts" :: "uses" :: "free" :: "least" :: "most" :: "here" :: "shown" :: "changes" :: "made" :: "rest" :: "other" :: "low" :: "high" :: "late" :: "second" :: "first" :: "last" :: "both" :: "longest" :: "best" :: "gaps" :: "one" :: "weight" :: "use" :: "change" :: "its" :: "later" :: []
def L__law_are_estimates_right_1 : TSd := (t_seq (t_set 4 (t_bin o_add (t_v 4) (t_c1 o_int (t_callB 2 [] c__law_take 0 (t_cons (t_callB 2 [] c__law_of 0 (t_cons (t_lst (t_cons (t_c (.int 3)) (t_cons (t_c (.int 500)) t_nil))) t_nil)) t_nil))))) (t_expr (t_app 5 (t_tup (t_cons (t_v 6) (t_cons (t_v 4) t_nil))))))
def t__law_are_estimates_right : TSd := (t_seq (t_set 1 (t_bin o_add (t_c (.int 2)) (t_c1 o_int (t_callB 2 [] c__law_take 0 (t_cons (t_c (.int 59)) t_nil))))) (t_seq (t_set 2 (t_c1 o_tuple (t_lc (t_rng1 (t_cons (t_v 1) t_nil)) (g_name 6) t_yes (t_c1 o_int (t_callB 2 [] c__law_take 0 (t_cons (t_callB 2 [] c__law_of 0 (t_cons (t_lst (t_cons (t_c (.int 1)) (t_cons (t_c (.int 4)) (t_cons (t_c (.int 50)) t_nil)))) t_nil)) t_nil))) [6]))) (t_seq (t_set 3 (t_c1 o_sset (t_bin o_add (t_lst (t_cons (t_c (.int 0)) (t_cons (t_v 1) t_nil))) (t_lc (t_rng1 (t_cons (t_c (.int 6)) t_nil)) (g_name 28) t_yes (t_c1 o_int (t_callB 2 [] c__law_take 0 (t_cons (t_bin o_add (t_v 1) (t_c (.int 1))) t_nil))) [28])))) (t_seq (t_par [4, 5] (m_sh (t_c (.int 0)) (m_ow (t_lst t_nil) m_nil))) (t_seq (t_for (t_it (t_v 3)) (g_name 6) L__law_are_estimates_right_1) (t_seq (t_set 5 (t_c1 o_tuple (t_rd 5))) (t_seq (t_par [7, 8] (m_sh (t_call 2 [] c_estimated (t_cons (t_v 2) (t_cons (t_v 5) t_nil))) (m_sh (t_call 2 [] c_uses_by_hours (t_cons (t_v 2) (t_cons (t_v 5) t_nil))) m_nil))) (t_seq (t_if (t_or (t_tst (t_bin o_ne (t_c1 o_list (t_rd 7)) (t_c1 o_sortedT (t_rd 7)))) (t_not (t_tst (t_c1 o_all (t_lc (t_it (t_v 5)) (g_tup 2 (g_cons (g_name 6) (g_cons (g_name 13) g_nil))) t_yes (t_bin o_eq (t_ixv 7 (t_v 6)) (t_v 13)) [6, 13]))))) (t_ret (t_c (.bl false))) t_skip) (t_seq (t_if (t_or (t_tst (t_bin o_ne (t_c1 o_sum (t_rd 8)) (t_bin o_sub (t_bin o_ix (t_ixv 5 (t_neg (t_c (.int 1)))) (t_c (.int 1))) (t_bin o_ix (t_ixv 5 (t_c (.int 0))) (t_c (.int 1)))))) (t_or (t_tst (t_bin o_lt (t_c1 o_min (t_rd 8)) (t_c (.int 0)))) (t_tst (t_bin o_ne (t_c1 o_len (t_rd 8)) (t_v 1))))) (t_ret (t_c (.bl false))) t_skip) (t_seq (t_if (t_tst (t_bin o_ne (t_call 2 [] c_estimated (t_cons (t_c1 o_tuple (t_lc (t_it (t_v 2)) (g_name 29) t_yes (t_bin o_mul (t_c (.int 3)) (t_v 29)) [29])) (t_cons (t_v 5) t_nil))) (t_v 7))) (t_ret (t_c (.bl false))) t_skip) (t_seq (t_if (t_tst (t_bin o_ne (t_call 2 [] c_estimated (t_cons (t_bin o_mul (t_tup (t_cons (t_c (.int 7)) t_nil)) (t_v 1)) (t_cons (t_v 5) t_nil))) (t_call 2 [] c_estimated (t_cons (t_bin o_mul (t_tup (t_cons (t_c (.int 0)) t_nil)) (t_v 1)) (t_cons (t_v 5) t_nil))))) (t_ret (t_c (.bl false))) t_skip) (t_seq (t_set 9 (t_lc (t_rng1 (t_cons (t_bin o_add (t_v 1) (t_c (.int 1))) t_nil)) (g_name 6) (t_tst (t_bin (o_in true) (t_v 6) (t_v 3))) (t_v 6) [6])) (t_seq (t_if (t_tst (t_bin o_eq (t_v 9) (t_lst t_nil))) (t_ret (t_bin o_eq (t_call 2 [] c_best_hour (t_cons (t_v 2) (t_cons (t_v 5) t_nil))) (t_tup (t_cons (t_c (.int 1)) (t_cons (t_c (.int 0)) t_nil))))) t_skip) (t_seq (t_set 6 (t_callB 2 [] c__law_of 0 (t_cons (t_v 9) t_nil))) (t_seq (t_asg (t_call 3 [] c_worst_off (t_cons (t_v 2) (t_cons (t_v 5) (t_cons (t_v 6) t_nil)))) (g_tup 2 (g_cons (g_name 10) (g_cons (g_name 11) g_nil)))) (t_seq (t_set 12 (t_call 3 [] c_estimated_at (t_cons (t_v 2) (t_cons (t_v 5) (t_cons (t_v 6) t_nil))))) (t_seq (t_if (t_or (t_not (t_tst (t_chain o_le o_le (t_v 10) (t_c (.int 0)) (t_v 11)))) (t_or (t_tst (t_bin o_ne (t_v 12) (t_ixv 7 (t_v 6)))) (t_tst (t_bin o_ne (t_call 3 [] c_off_at (t_cons (t_v 2) (t_cons (t_v 5) (t_cons (t_tup (t_cons (t_v 6) (t_cons (t_bin o_add (t_v 12) (t_v 10)) t_nil))) t_nil)))) (t_v 10))))) (t_ret (t_c (.bl false))) t_skip) (t_seq (t_set 13 (t_bin o_add (t_bin o_add (t_v 12) (t_v 10)) (t_c1 o_int (t_callB 2 [] c__law_take 0 (t_cons (t_bin o_add (t_bin o_sub (t_v 11) (t_v 10)) (t_c (.int 1))) t_nil))))) (t_seq (t_set 14 (t_call 3 [] c_put_right (t_cons (t_v 2) (t_cons (t_v 5) (t_cons (t_tup (t_cons (t_v 6) (t_cons (t_v 13) t_nil))) t_nil))))) (t_seq (t_if (t_or (t_tst (t_bin o_ne (t_c1 o_sum (t_rd 14)) (t_c (.int 0)))) (t_or (t_tst (t_bin o_ne (t_c1 o_sum (t_slv 14 t_none (t_some (t_v 6)))) (t_bin o_sub (t_v 13) (t_v 12)))) (t_tst (t_bin o_ne (t_c1 o_len (t_rd 14)) (t_v 1))))) (t_ret (t_c (.bl false))) t_skip) (t_seq (t_set 15 (t_c1 o_tuple (t_c1 o_sortedT (t_bin o_add (t_v 5) (t_tup (t_cons (t_tup (t_cons (t_v 6) (t_cons (t_v 13) t_nil))) t_nil)))))) (t_seq (t_if (t_tst (t_bin o_ne (t_call 2 [] c_uses_by_hours (t_cons (t_v 2) (t_cons (t_v 15) t_nil))) (t_c1 o_tuple (t_lc (t_zip (t_v 8) (t_v 14)) (g_tup 2 (g_cons (g_name 30) (g_cons (g_name 31) g_nil))) t_yes (t_bin o_add (t_v 30) (t_v 31)) [30, 31])))) (t_ret (t_c (.bl false))) t_skip) (t_seq (t_set 16 (t_lc (t_it (t_v 9)) (g_name 28) (t_tst (t_bin o_ne (t_v 28) (t_v 6))) (t_v 28) [28])) (t_seq (t_if (t_tst (t_bin o_eq (t_v 16) (t_lst t_nil))) (t_ret (t_c (.bl true))) t_skip) (t_seq (t_set 17 (t_callB 2 [] c__law_of 0 (t_cons (t_v 16) t_nil))) (t_seq (t_asg (t_call 3 [] c_worst_off (t_cons (t_v 2) (t_cons (t_v 15) (t_cons (t_v 17) t_nil)))) (g_tup 2 (g_cons (g_name 18) (g_cons (g_name 19) g_nil)))) (t_seq (t_set 20 (t_tup (t_cons (t_v 17) (t_cons (t_bin o_add (t_bin o_add (t_call 3 [] c_estimated_at (t_cons (t_v 2) (t_cons (t_v 15) (t_cons (t_v 17) t_nil)))) (t_v 18)) (t_c1 o_int (t_callB 2 [] c__law_take 0 (t_cons (t_bin o_add (t_bin o_sub (t_v 19) (t_v 18)) (t_c (.int 1))) t_nil)))) t_nil)))) (t_seq (t_set 21 (t_call 3 [] c_put_right (t_cons (t_v 2) (t_cons (t_v 15) (t_cons (t_v 20) t_nil))))) (t_seq (t_set 22 (t_call 3 [] c_put_right (t_cons (t_v 2) (t_cons (t_v 5) (t_cons (t_v 20) t_nil))))) (t_seq (t_set 23 (t_call 3 [] c_put_right (t_cons (t_v 2) (t_cons (t_c1 o_tuple (t_c1 o_sortedT (t_bin o_add (t_v 5) (t_tup (t_cons (t_v 20) t_nil))))) (t_cons (t_tup (t_cons (t_v 6) (t_cons (t_v 13) t_nil))) t_nil))))) (t_seq (t_set 24 (t_lc (t_zip (t_v 14) (t_v 21)) (g_tup 2 (g_cons (g_name 28) (g_cons (g_name 32) g_nil))) t_yes (t_bin o_add (t_v 28) (t_v 32)) [28, 32])) (t_seq (t_if (t_tst (t_bin o_ne (t_v 24) (t_lc (t_zip (t_v 22) (t_v 23)) (g_tup 2 (g_cons (g_name 28) (g_cons (g_name 32) g_nil))) t_yes (t_bin o_add (t_v 28) (t_v 32)) [28, 32]))) (t_ret (t_c (.bl false))) t_skip) (t_seq (t_asg (t_call 2 [] c_best_hour (t_cons (t_v 2) (t_cons (t_v 5) t_nil))) (g_tup 2 (g_cons (g_name 25) (g_cons (g_name 26) g_nil)))) (t_seq (t_set 27 (t_lc (t_zip (t_v 3) (t_slv 3 (t_some (t_c (.int 1))) t_none)) (g_tup 2 (g_cons (g_name 28) (g_cons (g_name 33) g_nil))) t_yes (t_bin o_sub (t_v 33) (t_v 28)) [28, 33])) (t_ret (t_andV (t_bin o_le (t_bin o_ix (t_call 2 [] c_best_hour (t_cons (t_v 2) (t_cons (t_v 15) t_nil))) (t_c (.int 0))) (t_c1 o_max (t_rd 27))) (t_andV (t_chain o_le o_le (t_c (.int 1)) (t_v 25) (t_c1 o_max (t_rd 27))) (t_chain o_le o_le (t_c (.int 0)) (t_v 26) (t_v 1)))))))))))))))))))))))))))))))))))))))
def c__law_are_estimates_right : CD := bodyC false 34 t__law_are_estimates_right
theorem sc__law_are_estimates_right : FnScope N__law_are_estimates_right ["pot"] (defScope (top 58)) := ⟨rfl, rfl, rfl, by decide +kernel, rfl, by decide +kernel, by decide +kernel⟩
theorem ok__law_are_estimates_right (X : K.In h) (G : h.Ns mainGlobals mg) (c : He.SaysD fa fn K) : DCal P w K mg base CX0 7 "_law_are_estimates_right" false 1 [] c__law_are_estimates_right := by
  obtain ⟨fd, F⟩ := c.def_ 37 (d := dF 58 "_law_are_estimates_right") rfl
  have nd := (sc__law_are_estimates_right).nd
  refine ⟨_, fd, ["pot"], [], [], fn_ok F sc__law_are_estimates_right (fun cdv A outer s H E F' bas hr => PSs.nox ?_), He.glo_ok X G (c.fact 37 (f := .glo "_law_are_estimates_right") rfl), F.kp, F.bindsN (fun _ _ _ _ _ _ us hl => match us, hl with | [_], _ => rfl), .nil, fun _ => rfl⟩
  exact (fss_cons (fs_set (i := 1) nd rfl (.inr rfl) (fe_bin od_add fe_int (fe_T1 cd_int rfl (He.free_ok X G (c.fact 46 (f := .free "int") rfl)) rfl (FE.toR (fe_callB (ok__law_take X G c) hr (by decide) rfl ps0 (pv 0) (fa_cons fe_int fa_nil))))) (by first | exact .inl rfl | exact .inr rfl))
  (fss_cons (fs_set (i := 2) nd rfl (.inl rfl) (fe_T1 cd_tuple rfl (He.free_ok X G (c.fact 58 (f := .free "tuple") rfl)) rfl (FO.toR (fo_lc (own := [("hour", 6)]) rfl nd (fi_rng1 rfl (He.free_ok X G (c.fact 52 (f := .free "range") rfl)) (fa_cons (fe_v (pv 1)) fa_nil)) (blkOk_by (N := N__law_are_estimates_right) (sc := (defScope (top 58))) (by decide +kernel)) (fun _ _ _ _ _ _ _ => (fgv_name (by decide) (pg_name (i := 6) nd rfl (.inl rfl) (by first | exact .inl rfl | exact .inr rfl)))) (fun _ _ _ _ _ _ _ => fts_nil) (fun _ _ _ _ _ _ _ => (fe_T1 cd_int rfl (He.free_ok X G (c.fact 46 (f := .free "int") rfl)) rfl (FE.toR (fe_callB (ok__law_take X G c) hr (by decide) rfl ps0 (pv 0) (fa_cons (fe_callB (ok__law_of X G c) hr (by decide) rfl ps0 (pv 0) (fa_cons (FO.toE (fo_lst (fa_cons fe_int (fa_cons fe_int (fa_cons fe_int fa_nil))))) fa_nil)) fa_nil)))))))) (by first | exact .inl rfl | exact .inr rfl))
  (fss_cons (fs_set (i := 3) nd rfl (.inr rfl) (FO.toE (fo_sset rfl rfl (He.free_ok X G (c.fact 54 (f := .free "sorted") rfl)) rfl (He.free_ok X G (c.fact 53 (f := .free "set") rfl)) (FE.toR (fe_bin od_add (FO.toE (fo_lst (fa_cons fe_int (fa_cons (fe_v (pv 1)) fa_nil)))) (FO.toE (fo_lc (own := [("one", 28)]) rfl nd (fi_rng1 rfl (He.free_ok X G (c.fact 52 (f := .free "range") rfl)) (fa_cons fe_int fa_nil)) (blkOk_by (N := N__law_are_estimates_right) (sc := (defScope (top 58))) (by decide +kernel)) (fun _ _ _ _ _ _ _ => (fgv_name (by decide) (pg_name (i := 28) nd rfl (.inl rfl) (by first | exact .inl rfl | exact .inr rfl)))) (fun _ _ _ _ _ _ _ => fts_nil) (fun _ _ _ _ _ _ _ => (fe_T1 cd_int rfl (He.free_ok X G (c.fact 46 (f := .free "int") rfl)) rfl (FE.toR (fe_callB (ok__law_take X G c) hr (by decide) rfl ps0 (pv 0) (fa_cons (fe_bin od_add (fe_v (pv 1)) fe_int) fa_nil))))))))))) (by first | exact .inl rfl | exact .inr rfl))
  (fss_cons (fs_par2 (i := 4) (j := 5) rfl nd rfl rfl (by decide) rfl rfl (fm_sh fe_int (fm_ow (fo_lst fa_nil) (fun _ => fm_nil))) (by rfl))
  (fss_cons (fs_for PO_never rfl (fi_it (fe_v (pv 3))) (fg_name (pg_name (i := 6) nd rfl (.inr rfl) (by first | exact .inl rfl | exact .inr rfl))) (fss_cons (fs_set (i := 4) nd rfl (.inl rfl) (fe_bin od_add (fe_v (pv 4)) (fe_T1 cd_int rfl (He.free_ok X G (c.fact 46 (f := .free "int") rfl)) rfl (FE.toR (fe_callB (ok__law_take X G c) hr (by decide) rfl ps0 (pv 0) (fa_cons (fe_callB (ok__law_of X G c) hr (by decide) rfl ps0 (pv 0) (fa_cons (FO.toE (fo_lst (fa_cons fe_int (fa_cons fe_int fa_nil)))) fa_nil)) fa_nil))))) (by first | exact .inl rfl | exact .inr rfl))
  (fss_one (fs_expr (fe_app (pv 5) (fe_tup (fa_cons (fe_v (pv 6)) (fa_cons (fe_v (pv 4)) fa_nil))))))))
  (fss_cons (fs_set (i := 5) nd rfl (.inl rfl) (fe_T1 cd_tuple rfl (He.free_ok X G (c.fact 58 (f := .free "tuple") rfl)) rfl (fr_v (pv 5))) (by first | exact .inl rfl | exact .inr rfl))
  (fss_cons (fs_parT (n := 2) rfl (fm_sh (fe_call (ok_estimated X G c) hr (by decide) rfl ps0 (fa_cons (fe_v (pv 2)) (fa_cons (fe_v (pv 5)) fa_nil))) (fm_sh (fe_call (ok_uses_by_hours X G c) hr (by decide) rfl ps0 (fa_cons (fe_v (pv 2)) (fa_cons (fe_v (pv 5)) fa_nil))) fm_nil)) (gm_cons (pg_name (i := 7) nd rfl (.inr rfl) (by first | exact .inl rfl | exact .inr rfl)) (gm_cons (pg_name (i := 8) nd rfl (.inl rfl) (by first | exact .inl rfl | exact .inr rfl)) gm_nil)))
  (fss_cons (fs_if (FW.t (fw_or (ft_cmp (od_ne (hu64 hr)) (FO.toE (fo_T1 (co_list rfl) rfl (He.free_ok X G (c.fact 49 (f := .free "list") rfl)) rfl (fr_v (pv 7)))) (FO.toE (fo_B1 (co_sortedT (hu64 hr)) rfl (He.free_ok X G (c.fact 54 (f := .free "sorted") rfl)) rfl (fr_v (pv 7)))) (by rfl)) (fw_or1 (ft_not (ft_val (fe_B1 (cd_all rfl) rfl (He.free_ok X G (c.fact 43 (f := .free "all") rfl)) rfl (FO.toR (fo_lc (own := [("hour", 6), ("shown", 13)]) rfl nd (fi_it (fe_v (pv 5))) (blkOk_by (N := N__law_are_estimates_right) (sc := (defScope (top 58))) (by decide +kernel)) (fun _ _ _ _ _ _ _ => (fgv_tup rfl (fgvs_cons (fgv_name (by decide) (pg_name (i := 6) nd rfl (.inl rfl) (by first | exact .inl rfl | exact .inr rfl))) (fgvs_cons (fgv_name (by decide) (pg_name (i := 13) nd rfl (.inl rfl) (by first | exact .inl rfl | exact .inr rfl))) fgvs_nil)))) (fun _ _ _ _ _ _ _ => fts_nil) (fun _ _ _ _ _ _ _ => (fe_cmp (od_eq (hu64 hr)) (fe_ixv (pv 7) (fe_v (pv 6)) (fun _ _ => rfl)) (fe_v (pv 13)) (by rfl))))))))))) (fss_one (fs_ret fe_bl)) fss_nil)
  (fss_cons (fs_if (FW.t (fw_or (ft_cmp (od_ne (hu64 hr)) (fe_B1 (cd_sum rfl) rfl (He.free_ok X G (c.fact 56 (f := .free "sum") rfl)) rfl (fr_v (pv 8))) (fe_bin od_sub (fe_ix (fe_ixv (pv 5) (fe_neg fe_int) (fun _ _ => rfl)) fe_int (fun _ _ => rfl)) (fe_ix (fe_ixv (pv 5) fe_int (fun _ _ => rfl)) fe_int (fun _ _ => rfl))) (by rfl)) (fw_or (ft_cmp od_lt (fe_B1 (cd_min rfl (hu64 hr)) rfl (He.free_ok X G (c.fact 51 (f := .free "min") rfl)) rfl (fr_v (pv 8))) fe_int (by rfl)) (fw_or1 (ft_cmp (od_ne (hu64 hr)) (fe_B1 cd_len rfl (He.free_ok X G (c.fact 48 (f := .free "len") rfl)) rfl (fr_v (pv 8))) (fe_v (pv 1)) (by rfl)))))) (fss_one (fs_ret fe_bl)) fss_nil)
  (fss_cons (fs_if (ft_cmp (od_ne (hu64 hr)) (fe_call (ok_estimated X G c) hr (by decide) rfl ps0 (fa_cons (fe_T1 cd_tuple rfl (He.free_ok X G (c.fact 58 (f := .free "tuple") rfl)) rfl (FO.toR (fo_lc (own := [("weight", 29)]) rfl nd (fi_it (fe_v (pv 2))) (blkOk_by (N := N__law_are_estimates_right) (sc := (defScope (top 58))) (by decide +kernel)) (fun _ _ _ _ _ _ _ => (fgv_name (by decide) (pg_name (i := 29) nd rfl (.inl rfl) (by first | exact .inl rfl | exact .inr rfl)))) (fun _ _ _ _ _ _ _ => fts_nil) (fun _ _ _ _ _ _ _ => (fe_bin od_mul fe_int (fe_v (pv 29))))))) (fa_cons (fe_v (pv 5)) fa_nil))) (fe_v (pv 7)) (by rfl)) (fss_one (fs_ret fe_bl)) fss_nil)
  (fss_cons (fs_if (ft_cmp (od_ne (hu64 hr)) (fe_call (ok_estimated X G c) hr (by decide) rfl ps0 (fa_cons (fe_bin od_mul (fe_tup (fa_cons fe_int fa_nil)) (fe_v (pv 1))) (fa_cons (fe_v (pv 5)) fa_nil))) (fe_call (ok_estimated X G c) hr (by decide) rfl ps0 (fa_cons (fe_bin od_mul (fe_tup (fa_cons fe_int fa_nil)) (fe_v (pv 1))) (fa_cons (fe_v (pv 5)) fa_nil))) (by rfl)) (fss_one (fs_ret fe_bl)) fss_nil)
  (fss_cons (fs_setLcE (i := 9) (own := [("hour", 6)]) rfl nd rfl rfl (sw_true rfl rfl rfl (by decide +kernel)) (fi_rng1 rfl (He.free_ok X G (c.fact 52 (f := .free "range") rfl)) (fa_cons (fe_bin od_add (fe_v (pv 1)) fe_int) fa_nil)) (blkOk_by (N := N__law_are_estimates_right) (sc := (defScope (top 58))) (by decide +kernel)) (fun _ _ _ _ _ _ _ => (fgv_name (by decide) (pg_name (i := 6) nd rfl (.inl rfl) (by first | exact .inl rfl | exact .inr rfl)))) (fun _ _ _ _ _ _ _ => (fts_one (ft_cmp (od_nin (hu65 hr)) (fe_v (pv 6)) (fe_v (pv 3)) (by rfl)))) (fun _ _ _ _ _ _ _ => (fe_v (pv 6))))
  (fss_cons (fs_if (ft_cmp (od_eq (hu64 hr)) (fe_v (pv 9)) (FO.toE (fo_lst fa_nil)) (by rfl)) (fss_one (fs_ret (fe_cmp (od_eq (hu64 hr)) (fe_call (ok_best_hour X G c) hr (by decide) rfl ps0 (fa_cons (fe_v (pv 2)) (fa_cons (fe_v (pv 5)) fa_nil))) (fe_tup (fa_cons fe_int (fa_cons fe_int fa_nil))) (by rfl)))) fss_nil)
  (fss_cons (fs_set (i := 6) nd rfl (.inr rfl) (fe_callB (ok__law_of X G c) hr (by decide) rfl ps0 (pv 0) (fa_cons (fe_v (pv 9)) fa_nil)) (by first | exact .inl rfl | exact .inr rfl))
  (fss_cons (fs_asg (fe_call (ok_worst_off X G c) hr (by decide) rfl ps0 (fa_cons (fe_v (pv 2)) (fa_cons (fe_v (pv 5)) (fa_cons (fe_v (pv 6)) fa_nil)))) (fg_tup rfl (fgs_cons (fg_name (pg_name (i := 10) nd rfl (.inl rfl) (by first | exact .inl rfl | exact .inr rfl))) (fgs_cons (fg_name (pg_name (i := 11) nd rfl (.inl rfl) (by first | exact .inl rfl | exact .inr rfl))) fgs_nil))))
  (fss_cons (fs_set (i := 12) nd rfl (.inl rfl) (fe_call (ok_estimated_at X G c) hr (by decide) rfl ps0 (fa_cons (fe_v (pv 2)) (fa_cons (fe_v (pv 5)) (fa_cons (fe_v (pv 6)) fa_nil)))) (by first | exact .inl rfl | exact .inr rfl))
  (fss_cons (fs_if (FW.t (fw_or (ft_not (ft_chain od_le od_le (fe_v (pv 10)) fe_int (fe_v (pv 11)))) (fw_or (ft_cmp (od_ne (hu64 hr)) (fe_v (pv 12)) (fe_ixv (pv 7) (fe_v (pv 6)) (fun _ _ => rfl)) (by rfl)) (fw_or1 (ft_cmp (od_ne (hu64 hr)) (fe_call (ok_off_at X G c) hr (by decide) rfl ps0 (fa_cons (fe_v (pv 2)) (fa_cons (fe_v (pv 5)) (fa_cons (fe_tup (fa_cons (fe_v (pv 6)) (fa_cons (fe_bin od_add (fe_v (pv 12)) (fe_v (pv 10))) fa_nil))) fa_nil)))) (fe_v (pv 10)) (by rfl)))))) (fss_one (fs_ret fe_bl)) fss_nil)
  (fss_cons (fs_set (i := 13) nd rfl (.inl rfl) (fe_bin od_add (fe_bin od_add (fe_v (pv 12)) (fe_v (pv 10))) (fe_T1 cd_int rfl (He.free_ok X G (c.fact 46 (f := .free "int") rfl)) rfl (FE.toR (fe_callB (ok__law_take X G c) hr (by decide) rfl ps0 (pv 0) (fa_cons (fe_bin od_add (fe_bin od_sub (fe_v (pv 11)) (fe_v (pv 10))) fe_int) fa_nil))))) (by first | exact .inl rfl | exact .inr rfl))
  (fss_cons (fs_set (i := 14) nd rfl (.inl rfl) (fe_call (ok_put_right X G c) hr (by decide) rfl ps0 (fa_cons (fe_v (pv 2)) (fa_cons (fe_v (pv 5)) (fa_cons (fe_tup (fa_cons (fe_v (pv 6)) (fa_cons (fe_v (pv 13)) fa_nil))) fa_nil)))) (by first | exact .inl rfl | exact .inr rfl))
  (fss_cons (fs_if (FW.t (fw_or (ft_cmp (od_ne (hu64 hr)) (fe_B1 (cd_sum rfl) rfl (He.free_ok X G (c.fact 56 (f := .free "sum") rfl)) rfl (fr_v (pv 14))) fe_int (by rfl)) (fw_or (ft_cmp (od_ne (hu64 hr)) (fe_B1 (cd_sum rfl) rfl (He.free_ok X G (c.fact 56 (f := .free "sum") rfl)) rfl (FE.toR (fe_slv (pv 14) fp_none (fp_some (fe_v (pv 6)))))) (fe_bin od_sub (fe_v (pv 13)) (fe_v (pv 12))) (by rfl)) (fw_or1 (ft_cmp (od_ne (hu64 hr)) (fe_B1 cd_len rfl (He.free_ok X G (c.fact 48 (f := .free "len") rfl)) rfl (fr_v (pv 14))) (fe_v (pv 1)) (by rfl)))))) (fss_one (fs_ret fe_bl)) fss_nil)
  (fss_cons (fs_set (i := 15) nd rfl (.inl rfl) (fe_T1 cd_tuple rfl (He.free_ok X G (c.fact 58 (f := .free "tuple") rfl)) rfl (FO.toR (fo_B1 (co_sortedT (hu64 hr)) rfl (He.free_ok X G (c.fact 54 (f := .free "sorted") rfl)) rfl (FE.toR (fe_bin od_add (fe_v (pv 5)) (fe_tup (fa_cons (fe_tup (fa_cons (fe_v (pv 6)) (fa_cons (fe_v (pv 13)) fa_nil))) fa_nil))))))) (by first | exact .inl rfl | exact .inr rfl))
  (fss_cons (fs_if (ft_cmp (od_ne (hu64 hr)) (fe_call (ok_uses_by_hours X G c) hr (by decide) rfl ps0 (fa_cons (fe_v (pv 2)) (fa_cons (fe_v (pv 15)) fa_nil))) (fe_T1 cd_tuple rfl (He.free_ok X G (c.fact 58 (f := .free "tuple") rfl)) rfl (FO.toR (fo_lc (own := [("use", 30), ("change", 31)]) rfl nd (fi_zip rfl (He.free_ok X G (c.fact 59 (f := .free "zip") rfl)) (fe_v (pv 8)) (fe_v (pv 14))) (blkOk_by (N := N__law_are_estimates_right) (sc := (defScope (top 58))) (by decide +kernel)) (fun _ _ _ _ _ _ _ => (fgv_tup rfl (fgvs_cons (fgv_name (by decide) (pg_name (i := 30) nd rfl (.inl rfl) (by first | exact .inl rfl | exact .inr rfl))) (fgvs_cons (fgv_name (by decide) (pg_name (i := 31) nd rfl (.inl rfl) (by first | exact .inl rfl | exact .inr rfl))) fgvs_nil)))) (fun _ _ _ _ _ _ _ => fts_nil) (fun _ _ _ _ _ _ _ => (fe_bin od_add (fe_v (pv 30)) (fe_v (pv 31))))))) (by rfl)) (fss_one (fs_ret fe_bl)) fss_nil)
  (fss_cons (fs_setLcE (i := 16) (own := [("one", 28)]) rfl nd rfl rfl (sw_true rfl rfl rfl (by decide +kernel)) (fi_it (fe_v (pv 9))) (blkOk_by (N := N__law_are_estimates_right) (sc := (defScope (top 58))) (by decide +kernel)) (fun _ _ _ _ _ _ _ => (fgv_name (by decide) (pg_name (i := 28) nd rfl (.inl rfl) (by first | exact .inl rfl | exact .inr rfl)))) (fun _ _ _ _ _ _ _ => (fts_one (ft_cmp (od_ne (hu64 hr)) (fe_v (pv 28)) (fe_v (pv 6)) (by rfl)))) (fun _ _ _ _ _ _ _ => (fe_v (pv 28))))
  (fss_cons (fs_if (ft_cmp (od_eq (hu64 hr)) (fe_v (pv 16)) (FO.toE (fo_lst fa_nil)) (by rfl)) (fss_one (fs_ret fe_bl)) fss_nil)
  (fss_cons (fs_set (i := 17) nd rfl (.inl rfl) (fe_callB (ok__law_of X G c) hr (by decide) rfl ps0 (pv 0) (fa_cons (fe_v (pv 16)) fa_nil)) (by first | exact .inl rfl | exact .inr rfl))
  (fss_cons (fs_asg (fe_call (ok_worst_off X G c) hr (by decide) rfl ps0 (fa_cons (fe_v (pv 2)) (fa_cons (fe_v (pv 15)) (fa_cons (fe_v (pv 17)) fa_nil)))) (fg_tup rfl (fgs_cons (fg_name (pg_name (i := 18) nd rfl (.inl rfl) (by first | exact .inl rfl | exact .inr rfl))) (fgs_cons (fg_name (pg_name (i := 19) nd rfl (.inl rfl) (by first | exact .inl rfl | exact .inr rfl))) fgs_nil))))
  (fss_cons (fs_set (i := 20) nd rfl (.inl rfl) (fe_tup (fa_cons (fe_v (pv 17)) (fa_cons (fe_bin od_add (fe_bin od_add (fe_call (ok_estimated_at X G c) hr (by decide) rfl ps0 (fa_cons (fe_v (pv 2)) (fa_cons (fe_v (pv 15)) (fa_cons (fe_v (pv 17)) fa_nil)))) (fe_v (pv 18))) (fe_T1 cd_int rfl (He.free_ok X G (c.fact 46 (f := .free "int") rfl)) rfl (FE.toR (fe_callB (ok__law_take X G c) hr (by decide) rfl ps0 (pv 0) (fa_cons (fe_bin od_add (fe_bin od_sub (fe_v (pv 19)) (fe_v (pv 18))) fe_int) fa_nil))))) fa_nil))) (by first | exact .inl rfl | exact .inr rfl))
  (fss_cons (fs_set (i := 21) nd rfl (.inl rfl) (fe_call (ok_put_right X G c) hr (by decide) rfl ps0 (fa_cons (fe_v (pv 2)) (fa_cons (fe_v (pv 15)) (fa_cons (fe_v (pv 20)) fa_nil)))) (by first | exact .inl rfl | exact .inr rfl))
  (fss_cons (fs_set (i := 22) nd rfl (.inl rfl) (fe_call (ok_put_right X G c) hr (by decide) rfl ps0 (fa_cons (fe_v (pv 2)) (fa_cons (fe_v (pv 5)) (fa_cons (fe_v (pv 20)) fa_nil)))) (by first | exact .inl rfl | exact .inr rfl))
  (fss_cons (fs_set (i := 23) nd rfl (.inl rfl) (fe_call (ok_put_right X G c) hr (by decide) rfl ps0 (fa_cons (fe_v (pv 2)) (fa_cons (fe_T1 cd_tuple rfl (He.free_ok X G (c.fact 58 (f := .free "tuple") rfl)) rfl (FO.toR (fo_B1 (co_sortedT (hu64 hr)) rfl (He.free_ok X G (c.fact 54 (f := .free "sorted") rfl)) rfl (FE.toR (fe_bin od_add (fe_v (pv 5)) (fe_tup (fa_cons (fe_v (pv 20)) fa_nil))))))) (fa_cons (fe_tup (fa_cons (fe_v (pv 6)) (fa_cons (fe_v (pv 13)) fa_nil))) fa_nil)))) (by first | exact .inl rfl | exact .inr rfl))
  (fss_cons (fs_setLcE (i := 24) (own := [("one", 28), ("its", 32)]) rfl nd rfl rfl (sw_true rfl rfl rfl (by decide +kernel)) (fi_zip rfl (He.free_ok X G (c.fact 59 (f := .free "zip") rfl)) (fe_v (pv 14)) (fe_v (pv 21))) (blkOk_by (N := N__law_are_estimates_right) (sc := (defScope (top 58))) (by decide +kernel)) (fun _ _ _ _ _ _ _ => (fgv_tup rfl (fgvs_cons (fgv_name (by decide) (pg_name (i := 28) nd rfl (.inl rfl) (by first | exact .inl rfl | exact .inr rfl))) (fgvs_cons (fgv_name (by decide) (pg_name (i := 32) nd rfl (.inl rfl) (by first | exact .inl rfl | exact .inr rfl))) fgvs_nil)))) (fun _ _ _ _ _ _ _ => fts_nil) (fun _ _ _ _ _ _ _ => (fe_bin od_add (fe_v (pv 28)) (fe_v (pv 32)))))
  (fss_cons (fs_if (ft_cmp (od_ne (hu64 hr)) (fe_v (pv 24)) (FO.toE (fo_lc (own := [("one", 28), ("its", 32)]) rfl nd (fi_zip rfl (He.free_ok X G (c.fact 59 (f := .free "zip") rfl)) (fe_v (pv 22)) (fe_v (pv 23))) (blkOk_by (N := N__law_are_estimates_right) (sc := (defScope (top 58))) (by decide +kernel)) (fun _ _ _ _ _ _ _ => (fgv_tup rfl (fgvs_cons (fgv_name (by decide) (pg_name (i := 28) nd rfl (.inl rfl) (by first | exact .inl rfl | exact .inr rfl))) (fgvs_cons (fgv_name (by decide) (pg_name (i := 32) nd rfl (.inl rfl) (by first | exact .inl rfl | exact .inr rfl))) fgvs_nil)))) (fun _ _ _ _ _ _ _ => fts_nil) (fun _ _ _ _ _ _ _ => (fe_bin od_add (fe_v (pv 28)) (fe_v (pv 32)))))) (by rfl)) (fss_one (fs_ret fe_bl)) fss_nil)
  (fss_cons (fs_asg (fe_call (ok_best_hour X G c) hr (by decide) rfl ps0 (fa_cons (fe_v (pv 2)) (fa_cons (fe_v (pv 5)) fa_nil))) (fg_tup rfl (fgs_cons (fg_name (pg_name (i := 25) nd rfl (.inl rfl) (by first | exact .inl rfl | exact .inr rfl))) (fgs_cons (fg_name (pg_name (i := 26) nd rfl (.inl rfl) (by first | exact .inl rfl | exact .inr rfl))) fgs_nil))))
  (fss_cons (fs_setLcE (i := 27) (own := [("one", 28), ("later", 33)]) rfl nd rfl rfl (sw_true rfl rfl rfl (by decide +kernel)) (fi_zip rfl (He.free_ok X G (c.fact 59 (f := .free "zip") rfl)) (fe_v (pv 3)) (fe_slv (pv 3) (fp_some fe_int) fp_none)) (blkOk_by (N := N__law_are_estimates_right) (sc := (defScope (top 58))) (by decide +kernel)) (fun _ _ _ _ _ _ _ => (fgv_tup rfl (fgvs_cons (fgv_name (by decide) (pg_name (i := 28) nd rfl (.inl rfl) (by first | exact .inl rfl | exact .inr rfl))) (fgvs_cons (fgv_name (by decide) (pg_name (i := 33) nd rfl (.inl rfl) (by first | exact .inl rfl | exact .inr rfl))) fgvs_nil)))) (fun _ _ _ _ _ _ _ => fts_nil) (fun _ _ _ _ _ _ _ => (fe_bin od_sub (fe_v (pv 33)) (fe_v (pv 28)))))
  (fss_one (fs_ret (fe_and (fe_cmp od_le (fe_ix (fe_call (ok_best_hour X G c) hr (by decide) rfl ps0 (fa_cons (fe_v (pv 2)) (fa_cons (fe_v (pv 15)) fa_nil))) fe_int (fun _ _ => rfl)) (fe_B1 (cd_max rfl (hu64 hr)) rfl (He.free_ok X G (c.fact 50 (f := .free "max") rfl)) rfl (fr_v (pv 27))) (by rfl)) (fe_and (fe_chain od_le od_le fe_int (fe_v (pv 25)) (fe_B1 (cd_max rfl (hu64 hr)) rfl (He.free_ok X G (c.fact 50 (f := .free "max") rfl)) rfl (fr_v (pv 27)))) (fe_one (fe_chain od_le od_le fe_int (fe_v (pv 26)) (fe_v (pv 1))))))))))))))))))))))))))))))))))))))))))
def N__law_right : List Str := ["pot", "lap"]
def L__law_right_1 : TSd := (t_if (t_or (t_not (t_tst (t_callB 1 [] c__law_are_estimates_right 0 t_nil))) (t_not (t_tst (t_callB 1 [] c__law_are_discounts_right 0 t_nil)))) (t_ret (t_c (.bl false))) t_skip)
def t__law_right : TSd := (t_seq (t_for (t_rng1 (t_cons (t_c (.int 8)) t_nil)) (g_name 1) L__law_right_1) (t_ret (t_c (.bl true))))
def c__law_right : CD := bodyC false 2 t__law_right
theorem sc__law_right : FnScope N__law_right ["pot"] (defScope (top 60)) := ⟨rfl, rfl, rfl, by decide +kernel, rfl, by decide +kernel, by decide +kernel⟩
theorem ok__law_right (X : K.In h) (G : h.Ns mainGlobals mg) (c : He.SaysD fa fn K) : DCal P w K mg base CX0 8 "_law_right" false 1 [] c__law_right := by
  obtain ⟨fd, F⟩ := c.def_ 39 (d := dF 60 "_law_right") rfl
  have nd := (sc__law_right).nd
  refine ⟨_, fd, ["pot"], [], [], fn_ok F sc__law_right (fun cdv A outer s H E F' bas hr => PSs.nox ?_), He.glo_ok X G (c.fact 39 (f := .glo "_law_right") rfl), F.kp, F.bindsN (fun _ _ _ _ _ _ us hl => match us, hl with | [_], _ => rfl), .nil, fun _ => rfl⟩
  exact (fss_cons (fs_for PO_never rfl (fi_rng1 rfl (He.free_ok X G (c.fact 52 (f := .free "range") rfl)) (fa_cons fe_int fa_nil)) (fg_name (pg_name (i := 1) nd rfl (.inl rfl) (by first | exact .inl rfl | exact .inr rfl))) (fss_one (fs_if (FW.t (fw_or (ft_not (ft_val (fe_callB (ok__law_are_estimates_right X G c) hr (by decide) rfl ps0 (pv 0) fa_nil))) (fw_or1 (ft_not (ft_val (fe_callB (ok__law_are_discounts_right X G c) hr (by decide) rfl ps0 (pv 0) fa_nil)))))) (fss_one (fs_ret fe_bl)) fss_nil)))
  (fss_one (fs_ret fe_bl)))
def N_law : List Str := ["script", "at"]
def t_law : TSd := (t_ret (t_c1 o_all (t_lc (t_it (t_call 2 [] c__law_cells (t_cons (t_v 0) (t_cons (t_c (.int 3)) t_nil)))) (g_name 1) t_yes (t_callT 1 [] c__law_right (t_call 2 [] c__law_pot (t_cons (t_v 0) (t_cons (t_v 1) t_nil)))) [1])))
def c_law : CD := bodyC false 2 t_law
theorem sc_law : FnScope N_law ["script"] (defScope (top 61)) := ⟨rfl, rfl, rfl, by decide +kernel, rfl, by decide +kernel, by decide +kernel⟩
theorem ok_law (X : K.In h) (G : h.Ns mainGlobals mg) (c : He.SaysD fa fn K) : DCal P w K mg base CX0 9 "law" false 1 [] c_law := by
  obtain ⟨fd, F⟩ := c.def_ 40 (d := dF 61 "law") rfl
  have nd := (sc_law).nd
  refine ⟨_, fd, ["script"], [], [], fn_ok F sc_law (fun cdv A outer s H E F' bas hr => PSs.nox ?_), He.glo_ok X G (c.fact 40 (f := .glo "law") rfl), F.kp, F.bindsN (fun _ _ _ _ _ _ us hl => match us, hl with | [_], _ => rfl), .nil, fun _ => rfl⟩
  exact (fss_one (fs_ret (fe_B1 (cd_all rfl) rfl (He.free_ok X G (c.fact 43 (f := .free "all") rfl)) rfl (FO.toR (fo_lc (own := [("at", 1)]) rfl nd (fi_it (fe_call (ok__law_cells X G c) hr (by decide) rfl ps0 (fa_cons (fe_v (pv 0)) (fa_cons fe_int fa_nil)))) (blkOk_by (N := N_law) (sc := (defScope (top 61))) (by decide +kernel)) (fun _ _ _ _ _ _ _ => (fgv_name (by decide) (pg_name (i := 1) nd rfl (.inl rfl) (by first | exact .inl rfl | exact .inr rfl)))) (fun _ _ _ _ _ _ _ => fts_nil) (fun _ _ _ _ _ _ _ => (fe_callT (ok__law_right X G c) hr (by decide) rfl ps0 (fo_call (ok__law_pot X G c) hr (by decide) rfl ps0 (fa_cons (fe_v (pv 0)) (fa_cons (fe_v (pv 1)) fa_nil))))))))))
end
end Dr
namespace M72
/-! estimates -/
abbrev Rd := Nat × Int
def part (ws : List Int) (n : Nat) (d : Int) (a : Nat) : Int := if ws.sum > 0 then d * (ws.take a).sum / ws.sum else d * (a : Int) / (n : Int)
def gap (P : List Int) (r q : Rd) : List Int := (List.range (q.1 - r.1)).map fun a => r.2 + part ((P.drop r.1).take (q.1 - r.1)) (q.1 - r.1) (q.2 - r.2) a
def tc (P : List Int) : List Rd → List Int
  | [] => []
  | [r] => [r.2]
  | r :: q :: rs => gap P r q ++ tc P (q :: rs)
def Rok (rs : List Rd) : Prop := rs.Pairwise fun a b => a.1 < b.1 ∧ a.2 ≤ b.2
theorem sum_nn : ∀ {l : List Int}, (∀ w ∈ l, 0 ≤ w) → 0 ≤ l.sum
  | [], _ => by simp
  | x :: xs, h => by
    have := h x List.mem_cons_self
    have := sum_nn (l := xs) fun w hw => h w (List.mem_cons_of_mem _ hw)
    rw [List.sum_cons]; omega
theorem take_sum_mono {l : List Int} (h : ∀ w ∈ l, 0 ≤ w) {a b : Nat} (hab : a ≤ b) : (l.take a).sum ≤ (l.take b).sum := by
  have e : l.take b = l.take a ++ (l.take b).drop a := by
    have := (List.take_append_drop a (l.take b)).symm
    rw [List.take_take, Nat.min_eq_left hab] at this
    exact this
  rw [e, List.sum_append]
  have : 0 ≤ ((l.take b).drop a).sum := sum_nn fun w hw => h w (List.mem_of_mem_take (List.mem_of_mem_drop hw))
  omega
theorem take_sum_le {l : List Int} (h : ∀ w ∈ l, 0 ≤ w) (a : Nat) : (l.take a).sum ≤ l.sum := by
  have := take_sum_mono h (Nat.le_max_left a l.length)
  rw [List.take_of_length_le (Nat.le_max_right a l.length)] at this
  exact this
theorem part_mono {ws : List Int} (h : ∀ w ∈ ws, 0 ≤ w) {n : Nat} {d : Int} (hd : 0 ≤ d) (hn : 0 < n) {a b : Nat} (hab : a ≤ b) : part ws n d a ≤ part ws n d b := by
  unfold part
  split
  · exact Int.ediv_le_ediv (by omega) (Int.mul_le_mul_of_nonneg_left (take_sum_mono h hab) hd)
  · exact Int.ediv_le_ediv (by omega) (Int.mul_le_mul_of_nonneg_left (by omega) hd)
theorem part_nn {ws : List Int} (h : ∀ w ∈ ws, 0 ≤ w) {n : Nat} {d : Int} (hd : 0 ≤ d) {a : Nat} : 0 ≤ part ws n d a := by
  unfold part
  split
  · exact Int.ediv_nonneg (Int.mul_nonneg hd (sum_nn fun w hw => h w (List.mem_of_mem_take hw))) (by omega)
  · exact Int.ediv_nonneg (Int.mul_nonneg hd (by omega)) (by omega)
theorem part_le {ws : List Int} (h : ∀ w ∈ ws, 0 ≤ w) {n : Nat} {d : Int} (hd : 0 ≤ d) (hn : 0 < n) {a : Nat} (ha : a ≤ n) : part ws n d a ≤ d := by
  unfold part
  split
  · rename_i hw
    have h1 : d * (ws.take a).sum / ws.sum ≤ d * ws.sum / ws.sum := Int.ediv_le_ediv (by omega) (Int.mul_le_mul_of_nonneg_left (take_sum_le h a) hd)
    rwa [Int.mul_ediv_cancel _ (by omega)] at h1
  · have h1 : d * (a : Int) / (n : Int) ≤ d * n / n := Int.ediv_le_ediv (by omega) (Int.mul_le_mul_of_nonneg_left (by omega) hd)
    rwa [Int.mul_ediv_cancel _ (by omega)] at h1
theorem part_0 {ws : List Int} {n : Nat} {d : Int} : part ws n d 0 = 0 := by
  unfold part
  split <;> simp
theorem slice_nn {P : List Int} (hP : ∀ w ∈ P, 0 ≤ w) {a b : Nat} : ∀ w ∈ (P.drop a).take b, 0 ≤ w := fun w hw => hP w (List.mem_of_mem_drop (List.mem_of_mem_take hw))
theorem tc_ne {P : List Int} : ∀ {rs : List Rd}, rs ≠ [] → tc P rs ≠ []
  | [r], _ => by simp [tc]
  | r :: q :: rs, _ => by simp [tc, tc_ne (P := P) (rs := q :: rs) (by simp)]
/-- the last hour -/
def lastH (r : Rd) (rs : List Rd) : Nat := (rs.getLast?.getD r).1
theorem rok_last {r : Rd} {rs : List Rd} (h : Rok (r :: rs)) : r.1 ≤ ((r :: rs).getLast (by simp)).1 ∧ r.2 ≤ ((r :: rs).getLast (by simp)).2 := by
  cases rs with
  | nil => simp
  | cons q rs =>
    rw [List.getLast_cons (by simp)]
    have := (List.pairwise_cons.mp h).1 _ (List.getLast_mem (l := q :: rs) (by simp))
    exact ⟨Nat.le_of_lt this.1, this.2⟩
theorem tc_len {P : List Int} : ∀ {rs : List Rd} {r : Rd} (h : Rok (r :: rs)), (tc P (r :: rs)).length + r.1 = ((r :: rs).getLast (by simp)).1 + 1
  | [], r, h => by simp [tc]; omega
  | q :: rs, r, h => by
    have h2 := (List.pairwise_cons.mp h).2
    have h1 := (List.pairwise_cons.mp h).1 q List.mem_cons_self
    have ih := tc_len (P := P) (rs := rs) (r := q) h2
    rw [List.getLast_cons (by simp), tc, List.length_append]
    unfold gap
    rw [List.length_map, List.length_range]
    omega
/-- ascending, from the first count on -/
theorem tc_sorted {P : List Int} (hP : ∀ w ∈ P, 0 ≤ w) : ∀ {rs : List Rd} {r : Rd} (h : Rok (r :: rs)), (tc P (r :: rs)).Pairwise (· ≤ ·) ∧ (∀ x ∈ tc P (r :: rs), r.2 ≤ x) ∧ (tc P (r :: rs))[0]? = some r.2
  | [], r, h => by simp [tc]
  | q :: rs, r, h => by
    have h2 := (List.pairwise_cons.mp h).2
    have h1 := (List.pairwise_cons.mp h).1 q List.mem_cons_self
    obtain ⟨i1, i2, i3⟩ := tc_sorted hP h2
    have hn : 0 < q.1 - r.1 := by omega
    have hd : 0 ≤ q.2 - r.2 := by omega
    refine ⟨?_, ?_, ?_⟩
    · rw [tc, List.pairwise_append]
      refine ⟨?_, i1, ?_⟩
      · unfold gap
        rw [List.pairwise_map]
        refine List.pairwise_lt_range.imp fun {a b} hab => ?_
        have := part_mono (slice_nn hP (a := r.1) (b := q.1 - r.1)) hd hn (Nat.le_of_lt hab)
        omega
      · intro x hx y hy
        obtain ⟨a, ha, rfl⟩ := List.mem_map.mp hx
        have ha := List.mem_range.mp ha
        have := part_le (slice_nn hP (a := r.1) (b := q.1 - r.1)) hd hn (Nat.le_of_lt ha)
        have := i2 y hy
        omega
    · intro x hx
      rw [tc] at hx
      rcases List.mem_append.mp hx with hx | hx
      · obtain ⟨a, ha, rfl⟩ := List.mem_map.mp hx
        have := part_nn (slice_nn hP (a := r.1) (b := q.1 - r.1)) (n := q.1 - r.1) hd (a := a)
        omega
      · have := i2 x hx
        omega
    · rw [tc, List.getElem?_append_left (by unfold gap; simp; omega)]
      unfold gap
      rw [List.getElem?_map, List.getElem?_range hn]
      simp [part_0]
theorem tc_at {P : List Int} (hP : ∀ w ∈ P, 0 ≤ w) : ∀ {rs : List Rd} {r : Rd} (h : Rok (r :: rs)) {x : Rd}, x ∈ r :: rs → (tc P (r :: rs))[x.1 - r.1]? = some x.2
  | [], r, h, x, hx => by
    rw [List.mem_singleton] at hx
    subst hx
    simp [tc]
  | q :: rs, r, h, x, hx => by
    have h2 := (List.pairwise_cons.mp h).2
    have h1 := (List.pairwise_cons.mp h).1 q List.mem_cons_self
    rcases List.mem_cons.mp hx with rfl | hx
    · rw [Nat.sub_self]
      exact (tc_sorted hP h).2.2
    · have h3 : q.1 ≤ x.1 := by
        rcases List.mem_cons.mp hx with rfl | hx
        · exact Nat.le_refl _
        · exact Nat.le_of_lt ((List.pairwise_cons.mp h2).1 x hx).1
      have hl : (gap P r q).length = q.1 - r.1 := by unfold gap; simp
      rw [tc, List.getElem?_append_right (by rw [hl]; omega), hl]
      have := tc_at hP h2 hx
      rw [← this]
      congr 1
      omega
theorem sorted_le {l : List Int} (h : l.Pairwise (· ≤ ·)) {i j : Nat} {x y : Int} (hx : l[i]? = some x) (hy : l[j]? = some y) (hij : i ≤ j) : x ≤ y := by
  obtain ⟨h1, rfl⟩ := List.getElem?_eq_some_iff.mp hx
  obtain ⟨h2, rfl⟩ := List.getElem?_eq_some_iff.mp hy
  rcases Nat.lt_or_eq_of_le hij with c | c
  · exact List.pairwise_iff_getElem.mp h i j h1 h2 c
  · subst c; exact Int.le_refl _
/-- at an hour between: above what is read earlier, below what is read later -/
theorem tc_low {P : List Int} (hP : ∀ w ∈ P, 0 ≤ w) {rs : List Rd} {r : Rd} (h : Rok (r :: rs)) {x : Rd} (hx : x ∈ r :: rs) {t : Nat} {c : Int} (hc : (tc P (r :: rs))[t - r.1]? = some c) (hle : x.1 ≤ t) : x.2 ≤ c :=
  sorted_le (tc_sorted hP h).1 (tc_at hP h hx) hc (by omega)
theorem tc_high {P : List Int} (hP : ∀ w ∈ P, 0 ≤ w) {rs : List Rd} {r : Rd} (h : Rok (r :: rs)) {x : Rd} (hx : x ∈ r :: rs) {t : Nat} {c : Int} (hc : (tc P (r :: rs))[t - r.1]? = some c) (hle : t ≤ x.1) : c ≤ x.2 :=
  sorted_le (tc_sorted hP h).1 hc (tc_at hP h hx) (by omega)
/-! other profiles -/
theorem sum_mul3 (c : Int) : ∀ l : List Int, (l.map (c * ·)).sum = c * l.sum
  | [] => by simp
  | x :: xs => by rw [List.map_cons, List.sum_cons, List.sum_cons, sum_mul3 c xs, Int.mul_add]
theorem part_3 {ws : List Int} {n : Nat} {d : Int} {a : Nat} {c : Int} (hc : 0 < c) : part (ws.map (c * ·)) n d a = part ws n d a := by
  unfold part
  rw [← List.map_take, sum_mul3, sum_mul3]
  by_cases h : ws.sum > 0
  · rw [if_pos h, if_pos (Int.mul_pos hc h)]
    rw [show d * (c * (ws.take a).sum) = c * (d * (ws.take a).sum) by rw [← Int.mul_assoc, Int.mul_comm d c, Int.mul_assoc]]
    exact Int.mul_ediv_mul_of_pos _ _ hc
  · rw [if_neg h, if_neg]
    intro h2
    exact h (by
      rcases Int.lt_trichotomy ws.sum 0 with x | x | x
      · have := Int.mul_neg_of_pos_of_neg hc x; omega
      · rw [x] at h2; simp at h2
      · exact x)
theorem tc_3 {P : List Int} {c : Int} (hc : 0 < c) : ∀ rs : List Rd, tc (P.map (c * ·)) rs = tc P rs
  | [] => rfl
  | [r] => rfl
  | r :: q :: rs => by
    rw [tc, tc, tc_3 hc (q :: rs)]
    unfold gap
    rw [← List.map_drop, ← List.map_take]
    simp only [part_3 hc]
theorem sum_rep (n : Nat) (c : Int) : (List.replicate n c).sum = n * c := by
  induction n with
  | zero => simp
  | succ n ih => rw [List.replicate_succ, List.sum_cons, ih, Int.natCast_add, Int.add_mul]; omega
theorem tc_flat {N : Nat} : ∀ {rs : List Rd}, Rok rs → (∀ r ∈ rs, r.1 ≤ N) → tc (List.replicate N 7) rs = tc (List.replicate N 0) rs
  | [], _, _ => rfl
  | [r], _, _ => rfl
  | r :: q :: rs, h, hN => by
    have h2 := (List.pairwise_cons.mp h).2
    have h1 := (List.pairwise_cons.mp h).1 q List.mem_cons_self
    have h3 := hN q (by simp)
    rw [tc, tc, tc_flat h2 fun x hx => hN x (List.mem_cons_of_mem _ hx)]
    congr 1
    unfold gap
    refine List.map_congr_left fun a ha => ?_
    have ha := List.mem_range.mp ha
    congr 1
    unfold part
    simp only [List.drop_replicate, List.take_replicate, sum_rep]
    rw [if_pos (by rw [Nat.min_eq_left (by omega)]; omega), if_neg (by omega)]
    rw [Nat.min_eq_left (show q.1 - r.1 ≤ N - r.1 by omega), Nat.min_eq_left (Nat.le_of_lt ha)]
    rw [show (q.2 - r.2) * ((a : Int) * 7) = ((q.2 - r.2) * a) * 7 by rw [Int.mul_assoc]]
    exact Int.mul_ediv_mul_of_pos_left _ _ (by omega)
end M72
namespace M72
/-! sorted readings -/
def rle (a b : Rd) : Bool := decide (a.1 < b.1) || (decide (a.1 = b.1) && decide (a.2 ≤ b.2))
theorem rle_iff {a b : Rd} : rle a b = true ↔ a.1 < b.1 ∨ (a.1 = b.1 ∧ a.2 ≤ b.2) := by
  unfold rle
  simp only [Bool.or_eq_true, Bool.and_eq_true, decide_eq_true_eq]
def sortR (l : List Rd) : List Rd := l.mergeSort rle
theorem sortR_pw (l : List Rd) : (sortR l).Pairwise fun a b => rle a b = true :=
  List.pairwise_mergeSort (fun a b c h1 h2 => by rw [rle_iff] at *; omega) (fun a b => by rw [Bool.or_eq_true, rle_iff, rle_iff]; omega) l
theorem sortR_perm (l : List Rd) : (sortR l).Perm l := List.mergeSort_perm l rle
theorem sortR_eq {l m : List Rd} (h : l.Perm m) : sortR l = sortR m :=
  List.Perm.eq_of_pairwise (fun a b _ _ h1 h2 => by rw [rle_iff] at *; exact Prod.ext (by omega) (by omega)) (sortR_pw l) (sortR_pw m) ((sortR_perm l).trans (h.trans (sortR_perm m).symm))
/-- x goes with these readings -/
def Fits (rs : List Rd) (x : Rd) : Prop := ∀ r ∈ rs, r.1 ≠ x.1 ∧ (r.1 < x.1 → r.2 ≤ x.2) ∧ (x.1 < r.1 → x.2 ≤ r.2)
theorem rok_pair {rs : List Rd} (h : Rok rs) : ∀ a ∈ rs, ∀ b ∈ rs, a.1 < b.1 → a.2 ≤ b.2 := by
  induction rs with
  | nil => intro a ha; cases ha
  | cons r rs ih =>
    obtain ⟨h1, h2⟩ := List.pairwise_cons.mp h
    intro a ha b hb hab
    rcases List.mem_cons.mp ha with ea | ha2 <;> rcases List.mem_cons.mp hb with eb | hb2
    · rw [ea, eb] at hab; omega
    · rw [ea]; exact (h1 _ hb2).2
    · have := (h1 _ ha2).1; rw [eb] at hab; omega
    · exact ih h2 a ha2 b hb2 hab
theorem rok_with {rs : List Rd} {x : Rd} (h : Rok rs) (hx : Fits rs x) : Rok (sortR (rs ++ [x])) := by
  have hp := sortR_perm (rs ++ [x])
  have hall : ∀ a ∈ rs ++ [x], ∀ b ∈ rs ++ [x], a.1 < b.1 → a.2 ≤ b.2 := by
    intro a ha b hb hab
    rcases List.mem_append.mp ha with ha | ha <;> rcases List.mem_append.mp hb with hb | hb
    · exact rok_pair h a ha b hb hab
    · rw [List.mem_singleton] at hb; rw [hb] at hab ⊢; exact (hx a ha).2.1 hab
    · rw [List.mem_singleton] at ha; rw [ha] at hab ⊢; exact (hx b hb).2.2 hab
    · rw [List.mem_singleton] at ha hb; subst ha hb; omega
  have hne : (rs ++ [x]).Pairwise fun a b => a.1 ≠ b.1 := by
    rw [List.pairwise_append]
    refine ⟨h.imp fun h => by omega, by simp, fun a ha b hb => ?_⟩
    rw [List.mem_singleton] at hb; subst hb; exact (hx a ha).1
  have hne2 := (List.Perm.pairwise_iff (R := fun a b : Rd => a.1 ≠ b.1) (fun h => Ne.symm h) hp).mpr hne
  have := List.Pairwise.and hne2 (sortR_pw (rs ++ [x]))
  refine List.Pairwise.imp_of_mem (fun {a b} ha hb hab => ?_) this
  have hlt : a.1 < b.1 := by
    rcases rle_iff.mp hab.2 with h | h
    · exact h
    · exact absurd h.1 hab.1
  exact ⟨hlt, hall a (hp.mem_iff.mp ha) b (hp.mem_iff.mp hb) hlt⟩
/-- readings from hour 0 to hour N -/
structure RV (N : Nat) (rs : List Rd) : Prop where
  ok : Rok rs
  z : ∃ c, (0, c) ∈ rs
  e : ∃ c, (N, c) ∈ rs
  le : ∀ r ∈ rs, r.1 ≤ N ∧ 0 ≤ r.2 ∧ r.2 ≤ 10000
theorem RV.cons {N : Nat} {rs : List Rd} (h : RV N rs) : ∃ r t, rs = r :: t ∧ r.1 = 0 := by
  obtain ⟨c, hc⟩ := h.z
  cases rs with
  | nil => cases hc
  | cons r t =>
    refine ⟨r, t, rfl, ?_⟩
    rcases List.mem_cons.mp hc with e | hc
    · rw [← e]
    · have := ((List.pairwise_cons.mp h.ok).1 _ hc).1
      omega
theorem RV.last {N : Nat} {rs : List Rd} (h : RV N rs) (hne : rs ≠ []) : (rs.getLast hne).1 = N := by
  obtain ⟨c, hc⟩ := h.e
  have h1 := (h.le _ (List.getLast_mem hne)).1
  have h2 : N ≤ (rs.getLast hne).1 := by
    have e := List.dropLast_concat_getLast hne
    rw [← e] at hc
    rcases List.mem_append.mp hc with hc | hc
    · have hp := h.ok
      unfold Rok at hp
      rw [← e, List.pairwise_append] at hp
      exact Nat.le_of_lt (hp.2.2 _ hc _ (by simp)).1
    · rw [List.mem_singleton] at hc
      rw [← hc]
      exact Nat.le_refl _
  omega
theorem RV.ne {N : Nat} {rs : List Rd} (h : RV N rs) : rs ≠ [] := by
  obtain ⟨r, t, e, _⟩ := h.cons
  rw [e]; simp
theorem RV.len {N : Nat} {rs : List Rd} (h : RV N rs) (P : List Int) : (tc P rs).length = N + 1 := by
  obtain ⟨r, t, rfl, h0⟩ := h.cons
  have h1 := tc_len (P := P) h.ok
  rw [h.last] at h1
  omega
theorem RV.sorted {N : Nat} {rs : List Rd} (h : RV N rs) {P : List Int} (hP : ∀ w ∈ P, 0 ≤ w) : (tc P rs).Pairwise (· ≤ ·) := by
  obtain ⟨r, t, rfl, h0⟩ := h.cons
  exact (tc_sorted hP h.ok).1
theorem RV.at {N : Nat} {rs : List Rd} (h : RV N rs) {P : List Int} (hP : ∀ w ∈ P, 0 ≤ w) {x : Rd} (hx : x ∈ rs) : (tc P rs)[x.1]? = some x.2 := by
  obtain ⟨r, t, rfl, h0⟩ := h.cons
  have := tc_at hP h.ok hx
  rwa [h0] at this
theorem RV.low {N : Nat} {rs : List Rd} (h : RV N rs) {P : List Int} (hP : ∀ w ∈ P, 0 ≤ w) {x : Rd} (hx : x ∈ rs) {t : Nat} {c : Int} (hc : (tc P rs)[t]? = some c) (hle : x.1 ≤ t) : x.2 ≤ c :=
  sorted_le (h.sorted hP) (h.at hP hx) hc hle
theorem RV.high {N : Nat} {rs : List Rd} (h : RV N rs) {P : List Int} (hP : ∀ w ∈ P, 0 ≤ w) {x : Rd} (hx : x ∈ rs) {t : Nat} {c : Int} (hc : (tc P rs)[t]? = some c) (hle : t ≤ x.1) : c ≤ x.2 :=
  sorted_le (h.sorted hP) hc (h.at hP hx) hle
theorem RV.with {N : Nat} {rs : List Rd} {x : Rd} (h : RV N rs) (hx : Fits rs x) (hN : x.1 ≤ N) (h0 : 0 ≤ x.2) (h1 : x.2 ≤ 10000) : RV N (sortR (rs ++ [x])) := by
  have hm : ∀ y, y ∈ sortR (rs ++ [x]) ↔ y ∈ rs ∨ y = x := fun y => by rw [(sortR_perm _).mem_iff, List.mem_append, List.mem_singleton]
  refine ⟨rok_with h.ok hx, ?_, ?_, fun r hr => ?_⟩
  · obtain ⟨c, hc⟩ := h.z; exact ⟨c, (hm _).mpr (.inl hc)⟩
  · obtain ⟨c, hc⟩ := h.e; exact ⟨c, (hm _).mpr (.inl hc)⟩
  · rcases (hm r).mp hr with hr | rfl
    · exact h.le r hr
    · exact ⟨hN, h0, h1⟩
theorem mem_sortR {rs : List Rd} {x y : Rd} : y ∈ sortR (rs ++ [x]) ↔ y ∈ rs ∨ y = x := by rw [(sortR_perm _).mem_iff, List.mem_append, List.mem_singleton]
theorem fits_sub {rs : List Rd} {x y : Rd} (h : Fits (sortR (rs ++ [x])) y) : Fits rs y := fun r hr => h r (mem_sortR.mpr (.inl hr))
theorem fits_swap {rs : List Rd} {x y : Rd} (hx : Fits rs x) (hy : Fits (sortR (rs ++ [x])) y) : Fits (sortR (rs ++ [y])) x := fun r hr => by
  rcases mem_sortR.mp hr with hr | rfl
  · exact hx r hr
  · have := hy x (mem_sortR.mpr (.inr rfl))
    exact ⟨this.1.symm, this.2.2, this.2.1⟩
theorem sortR_swap {rs : List Rd} {x y : Rd} : sortR (sortR (rs ++ [x]) ++ [y]) = sortR (sortR (rs ++ [y]) ++ [x]) := by
  refine sortR_eq ?_
  refine ((sortR_perm (rs ++ [x])).append_right [y]).trans (List.Perm.trans ?_ ((sortR_perm (rs ++ [y])).append_right [x]).symm)
  rw [List.append_assoc, List.append_assoc]
  exact List.Perm.append_left _ (List.Perm.swap _ _ _)
/-- what bounds a reading between -/
structure Bnd (rs : List Rd) (h : Nat) (lo hi : Int) : Prop where
  l1 : ∀ r ∈ rs, r.1 ≤ h → r.2 ≤ lo
  l2 : ∃ r ∈ rs, r.1 ≤ h ∧ r.2 = lo
  h1 : ∀ r ∈ rs, h ≤ r.1 → hi ≤ r.2
  h2 : ∃ r ∈ rs, h ≤ r.1 ∧ r.2 = hi
theorem Bnd.fits {rs : List Rd} {h : Nat} {lo hi c : Int} (b : Bnd rs h lo hi) (hn : ∀ r ∈ rs, r.1 ≠ h) (h1 : lo ≤ c) (h2 : c ≤ hi) : Fits rs (h, c) := fun r hr =>
  ⟨hn r hr, fun hl => Int.le_trans (b.l1 r hr (Nat.le_of_lt hl)) h1, fun hl => Int.le_trans h2 (b.h1 r hr (Nat.le_of_lt hl))⟩
theorem Bnd.rng {N : Nat} {rs : List Rd} {h : Nat} {lo hi : Int} (b : Bnd rs h lo hi) (rv : RV N rs) : 0 ≤ lo ∧ hi ≤ 10000 := by
  obtain ⟨r, hr, _, e⟩ := b.l2
  obtain ⟨q, hq, _, e2⟩ := b.h2
  have := rv.le r hr
  have := rv.le q hq
  omega
theorem Bnd.mid {N : Nat} {rs : List Rd} {h : Nat} {lo hi c : Int} (b : Bnd rs h lo hi) (rv : RV N rs) {P : List Int} (hP : ∀ w ∈ P, 0 ≤ w) (hc : (tc P rs)[h]? = some c) : lo ≤ c ∧ c ≤ hi := by
  obtain ⟨r, hr, hl, e⟩ := b.l2
  obtain ⟨q, hq, hl2, e2⟩ := b.h2
  have := rv.low hP hr hc hl
  have := rv.high hP hq hc hl2
  omega
/-! filters: the last below, the first above -/
theorem bnd_of {N : Nat} {rs : List Rd} (rv : RV N rs) {h : Nat} (hN : h ≤ N) : ∃ lo hi, Bnd rs h lo hi ∧ ((rs.filter fun r => decide (r.1 ≤ h)).map (·.2)).getLast? = some lo ∧ ((rs.filter fun r => decide (h ≤ r.1)).map (·.2))[0]? = some hi := by
  obtain ⟨c0, hc0⟩ := rv.z
  obtain ⟨c1, hc1⟩ := rv.e
  have m0 : (0, c0) ∈ rs.filter fun r => decide (r.1 ≤ h) := List.mem_filter.mpr ⟨hc0, by simp⟩
  have m1 : (N, c1) ∈ rs.filter fun r => decide (h ≤ r.1) := List.mem_filter.mpr ⟨hc1, by simp; exact hN⟩
  have n0 := List.ne_nil_of_mem m0
  have n1 := List.ne_nil_of_mem m1
  have p0 : Rok (rs.filter fun r => decide (r.1 ≤ h)) := List.Pairwise.filter _ rv.ok
  have p1 : Rok (rs.filter fun r => decide (h ≤ r.1)) := List.Pairwise.filter _ rv.ok
  refine ⟨((rs.filter fun r => decide (r.1 ≤ h)).getLast n0).2, ((rs.filter fun r => decide (h ≤ r.1)).head n1).2, ⟨fun r hr hl => ?_, ?_, fun r hr hl => ?_, ?_⟩, ?_, ?_⟩
  · have hm : r ∈ rs.filter fun r => decide (r.1 ≤ h) := List.mem_filter.mpr ⟨hr, by simpa using hl⟩
    generalize (rs.filter fun r => decide (r.1 ≤ h)) = l at *
    have e := List.dropLast_concat_getLast n0
    unfold Rok at p0
    rw [← e, List.pairwise_append] at p0
    rw [← e] at hm
    rcases List.mem_append.mp hm with hm | hm
    · exact (p0.2.2 _ hm _ (by simp)).2
    · rw [List.mem_singleton] at hm; rw [← hm]; exact Int.le_refl _
  · have := List.getLast_mem n0
    have := List.mem_filter.mp this
    exact ⟨_, this.1, by simpa using this.2, rfl⟩
  · have hm : r ∈ rs.filter fun r => decide (h ≤ r.1) := List.mem_filter.mpr ⟨hr, by simpa using hl⟩
    generalize (rs.filter fun r => decide (h ≤ r.1)) = l at *
    cases l with
    | nil => cases hm
    | cons q l =>
      rcases List.mem_cons.mp hm with rfl | hm
      · exact Int.le_refl _
      · exact ((List.pairwise_cons.mp p1).1 r hm).2
  · have := List.head_mem n1
    have := List.mem_filter.mp this
    exact ⟨_, this.1, by simpa using this.2, rfl⟩
  · rw [List.getLast?_map, List.getLast?_eq_some_getLast n0]; rfl
  · generalize (rs.filter fun r => decide (h ≤ r.1)) = l at *
    cases l with
    | nil => cases m1
    | cons q l => rfl
/-! differences -/
def diffs (l : List Int) : List Int := (l.zip l.tail).map fun p => p.2 - p.1
theorem diffs_cons (a b : Int) (l : List Int) : diffs (a :: b :: l) = (b - a) :: diffs (b :: l) := rfl
theorem diffs_len (l : List Int) : (diffs l).length = l.length - 1 := by
  unfold diffs
  rw [List.length_map, List.length_zip, List.length_tail]
  omega
theorem diffs_take : ∀ (l : List Int) (h : Nat) {a c : Int}, l[0]? = some a → l[h]? = some c → ((diffs l).take h).sum = c - a
  | [], _, a, c, h0, _ => by simp at h0
  | [x], 0, a, c, h0, h1 => by simp at h0 h1; subst h0 h1; simp
  | [x], h + 1, a, c, h0, h1 => by simp at h1
  | x :: y :: l, 0, a, c, h0, h1 => by simp at h0 h1; subst h0 h1; simp
  | x :: y :: l, h + 1, a, c, h0, h1 => by
    simp only [List.getElem?_cons_zero, Option.some.injEq] at h0
    subst h0
    rw [List.getElem?_cons_succ] at h1
    rw [diffs_cons, List.take_succ_cons, List.sum_cons, diffs_take (y :: l) h (a := y) (by simp) h1]
    omega
theorem diffs_sum {l : List Int} {n : Nat} {a c : Int} (hl : l.length = n + 1) (h0 : l[0]? = some a) (h1 : l[n]? = some c) : (diffs l).sum = c - a := by
  have := diffs_take l n h0 h1
  rwa [List.take_of_length_le (by rw [diffs_len]; omega)] at this
theorem diffs_nn : ∀ {l : List Int}, l.Pairwise (· ≤ ·) → ∀ d ∈ diffs l, 0 ≤ d
  | [], _, d, hd => by simp [diffs] at hd
  | [x], _, d, hd => by simp [diffs] at hd
  | x :: y :: l, h, d, hd => by
    rw [diffs_cons] at hd
    rcases List.mem_cons.mp hd with rfl | hd
    · have := (List.pairwise_cons.mp h).1 y List.mem_cons_self; omega
    · exact diffs_nn (List.pairwise_cons.mp h).2 d hd
/-- two lists' differences -/
def sub2 (a b : List Int) : List Int := (a.zip b).map fun p => p.2 - p.1
def add2 (a b : List Int) : List Int := (a.zip b).map fun p => p.1 + p.2
theorem sub2_sum : ∀ {a b : List Int}, a.length = b.length → (sub2 a b).sum = b.sum - a.sum
  | [], [], _ => rfl
  | x :: a, y :: b, h => by
    have := sub2_sum (a := a) (b := b) (by simpa using h)
    unfold sub2 at *
    simp only [List.zip_cons_cons, List.map_cons, List.sum_cons, this]
    omega
  | [], y :: b, h => by simp at h
  | x :: a, [], h => by simp at h
theorem sub2_take (a b : List Int) (n : Nat) : (sub2 a b).take n = sub2 (a.take n) (b.take n) := by
  unfold sub2
  rw [← List.map_take, show (a.zip b).take n = (a.take n).zip (b.take n) from List.take_zipWith]
theorem sub2_len {a b : List Int} (h : a.length = b.length) : (sub2 a b).length = a.length := by
  unfold sub2
  rw [List.length_map, List.length_zip]; omega
theorem add_sub2 : ∀ {a b : List Int}, a.length = b.length → add2 a (sub2 a b) = b
  | [], [], _ => rfl
  | x :: a, y :: b, h => by
    have := add_sub2 (a := a) (b := b) (by simpa using h)
    unfold sub2 add2 at *
    simp only [List.zip_cons_cons, List.map_cons, this]
    congr 1
    omega
  | [], y :: b, h => by simp at h
  | x :: a, [], h => by simp at h
theorem sub_swap : ∀ {u a b c : List Int}, u.length = a.length → a.length = b.length → b.length = c.length → add2 (sub2 u a) (sub2 a c) = add2 (sub2 u b) (sub2 b c)
  | [], [], [], [], _, _, _ => rfl
  | t :: u, x :: a, y :: b, z :: c, h1, h2, h3 => by
    have := sub_swap (u := u) (a := a) (b := b) (c := c) (by simpa using h1) (by simpa using h2) (by simpa using h3)
    unfold sub2 add2 at *
    simp only [List.zip_cons_cons, List.map_cons, this]
    congr 1
    omega
  | [], _ :: _, _, _, h, _, _ => by simp at h
  | _ :: _, [], _, _, h, _, _ => by simp at h
  | _, [], _ :: _, _, _, h, _ => by simp at h
  | _, _ :: _, [], _, _, h, _ => by simp at h
  | _, _, [], _ :: _, _, _, h => by simp at h
  | _, _, _ :: _, [], _, _, h => by simp at h
theorem RV.dlen {N : Nat} {rs : List Rd} (h : RV N rs) (P : List Int) : (diffs (tc P rs)).length = N := by rw [diffs_len, h.len P]; rfl
end M72
namespace M72
/-! the greatest gap of ascending ints -/
def insI (x : Int) : List Int → List Int
  | [] => [x]
  | y :: ys => if x < y then x :: y :: ys else if x = y then y :: ys else y :: insI x ys
def dmx : List Int → Int
  | [] => 0
  | [_] => 0
  | x :: y :: l => max (y - x) (dmx (y :: l))
theorem dmx_nn : ∀ l : List Int, 0 ≤ dmx l
  | [] => Int.le_refl _
  | [_] => Int.le_refl _
  | x :: y :: l => by have := dmx_nn (y :: l); unfold dmx; omega
theorem dmx_ge : ∀ {l : List Int} {d : Int}, d ∈ 0 :: diffs l → d ≤ dmx l
  | [], d, h => by simp [diffs] at h; subst h; exact Int.le_refl _
  | [x], d, h => by simp [diffs] at h; subst h; exact Int.le_refl _
  | x :: y :: l, d, h => by
    rw [diffs_cons] at h
    unfold dmx
    rcases List.mem_cons.mp h with rfl | h
    · have := dmx_nn (y :: l); omega
    · rcases List.mem_cons.mp h with rfl | h
      · omega
      · have := dmx_ge (l := y :: l) (List.mem_cons_of_mem _ h); omega
theorem dmx_mem : ∀ (l : List Int), dmx l ∈ 0 :: diffs l
  | [] => by simp [dmx, diffs]
  | [x] => by simp [dmx, diffs]
  | x :: y :: l => by
    rw [diffs_cons]
    unfold dmx
    rcases Int.le_total (dmx (y :: l)) (y - x) with h | h
    · rw [Int.max_eq_left h]; simp
    · rw [Int.max_eq_right h]
      rcases List.mem_cons.mp (dmx_mem (y :: l)) with e | e
      · rw [e]; simp
      · exact List.mem_cons_of_mem _ (List.mem_cons_of_mem _ e)
theorem insI_head {b y : Int} {l : List Int} (h : y ≤ b) : ∃ t, insI b (y :: l) = y :: t := by
  unfold insI
  rw [if_neg (by omega)]
  split
  · exact ⟨_, rfl⟩
  · exact ⟨_, rfl⟩
theorem dmx_ins : ∀ {T : List Int} {x b z : Int}, (x :: T).getLast? = some z → x ≤ b → b ≤ z → dmx (insI b (x :: T)) ≤ dmx (x :: T)
  | [], x, b, z, hz, h1, h2 => by
    simp only [List.getLast?_singleton, Option.some.injEq] at hz
    have : b = x := by omega
    subst this
    simp [insI]
  | y :: T, x, b, z, hz, h1, h2 => by
    rw [List.getLast?_cons_cons] at hz
    unfold insI
    rw [if_neg (by omega)]
    by_cases e : b = x
    · rw [if_pos e]; exact Int.le_refl _
    · rw [if_neg e]
      by_cases c : b < y
      · unfold insI
        rw [if_pos c]
        simp only [dmx]
        omega
      · have ih := dmx_ins (T := T) hz (by omega) h2
        obtain ⟨t, ht⟩ := insI_head (l := T) (show y ≤ b by omega)
        rw [ht] at ih ⊢
        simp only [dmx]
        omega
theorem insI_same : ∀ {T : List Int} {b : Int}, T.Pairwise (· < ·) → b ∈ T → insI b T = T
  | [], _, _, h => by cases h
  | y :: ys, b, h, hb => by
    unfold insI
    rcases List.mem_cons.mp hb with rfl | hb
    · rw [if_neg (by omega), if_pos rfl]
    · have := (List.pairwise_cons.mp h).1 b hb
      rw [if_neg (by omega), if_neg (by omega), insI_same (List.pairwise_cons.mp h).2 hb]
theorem mem_insI {x k : Int} : ∀ {l : List Int}, k ∈ insI x l ↔ k = x ∨ k ∈ l
  | [] => by simp [insI]
  | y :: ys => by
    unfold insI
    split
    · simp
    · split
      · rename_i h; subst h; simp
      · simp only [List.mem_cons, mem_insI (l := ys)]
        constructor
        · rintro (h | h | h)
          · exact .inr (.inl h)
          · exact .inl h
          · exact .inr (.inr h)
        · rintro (h | h | h)
          · exact .inr (.inl h)
          · exact .inl h
          · exact .inr (.inr h)
theorem dmx_pos : ∀ {l : List Int}, l.Pairwise (· < ·) → 2 ≤ l.length → 1 ≤ dmx l
  | [], _, h => by simp at h
  | [_], _, h => by simp at h
  | x :: y :: l, h, _ => by
    have := (List.pairwise_cons.mp h).1 y List.mem_cons_self
    have := dmx_nn (y :: l)
    simp only [dmx]
    omega
/-- all hours are there -/
theorem dmx_all : ∀ {n : Nat} {x : Int} {T : List Int}, (x :: T).Pairwise (· < ·) → (∀ k ∈ x :: T, k ≤ x + n) → (∀ k : Int, x ≤ k → k ≤ x + n → k ∈ x :: T) → dmx (x :: T) ≤ 1
  | _, x, [], _, _, _ => by simp [dmx]
  | n, x, y :: T, h, hle, hall => by
    have h1 := (List.pairwise_cons.mp h).1 y List.mem_cons_self
    have h2 := hle y (by simp)
    have hy : y = x + 1 := by
      have := hall (x + 1) (by omega) (by omega)
      rcases List.mem_cons.mp this with e | e
      · omega
      · rcases List.mem_cons.mp e with e | e
        · exact e.symm
        · have := (List.pairwise_cons.mp (List.pairwise_cons.mp h).2).1 _ e; omega
    have ih := dmx_all (n := n - 1) (List.pairwise_cons.mp h).2 (fun k hk => by have := hle k (List.mem_cons_of_mem _ hk); omega) (fun k k1 k2 => by
      rcases List.mem_cons.mp (hall k (by omega) (by omega)) with e | e
      · omega
      · exact e)
    simp only [dmx]
    omega
end M72
namespace M72
/-! discounts: (true, of a hundred), (false, money) -/
abbrev Dc := Bool × Nat
def low1 (t b : Nat) : Nat × Nat := (t / Nat.gcd t b, b / Nat.gcd t b)
def off (p : Nat × Nat) (d : Dc) : Nat × Nat := if d.1 then low1 (p.1 * (100 - d.2)) (p.2 * 100) else low1 (p.1 - d.2 * p.2) p.2
/-- the same with bottoms of hundreds -/
def raw : List Dc → Nat × Nat → Nat × Nat
  | [], p => p
  | (true, x) :: l, p => raw l (p.1 * (100 - x), p.2 * 100)
  | (false, x) :: l, p => raw l (p.1 - x * p.2, p.2)
def tpl (l : List Dc) (p : Nat × Nat) : Nat × Nat := l.foldl off p
theorem low1_cross {t b : Nat} (hb : 0 < b) : (low1 t b).1 * b = t * (low1 t b).2 ∧ 0 < (low1 t b).2 ∧ Nat.gcd (low1 t b).1 (low1 t b).2 = 1 := by
  have hg : 0 < Nat.gcd t b := Nat.gcd_pos_of_pos_right _ hb
  refine ⟨?_, ?_, ?_⟩
  · show t / Nat.gcd t b * b = t * (b / Nat.gcd t b)
    obtain ⟨u, hu⟩ := Nat.gcd_dvd_left t b
    obtain ⟨v, hv⟩ := Nat.gcd_dvd_right t b
    have e1 : t / Nat.gcd t b = u := by
      conv => lhs; arg 1; rw [hu]
      exact Nat.mul_div_cancel_left _ hg
    have e2 : b / Nat.gcd t b = v := by
      conv => lhs; arg 1; rw [hv]
      exact Nat.mul_div_cancel_left _ hg
    rw [e1, e2]
    conv => lhs; rw [hv]
    conv => rhs; rw [hu]
    rw [← Nat.mul_assoc, Nat.mul_comm u]
  · exact Nat.div_pos (Nat.le_of_dvd hb (Nat.gcd_dvd_right t b)) hg
  · show Nat.gcd (t / Nat.gcd t b) (b / Nat.gcd t b) = 1
    rw [Nat.gcd_div (Nat.gcd_dvd_left t b) (Nat.gcd_dvd_right t b)]
    exact Nat.div_self hg
/-- p and q are the same number, bottoms above 0 -/
def Eqv (p q : Nat × Nat) : Prop := p.1 * q.2 = q.1 * p.2 ∧ 0 < p.2 ∧ 0 < q.2
theorem Eqv.trans {p q r : Nat × Nat} (h : Eqv p q) (k : Eqv q r) : Eqv p r := by
  refine ⟨?_, h.2.1, k.2.2⟩
  have h1 : p.1 * r.2 * q.2 = r.1 * p.2 * q.2 := by
    calc p.1 * r.2 * q.2 = p.1 * q.2 * r.2 := by rw [Nat.mul_assoc, Nat.mul_comm r.2, ← Nat.mul_assoc]
      _ = q.1 * p.2 * r.2 := by rw [h.1]
      _ = q.1 * r.2 * p.2 := by rw [Nat.mul_assoc, Nat.mul_comm p.2, ← Nat.mul_assoc]
      _ = r.1 * q.2 * p.2 := by rw [k.1]
      _ = r.1 * p.2 * q.2 := by rw [Nat.mul_assoc, Nat.mul_comm q.2, ← Nat.mul_assoc]
  exact Nat.eq_of_mul_eq_mul_right h.2.2 h1
theorem Eqv.symm {p q : Nat × Nat} (h : Eqv p q) : Eqv q p := ⟨h.1.symm, h.2.2, h.2.1⟩
theorem Eqv.low {t b : Nat} (hb : 0 < b) : Eqv (low1 t b) (t, b) := ⟨(low1_cross hb).1, (low1_cross hb).2.1, hb⟩
theorem mul3 (a b c : Nat) : a * b * c = a * c * b := by rw [Nat.mul_assoc, Nat.mul_comm b, ← Nat.mul_assoc]
theorem off_eqv {p q : Nat × Nat} (h : Eqv p q) (d : Dc) : Eqv (off p d) (raw [d] q) := by
  obtain ⟨k, x⟩ := d
  cases k with
  | true =>
    refine (Eqv.low (by have := h.2.1; omega)).trans ⟨?_, by have := h.2.1; show 0 < p.2 * 100; omega, by have := h.2.2; show 0 < q.2 * 100; omega⟩
    show p.1 * (100 - x) * (q.2 * 100) = q.1 * (100 - x) * (p.2 * 100)
    rw [← Nat.mul_assoc, ← Nat.mul_assoc, mul3 p.1, mul3 q.1, h.1]
  | false =>
    refine (Eqv.low h.2.1).trans ⟨?_, h.2.1, h.2.2⟩
    show (p.1 - x * p.2) * q.2 = (q.1 - x * q.2) * p.2
    rw [Nat.sub_mul, Nat.sub_mul, h.1, mul3 x]
theorem raw_cons (d : Dc) (l : List Dc) (p : Nat × Nat) : raw (d :: l) p = raw l (raw [d] p) := by
  obtain ⟨k, x⟩ := d
  cases k <;> rfl
theorem tpl_eqv : ∀ (l : List Dc) {p q : Nat × Nat}, Eqv p q → Eqv (tpl l p) (raw l q)
  | [], p, q, h => h
  | d :: l, p, q, h => by
    rw [raw_cons]
    exact tpl_eqv l (off_eqv h d)
/-- lowest terms -/
theorem tpl_cop : ∀ (l : List Dc) {p : Nat × Nat}, 0 < p.2 → Nat.gcd p.1 p.2 = 1 → 0 < (tpl l p).2 ∧ Nat.gcd (tpl l p).1 (tpl l p).2 = 1
  | [], p, h0, h => ⟨h0, h⟩
  | d :: l, p, h0, h => by
    have h1 : 0 < (off p d).2 ∧ Nat.gcd (off p d).1 (off p d).2 = 1 := by
      obtain ⟨k, x⟩ := d
      cases k with
      | true => exact (low1_cross (t := p.1 * (100 - x)) (b := p.2 * 100) (by omega)).2
      | false => exact (low1_cross (t := p.1 - x * p.2) h0).2
    exact tpl_cop l h1.1 h1.2
theorem cop_eq {p q : Nat × Nat} (h : Eqv p q) (hp : Nat.gcd p.1 p.2 = 1) (hq : Nat.gcd q.1 q.2 = 1) : p = q := by
  have d1 : p.2 ∣ q.2 := (Nat.Coprime.symm hp).dvd_of_dvd_mul_left (show p.2 ∣ p.1 * q.2 from ⟨q.1, by rw [h.1, Nat.mul_comm]⟩)
  have d2 : q.2 ∣ p.2 := (Nat.Coprime.symm hq).dvd_of_dvd_mul_left (show q.2 ∣ q.1 * p.2 from ⟨p.1, by rw [← h.1, Nat.mul_comm]⟩)
  have e2 := Nat.dvd_antisymm d1 d2
  have e1 : p.1 = q.1 := by
    have := h.1
    rw [← e2] at this
    exact Nat.eq_of_mul_eq_mul_right h.2.1 this
  exact Prod.ext e1 e2
/-! closed bounds -/
def mon : List Dc → Nat
  | [] => 0
  | (true, _) :: l => mon l
  | (false, x) :: l => x + mon l
def prt : List Dc → Nat
  | [] => 1
  | (true, x) :: l => (100 - x) * prt l
  | (false, _) :: l => prt l
def hun : List Dc → Nat
  | [] => 1
  | (true, _) :: l => 100 * hun l
  | (false, _) :: l => hun l
theorem prt_le : ∀ l, prt l ≤ hun l
  | [] => Nat.le_refl _
  | (true, x) :: l => Nat.mul_le_mul (Nat.sub_le _ _) (prt_le l)
  | (false, _) :: l => prt_le l
theorem hun_pos : ∀ l, 0 < hun l
  | [] => Nat.one_pos
  | (true, x) :: l => Nat.mul_pos (by decide) (hun_pos l)
  | (false, _) :: l => hun_pos l
theorem raw_bot : ∀ (l : List Dc) (p : Nat × Nat), (raw l p).2 = p.2 * hun l
  | [], p => (Nat.mul_one _).symm
  | (true, x) :: l, p => by
    show (raw l (p.1 * (100 - x), p.2 * 100)).2 = p.2 * (100 * hun l)
    rw [raw_bot l, Nat.mul_assoc]
  | (false, _) :: l, p => by
    show (raw l _).2 = _
    rw [raw_bot l]; rfl
def lowB (l : List Dc) (p : Nat × Nat) : Nat := p.1 * prt l - mon l * (p.2 * hun l)
def highB (l : List Dc) (p : Nat × Nat) : Nat := (p.1 - mon l * p.2) * prt l
theorem raw_low : ∀ (l : List Dc) (p : Nat × Nat), lowB l p ≤ (raw l p).1
  | [], p => by simp [lowB, mon, prt, raw]
  | (true, x) :: l, p => by
    have := raw_low l (p.1 * (100 - x), p.2 * 100)
    refine Nat.le_trans (Nat.le_of_eq ?_) this
    simp only [lowB, mon, prt, hun]
    rw [Nat.mul_assoc, Nat.mul_assoc]
  | (false, x) :: l, p => by
    have := raw_low l (p.1 - x * p.2, p.2)
    refine Nat.le_trans ?_ this
    simp only [lowB, mon, prt, hun]
    rw [Nat.add_mul, Nat.sub_mul]
    have h1 : x * p.2 * prt l ≤ x * (p.2 * hun l) := by
      rw [Nat.mul_assoc]; exact Nat.mul_le_mul_left _ (Nat.mul_le_mul_left _ (prt_le l))
    omega
theorem raw_high : ∀ (l : List Dc) (p : Nat × Nat), (raw l p).1 ≤ highB l p
  | [], p => by simp [highB, mon, prt, raw]
  | (true, x) :: l, p => by
    have := raw_high l (p.1 * (100 - x), p.2 * 100)
    refine Nat.le_trans this ?_
    simp only [highB, mon, prt]
    rw [← Nat.mul_assoc (p.1 - mon l * p.2)]
    refine Nat.mul_le_mul_right _ ?_
    rw [Nat.sub_mul]
    have h1 : mon l * p.2 * (100 - x) ≤ mon l * (p.2 * 100) := by
      rw [Nat.mul_assoc]; exact Nat.mul_le_mul_left _ (Nat.mul_le_mul_left _ (Nat.sub_le _ _))
    omega
  | (false, x) :: l, p => by
    have := raw_high l (p.1 - x * p.2, p.2)
    refine Nat.le_trans this (Nat.le_of_eq ?_)
    simp only [highB, mon, prt]
    rw [Nat.add_mul, Nat.sub_sub]
/-! parts first, money first -/
theorem raw_app : ∀ (l m : List Dc) (p : Nat × Nat), raw (l ++ m) p = raw m (raw l p)
  | [], m, p => rfl
  | d :: l, m, p => by rw [List.cons_append, raw_cons, raw_app l m, ← raw_cons]
theorem raw_parts : ∀ (l : List Dc) (p : Nat × Nat), (∀ d ∈ l, d.1 = true) → raw l p = (p.1 * prt l, p.2 * hun l) ∧ mon l = 0
  | [], p, _ => by simp [raw, prt, hun, mon]
  | (true, x) :: l, p, h => by
    obtain ⟨h1, h2⟩ := raw_parts l (p.1 * (100 - x), p.2 * 100) fun d hd => h d (List.mem_cons_of_mem _ hd)
    refine ⟨?_, h2⟩
    show raw l _ = _
    rw [h1]
    simp only [prt, hun]
    rw [Nat.mul_assoc, Nat.mul_assoc]
  | (false, x) :: l, p, h => by have := h (false, x) List.mem_cons_self; cases this
theorem raw_money : ∀ (l : List Dc) (p : Nat × Nat), (∀ d ∈ l, d.1 = false) → raw l p = (p.1 - mon l * p.2, p.2) ∧ prt l = 1 ∧ hun l = 1
  | [], p, _ => by simp [raw, prt, hun, mon]
  | (false, x) :: l, p, h => by
    obtain ⟨h1, h2⟩ := raw_money l (p.1 - x * p.2, p.2) fun d hd => h d (List.mem_cons_of_mem _ hd)
    refine ⟨?_, h2⟩
    show raw l _ = _
    rw [h1]
    simp only [mon]
    rw [Nat.add_mul, Nat.sub_sub]
  | (true, x) :: l, p, h => by have := h (true, x) List.mem_cons_self; cases this
theorem mon_app : ∀ l m : List Dc, mon (l ++ m) = mon l + mon m
  | [], m => by simp [mon]
  | (true, x) :: l, m => mon_app l m
  | (false, x) :: l, m => by simp only [List.cons_append, mon, mon_app l m, Nat.add_assoc]
theorem prt_app : ∀ l m : List Dc, prt (l ++ m) = prt l * prt m
  | [], m => by simp [prt]
  | (false, x) :: l, m => prt_app l m
  | (true, x) :: l, m => by simp only [List.cons_append, prt, prt_app l m, Nat.mul_assoc]
theorem hun_app : ∀ l m : List Dc, hun (l ++ m) = hun l * hun m
  | [], m => by simp [hun]
  | (false, x) :: l, m => hun_app l m
  | (true, x) :: l, m => by simp only [List.cons_append, hun, hun_app l m, Nat.mul_assoc]
theorem raw_pm {l m : List Dc} (hl : ∀ d ∈ l, d.1 = true) (hm : ∀ d ∈ m, d.1 = false) (p : Nat × Nat) : (raw (l ++ m) p).1 = lowB (l ++ m) p := by
  rw [raw_app, (raw_parts l p hl).1, (raw_money m _ hm).1]
  simp only [lowB, mon_app, prt_app, hun_app, (raw_parts l p hl).2, (raw_money m p hm).2.1, (raw_money m p hm).2.2, Nat.zero_add, Nat.mul_one]
theorem raw_mp {l m : List Dc} (hl : ∀ d ∈ l, d.1 = true) (hm : ∀ d ∈ m, d.1 = false) (p : Nat × Nat) : (raw (m ++ l) p).1 = highB (m ++ l) p := by
  rw [raw_app, (raw_money m _ hm).1, (raw_parts l _ hl).1]
  simp only [highB, mon_app, prt_app, (raw_parts l p hl).2, (raw_money m p hm).2.1, Nat.add_zero, Nat.one_mul]
theorem mon_perm {l m : List Dc} (h : l.Perm m) : mon l = mon m := by
  induction h with
  | nil => rfl
  | cons d h ih => obtain ⟨k, x⟩ := d; cases k <;> simp only [mon, ih]
  | swap a b l => obtain ⟨k, x⟩ := a; obtain ⟨k', x'⟩ := b; cases k <;> cases k' <;> simp only [mon] <;> omega
  | trans _ _ i j => exact i.trans j
theorem prt_perm {l m : List Dc} (h : l.Perm m) : prt l = prt m := by
  induction h with
  | nil => rfl
  | cons d h ih => obtain ⟨k, x⟩ := d; cases k <;> simp only [prt, ih]
  | swap a b l =>
    obtain ⟨k, x⟩ := a; obtain ⟨k', x'⟩ := b
    cases k <;> cases k' <;> simp only [prt]
    rw [← Nat.mul_assoc, ← Nat.mul_assoc, Nat.mul_comm (100 - x')]
  | trans _ _ i j => exact i.trans j
theorem hun_perm {l m : List Dc} (h : l.Perm m) : hun l = hun m := by
  induction h with
  | nil => rfl
  | cons d h ih => obtain ⟨k, x⟩ := d; cases k <;> simp only [hun, ih]
  | swap a b l => obtain ⟨k, x⟩ := a; obtain ⟨k', x'⟩ := b; cases k <;> cases k' <;> simp only [hun]
  | trans _ _ i j => exact i.trans j
theorem lowB_perm {l m : List Dc} (h : l.Perm m) (p : Nat × Nat) : lowB l p = lowB m p := by simp only [lowB, mon_perm h, prt_perm h, hun_perm h]
theorem highB_perm {l m : List Dc} (h : l.Perm m) (p : Nat × Nat) : highB l p = highB m p := by simp only [highB, mon_perm h, prt_perm h]
/-! what the law asks -/
theorem eqv_le {p q x y : Nat × Nat} (hp : Eqv p x) (hq : Eqv q y) (hb : x.2 = y.2) (h : x.1 ≤ y.1) : p.1 * q.2 ≤ q.1 * p.2 := by
  have hx := hp.2.2
  have h1 : p.1 * q.2 * x.2 ≤ q.1 * p.2 * x.2 := by
    calc p.1 * q.2 * x.2 = p.1 * x.2 * q.2 := mul3 _ _ _
      _ = x.1 * p.2 * q.2 := by rw [hp.1]
      _ ≤ y.1 * p.2 * q.2 := Nat.mul_le_mul_right _ (Nat.mul_le_mul_right _ h)
      _ = y.1 * q.2 * p.2 := mul3 _ _ _
      _ = q.1 * y.2 * p.2 := by rw [hq.1]
      _ = q.1 * p.2 * x.2 := by rw [← hb]; exact mul3 _ _ _
  exact Nat.le_of_mul_le_mul_right h1 hx
theorem eqv_1 (p : Nat) : Eqv (p, 1) (p, 1) := ⟨rfl, Nat.one_pos, Nat.one_pos⟩
theorem tpl_le {l m : List Dc} {p : Nat} (h : (raw l (p, 1)).1 ≤ (raw m (p, 1)).1) (hh : hun l = hun m) : (tpl l (p, 1)).1 * (tpl m (p, 1)).2 ≤ (tpl m (p, 1)).1 * (tpl l (p, 1)).2 :=
  eqv_le (tpl_eqv l (eqv_1 p)) (tpl_eqv m (eqv_1 p)) (by rw [raw_bot, raw_bot, hh]) h
theorem tpl_eq {l m : List Dc} {p : Nat} (h : (raw l (p, 1)).1 = (raw m (p, 1)).1) (hh : hun l = hun m) : tpl l (p, 1) = tpl m (p, 1) := by
  have e : raw l (p, 1) = raw m (p, 1) := Prod.ext h (by rw [raw_bot, raw_bot, hh])
  have h1 := tpl_eqv l (eqv_1 p)
  rw [e] at h1
  exact cop_eq (h1.trans (tpl_eqv m (eqv_1 p)).symm) (tpl_cop l Nat.one_pos (Nat.gcd_one_right _)).2 (tpl_cop m Nat.one_pos (Nat.gcd_one_right _)).2
theorem tpl_inj {l m : List Dc} {p : Nat} (h : tpl l (p, 1) = tpl m (p, 1)) (hh : hun l = hun m) : (raw l (p, 1)).1 = (raw m (p, 1)).1 := by
  have h1 := tpl_eqv l (eqv_1 p)
  rw [h] at h1
  have h2 := (h1.symm.trans (tpl_eqv m (eqv_1 p))).1
  rw [raw_bot, raw_bot, hh] at h2
  exact Nat.eq_of_mul_eq_mul_right (show 0 < 1 * hun m by have := hun_pos m; omega) h2
/-- one part more -/
theorem more_le {l : List Dc} {p x : Nat} {l' : List Dc} (hr : (raw l (p, 1)).1 = lowB l (p, 1)) (hr' : (raw l' (p, 1)).1 = lowB l' (p, 1)) (hp : l'.Perm (l ++ [(true, x)])) : (tpl l' (p, 1)).1 * (tpl l (p, 1)).2 ≤ (tpl l (p, 1)).1 * (tpl l' (p, 1)).2 := by
  have e1 : lowB l' (p, 1) ≤ (raw l (p, 1)).1 * 100 := by
    rw [lowB_perm hp, hr]
    simp only [lowB, mon_app, prt_app, hun_app, mon, prt, hun, Nat.add_zero, Nat.mul_one, Nat.one_mul]
    rw [Nat.sub_mul, ← Nat.mul_assoc, ← Nat.mul_assoc]
    have : p * prt l * (100 - x) ≤ p * prt l * 100 := Nat.mul_le_mul_left _ (Nat.sub_le _ _)
    omega
  have h1 := tpl_eqv l' (eqv_1 p)
  have h2 := tpl_eqv l (eqv_1 p)
  have h3 : Eqv (raw l (p, 1)) ((raw l (p, 1)).1 * 100, (raw l (p, 1)).2 * 100) := ⟨by show (raw l (p, 1)).1 * ((raw l (p, 1)).2 * 100) = (raw l (p, 1)).1 * 100 * (raw l (p, 1)).2; rw [← Nat.mul_assoc, mul3], h2.2.2, by have := h2.2.2; show 0 < _ * 100; omega⟩
  refine eqv_le h1 (h2.trans h3) ?_ (by rw [hr']; exact e1)
  show (raw l' (p, 1)).2 = (raw l (p, 1)).2 * 100
  rw [raw_bot, raw_bot, hun_perm hp, hun_app]
  simp only [hun, Nat.mul_one, Nat.one_mul]
/-- so many times the price and money -/
def far (t : Nat) (d : Dc) : Dc := (d.1, if d.1 then d.2 else t * d.2)
theorem raw_far (t : Nat) : ∀ (l : List Dc) (p : Nat × Nat), raw (l.map (far t)) (t * p.1, p.2) = (t * (raw l p).1, (raw l p).2)
  | [], p => rfl
  | (true, x) :: l, p => by
    have := raw_far t l (p.1 * (100 - x), p.2 * 100)
    simp only [List.map_cons, far, raw, if_true]
    rw [← this, Nat.mul_assoc]
  | (false, x) :: l, p => by
    have := raw_far t l (p.1 - x * p.2, p.2)
    simp only [List.map_cons, far, raw]
    rw [← this]
    show raw _ (t * p.1 - (if false = true then x else t * x) * p.2, p.2) = raw _ (t * (p.1 - x * p.2), p.2)
    rw [if_neg Bool.false_ne_true, Nat.mul_sub, Nat.mul_assoc]
theorem tpl_far {t p : Nat} {l : List Dc} : (tpl (l.map (far t)) (t * p, 1)).1 * (tpl l (p, 1)).2 = t * (tpl l (p, 1)).1 * (tpl (l.map (far t)) (t * p, 1)).2 := by
  have h1 := tpl_eqv (l.map (far t)) (eqv_1 (t * p))
  have h2 := tpl_eqv l (eqv_1 p)
  rw [raw_far t l (p, 1)] at h1
  generalize tpl (l.map (far t)) (t * p, 1) = a at *
  generalize tpl l (p, 1) = b at *
  generalize raw l (p, 1) = r at *
  have e1 : a.1 * r.2 = t * r.1 * a.2 := h1.1
  have e2 : b.1 * r.2 = r.1 * b.2 := h2.1
  refine Nat.eq_of_mul_eq_mul_right h2.2.2 ?_
  calc a.1 * b.2 * r.2 = a.1 * r.2 * b.2 := mul3 _ _ _
    _ = t * r.1 * a.2 * b.2 := by rw [e1]
    _ = t * (r.1 * b.2) * a.2 := by rw [mul3, Nat.mul_assoc t]
    _ = t * (b.1 * r.2) * a.2 := by rw [e2]
    _ = t * b.1 * a.2 * r.2 := by rw [← Nat.mul_assoc, mul3]
/-- low and high are alike without parts, without money -/
theorem low_high {l : List Dc} {p : Nat × Nat} (h : (∀ d ∈ l, d.1 = true) ∨ ∀ d ∈ l, d.1 = false) : lowB l p = highB l p := by
  rcases h with h | h
  · have := (raw_parts l p h).2
    simp only [lowB, highB, this, Nat.zero_mul, Nat.sub_zero]
  · have := raw_money l p h
    simp only [lowB, highB, this.2.1, this.2.2, Nat.mul_one]
end M72
set_option maxHeartbeats 4000000
namespace Dr
open PySem PySem.Spec PyProof.Rows L2 DD
local macro_rules | `(tactic| walk_at "ddcv") => `(tactic| fail)
local macro_rules | `(tactic| walk_at "ddev") => `(tactic| (repeat' (first | (show (_ : Prop); with_reducible assumption) | ((with_reducible apply ev_v) <;> rfl) | ((with_reducible apply ev_vo) <;> rfl) | ((with_reducible apply ev_rd) <;> rfl) | ((with_reducible apply ev_rdo) <;> rfl) | ((with_reducible apply ev_take) <;> rfl) | ((with_reducible apply ev_rdb) <;> rfl) | with_reducible exact ev_c | with_reducible exact av_nil | with_reducible exact pv_none | with_reducible exact ov_add | with_reducible exact ov_sub | with_reducible exact ov_lt | with_reducible exact ov_le | with_reducible exact ov_gt | with_reducible exact ov_ge | with_reducible exact ov_eqi | with_reducible exact ov_nei | with_reducible exact ov_isN | with_reducible exact ov_isntN | with_reducible exact ov_isB | with_reducible exact ov_isntB | with_reducible exact uv_lenL | with_reducible exact uv_lenT | with_reducible exact uv_lenR | with_reducible exact uv_int | with_reducible exact uv_intB | with_reducible exact uv_abs | with_reducible exact uv_tupL | with_reducible exact uv_tupT | with_reducible exact uv_lstL | with_reducible exact uv_lstT | with_reducible exact uv_isi rfl | with_reducible exact nv_min2 | with_reducible exact nv_max2 | with_reducible exact gv_name | with_reducible exact gv_nil | with_reducible exact mv_nil | with_reducible exact ov_addI | with_reducible exact plT2 | with_reducible exact plL_ints _ | with_reducible exact plT_ints _ | with_reducible exact pl_int | with_reducible exact pl_part | with_reducible exact pl_money | with_reducible exact pl_same | with_reducible exact pl_two | ((with_reducible apply iv_zsL) <;> rfl) | ((with_reducible apply iv_zsT) <;> rfl) | ((with_reducible apply iv_zvLL) <;> rfl) | ((with_reducible apply iv_zvTT) <;> rfl) | ((with_reducible apply iv_zvLT) <;> rfl) | ((with_reducible apply iv_zvTL) <;> rfl) | ((with_reducible apply av_stTv); rfl) | ((with_reducible apply av_stLv); rfl) | ((with_reducible apply av_stLo); rfl) | ((with_reducible apply ev_slv); rfl) | ((with_reducible apply ev_ixv); rfl) | ((with_reducible apply ev_ixvo); rfl) | ((with_reducible apply ev_ixvb); rfl; rfl) | ((with_reducible apply iv_itT); (with_reducible apply ev_v); rfl) | ((with_reducible apply iv_itT); (with_reducible apply ev_vo); rfl) | ((with_reducible apply iv_itL); (with_reducible apply ev_v); rfl) | ((with_reducible apply iv_itL); (with_reducible apply ev_vo); rfl) | ((with_reducible apply iv_enumT); (with_reducible apply ev_v); rfl) | ((with_reducible apply iv_enumT); (with_reducible apply ev_vo); rfl) | ((with_reducible apply iv_enumL); (with_reducible apply ev_v); rfl) | ((with_reducible apply iv_enumL); (with_reducible apply ev_vo); rfl) | with_reducible apply ev_bin | with_reducible apply ev_c1 | with_reducible apply ev_cn | with_reducible apply ev_tup | with_reducible apply ev_lst | with_reducible apply ev_andV | with_reducible apply ev_orV | with_reducible apply ev_notV | with_reducible apply ev_chain | with_reducible apply ev_call1 | with_reducible apply ev_call2 | with_reducible apply ev_call3 | with_reducible apply ev_call4 | with_reducible apply ev_lc | with_reducible apply av_cons | with_reducible apply tv_tst | with_reducible apply tv_and | with_reducible apply tv_or | with_reducible apply tv_not | with_reducible apply pv_some | with_reducible apply ov_ixT | with_reducible apply ov_ixL | with_reducible apply ov_ixR | with_reducible apply iv_itT | with_reducible apply iv_itL | with_reducible apply iv_enumT | with_reducible apply iv_enumL | with_reducible apply iv_zipTT | with_reducible apply iv_rng1 | with_reducible apply iv_rng2 | with_reducible apply gv_tup | with_reducible apply gv_cons | with_reducible apply ls_yes | with_reducible apply lf_of | with_reducible apply ov_addT | with_reducible apply ov_fdiv | with_reducible apply ov_mod | with_reducible apply ov_pow | with_reducible apply uv_sum | with_reducible apply uv_sumR | with_reducible apply uv_sumT | with_reducible apply uv_all | with_reducible apply uv_any | with_reducible apply ov_mul | with_reducible apply ov_eq | with_reducible apply ov_ne | with_reducible apply mv_sh | with_reducible apply mv_ow | with_reducible apply ev_mulL | with_reducible apply ev_lrg1 | with_reducible apply ev_neg | with_reducible apply ov_addL | with_reducible apply ov_mulT | with_reducible apply av_starL | with_reducible apply ov_addI | with_reducible apply iv_rng1 | with_reducible apply uv_lsetT | with_reducible apply uv_lsetL | with_reducible apply ov_inL | with_reducible apply ov_ninL | with_reducible apply uv_sortL | with_reducible apply uv_sortT | with_reducible apply ev_ifE | ((with_reducible show CV _ _ _ _ _); assumption) | walk_at "ddcv" | with_reducible exact atI_0 | with_reducible exact atI_1 | with_reducible exact atI_2 | (show (_ : Prop); with_reducible rfl) | ((with_reducible show (_ : DV) = _); dsimp only [Function.comp]; done) | ((with_reducible show (_ : DV) = _); simp only [Function.comp, Int.natCast_add, Int.natCast_mul]; done) | ((with_reducible show (_ : Pst) = _); rfl) | ((with_reducible show List.length _ = _); rfl) | ((with_reducible show List.length _ ≤ sizeLine); simp only [List.length_cons, List.length_nil, Nat.reduceAdd]; decide) | with_reducible intro _ | ((with_reducible apply noown_ok); rfl))))
theorem cv_is_int {v : Int} {lo hi : Int} : CV c_is_int [.sh (.int v), .sh (.int lo), .sh (.int hi)] [] (.bl (decide (lo ≤ v) && decide (v ≤ hi))) [] := by
  refine cv_body fun e hr hn => ?_
  unfold t_is_int
  dsimp only [List.length_cons, List.length_nil, Nat.reduceSub, Nat.reduceAdd, List.replicate, List.cons_append, List.nil_append, List.append_nil, Pst.put, List.set_cons_zero, List.set_cons_succ, Pst.upL, Pst.own, List.getElem?_cons_zero, List.getElem?_cons_succ]
  refine s_ret ?_
  apply EV.use
  · walk_at "ddev"
  · exact hr _ rfl
local macro_rules | `(tactic| walk_at "ddcv") => `(tactic| (first | ((with_reducible show CV c_is_int _ _ _ _); exact cv_is_int)))
theorem cv_are_ints {vs : List Int} {lo hi : Int} (hl : vs.length ≤ 1000) : CV c_are_ints [.sh (.tup (vs.map .int)), .sh (.int lo), .sh (.int hi)] [] (.bl (vs.all fun v => decide (lo ≤ v) && decide (v ≤ hi))) [] := by
  refine cv_body fun e hr hn => ?_
  unfold t_are_ints
  dsimp only [List.length_cons, List.length_nil, Nat.reduceSub, Nat.reduceAdd, List.replicate, List.cons_append, List.nil_append, List.append_nil, Pst.put, List.set_cons_zero, List.set_cons_succ, Pst.upL, Pst.own, List.getElem?_cons_zero, List.getElem?_cons_succ]
  refine s_ret ?_
  apply EV.use
  · walk_at "ddev"
    · refine lv_map (xs := vs) .int (DV.bl ∘ fun v => (decide (lo ≤ v) && decide (v ≤ hi))) (fun v => [.sh (.tup (vs.map .int)), .sh (.int lo), .sh (.int hi), .sh (.int v)]) (fun v hv => ?_) (fun _ _ => rfl) (Nat.le_trans hl (by decide)) rfl List.map_map
      walk_at "ddev"
  · refine hr_of hr rfl ?_
    simp [DV.isTup]
/-- a tuple of a size that is let, a string first -/
theorem cv_told1 {x : Str} {r : List DV} {n : Nat} (hn : r.length + 1 = n) : CV c_is_told [.sh (.tup (.str x :: r)), .sh (.tup [.int n])] [] (.bl true) [] := by
  refine cv_body fun e hr hx => ?_
  unfold t_is_told
  dsimp only [List.length_cons, List.length_nil, Nat.reduceSub, Nat.reduceAdd, List.replicate, List.cons_append, List.nil_append, List.append_nil, Pst.put, List.set_cons_zero, List.set_cons_succ, Pst.upL, Pst.own, List.getElem?_cons_zero, List.getElem?_cons_succ]
  refine s_ret ?_
  apply EV.use
  · walk_at "ddev"
    exact fun R q => ⟨rfl, rfl, q⟩
  · refine hr_of hr rfl ?_
    simp [DV.isTup, DV.isStr, dIn, ← hn]
theorem cv_is_rising {vs : List Int} (hl : vs.length ≤ 1000) (h : vs.Pairwise (· < ·)) : CV c_is_rising [.sh (.lst (vs.map .int))] [] (.bl true) [] := by
  refine cv_body fun e hr hx => ?_
  unfold t_is_rising
  dsimp only [List.length_cons, List.length_nil, Nat.reduceSub, Nat.reduceAdd, List.replicate, List.cons_append, List.nil_append, List.append_nil, Pst.put, List.set_cons_zero, List.set_cons_succ, Pst.upL, Pst.own, List.getElem?_cons_zero, List.getElem?_cons_succ]
  refine s_ret ?_
  apply EV.use
  · walk_at "ddev"
    · refine lv_map (xs := vs.zip vs.tail) (fun p => .tup [.int p.1, .int p.2]) (DV.bl ∘ fun p => decide (p.1 < p.2)) (fun p => [.sh (.lst (vs.map .int)), .sh (.int p.1), .sh (.int p.2)]) (fun p hp => ?_) (fun _ _ => rfl) (by rw [List.length_zip]; exact Nat.le_trans (Nat.min_le_left _ _) (Nat.le_trans hl (by decide))) ?_ List.map_map
      · walk_at "ddev"
      · rw [← List.map_tail, zipD_maps]
  · refine hr_of hr rfl ?_
    congr 1
    rw [List.all_map, List.all_eq_true]
    intro p hp
    have : ∀ {l : List Int}, l.Pairwise (· < ·) → ∀ p ∈ l.zip l.tail, p.1 < p.2 := by
      intro l
      induction l with
      | nil => intro _ p hp; simp at hp
      | cons a l ih =>
        intro h p hp
        obtain ⟨h1, h2⟩ := List.pairwise_cons.mp h
        cases l with
        | nil => simp at hp
        | cons b l =>
          simp only [List.tail_cons, List.zip_cons_cons] at hp
          rcases List.mem_cons.mp hp with rfl | hp
          · exact h1 _ List.mem_cons_self
          · exact ih h2 p hp
    simpa using this h p hp
local macro_rules | `(tactic| walk_at "ddcv") => `(tactic| (first | ((with_reducible show CV c_are_ints _ _ _ _); exact cv_are_ints (by simp; omega))))
theorem sdd_perm {n : Nat} {os : List Nat} (h : os.Perm (List.range n)) : (sdd (os.map fun (k : Nat) => (k : Int))).length = n := by
  have hp : (sdd (os.map fun (k : Nat) => (k : Int))).Perm (os.map fun (k : Nat) => (k : Int)) := by
    refine (List.perm_ext_iff_of_nodup (rise_nodup (sdd_pw _)) ?_).mpr fun k => mem_sdd
    have : os.Nodup := (h.nodup_iff).mpr List.nodup_range
    exact List.Pairwise.map _ (fun a b (hab : a ≠ b) hc => hab (by omega)) this
  rw [hp.length_eq, List.length_map, h.length_eq, List.length_range]
abbrev natD (k : Nat) : DV := .int (k : Int)
theorem map_nat (os : List Nat) : os.map natD = (os.map fun (k : Nat) => (k : Int)).map DV.int := by rw [List.map_map]; rfl
theorem cv_is_order {n : Nat} {os : List Nat} (h : os.Perm (List.range n)) (hn : n ≤ 900) : CV c_is_order [.sh (.tup (os.map natD)), .sh (.int n)] [] (.bl true) [] := by
  have hl : os.length = n := by rw [h.length_eq, List.length_range]
  refine cv_body fun e hr hx => ?_
  unfold t_is_order
  dsimp only [List.length_cons, List.length_nil, Nat.reduceSub, Nat.reduceAdd, List.replicate, List.cons_append, List.nil_append, List.append_nil, Pst.put, List.set_cons_zero, List.set_cons_succ, Pst.upL, Pst.own, List.getElem?_cons_zero, List.getElem?_cons_succ]
  refine s_ret ?_
  rw [map_nat]
  apply EV.use
  · walk_at "ddev"
    rw [List.length_map]; omega
  · refine hr_of hr rfl ?_
    rw [sdd_perm h]
    congr 1
    simp only [List.length_map, hl, Bool.and_eq_true, decide_eq_true_eq, and_true, List.all_map, List.all_eq_true]
    intro k hk
    have := List.mem_range.mp (h.mem_iff.mp hk)
    simp only [Function.comp]
    simp
    omega
end Dr
set_option maxHeartbeats 4000000
namespace Dr
open PySem PySem.Spec PyProof.Rows L2 DD M72
local macro_rules | `(tactic| walk_at "ddcv") => `(tactic| fail)
local macro_rules | `(tactic| walk_at "ddev") => `(tactic| (repeat' (first | (show (_ : Prop); with_reducible assumption) | ((with_reducible apply ev_v) <;> rfl) | ((with_reducible apply ev_vo) <;> rfl) | ((with_reducible apply ev_rd) <;> rfl) | ((with_reducible apply ev_rdo) <;> rfl) | ((with_reducible apply ev_take) <;> rfl) | ((with_reducible apply ev_rdb) <;> rfl) | with_reducible exact ev_c | with_reducible exact av_nil | with_reducible exact pv_none | with_reducible exact ov_add | with_reducible exact ov_sub | with_reducible exact ov_lt | with_reducible exact ov_le | with_reducible exact ov_gt | with_reducible exact ov_ge | with_reducible exact ov_eqi | with_reducible exact ov_nei | with_reducible exact ov_isN | with_reducible exact ov_isntN | with_reducible exact ov_isB | with_reducible exact ov_isntB | with_reducible exact uv_lenL | with_reducible exact uv_lenT | with_reducible exact uv_lenR | with_reducible exact uv_int | with_reducible exact uv_intB | with_reducible exact uv_abs | with_reducible exact uv_tupL | with_reducible exact uv_tupT | with_reducible exact uv_lstL | with_reducible exact uv_lstT | with_reducible exact uv_isi rfl | with_reducible exact nv_min2 | with_reducible exact nv_max2 | with_reducible exact gv_name | with_reducible exact gv_nil | with_reducible exact mv_nil | with_reducible exact ov_addI | with_reducible exact plT2 | with_reducible exact plL_ints _ | with_reducible exact plT_ints _ | with_reducible exact pl_int | with_reducible exact pl_part | with_reducible exact pl_money | with_reducible exact pl_same | with_reducible exact pl_two | ((with_reducible apply iv_zsL) <;> rfl) | ((with_reducible apply iv_zsT) <;> rfl) | ((with_reducible apply iv_zvLL) <;> rfl) | ((with_reducible apply iv_zvTT) <;> rfl) | ((with_reducible apply iv_zvLT) <;> rfl) | ((with_reducible apply iv_zvTL) <;> rfl) | ((with_reducible apply av_stTv); rfl) | ((with_reducible apply av_stLv); rfl) | ((with_reducible apply av_stLo); rfl) | ((with_reducible apply ev_slv); rfl) | ((with_reducible apply ev_ixv); rfl) | ((with_reducible apply ev_ixvo); rfl) | ((with_reducible apply ev_ixvb); rfl; rfl) | ((with_reducible apply iv_itT); (with_reducible apply ev_v); rfl) | ((with_reducible apply iv_itT); (with_reducible apply ev_vo); rfl) | ((with_reducible apply iv_itL); (with_reducible apply ev_v); rfl) | ((with_reducible apply iv_itL); (with_reducible apply ev_vo); rfl) | ((with_reducible apply iv_enumT); (with_reducible apply ev_v); rfl) | ((with_reducible apply iv_enumT); (with_reducible apply ev_vo); rfl) | ((with_reducible apply iv_enumL); (with_reducible apply ev_v); rfl) | ((with_reducible apply iv_enumL); (with_reducible apply ev_vo); rfl) | with_reducible apply ev_bin | with_reducible apply ev_c1 | with_reducible apply ev_cn | with_reducible apply ev_tup | with_reducible apply ev_lst | with_reducible apply ev_andV | with_reducible apply ev_orV | with_reducible apply ev_notV | with_reducible apply ev_chain | with_reducible apply ev_call1 | with_reducible apply ev_call2 | with_reducible apply ev_call3 | with_reducible apply ev_call4 | with_reducible apply ev_lc | with_reducible apply av_cons | with_reducible apply tv_tst | with_reducible apply tv_and | with_reducible apply tv_or | with_reducible apply tv_not | with_reducible apply pv_some | with_reducible apply ov_ixT | with_reducible apply ov_ixL | with_reducible apply ov_ixR | with_reducible apply iv_itT | with_reducible apply iv_itL | with_reducible apply iv_enumT | with_reducible apply iv_enumL | with_reducible apply iv_zipTT | with_reducible apply iv_rng1 | with_reducible apply iv_rng2 | with_reducible apply gv_tup | with_reducible apply gv_cons | with_reducible apply ls_yes | with_reducible apply lf_of | with_reducible apply ov_addT | with_reducible apply ov_fdiv | with_reducible apply ov_mod | with_reducible apply ov_pow | with_reducible apply uv_sum | with_reducible apply uv_sumR | with_reducible apply uv_sumT | with_reducible apply uv_all | with_reducible apply uv_any | with_reducible apply ov_mul | with_reducible apply ov_eq | with_reducible apply ov_ne | with_reducible apply mv_sh | with_reducible apply mv_ow | with_reducible apply ev_mulL | with_reducible apply ev_lrg1 | with_reducible apply ev_neg | with_reducible apply ov_addL | with_reducible apply ov_mulT | with_reducible apply av_starL | with_reducible apply ov_addI | with_reducible apply iv_rng1 | with_reducible apply uv_lsetT | with_reducible apply uv_lsetL | with_reducible apply ov_inL | with_reducible apply ov_ninL | with_reducible apply uv_sortL | with_reducible apply uv_sortT | with_reducible apply ev_ifE | ((with_reducible show CV _ _ _ _ _); assumption) | walk_at "ddcv" | with_reducible exact atI_0 | with_reducible exact atI_1 | with_reducible exact atI_2 | (show (_ : Prop); with_reducible rfl) | ((with_reducible show (_ : DV) = _); dsimp only [Function.comp]; done) | ((with_reducible show (_ : DV) = _); simp only [Function.comp, Int.natCast_add, Int.natCast_mul]; done) | ((with_reducible show (_ : Pst) = _); rfl) | ((with_reducible show List.length _ = _); rfl) | ((with_reducible show List.length _ ≤ sizeLine); simp only [List.length_cons, List.length_nil, Nat.reduceAdd]; decide) | with_reducible intro _ | ((with_reducible apply noown_ok); rfl))))
abbrev rdD (r : Rd) : DV := .tup [.int (r.1 : Int), .int r.2]
abbrev rsD (rs : List Rd) : DV := .tup (rs.map rdD)
abbrev psD (P : List Int) : DV := .tup (P.map .int)
structure Prof (N : Nat) (P : List Int) : Prop where
  len : P.length = N
  n1 : 2 ≤ N
  n2 : N ≤ 60
  ok : ∀ w ∈ P, 0 ≤ w ∧ w ≤ 10000
theorem Prof.nn {N : Nat} {P : List Int} (h : Prof N P) : ∀ w ∈ P, 0 ≤ w := fun w hw => (h.ok w hw).1
structure RVK (N : Nat) (rs : List Rd) : Prop where
  rv : RV N rs
  few : rs.length ≤ 20
theorem RVK.map {N : Nat} {rs : List Rd} (h : RVK N rs) (n : Nat) (hn : 20 ≤ n) : rs.length ≤ n := Nat.le_trans h.few hn
theorem sz20 : 20 ≤ sizeLine := by decide
theorem cv_rd {r : Rd} {lo hi : Int} : CV c_are_ints [.sh (rdD r), .sh (.int lo), .sh (.int hi)] [] (.bl ([(r.1 : Int), r.2].all fun v => decide (lo ≤ v) && decide (v ≤ hi))) [] := cv_are_ints (vs := [(r.1 : Int), r.2]) (by simp)
local macro_rules | `(tactic| walk_at "ddcv") => `(tactic| (first | ((with_reducible show CV c_is_int _ _ _ _); exact cv_is_int) | ((with_reducible show CV c_are_ints _ _ _ _); exact cv_rd) | ((with_reducible show CV c_are_ints _ _ _ _); exact cv_are_ints (by omega)) | ((with_reducible show CV c_is_rising _ _ _ _); exact cv_is_rising (by assumption) (by assumption))))
theorem cv_look_at_profile {N : Nat} {P : List Int} (h : Prof N P) : CV c_look_at_profile [.sh (psD P)] [] .non [] := by
  have h1 := h.n1
  have h2 := h.n2
  have h3 := h.len
  have hl : P.length ≤ 1000 := by omega
  refine cv_body fun e hr hn => ?_
  unfold t_look_at_profile
  dsimp only [List.length_cons, List.length_nil, Nat.reduceSub, Nat.reduceAdd, List.replicate, List.cons_append, List.nil_append, List.append_nil, Pst.put, List.set_cons_zero, List.set_cons_succ, Pst.upL, Pst.own, List.getElem?_cons_zero, List.getElem?_cons_succ]
  apply s_if
  · walk_at "ddev"
  · intro hc
    exfalso
    have : (P.all fun v => decide (0 ≤ v) && decide (v ≤ 10000)) = true := List.all_eq_true.mpr fun w hw => by simpa using h.ok w hw
    rw [this] at hc
    simp [h3] at hc
    omega
  intro _
  exact hn rfl _ rfl
theorem hours_pw {rs : List Rd} (h : Rok rs) : (rs.map fun r => (r.1 : Int)).Pairwise (· < ·) := by
  rw [List.pairwise_map]
  exact h.imp fun h => by omega
theorem rok_zip {rs : List Rd} (h : Rok rs) : ∀ p ∈ rs.zip rs.tail, p.1.2 ≤ p.2.2 := by
  induction rs with
  | nil => intro p hp; simp at hp
  | cons a l ih =>
    intro p hp
    obtain ⟨h1, h2⟩ := List.pairwise_cons.mp h
    cases l with
    | nil => simp at hp
    | cons b l =>
      simp only [List.tail_cons, List.zip_cons_cons] at hp
      rcases List.mem_cons.mp hp with rfl | hp
      · exact (h1 _ List.mem_cons_self).2
      · exact ih h2 p hp
theorem cv_are_counts {N : Nat} {rs : List Rd} (hN : N ≤ 60) (h : RVK N rs) : CV c_are_counts [.sh (rsD rs), .sh (.int N)] [] (.bl true) [] := by
  have hf := h.few
  have hne := h.rv.ne
  have hpos : 1 ≤ rs.length := List.length_pos_iff.mpr hne
  have hr1 : (rs.map fun r => (r.1 : Int)).length ≤ 1000 := by rw [List.length_map]; omega
  have hr2 := hours_pw h.rv.ok
  refine cv_body fun e hr hn => ?_
  unfold t_are_counts
  dsimp only [List.length_cons, List.length_nil, Nat.reduceSub, Nat.reduceAdd, List.replicate, List.cons_append, List.nil_append, List.append_nil, Pst.put, List.set_cons_zero, List.set_cons_succ, Pst.upL, Pst.own, List.getElem?_cons_zero, List.getElem?_cons_succ]
  refine s_seq ?_
  apply s_if
  · walk_at "ddev"
  · intro hc
    exfalso
    simp [DV.isTup] at hc
    omega
  intro _
  refine s_skip ?_
  dsimp only
  refine s_seq ?_
  apply s_if
  · walk_at "ddev"
    · refine lv_map (xs := rs) rdD (DV.bl ∘ fun _ => true) (fun r => [.sh (rsD rs), .sh (.int N), .sh (rdD r), .un, .un, .un, .un]) (fun r hr => ?_) (fun _ _ => rfl) (Nat.le_trans hf sz20) rfl List.map_map
      walk_at "ddev"
      have := h.rv.le r hr
      simp
      omega
  · intro hc
    exfalso
    simp at hc
  intro _
  refine s_skip ?_
  dsimp only
  refine s_seq ?_
  apply s_if
  · apply tv_not
    apply tv_tst
    apply ev_call
    · walk_at "ddev"
      · refine lv_map (xs := rs) rdD (DV.int ∘ fun r => (r.1 : Int)) (fun r => [.sh (rsD rs), .sh (.int N), .un, .sh (.int r.1), .sh (.int r.2), .un, .un]) (fun r hr => ?_) (fun _ _ => rfl) (Nat.le_trans hf sz20) rfl List.map_map
        walk_at "ddev"
    · rfl
    · exact cv_is_rising hr1 hr2
  · intro hc
    cases hc
  intro _
  refine s_skip ?_
  dsimp only
  refine s_ret ?_
  apply EV.use
  · walk_at "ddev"
    · refine lv_map (xs := rs.zip rs.tail) (fun p => .tup [rdD p.1, rdD p.2]) (DV.bl ∘ fun p => decide (p.1.2 ≤ p.2.2)) (fun p => [.sh (rsD rs), .sh (.int N), .un, .un, .un, .sh (rdD p.1), .sh (rdD p.2)]) (fun p hp => ?_) (fun _ _ => rfl) (by rw [List.length_zip]; exact Nat.le_trans (Nat.min_le_left _ _) (Nat.le_trans hf sz20)) ?_ List.map_map
      · walk_at "ddev"
      · rw [← List.map_tail, zipD_maps]
  · refine hr_of hr rfl ?_
    congr 1
    rw [List.all_map, List.all_eq_true]
    intro p hp
    simpa using rok_zip h.rv.ok p hp
local macro_rules | `(tactic| walk_at "ddcv") => `(tactic| (first | ((with_reducible show CV c_look_at_profile _ _ _ _); exact cv_look_at_profile (by assumption)) | ((with_reducible show CV c_are_counts _ _ _ _); exact cv_are_counts (by omega) (by assumption))))
theorem cv_look_at_estimated {N : Nat} {P : List Int} {rs : List Rd} (hP : Prof N P) (h : RVK N rs) : CV c_look_at_estimated [.sh (psD P), .sh (rsD rs)] [] .non [] := by
  have h2 := hP.n2
  have hl : (P.map DV.int).length = N := by rw [List.length_map]; exact hP.len
  have hac : CV c_are_counts [.sh (rsD rs), .sh (.int (P.map DV.int).length)] [] (.bl true) [] := by rw [hl]; exact cv_are_counts h2 h
  refine cv_body fun e hr hn => ?_
  unfold t_look_at_estimated
  dsimp only [List.length_cons, List.length_nil, Nat.reduceSub, Nat.reduceAdd, List.replicate, List.cons_append, List.nil_append, List.append_nil, Pst.put, List.set_cons_zero, List.set_cons_succ, Pst.upL, Pst.own, List.getElem?_cons_zero, List.getElem?_cons_succ]
  refine s_seq (s_expr ?_)
  apply EV.use
  · walk_at "ddev"
  dsimp only
  apply s_if
  · walk_at "ddev"
  · intro hc
    cases hc
  intro _
  exact hn rfl _ rfl
end Dr
set_option maxHeartbeats 4000000
namespace Dr
open PySem PySem.Spec PyProof.Rows L2 DD M72
local macro_rules | `(tactic| walk_at "ddcv") => `(tactic| fail)
local macro_rules | `(tactic| walk_at "ddev") => `(tactic| (repeat' (first | (show (_ : Prop); with_reducible assumption) | ((with_reducible apply ev_v) <;> rfl) | ((with_reducible apply ev_vo) <;> rfl) | ((with_reducible apply ev_rd) <;> rfl) | ((with_reducible apply ev_rdo) <;> rfl) | ((with_reducible apply ev_take) <;> rfl) | ((with_reducible apply ev_rdb) <;> rfl) | with_reducible exact ev_c | with_reducible exact av_nil | with_reducible exact pv_none | with_reducible exact ov_add | with_reducible exact ov_sub | with_reducible exact ov_lt | with_reducible exact ov_le | with_reducible exact ov_gt | with_reducible exact ov_ge | with_reducible exact ov_eqi | with_reducible exact ov_nei | with_reducible exact ov_isN | with_reducible exact ov_isntN | with_reducible exact ov_isB | with_reducible exact ov_isntB | with_reducible exact uv_lenL | with_reducible exact uv_lenT | with_reducible exact uv_lenR | with_reducible exact uv_int | with_reducible exact uv_intB | with_reducible exact uv_abs | with_reducible exact uv_tupL | with_reducible exact uv_tupT | with_reducible exact uv_lstL | with_reducible exact uv_lstT | with_reducible exact uv_isi rfl | with_reducible exact nv_min2 | with_reducible exact nv_max2 | with_reducible exact gv_name | with_reducible exact gv_nil | with_reducible exact mv_nil | with_reducible exact ov_addI | with_reducible exact plT2 | with_reducible exact plL_ints _ | with_reducible exact plT_ints _ | with_reducible exact pl_int | with_reducible exact pl_part | with_reducible exact pl_money | with_reducible exact pl_same | with_reducible exact pl_two | ((with_reducible apply iv_zsL) <;> rfl) | ((with_reducible apply iv_zsT) <;> rfl) | ((with_reducible apply iv_zvLL) <;> rfl) | ((with_reducible apply iv_zvTT) <;> rfl) | ((with_reducible apply iv_zvLT) <;> rfl) | ((with_reducible apply iv_zvTL) <;> rfl) | ((with_reducible apply av_stTv); rfl) | ((with_reducible apply av_stLv); rfl) | ((with_reducible apply av_stLo); rfl) | ((with_reducible apply ev_slv); rfl) | ((with_reducible apply ev_ixv); rfl) | ((with_reducible apply ev_ixvo); rfl) | ((with_reducible apply ev_ixvb); rfl; rfl) | ((with_reducible apply iv_itT); (with_reducible apply ev_v); rfl) | ((with_reducible apply iv_itT); (with_reducible apply ev_vo); rfl) | ((with_reducible apply iv_itL); (with_reducible apply ev_v); rfl) | ((with_reducible apply iv_itL); (with_reducible apply ev_vo); rfl) | ((with_reducible apply iv_enumT); (with_reducible apply ev_v); rfl) | ((with_reducible apply iv_enumT); (with_reducible apply ev_vo); rfl) | ((with_reducible apply iv_enumL); (with_reducible apply ev_v); rfl) | ((with_reducible apply iv_enumL); (with_reducible apply ev_vo); rfl) | with_reducible apply ev_bin | with_reducible apply ev_c1 | with_reducible apply ev_cn | with_reducible apply ev_tup | with_reducible apply ev_lst | with_reducible apply ev_andV | with_reducible apply ev_orV | with_reducible apply ev_notV | with_reducible apply ev_chain | with_reducible apply ev_call1 | with_reducible apply ev_call2 | with_reducible apply ev_call3 | with_reducible apply ev_call4 | with_reducible apply ev_lc | with_reducible apply av_cons | with_reducible apply tv_tst | with_reducible apply tv_and | with_reducible apply tv_or | with_reducible apply tv_not | with_reducible apply pv_some | with_reducible apply ov_ixT | with_reducible apply ov_ixL | with_reducible apply ov_ixR | with_reducible apply iv_itT | with_reducible apply iv_itL | with_reducible apply iv_enumT | with_reducible apply iv_enumL | with_reducible apply iv_zipTT | with_reducible apply iv_rng1 | with_reducible apply iv_rng2 | with_reducible apply gv_tup | with_reducible apply gv_cons | with_reducible apply ls_yes | with_reducible apply lf_of | with_reducible apply ov_addT | with_reducible apply ov_fdiv | with_reducible apply ov_mod | with_reducible apply ov_pow | with_reducible apply uv_sum | with_reducible apply uv_sumR | with_reducible apply uv_sumT | with_reducible apply uv_all | with_reducible apply uv_any | with_reducible apply ov_mul | with_reducible apply ov_eq | with_reducible apply ov_ne | with_reducible apply mv_sh | with_reducible apply mv_ow | with_reducible apply ev_mulL | with_reducible apply ev_lrg1 | with_reducible apply ev_neg | with_reducible apply ov_addL | with_reducible apply ov_mulT | with_reducible apply av_starL | with_reducible apply ov_addI | with_reducible apply iv_rng1 | with_reducible apply uv_lsetT | with_reducible apply uv_lsetL | with_reducible apply ov_inL | with_reducible apply ov_ninL | with_reducible apply uv_sortL | with_reducible apply uv_sortT | with_reducible apply ev_ifE | ((with_reducible show CV _ _ _ _ _); assumption) | walk_at "ddcv" | with_reducible exact atI_0 | with_reducible exact atI_1 | with_reducible exact atI_2 | (show (_ : Prop); with_reducible rfl) | ((with_reducible show (_ : DV) = _); dsimp only [Function.comp]; done) | ((with_reducible show (_ : DV) = _); simp only [Function.comp, Int.natCast_add, Int.natCast_mul]; done) | ((with_reducible show (_ : Pst) = _); rfl) | ((with_reducible show List.length _ = _); rfl) | ((with_reducible show List.length _ ≤ sizeLine); simp only [List.length_cons, List.length_nil, Nat.reduceAdd]; decide) | with_reducible intro _ | ((with_reducible apply noown_ok); rfl))))
local macro_rules | `(tactic| walk_at "ddcv") => `(tactic| (first | ((with_reducible show CV c_is_int _ _ _ _); exact cv_is_int) | ((with_reducible show CV c_are_ints _ _ _ _); exact cv_rd) | ((with_reducible show CV c_are_ints _ _ _ _); exact cv_are_ints (by omega)) | ((with_reducible show CV c_is_rising _ _ _ _); exact cv_is_rising (by assumption) (by assumption)) | ((with_reducible show CV c_look_at_profile _ _ _ _); exact cv_look_at_profile (by assumption)) | ((with_reducible show CV c_are_counts _ _ _ _); exact cv_are_counts (by omega) (by assumption)) | ((with_reducible show CV c_look_at_estimated _ _ _ _); exact cv_look_at_estimated (by assumption) (by assumption))))
theorem hr_d {e : ED} {d : DV} {b : List DV} (h : ∀ p, p.bor = b → e.rt d p) {p : Pst} (hp : p.bor = b) {d' : DV} (hd : d' = d) : e.rt d' p := by subst hd; exact h p hp
theorem mem_le_sum {l : List Int} (h : ∀ w ∈ l, 0 ≤ w ∧ w ≤ 10000) : l.sum ≤ l.length * 10000 := by
  induction l with
  | nil => simp
  | cons a l ih =>
    have := h a List.mem_cons_self
    have := ih fun w hw => h w (List.mem_cons_of_mem _ hw)
    simp only [List.sum_cons, List.length_cons, Int.natCast_add]
    omega
theorem cv_told_gap {N : Nat} {P : List Int} {r q : Rd} (hP : Prof N P) (h1 : r.1 < q.1) (h2 : q.1 ≤ N) (h3 : 0 ≤ r.2) (h4 : r.2 ≤ q.2) (h5 : q.2 ≤ 10000) : CV c_told_gap [.sh (psD P), .sh (rdD r), .sh (rdD q)] [] (.lst ((gap P r q).map .int)) [] := by
  have hN := hP.n2
  have hPl := hP.len
  obtain ⟨W, hW⟩ : ∃ W, (P.drop r.1).take (q.1 - r.1) = W := ⟨_, rfl⟩
  have hWl : W.length = q.1 - r.1 := by rw [← hW, List.length_take, List.length_drop]; omega
  have hWb : ∀ w ∈ W, 0 ≤ w ∧ w ≤ 10000 := fun w hw => hP.ok w (List.mem_of_mem_drop (List.mem_of_mem_take (by rw [hW]; exact hw)))
  have hWs := mem_le_sum hWb
  have hW0 : 0 ≤ W.sum := sum_nn fun w hw => (hWb w hw).1
  refine cv_body fun e hr hn => ?_
  unfold t_told_gap
  dsimp only [List.length_cons, List.length_nil, Nat.reduceSub, Nat.reduceAdd, List.replicate, List.cons_append, List.nil_append, List.append_nil, Pst.put, List.set_cons_zero, List.set_cons_succ, Pst.upL, Pst.own, List.getElem?_cons_zero, List.getElem?_cons_succ]
  refine s_seq (s_asg ?_)
  apply EV.use
  · walk_at "ddev"
  apply gv_use
  · walk_at "ddev"
  dsimp only [List.length_cons, List.length_nil, Nat.reduceSub, Nat.reduceAdd, List.replicate, List.cons_append, List.nil_append, List.append_nil, Pst.put, List.set_cons_zero, List.set_cons_succ, Pst.upL, Pst.own, List.getElem?_cons_zero, List.getElem?_cons_succ]
  refine s_seq (s_set ?_)
  apply EV.use
  · walk_at "ddev"
    exact sl_T (ys := W.map .int) (by rw [cutD_mapD, cutD_nat P r.1 q.1 (by omega) (by omega), hW]) _ (by assumption)
  dsimp only [List.length_cons, List.length_nil, Nat.reduceSub, Nat.reduceAdd, List.replicate, List.cons_append, List.nil_append, List.append_nil, Pst.put, List.set_cons_zero, List.set_cons_succ, Pst.upL, Pst.own, List.getElem?_cons_zero, List.getElem?_cons_succ]
  refine s_seq (s_par ?_)
  apply MV.use
  · walk_at "ddev"
  refine ⟨rfl, ?_⟩
  dsimp only [putM, List.length_cons, List.length_nil, Nat.reduceSub, Nat.reduceAdd, List.replicate, List.cons_append, List.nil_append, List.append_nil, Pst.put, List.set_cons_zero, List.set_cons_succ, Pst.upL, Pst.own, List.getElem?_cons_zero, List.getElem?_cons_succ]
  refine s_seq (s_for ?_)
  apply iv_use
  · walk_at "ddev"
  have key : ∀ (e2 : ED), (∀ s11 s12 s13, e2.nx ⟨[.sh (psD P), .sh (rdD r), .sh (rdD q), .sh (.int r.1), .sh (.int r.2), .sh (.int q.1), .sh (.int q.2), .sh (.tup (W.map .int)), .sh (.int W.sum), .ow (.lst ((gap P r q).map .int)), .sh (.int W.sum), s11, s12, s13], []⟩) →
      ∀ (W2 W1 : List Int) (s11 s12 s13 : Sl), W1 ++ W2 = W → forD (g_tup 2 (g_cons (g_name 11) (g_cons (g_name 12) g_nil))) L_told_gap_1 (enumD W1.length (W2.map .int)) e2
      ⟨[.sh (psD P), .sh (rdD r), .sh (rdD q), .sh (.int r.1), .sh (.int r.2), .sh (.int q.1), .sh (.int q.2), .sh (.tup (W.map .int)), .sh (.int W.sum), .ow (.lst (((List.range W1.length).map fun a => r.2 + part W (q.1 - r.1) (q.2 - r.2) a).map .int)), .sh (.int W1.sum), s11, s12, s13], []⟩ := by
    intro e2 he W2
    induction W2 with
    | nil =>
      intro W1 s11 s12 s13 hE
      rw [List.append_nil] at hE
      subst hE
      refine forD_nil ?_
      have := he s11 s12 s13
      rw [show gap P r q = (List.range W1.length).map fun a => r.2 + part W1 (q.1 - r.1) (q.2 - r.2) a by unfold gap; rw [hW, hWl]] at this
      exact this
    | cons w W2 ih =>
      intro W1 s11 s12 s13 hE
      have hk : W1.length < q.1 - r.1 := by rw [← hWl, ← hE]; simp
      have hW1 : ∀ w ∈ W1, 0 ≤ w ∧ w ≤ 10000 := fun x hx => hWb x (by rw [← hE]; exact List.mem_append_left _ hx)
      have hs1 := mem_le_sum hW1
      have hs0 : 0 ≤ W1.sum := sum_nn fun w hw => (hW1 w hw).1
      have htk : W.take W1.length = W1 := by rw [← hE]; simp
      refine forD_cons ?_
      apply gv_use
      · walk_at "ddev"
      unfold L_told_gap_1
      dsimp only [List.length_cons, List.length_nil, Nat.reduceSub, Nat.reduceAdd, List.replicate, List.cons_append, List.nil_append, List.append_nil, Pst.put, List.set_cons_zero, List.set_cons_succ, Pst.upL, Pst.own, List.getElem?_cons_zero, List.getElem?_cons_succ]
      refine s_seq (s_set ?_)
      refine EV.use (d := .int (part W (q.1 - r.1) (q.2 - r.2) W1.length)) (p' := ⟨[.sh (psD P), .sh (rdD r), .sh (rdD q), .sh (.int r.1), .sh (.int r.2), .sh (.int q.1), .sh (.int q.2), .sh (.tup (W.map .int)), .sh (.int W.sum), .ow (.lst (((List.range W1.length).map fun a => r.2 + part W (q.1 - r.1) (q.2 - r.2) a).map .int)), .sh (.int W1.sum), .sh (.int W1.length), .sh (.int w), s13], []⟩) ?_ ?_
      · refine ev_as (ev_ifE (k := decide (0 < W.sum)) (x := .int ((q.2 - r.2) * W1.sum / W.sum)) (y := .int ((q.2 - r.2) * (W1.length : Int) / ((q.1 : Int) - r.1))) (p1 := ⟨[.sh (psD P), .sh (rdD r), .sh (rdD q), .sh (.int r.1), .sh (.int r.2), .sh (.int q.1), .sh (.int q.2), .sh (.tup (W.map .int)), .sh (.int W.sum), .ow (.lst (((List.range W1.length).map fun a => r.2 + part W (q.1 - r.1) (q.2 - r.2) a).map .int)), .sh (.int W1.sum), .sh (.int W1.length), .sh (.int w), s13], []⟩) ?_ (fun hc => ?_) (fun hc => ?_)) (x := .int (part W (q.1 - r.1) (q.2 - r.2) W1.length)) ?_
        · walk_at "ddev"
        · walk_at "ddev"
          · exact mulx_ok (a := 20) (b := 20) (by omega) (by omega) (by decide)
          · exact wide_div (b := 20) (by simpa using hc) (by omega) (by decide) (by decide)
        · walk_at "ddev"
          · exact mulx_ok (a := 20) (b := 20) (by omega) (by omega) (by decide)
          · exact wide_div (b := 20) (by omega) (by omega) (by decide) (by decide)
        · unfold M72.part
          rw [htk]
          have e1 : ((q.1 - r.1 : Nat) : Int) = (q.1 : Int) - r.1 := by omega
          rw [e1]
          by_cases hc : W.sum > 0
          · rw [if_pos hc, if_pos (decide_eq_true hc)]
          · rw [if_neg hc, if_neg (by simpa using hc)]
      dsimp only [List.length_cons, List.length_nil, Nat.reduceSub, Nat.reduceAdd, List.replicate, List.cons_append, List.nil_append, List.append_nil, Pst.put, List.set_cons_zero, List.set_cons_succ, Pst.upL, Pst.own, List.getElem?_cons_zero, List.getElem?_cons_succ]
      refine s_seq (s_expr ?_)
      apply EV.use
      · apply ev_app
        · rfl
        · walk_at "ddev"
        · simp only [List.length_map, List.length_range]; exact Nat.lt_of_lt_of_le (show W1.length < 1000 by omega) (by decide)
      dsimp only [List.length_cons, List.length_nil, Nat.reduceSub, Nat.reduceAdd, List.replicate, List.cons_append, List.nil_append, List.append_nil, Pst.put, List.set_cons_zero, List.set_cons_succ, Pst.upL, Pst.own, List.getElem?_cons_zero, List.getElem?_cons_succ]
      refine s_aug rfl ?_
      apply EV.use
      · walk_at "ddev"
      refine ov_addI _ ?_
      dsimp only [List.length_cons, List.length_nil, Nat.reduceSub, Nat.reduceAdd, List.replicate, List.cons_append, List.nil_append, List.append_nil, Pst.put, List.set_cons_zero, List.set_cons_succ, Pst.upL, Pst.own, List.getElem?_cons_zero, List.getElem?_cons_succ]
      have := ih (W1 ++ [w]) (.sh (.int W1.length)) (.sh (.int w)) (.sh (.int (part W (q.1 - r.1) (q.2 - r.2) W1.length))) (by rw [List.append_assoc]; exact hE)
      rw [List.length_append, List.length_singleton, List.range_succ, List.sum_append, List.map_append, List.map_append] at this
      simp only [List.map_cons, List.map_nil, List.sum_cons, List.sum_nil, Int.add_zero] at this
      exact this
  refine key _ (fun s11 s12 s13 => ?_) W [] .un .un .un rfl
  dsimp only
  refine s_ret ?_
  apply EV.use
  · walk_at "ddev"
  exact hr _ rfl
end Dr
set_option maxHeartbeats 4000000
namespace Dr
open PySem PySem.Spec PyProof.Rows L2 DD M72
local macro_rules | `(tactic| walk_at "ddcv") => `(tactic| fail)
local macro_rules | `(tactic| walk_at "ddev") => `(tactic| (repeat' (first | (show (_ : Prop); with_reducible assumption) | ((with_reducible apply ev_v) <;> rfl) | ((with_reducible apply ev_vo) <;> rfl) | ((with_reducible apply ev_rd) <;> rfl) | ((with_reducible apply ev_rdo) <;> rfl) | ((with_reducible apply ev_take) <;> rfl) | ((with_reducible apply ev_rdb) <;> rfl) | with_reducible exact ev_c | with_reducible exact av_nil | with_reducible exact pv_none | with_reducible exact ov_add | with_reducible exact ov_sub | with_reducible exact ov_lt | with_reducible exact ov_le | with_reducible exact ov_gt | with_reducible exact ov_ge | with_reducible exact ov_eqi | with_reducible exact ov_nei | with_reducible exact ov_isN | with_reducible exact ov_isntN | with_reducible exact ov_isB | with_reducible exact ov_isntB | with_reducible exact uv_lenL | with_reducible exact uv_lenT | with_reducible exact uv_lenR | with_reducible exact uv_int | with_reducible exact uv_intB | with_reducible exact uv_abs | with_reducible exact uv_tupL | with_reducible exact uv_tupT | with_reducible exact uv_lstL | with_reducible exact uv_lstT | with_reducible exact uv_isi rfl | with_reducible exact nv_min2 | with_reducible exact nv_max2 | with_reducible exact gv_name | with_reducible exact gv_nil | with_reducible exact mv_nil | with_reducible exact ov_addI | with_reducible exact plT2 | with_reducible exact plL_ints _ | with_reducible exact plT_ints _ | with_reducible exact pl_int | with_reducible exact pl_part | with_reducible exact pl_money | with_reducible exact pl_same | with_reducible exact pl_two | ((with_reducible apply iv_zsL) <;> rfl) | ((with_reducible apply iv_zsT) <;> rfl) | ((with_reducible apply iv_zvLL) <;> rfl) | ((with_reducible apply iv_zvTT) <;> rfl) | ((with_reducible apply iv_zvLT) <;> rfl) | ((with_reducible apply iv_zvTL) <;> rfl) | ((with_reducible apply av_stTv); rfl) | ((with_reducible apply av_stLv); rfl) | ((with_reducible apply av_stLo); rfl) | ((with_reducible apply ev_slv); rfl) | ((with_reducible apply ev_ixv); rfl) | ((with_reducible apply ev_ixvo); rfl) | ((with_reducible apply ev_ixvb); rfl; rfl) | ((with_reducible apply iv_itT); (with_reducible apply ev_v); rfl) | ((with_reducible apply iv_itT); (with_reducible apply ev_vo); rfl) | ((with_reducible apply iv_itL); (with_reducible apply ev_v); rfl) | ((with_reducible apply iv_itL); (with_reducible apply ev_vo); rfl) | ((with_reducible apply iv_enumT); (with_reducible apply ev_v); rfl) | ((with_reducible apply iv_enumT); (with_reducible apply ev_vo); rfl) | ((with_reducible apply iv_enumL); (with_reducible apply ev_v); rfl) | ((with_reducible apply iv_enumL); (with_reducible apply ev_vo); rfl) | with_reducible apply ev_bin | with_reducible apply ev_c1 | with_reducible apply ev_cn | with_reducible apply ev_tup | with_reducible apply ev_lst | with_reducible apply ev_andV | with_reducible apply ev_orV | with_reducible apply ev_notV | with_reducible apply ev_chain | with_reducible apply ev_call1 | with_reducible apply ev_call2 | with_reducible apply ev_call3 | with_reducible apply ev_call4 | with_reducible apply ev_lc | with_reducible apply av_cons | with_reducible apply tv_tst | with_reducible apply tv_and | with_reducible apply tv_or | with_reducible apply tv_not | with_reducible apply pv_some | with_reducible apply ov_ixT | with_reducible apply ov_ixL | with_reducible apply ov_ixR | with_reducible apply iv_itT | with_reducible apply iv_itL | with_reducible apply iv_enumT | with_reducible apply iv_enumL | with_reducible apply iv_zipTT | with_reducible apply iv_rng1 | with_reducible apply iv_rng2 | with_reducible apply gv_tup | with_reducible apply gv_cons | with_reducible apply ls_yes | with_reducible apply lf_of | with_reducible apply ov_addT | with_reducible apply ov_fdiv | with_reducible apply ov_mod | with_reducible apply ov_pow | with_reducible apply uv_sum | with_reducible apply uv_sumR | with_reducible apply uv_sumT | with_reducible apply uv_all | with_reducible apply uv_any | with_reducible apply ov_mul | with_reducible apply ov_eq | with_reducible apply ov_ne | with_reducible apply mv_sh | with_reducible apply mv_ow | with_reducible apply ev_mulL | with_reducible apply ev_lrg1 | with_reducible apply ev_neg | with_reducible apply ov_addL | with_reducible apply ov_mulT | with_reducible apply av_starL | with_reducible apply ov_addI | with_reducible apply iv_rng1 | with_reducible apply uv_lsetT | with_reducible apply uv_lsetL | with_reducible apply ov_inL | with_reducible apply ov_ninL | with_reducible apply uv_sortL | with_reducible apply uv_sortT | with_reducible apply ev_ifE | ((with_reducible show CV _ _ _ _ _); assumption) | walk_at "ddcv" | with_reducible exact atI_0 | with_reducible exact atI_1 | with_reducible exact atI_2 | (show (_ : Prop); with_reducible rfl) | ((with_reducible show (_ : DV) = _); dsimp only [Function.comp]; done) | ((with_reducible show (_ : DV) = _); simp only [Function.comp, Int.natCast_add, Int.natCast_mul]; done) | ((with_reducible show (_ : Pst) = _); rfl) | ((with_reducible show List.length _ = _); rfl) | ((with_reducible show List.length _ ≤ sizeLine); simp only [List.length_cons, List.length_nil, Nat.reduceAdd]; decide) | with_reducible intro _ | ((with_reducible apply noown_ok); rfl))))
local macro_rules | `(tactic| walk_at "ddcv") => `(tactic| (first | ((with_reducible show CV c_is_int _ _ _ _); exact cv_is_int) | ((with_reducible show CV c_are_ints _ _ _ _); exact cv_rd) | ((with_reducible show CV c_are_ints _ _ _ _); exact cv_are_ints (by omega)) | ((with_reducible show CV c_is_rising _ _ _ _); exact cv_is_rising (by assumption) (by assumption)) | ((with_reducible show CV c_look_at_profile _ _ _ _); exact cv_look_at_profile (by assumption)) | ((with_reducible show CV c_are_counts _ _ _ _); exact cv_are_counts (by omega) (by assumption)) | ((with_reducible show CV c_look_at_estimated _ _ _ _); exact cv_look_at_estimated (by assumption) (by assumption))))
theorem tc_len_le {N : Nat} {P : List Int} {rs : List Rd} (h : RVK N rs) : (tc P rs).length = N + 1 := h.rv.len P
theorem cv_told_counts {N : Nat} {P : List Int} {rs : List Rd} (hP : Prof N P) (h : RVK N rs) : CV c_told_counts [.sh (psD P), .sh (rsD rs)] [] (.lst ((tc P rs).map .int)) [] := by
  have hN := hP.n2
  have htc := h.rv.len P
  have hne := h.rv.ne
  refine cv_body fun e hr hn => ?_
  unfold t_told_counts
  dsimp only [List.length_cons, List.length_nil, Nat.reduceSub, Nat.reduceAdd, List.replicate, List.cons_append, List.nil_append, List.append_nil, Pst.put, List.set_cons_zero, List.set_cons_succ, Pst.upL, Pst.own, List.getElem?_cons_zero, List.getElem?_cons_succ]
  refine s_seq (s_setO ?_)
  apply EV.use
  · walk_at "ddev"
  dsimp only [List.length_cons, List.length_nil, Nat.reduceSub, Nat.reduceAdd, List.replicate, List.cons_append, List.nil_append, List.append_nil, Pst.put, List.set_cons_zero, List.set_cons_succ, Pst.upL, Pst.own, List.getElem?_cons_zero, List.getElem?_cons_succ]
  refine s_seq (s_for ?_)
  apply iv_use
  · walk_at "ddev"
  rw [← List.map_tail, zipD_maps]
  have key : ∀ (e2 : ED) (z : Int), (∀ s3 s4 (A : List Int), A ++ [z] = tc P rs → e2.nx ⟨[.sh (psD P), .sh (rsD rs), .ow (.lst (A.map .int)), s3, s4], []⟩) →
      ∀ (R2 : List Rd) (r : Rd) (A : List Int) (s3 s4 : Sl), (∀ x ∈ r :: R2, x ∈ rs) → Rok (r :: R2) → ((r :: R2).getLast (by simp)).2 = z → A ++ tc P (r :: R2) = tc P rs →
      forD (g_tup 2 (g_cons (g_name 3) (g_cons (g_name 4) g_nil))) L_told_counts_1 (((r :: R2).zip (r :: R2).tail).map fun p => .tup [rdD p.1, rdD p.2]) e2 ⟨[.sh (psD P), .sh (rsD rs), .ow (.lst (A.map .int)), s3, s4], []⟩ := by
    intro e2 z he R2
    induction R2 with
    | nil =>
      intro r A s3 s4 hm hk hz hA
      refine forD_nil (he s3 s4 A ?_)
      rw [← hA, ← hz]; rfl
    | cons q R2 ih =>
      intro r A s3 s4 hm hk hz hA
      obtain ⟨h1, h2⟩ := List.pairwise_cons.mp hk
      have hrq := h1 q List.mem_cons_self
      have hr1 := h.rv.le r (hm r List.mem_cons_self)
      have hq1 := h.rv.le q (hm q (by simp))
      have hg := cv_told_gap hP hrq.1 hq1.1 hr1.2.1 hrq.2 hq1.2.2
      have hl : A.length + (gap P r q).length ≤ N + 1 := by
        rw [← htc, ← hA, tc]
        simp only [List.length_append]
        omega
      refine forD_cons ?_
      apply gv_use
      · walk_at "ddev"
      unfold L_told_counts_1
      dsimp only [List.length_cons, List.length_nil, Nat.reduceSub, Nat.reduceAdd, List.replicate, List.cons_append, List.nil_append, List.append_nil, Pst.put, List.set_cons_zero, List.set_cons_succ, Pst.upL, Pst.own, List.getElem?_cons_zero, List.getElem?_cons_succ]
      refine s_expr ?_
      apply EV.use
      · apply ev_ext
        · rfl
        · walk_at "ddev"
        · simp only [List.length_map]; exact Nat.le_trans hl (Nat.le_trans (show N + 1 ≤ 1000 by omega) (by decide))
      dsimp only [List.length_cons, List.length_nil, Nat.reduceSub, Nat.reduceAdd, List.replicate, List.cons_append, List.nil_append, List.append_nil, Pst.put, List.set_cons_zero, List.set_cons_succ, Pst.upL, Pst.own, List.getElem?_cons_zero, List.getElem?_cons_succ]
      rw [← List.map_append]
      refine ih q (A ++ gap P r q) _ _ (fun x hx => hm x (List.mem_cons_of_mem _ hx)) h2 ?_ ?_
      · rw [← hz, List.getLast_cons (show q :: R2 ≠ [] by simp)]
      · rw [← hA, tc, List.append_assoc]
  obtain ⟨r, t, rfl, h0⟩ := h.rv.cons
  refine key _ ((r :: t).getLast (by simp)).2 (fun s3 s4 A hA => ?_) t r [] .un .un (fun x hx => hx) h.rv.ok rfl rfl
  have hla : atI ((r :: t).map rdD) (-1) = some (rdD ((r :: t).getLast (by simp))) := atI_last (by rw [List.getLast?_map, List.getLast?_eq_some_getLast (by simp)]; rfl)
  have hl : A.length + 1 = N + 1 := by rw [← htc, ← hA, List.length_append]; rfl
  dsimp only
  refine s_ret ?_
  apply EV.use
  · walk_at "ddev"
    simp only [List.length_append, List.length_map, List.length_cons, List.length_nil]
    exact Nat.le_trans (show A.length + (0 + 1) ≤ 1000 by omega) (by decide)
  refine hr_of hr rfl ?_
  rw [← hA, List.map_append]
  rfl
local macro_rules | `(tactic| walk_at "ddcv") => `(tactic| (first | ((with_reducible show CV c_told_counts _ _ _ _); exact cv_told_counts (by assumption) (by assumption))))
theorem cv_estimated {N : Nat} {P : List Int} {rs : List Rd} (hP : Prof N P) (h : RVK N rs) : CV c_estimated [.sh (psD P), .sh (rsD rs)] [] (.tup ((tc P rs).map .int)) [] := by
  refine cv_body fun e hr hn => ?_
  unfold t_estimated
  dsimp only [List.length_cons, List.length_nil, Nat.reduceSub, Nat.reduceAdd, List.replicate, List.cons_append, List.nil_append, List.append_nil, Pst.put, List.set_cons_zero, List.set_cons_succ, Pst.upL, Pst.own, List.getElem?_cons_zero, List.getElem?_cons_succ]
  refine s_seq (s_expr ?_)
  apply EV.use
  · walk_at "ddev"
  dsimp only
  refine s_ret ?_
  apply EV.use
  · walk_at "ddev"
  exact hr _ rfl
theorem first_at {N : Nat} {rs : List Rd} (h : RV N rs) : ∃ c, atI (rs.map rdD) 0 = some (.tup [.int 0, .int c]) := by
  obtain ⟨r, t, rfl, h0⟩ := h.cons
  refine ⟨r.2, ?_⟩
  rw [List.map_cons, atI_0]
  unfold rdD
  rw [h0]; rfl
theorem last_at {N : Nat} {rs : List Rd} (h : RV N rs) : ∃ c, atI (rs.map rdD) (-1) = some (.tup [.int N, .int c]) := by
  have hne := h.ne
  refine ⟨(rs.getLast hne).2, ?_⟩
  refine atI_last ?_
  rw [List.getLast?_map, List.getLast?_eq_some_getLast hne]
  show some (rdD _) = _
  unfold rdD
  rw [h.last hne]
theorem tc_get {N : Nat} {P : List Int} {rs : List Rd} (h : RV N rs) {t : Nat} (ht : t ≤ N) : ∃ c, (tc P rs)[t]? = some c ∧ atI ((tc P rs).map DV.int) ((t : Int) - 0) = some (.int c) := by
  have hl := h.len P
  have hlt : t < (tc P rs).length := by omega
  refine ⟨(tc P rs)[t], List.getElem?_eq_getElem hlt, ?_⟩
  exact atI_n (n := t) (by rw [List.getElem?_map, List.getElem?_eq_getElem hlt]; rfl) (by omega)
theorem cv_estimated_at {N : Nat} {P : List Int} {rs : List Rd} {t : Nat} {c : Int} (hP : Prof N P) (h : RVK N rs) (ht : t ≤ N) (hc : (tc P rs)[t]? = some c) : CV c_estimated_at [.sh (psD P), .sh (rsD rs), .sh (.int t)] [] (.int c) [] := by
  obtain ⟨f, hf⟩ := first_at h.rv
  obtain ⟨l, hl⟩ := last_at h.rv
  obtain ⟨c', hc', hat⟩ := tc_get (P := P) h.rv ht
  have e : c' = c := by rw [hc'] at hc; exact Option.some.inj hc
  subst e
  refine cv_body fun e hr hn => ?_
  unfold t_estimated_at
  dsimp only [List.length_cons, List.length_nil, Nat.reduceSub, Nat.reduceAdd, List.replicate, List.cons_append, List.nil_append, List.append_nil, Pst.put, List.set_cons_zero, List.set_cons_succ, Pst.upL, Pst.own, List.getElem?_cons_zero, List.getElem?_cons_succ]
  refine s_seq (s_expr ?_)
  apply EV.use
  · walk_at "ddev"
  dsimp only
  refine s_seq ?_
  apply s_if
  · walk_at "ddev"
  · intro hc
    exfalso
    simp at hc
    omega
  intro _
  refine s_skip ?_
  dsimp only
  refine s_ret ?_
  apply EV.use
  · walk_at "ddev"
  exact hr _ rfl
end Dr
set_option maxHeartbeats 4000000
namespace Dr
open PySem PySem.Spec PyProof.Rows L2 DD M72
local macro_rules | `(tactic| walk_at "ddcv") => `(tactic| fail)
local macro_rules | `(tactic| walk_at "ddev") => `(tactic| (repeat' (first | (show (_ : Prop); with_reducible assumption) | ((with_reducible apply ev_v) <;> rfl) | ((with_reducible apply ev_vo) <;> rfl) | ((with_reducible apply ev_rd) <;> rfl) | ((with_reducible apply ev_rdo) <;> rfl) | ((with_reducible apply ev_take) <;> rfl) | ((with_reducible apply ev_rdb) <;> rfl) | with_reducible exact ev_c | with_reducible exact av_nil | with_reducible exact pv_none | with_reducible exact ov_add | with_reducible exact ov_sub | with_reducible exact ov_lt | with_reducible exact ov_le | with_reducible exact ov_gt | with_reducible exact ov_ge | with_reducible exact ov_eqi | with_reducible exact ov_nei | with_reducible exact ov_isN | with_reducible exact ov_isntN | with_reducible exact ov_isB | with_reducible exact ov_isntB | with_reducible exact uv_lenL | with_reducible exact uv_lenT | with_reducible exact uv_lenR | with_reducible exact uv_int | with_reducible exact uv_intB | with_reducible exact uv_abs | with_reducible exact uv_tupL | with_reducible exact uv_tupT | with_reducible exact uv_lstL | with_reducible exact uv_lstT | with_reducible exact uv_isi rfl | with_reducible exact nv_min2 | with_reducible exact nv_max2 | with_reducible exact gv_name | with_reducible exact gv_nil | with_reducible exact mv_nil | with_reducible exact ov_addI | with_reducible exact plT2 | with_reducible exact plL_ints _ | with_reducible exact plT_ints _ | with_reducible exact pl_int | with_reducible exact pl_part | with_reducible exact pl_money | with_reducible exact pl_same | with_reducible exact pl_two | ((with_reducible apply iv_zsL) <;> rfl) | ((with_reducible apply iv_zsT) <;> rfl) | ((with_reducible apply iv_zvLL) <;> rfl) | ((with_reducible apply iv_zvTT) <;> rfl) | ((with_reducible apply iv_zvLT) <;> rfl) | ((with_reducible apply iv_zvTL) <;> rfl) | ((with_reducible apply av_stTv); rfl) | ((with_reducible apply av_stLv); rfl) | ((with_reducible apply av_stLo); rfl) | ((with_reducible apply ev_slv); rfl) | ((with_reducible apply ev_ixv); rfl) | ((with_reducible apply ev_ixvo); rfl) | ((with_reducible apply ev_ixvb); rfl; rfl) | ((with_reducible apply iv_itT); (with_reducible apply ev_v); rfl) | ((with_reducible apply iv_itT); (with_reducible apply ev_vo); rfl) | ((with_reducible apply iv_itL); (with_reducible apply ev_v); rfl) | ((with_reducible apply iv_itL); (with_reducible apply ev_vo); rfl) | ((with_reducible apply iv_enumT); (with_reducible apply ev_v); rfl) | ((with_reducible apply iv_enumT); (with_reducible apply ev_vo); rfl) | ((with_reducible apply iv_enumL); (with_reducible apply ev_v); rfl) | ((with_reducible apply iv_enumL); (with_reducible apply ev_vo); rfl) | with_reducible apply ev_bin | with_reducible apply ev_c1 | with_reducible apply ev_cn | with_reducible apply ev_tup | with_reducible apply ev_lst | with_reducible apply ev_andV | with_reducible apply ev_orV | with_reducible apply ev_notV | with_reducible apply ev_chain | with_reducible apply ev_call1 | with_reducible apply ev_call2 | with_reducible apply ev_call3 | with_reducible apply ev_call4 | with_reducible apply ev_lc | with_reducible apply av_cons | with_reducible apply tv_tst | with_reducible apply tv_and | with_reducible apply tv_or | with_reducible apply tv_not | with_reducible apply pv_some | with_reducible apply ov_ixT | with_reducible apply ov_ixL | with_reducible apply ov_ixR | with_reducible apply iv_itT | with_reducible apply iv_itL | with_reducible apply iv_enumT | with_reducible apply iv_enumL | with_reducible apply iv_zipTT | with_reducible apply iv_rng1 | with_reducible apply iv_rng2 | with_reducible apply gv_tup | with_reducible apply gv_cons | with_reducible apply ls_yes | with_reducible apply lf_of | with_reducible apply ov_addT | with_reducible apply ov_fdiv | with_reducible apply ov_mod | with_reducible apply ov_pow | with_reducible apply uv_sum | with_reducible apply uv_sumR | with_reducible apply uv_sumT | with_reducible apply uv_all | with_reducible apply uv_any | with_reducible apply ov_mul | with_reducible apply ov_eq | with_reducible apply ov_ne | with_reducible apply mv_sh | with_reducible apply mv_ow | with_reducible apply ev_mulL | with_reducible apply ev_lrg1 | with_reducible apply ev_neg | with_reducible apply ov_addL | with_reducible apply ov_mulT | with_reducible apply av_starL | with_reducible apply ov_addI | with_reducible apply iv_rng1 | with_reducible apply uv_lsetT | with_reducible apply uv_lsetL | with_reducible apply ov_inL | with_reducible apply ov_ninL | with_reducible apply uv_sortL | with_reducible apply uv_sortT | with_reducible apply ev_ifE | ((with_reducible show CV _ _ _ _ _); assumption) | walk_at "ddcv" | with_reducible exact atI_0 | with_reducible exact atI_1 | with_reducible exact atI_2 | (show (_ : Prop); with_reducible rfl) | ((with_reducible show (_ : DV) = _); dsimp only [Function.comp]; done) | ((with_reducible show (_ : DV) = _); simp only [Function.comp, Int.natCast_add, Int.natCast_mul]; done) | ((with_reducible show (_ : Pst) = _); rfl) | ((with_reducible show List.length _ = _); rfl) | ((with_reducible show List.length _ ≤ sizeLine); simp only [List.length_cons, List.length_nil, Nat.reduceAdd]; decide) | with_reducible intro _ | ((with_reducible apply noown_ok); rfl))))
local macro_rules | `(tactic| walk_at "ddcv") => `(tactic| (first | ((with_reducible show CV c_is_int _ _ _ _); exact cv_is_int) | ((with_reducible show CV c_are_ints _ _ _ _); exact cv_rd) | ((with_reducible show CV c_are_ints _ _ _ _); exact cv_are_ints (by omega)) | ((with_reducible show CV c_look_at_estimated _ _ _ _); exact cv_look_at_estimated (by assumption) (by assumption)) | ((with_reducible show CV c_told_counts _ _ _ _); exact cv_told_counts (by assumption) (by assumption)) | ((with_reducible show CV c_estimated _ _ _ _); exact cv_estimated (by assumption) (by assumption))))
theorem dle_rd (a b : Rd) : rle a b = dle (rdD a) (rdD b) := by
  show _ = !dlt (rdD b) (rdD a)
  unfold rdD
  rw [dlt_ii2]
  refine Bool.eq_iff_iff.mpr ?_
  rw [rle_iff]
  simp
  omega
theorem sort_rds (l : List Rd) : (l.map rdD).mergeSort dle = (sortR l).map rdD := (List.map_mergeSort fun a _ b _ => dle_rd a b).symm
theorem sortb_rds (l : List Rd) : Sortb (l.map rdD) := by
  have := sortb_ii (l.map fun r => ((r.1 : Int), r.2))
  rw [List.map_map] at this
  exact this
structure More (N : Nat) (rs : List Rd) (x : Rd) : Prop where
  k : RVK N rs
  f : Fits rs x
  n : x.1 ≤ N
  z : 0 ≤ x.2
  b : x.2 ≤ 10000
  few : rs.length < 20
theorem More.rvk {N : Nat} {rs : List Rd} {x : Rd} (h : More N rs x) : RVK N (sortR (rs ++ [x])) := ⟨h.k.rv.with h.f h.n h.z h.b, by
  rw [(sortR_perm _).length_eq, List.length_append]
  have := h.few
  show rs.length + 1 ≤ 20
  omega⟩
theorem cv_told_with {N : Nat} {rs : List Rd} {x : Rd} (hN : N ≤ 60) (h : More N rs x) : CV c_told_with [.sh (rsD rs), .sh (rdD x)] [] (rsD (sortR (rs ++ [x]))) [] := by
  have hf := h.few
  have hx0 := h.z
  have hx1 := h.b
  have hx2 := h.n
  refine cv_body fun e hr hn => ?_
  unfold t_told_with
  dsimp only [List.length_cons, List.length_nil, Nat.reduceSub, Nat.reduceAdd, List.replicate, List.cons_append, List.nil_append, List.append_nil, Pst.put, List.set_cons_zero, List.set_cons_succ, Pst.upL, Pst.own, List.getElem?_cons_zero, List.getElem?_cons_succ]
  refine s_seq ?_
  apply s_if
  · walk_at "ddev"
    · refine lv_map (xs := rs) rdD (DV.int ∘ fun r => (r.1 : Int)) (fun r => [.sh (rsD rs), .sh (rdD x), .sh (.int r.1), .sh (.int r.2)]) (fun r hr => ?_) (fun _ _ => rfl) (Nat.le_trans (Nat.le_of_lt hf) sz20) rfl rfl
      walk_at "ddev"
    · rw [← List.map_map]; exact plL_ints _
  · intro hc
    exfalso
    rw [← List.map_map, dIn_ints] at hc
    simp at hc
    rcases hc with hc | hc
    · omega
    · obtain ⟨c, ⟨y, hy⟩, e⟩ := hc
      exact (h.f _ hy).1 (by show c = x.1; omega)
  intro _
  refine s_skip ?_
  dsimp only
  refine s_ret ?_
  apply EV.use
  · walk_at "ddev"
    · simp only [List.length_append, List.length_map, List.length_cons, List.length_nil]
      exact Nat.le_trans (show rs.length + (0 + 1) ≤ 20 by omega) sz20
    · have := sortb_rds (rs ++ [x])
      rwa [List.map_append] at this
  refine hr_of hr rfl ?_
  have := sort_rds (rs ++ [x])
  rw [List.map_append] at this
  show DV.tup _ = DV.tup _
  rw [← this]
  rfl
local macro_rules | `(tactic| walk_at "ddcv") => `(tactic| (first | ((with_reducible show CV c_told_with _ _ _ _); exact cv_told_with (by omega) (by assumption))))
theorem cv_look_at_more {N : Nat} {P : List Int} {rs : List Rd} {x : Rd} (hP : Prof N P) (h : More N rs x) : CV c_look_at_more [.sh (psD P), .sh (rsD rs), .sh (rdD x)] [] .non [] := by
  have hN := hP.n2
  have hk := h.k
  have hx := h.n
  obtain ⟨f, hf⟩ := first_at h.k.rv
  obtain ⟨l, hl⟩ := last_at h.k.rv
  have hll : (P.map DV.int).length = N := by rw [List.length_map]; exact hP.len
  have hac : CV c_are_counts [.sh (rsD (sortR (rs ++ [x]))), .sh (.int (P.map DV.int).length)] [] (.bl true) [] := by rw [hll]; exact cv_are_counts hN h.rvk
  refine cv_body fun e hr hn => ?_
  unfold t_look_at_more
  dsimp only [List.length_cons, List.length_nil, Nat.reduceSub, Nat.reduceAdd, List.replicate, List.cons_append, List.nil_append, List.append_nil, Pst.put, List.set_cons_zero, List.set_cons_succ, Pst.upL, Pst.own, List.getElem?_cons_zero, List.getElem?_cons_succ]
  refine s_seq (s_expr ?_)
  apply EV.use
  · walk_at "ddev"
  dsimp only
  refine s_seq (s_set ?_)
  apply EV.use
  · walk_at "ddev"
  dsimp only [List.length_cons, List.length_nil, Nat.reduceSub, Nat.reduceAdd, List.replicate, List.cons_append, List.nil_append, List.append_nil, Pst.put, List.set_cons_zero, List.set_cons_succ, Pst.upL, Pst.own, List.getElem?_cons_zero, List.getElem?_cons_succ]
  apply s_if
  · walk_at "ddev"
  · intro hc
    exfalso
    simp [DV.isNon] at hc
    omega
  intro _
  exact hn rfl _ rfl
local macro_rules | `(tactic| walk_at "ddcv") => `(tactic| (first | ((with_reducible show CV c_look_at_more _ _ _ _); exact cv_look_at_more (by assumption) (by assumption))))
theorem lv_diffs {env : List Sl} {i j : Nat} {l : List Int} {vs : List Nat} {E : Int × Int → List Sl} (hl : l.length ≤ 1000) (h : ∀ p, LS (g_tup 2 (g_cons (g_name i) (g_cons (g_name j) g_nil))) t_yes (t_bin o_sub (t_v j) (t_v i)) vs env [] (.tup [.int p.1, .int p.2]) (.int (p.2 - p.1)) (E p)) (hE : ∀ p, wipeE (E p) vs = wipeE env vs) :
    LV (g_tup 2 (g_cons (g_name i) (g_cons (g_name j) g_nil))) t_yes (t_bin o_sub (t_v j) (t_v i)) vs env (zipD (l.map .int) (l.map .int).tail) [] ((diffs l).map .int) := by
  refine lv_map (xs := l.zip l.tail) (fun p => .tup [.int p.1, .int p.2]) (fun p => .int (p.2 - p.1)) E (fun p _ => h p) (fun p _ => hE p) (by rw [List.length_zip]; exact Nat.le_trans (Nat.min_le_left _ _) (Nat.le_trans hl (by decide))) ?_ ?_
  · rw [← List.map_tail, zipD_maps]
  · unfold diffs; rw [List.map_map]; rfl
theorem cv_uses_by_hours {N : Nat} {P : List Int} {rs : List Rd} (hP : Prof N P) (h : RVK N rs) : CV c_uses_by_hours [.sh (psD P), .sh (rsD rs)] [] (.tup ((diffs (tc P rs)).map .int)) [] := by
  have hN := hP.n2
  have htc := h.rv.len P
  refine cv_body fun e hr hn => ?_
  unfold t_uses_by_hours
  dsimp only [List.length_cons, List.length_nil, Nat.reduceSub, Nat.reduceAdd, List.replicate, List.cons_append, List.nil_append, List.append_nil, Pst.put, List.set_cons_zero, List.set_cons_succ, Pst.upL, Pst.own, List.getElem?_cons_zero, List.getElem?_cons_succ]
  refine s_seq (s_set ?_)
  apply EV.use
  · walk_at "ddev"
  dsimp only [List.length_cons, List.length_nil, Nat.reduceSub, Nat.reduceAdd, List.replicate, List.cons_append, List.nil_append, List.append_nil, Pst.put, List.set_cons_zero, List.set_cons_succ, Pst.upL, Pst.own, List.getElem?_cons_zero, List.getElem?_cons_succ]
  refine s_ret ?_
  apply EV.use
  · walk_at "ddev"
    refine lv_diffs (E := fun p => [.sh (psD P), .sh (rsD rs), .sh (.tup ((tc P rs).map .int)), .sh (.int p.1), .sh (.int p.2)]) (by omega) (fun p => ?_) (fun p => rfl)
    walk_at "ddev"
  exact hr _ rfl
theorem cv_put_right {N : Nat} {P : List Int} {rs : List Rd} {x : Rd} (hP : Prof N P) (h : More N rs x) : CV c_put_right [.sh (psD P), .sh (rsD rs), .sh (rdD x)] [] (.tup ((sub2 (diffs (tc P rs)) (diffs (tc P (sortR (rs ++ [x]))))).map .int)) [] := by
  have hN := hP.n2
  have hk := h.k
  have hk2 := h.rvk
  have htc := hk.rv.len P
  have htc2 := hk2.rv.len P
  refine cv_body fun e hr hn => ?_
  unfold t_put_right
  dsimp only [List.length_cons, List.length_nil, Nat.reduceSub, Nat.reduceAdd, List.replicate, List.cons_append, List.nil_append, List.append_nil, Pst.put, List.set_cons_zero, List.set_cons_succ, Pst.upL, Pst.own, List.getElem?_cons_zero, List.getElem?_cons_succ]
  refine s_seq (s_expr ?_)
  apply EV.use
  · walk_at "ddev"
  dsimp only
  refine s_seq (s_par ?_)
  apply MV.use
  · walk_at "ddev"
  refine ⟨rfl, ?_⟩
  dsimp only [putM, List.length_cons, List.length_nil, Nat.reduceSub, Nat.reduceAdd, List.replicate, List.cons_append, List.nil_append, List.append_nil, Pst.put, List.set_cons_zero, List.set_cons_succ, Pst.upL, Pst.own, List.getElem?_cons_zero, List.getElem?_cons_succ]
  refine s_seq (s_set ?_)
  apply EV.use
  · walk_at "ddev"
    refine lv_diffs (E := fun p => [.sh (psD P), .sh (rsD rs), .sh (rdD x), .sh (.lst ((tc P rs).map .int)), .sh (.lst ((tc P (sortR (rs ++ [x]))).map .int)), .un, .un, .sh (.int p.1), .sh (.int p.2), .un, .un]) (by omega) (fun p => ?_) (fun p => rfl)
    walk_at "ddev"
  dsimp only [List.length_cons, List.length_nil, Nat.reduceSub, Nat.reduceAdd, List.replicate, List.cons_append, List.nil_append, List.append_nil, Pst.put, List.set_cons_zero, List.set_cons_succ, Pst.upL, Pst.own, List.getElem?_cons_zero, List.getElem?_cons_succ]
  refine s_seq (s_set ?_)
  apply EV.use
  · walk_at "ddev"
    refine lv_diffs (E := fun p => [.sh (psD P), .sh (rsD rs), .sh (rdD x), .sh (.lst ((tc P rs).map .int)), .sh (.lst ((tc P (sortR (rs ++ [x]))).map .int)), .sh (.lst ((diffs (tc P rs)).map .int)), .un, .sh (.int p.1), .sh (.int p.2), .un, .un]) (by omega) (fun p => ?_) (fun p => rfl)
    walk_at "ddev"
  dsimp only [List.length_cons, List.length_nil, Nat.reduceSub, Nat.reduceAdd, List.replicate, List.cons_append, List.nil_append, List.append_nil, Pst.put, List.set_cons_zero, List.set_cons_succ, Pst.upL, Pst.own, List.getElem?_cons_zero, List.getElem?_cons_succ]
  refine s_ret ?_
  apply EV.use
  · walk_at "ddev"
    refine lv_map (xs := (diffs (tc P rs)).zip (diffs (tc P (sortR (rs ++ [x]))))) (fun p => .tup [.int p.1, .int p.2]) (fun p => .int (p.2 - p.1)) (fun p => [.sh (psD P), .sh (rsD rs), .sh (rdD x), .sh (.lst ((tc P rs).map .int)), .sh (.lst ((tc P (sortR (rs ++ [x]))).map .int)), .sh (.lst ((diffs (tc P rs)).map .int)), .sh (.lst ((diffs (tc P (sortR (rs ++ [x])))).map .int)), .un, .un, .sh (.int p.1), .sh (.int p.2)]) (fun p _ => ?_) (fun p _ => rfl) (by rw [List.length_zip, diffs_len, diffs_len]; exact Nat.le_trans (show _ ≤ 1000 by omega) (by decide)) (zipD_maps _ _ _ _) rfl
    walk_at "ddev"
  refine hr_of hr rfl ?_
  unfold sub2
  rw [List.map_map]
  rfl
theorem cv_off_at {N : Nat} {P : List Int} {rs : List Rd} {x : Rd} {c : Int} (hP : Prof N P) (h : More N rs x) (hc : (tc P rs)[x.1]? = some c) : CV c_off_at [.sh (psD P), .sh (rsD rs), .sh (rdD x)] [] (.int (x.2 - c)) [] := by
  have hk := h.k
  obtain ⟨f, hf⟩ := first_at h.k.rv
  obtain ⟨c', hc', hat⟩ := tc_get (P := P) h.k.rv h.n
  have e : c' = c := by rw [hc'] at hc; exact Option.some.inj hc
  subst e
  refine cv_body fun e hr hn => ?_
  unfold t_off_at
  dsimp only [List.length_cons, List.length_nil, Nat.reduceSub, Nat.reduceAdd, List.replicate, List.cons_append, List.nil_append, List.append_nil, Pst.put, List.set_cons_zero, List.set_cons_succ, Pst.upL, Pst.own, List.getElem?_cons_zero, List.getElem?_cons_succ]
  refine s_seq (s_expr ?_)
  apply EV.use
  · walk_at "ddev"
  dsimp only
  refine s_ret ?_
  apply EV.use
  · walk_at "ddev"
  exact hr _ rfl
end Dr
set_option maxHeartbeats 4000000
namespace Dr
open PySem PySem.Spec PyProof.Rows L2 DD M72
local macro_rules | `(tactic| walk_at "ddcv") => `(tactic| fail)
local macro_rules | `(tactic| walk_at "ddev") => `(tactic| (repeat' (first | (show (_ : Prop); with_reducible assumption) | ((with_reducible apply ev_v) <;> rfl) | ((with_reducible apply ev_vo) <;> rfl) | ((with_reducible apply ev_rd) <;> rfl) | ((with_reducible apply ev_rdo) <;> rfl) | ((with_reducible apply ev_take) <;> rfl) | ((with_reducible apply ev_rdb) <;> rfl) | with_reducible exact ev_c | with_reducible exact av_nil | with_reducible exact pv_none | with_reducible exact ov_add | with_reducible exact ov_sub | with_reducible exact ov_lt | with_reducible exact ov_le | with_reducible exact ov_gt | with_reducible exact ov_ge | with_reducible exact ov_eqi | with_reducible exact ov_nei | with_reducible exact ov_isN | with_reducible exact ov_isntN | with_reducible exact ov_isB | with_reducible exact ov_isntB | with_reducible exact uv_lenL | with_reducible exact uv_lenT | with_reducible exact uv_lenR | with_reducible exact uv_int | with_reducible exact uv_intB | with_reducible exact uv_abs | with_reducible exact uv_tupL | with_reducible exact uv_tupT | with_reducible exact uv_lstL | with_reducible exact uv_lstT | with_reducible exact uv_isi rfl | with_reducible exact nv_min2 | with_reducible exact nv_max2 | with_reducible exact gv_name | with_reducible exact gv_nil | with_reducible exact mv_nil | with_reducible exact ov_addI | with_reducible exact plT2 | with_reducible exact plL_ints _ | with_reducible exact plT_ints _ | with_reducible exact pl_int | with_reducible exact pl_part | with_reducible exact pl_money | with_reducible exact pl_same | with_reducible exact pl_two | ((with_reducible apply iv_zsL) <;> rfl) | ((with_reducible apply iv_zsT) <;> rfl) | ((with_reducible apply iv_zvLL) <;> rfl) | ((with_reducible apply iv_zvTT) <;> rfl) | ((with_reducible apply iv_zvLT) <;> rfl) | ((with_reducible apply iv_zvTL) <;> rfl) | ((with_reducible apply av_stTv); rfl) | ((with_reducible apply av_stLv); rfl) | ((with_reducible apply av_stLo); rfl) | ((with_reducible apply ev_slv); rfl) | ((with_reducible apply ev_ixv); rfl) | ((with_reducible apply ev_ixvo); rfl) | ((with_reducible apply ev_ixvb); rfl; rfl) | ((with_reducible apply iv_itT); (with_reducible apply ev_v); rfl) | ((with_reducible apply iv_itT); (with_reducible apply ev_vo); rfl) | ((with_reducible apply iv_itL); (with_reducible apply ev_v); rfl) | ((with_reducible apply iv_itL); (with_reducible apply ev_vo); rfl) | ((with_reducible apply iv_enumT); (with_reducible apply ev_v); rfl) | ((with_reducible apply iv_enumT); (with_reducible apply ev_vo); rfl) | ((with_reducible apply iv_enumL); (with_reducible apply ev_v); rfl) | ((with_reducible apply iv_enumL); (with_reducible apply ev_vo); rfl) | with_reducible apply ev_bin | with_reducible apply ev_c1 | with_reducible apply ev_cn | with_reducible apply ev_tup | with_reducible apply ev_lst | with_reducible apply ev_andV | with_reducible apply ev_orV | with_reducible apply ev_notV | with_reducible apply ev_chain | with_reducible apply ev_call1 | with_reducible apply ev_call2 | with_reducible apply ev_call3 | with_reducible apply ev_call4 | with_reducible apply ev_lc | with_reducible apply av_cons | with_reducible apply tv_tst | with_reducible apply tv_and | with_reducible apply tv_or | with_reducible apply tv_not | with_reducible apply pv_some | with_reducible apply ov_ixT | with_reducible apply ov_ixL | with_reducible apply ov_ixR | with_reducible apply iv_itT | with_reducible apply iv_itL | with_reducible apply iv_enumT | with_reducible apply iv_enumL | with_reducible apply iv_zipTT | with_reducible apply iv_rng1 | with_reducible apply iv_rng2 | with_reducible apply gv_tup | with_reducible apply gv_cons | with_reducible apply ls_yes | with_reducible apply lf_of | with_reducible apply ov_addT | with_reducible apply ov_fdiv | with_reducible apply ov_mod | with_reducible apply ov_pow | with_reducible apply uv_sum | with_reducible apply uv_sumR | with_reducible apply uv_sumT | with_reducible apply uv_all | with_reducible apply uv_any | with_reducible apply ov_mul | with_reducible apply ov_eq | with_reducible apply ov_ne | with_reducible apply mv_sh | with_reducible apply mv_ow | with_reducible apply ev_mulL | with_reducible apply ev_lrg1 | with_reducible apply ev_neg | with_reducible apply ov_addL | with_reducible apply ov_mulT | with_reducible apply av_starL | with_reducible apply ov_addI | with_reducible apply iv_rng1 | with_reducible apply uv_lsetT | with_reducible apply uv_lsetL | with_reducible apply ov_inL | with_reducible apply ov_ninL | with_reducible apply uv_sortL | with_reducible apply uv_sortT | with_reducible apply ev_ifE | ((with_reducible show CV _ _ _ _ _); assumption) | walk_at "ddcv" | with_reducible exact atI_0 | with_reducible exact atI_1 | with_reducible exact atI_2 | (show (_ : Prop); with_reducible rfl) | ((with_reducible show (_ : DV) = _); dsimp only [Function.comp]; done) | ((with_reducible show (_ : DV) = _); simp only [Function.comp, Int.natCast_add, Int.natCast_mul]; done) | ((with_reducible show (_ : Pst) = _); rfl) | ((with_reducible show List.length _ = _); rfl) | ((with_reducible show List.length _ ≤ sizeLine); simp only [List.length_cons, List.length_nil, Nat.reduceAdd]; decide) | with_reducible intro _ | ((with_reducible apply noown_ok); rfl))))
local macro_rules | `(tactic| walk_at "ddcv") => `(tactic| (first | ((with_reducible show CV c_is_int _ _ _ _); exact cv_is_int) | ((with_reducible show CV c_are_ints _ _ _ _); exact cv_rd) | ((with_reducible show CV c_are_ints _ _ _ _); exact cv_are_ints (by omega)) | ((with_reducible show CV c_look_at_estimated _ _ _ _); exact cv_look_at_estimated (by assumption) (by assumption)) | ((with_reducible show CV c_told_counts _ _ _ _); exact cv_told_counts (by assumption) (by assumption)) | ((with_reducible show CV c_estimated _ _ _ _); exact cv_estimated (by assumption) (by assumption))))
theorem cv_worst_off {N : Nat} {P : List Int} {rs : List Rd} {t : Nat} {c : Int} (hP : Prof N P) (h : RVK N rs) (ht : t ≤ N) (hc : (tc P rs)[t]? = some c) : ∃ lo hi, Bnd rs t lo hi ∧ CV c_worst_off [.sh (psD P), .sh (rsD rs), .sh (.int t)] [] (.tup [.int (lo - c), .int (hi - c)]) [] := by
  obtain ⟨lo, hi, hb, hlo, hhi⟩ := bnd_of h.rv ht
  obtain ⟨f, hf⟩ := first_at h.rv
  obtain ⟨l, hl⟩ := last_at h.rv
  obtain ⟨c', hc', hat⟩ := tc_get (P := P) h.rv ht
  have e : c' = c := by rw [hc'] at hc; exact Option.some.inj hc
  subst e
  have hlo2 : atI ((rs.filter fun r => decide ((r.1 : Int) ≤ (t : Int))).map fun r => DV.int r.2) (-1) = some (.int lo) := by
    refine atI_last ?_
    have e : (rs.filter fun r => decide ((r.1 : Int) ≤ (t : Int))) = rs.filter fun r => decide (r.1 ≤ t) := by congr 1; funext r; simp
    rw [e, show (fun r : Rd => DV.int r.2) = DV.int ∘ (fun r => r.2) from rfl, ← List.map_map, List.getLast?_map, hlo]
    rfl
  have hhi2 : atI ((rs.filter fun r => decide ((t : Int) ≤ (r.1 : Int))).map fun r => DV.int r.2) 0 = some (.int hi) := by
    have e : (rs.filter fun r => decide ((t : Int) ≤ (r.1 : Int))) = rs.filter fun r => decide (t ≤ r.1) := by congr 1; funext r; simp
    refine atI_n (n := 0) ?_ rfl
    rw [e, show (fun r : Rd => DV.int r.2) = DV.int ∘ (fun r => r.2) from rfl, ← List.map_map, List.getElem?_map, hhi]
    rfl
  refine ⟨lo, hi, hb, ?_⟩
  refine cv_body fun e hr hn => ?_
  unfold t_worst_off
  dsimp only [List.length_cons, List.length_nil, Nat.reduceSub, Nat.reduceAdd, List.replicate, List.cons_append, List.nil_append, List.append_nil, Pst.put, List.set_cons_zero, List.set_cons_succ, Pst.upL, Pst.own, List.getElem?_cons_zero, List.getElem?_cons_succ]
  refine s_seq (s_expr ?_)
  apply EV.use
  · walk_at "ddev"
  dsimp only
  refine s_seq ?_
  apply s_if
  · walk_at "ddev"
  · intro hc
    exfalso
    simp at hc
    omega
  intro _
  refine s_skip ?_
  dsimp only
  refine s_seq (s_set ?_)
  apply EV.use
  · walk_at "ddev"
  dsimp only [List.length_cons, List.length_nil, Nat.reduceSub, Nat.reduceAdd, List.replicate, List.cons_append, List.nil_append, List.append_nil, Pst.put, List.set_cons_zero, List.set_cons_succ, Pst.upL, Pst.own, List.getElem?_cons_zero, List.getElem?_cons_succ]
  refine s_seq (s_set ?_)
  apply EV.use
  · apply ev_bin
    · walk_at "ddev"
      refine lv_fil (xs := rs) rdD (fun r => .int r.2) (fun r => decide ((r.1 : Int) ≤ (t : Int))) (fun r => [.sh (psD P), .sh (rsD rs), .sh (.int t), .sh (.int c'), .un, .un, .sh (.int r.1), .sh (.int r.2)]) (fun r => [.sh (psD P), .sh (rsD rs), .sh (.int t), .sh (.int c'), .un, .un, .sh (.int r.1), .sh (.int r.2)]) (fun r hr => ?_) (fun _ _ => rfl) (fun _ _ => rfl) (Nat.le_trans h.few sz20) rfl rfl
      walk_at "ddev"
    · exact ev_neg ev_c
    · exact ov_ixL hlo2
  dsimp only [List.length_cons, List.length_nil, Nat.reduceSub, Nat.reduceAdd, List.replicate, List.cons_append, List.nil_append, List.append_nil, Pst.put, List.set_cons_zero, List.set_cons_succ, Pst.upL, Pst.own, List.getElem?_cons_zero, List.getElem?_cons_succ]
  refine s_seq (s_set ?_)
  apply EV.use
  · apply ev_bin
    · walk_at "ddev"
      refine lv_fil (xs := rs) rdD (fun r => .int r.2) (fun r => decide ((t : Int) ≤ (r.1 : Int))) (fun r => [.sh (psD P), .sh (rsD rs), .sh (.int t), .sh (.int c'), .sh (.int lo), .un, .sh (.int r.1), .sh (.int r.2)]) (fun r => [.sh (psD P), .sh (rsD rs), .sh (.int t), .sh (.int c'), .sh (.int lo), .un, .sh (.int r.1), .sh (.int r.2)]) (fun r hr => ?_) (fun _ _ => rfl) (fun _ _ => rfl) (Nat.le_trans h.few sz20) rfl rfl
      walk_at "ddev"
    · exact ev_c
    · exact ov_ixL hhi2
  dsimp only [List.length_cons, List.length_nil, Nat.reduceSub, Nat.reduceAdd, List.replicate, List.cons_append, List.nil_append, List.append_nil, Pst.put, List.set_cons_zero, List.set_cons_succ, Pst.upL, Pst.own, List.getElem?_cons_zero, List.getElem?_cons_succ]
  refine s_ret ?_
  apply EV.use
  · walk_at "ddev"
  exact hr _ rfl
theorem uv_maxI {l : List Int} {m : Int} (hm : m ∈ l) (hle : ∀ y ∈ l, y ≤ m) : UV o_max (.lst (l.map .int)) (.int m) := fun R q => by
  refine ⟨fun z => ?_, cmpb_ints l, fun d hd hmax => ?_⟩
  · rw [List.map_eq_nil_iff] at z; subst z; cases hm
  · obtain ⟨y, hy, rfl⟩ := List.mem_map.mp hd
    have h1 := hmax (.int m) (List.mem_map.mpr ⟨m, hm, rfl⟩)
    have h2 := hle y hy
    have h3 : dle (.int m) (.int y) = true := by
      unfold dle
      rw [h1]; rfl
    rw [dle_ints, decide_eq_true_eq] at h3
    have : y = m := by omega
    subst this
    exact q
theorem ex_min (g : Nat → Int) : ∀ N : Nat, ∃ j, j ≤ N ∧ ∀ i, i ≤ N → g j ≤ g i ∧ (g j = g i → j ≤ i)
  | 0 => ⟨0, Nat.le_refl _, fun i hi => by
    have : i = 0 := by omega
    subst this
    exact ⟨Int.le_refl _, fun _ => Nat.le_refl _⟩⟩
  | N + 1 => by
    obtain ⟨j, hj, h⟩ := ex_min g N
    by_cases hc : g (N + 1) < g j
    · refine ⟨N + 1, Nat.le_refl _, fun i hi => ?_⟩
      by_cases e : i = N + 1
      · subst e; exact ⟨Int.le_refl _, fun _ => Nat.le_refl _⟩
      · have := h i (by omega)
        exact ⟨by omega, fun _ => by omega⟩
    · refine ⟨j, by omega, fun i hi => ?_⟩
      by_cases e : i = N + 1
      · subst e; exact ⟨by omega, fun _ => by omega⟩
      · exact h i (by omega)
/-- the hours of readings -/
def hs (rs : List Rd) : List Int := rs.map fun r => (r.1 : Int)
/-- the longest gap with one more hour -/
def gp (rs : List Rd) (j : Nat) : Int := dmx (sdd (hs rs ++ [(j : Int)]))
theorem cv_best_hour {N : Nat} {P : List Int} {rs : List Rd} (hP : Prof N P) (h : RVK N rs) : ∃ j, j ≤ N ∧ (∀ i, i ≤ N → gp rs j ≤ gp rs i ∧ (gp rs j = gp rs i → j ≤ i)) ∧ CV c_best_hour [.sh (psD P), .sh (rsD rs)] [] (.tup [.int (gp rs j), .int j]) [] := by
  obtain ⟨j, hj, hmin⟩ := ex_min (gp rs) N
  refine ⟨j, hj, hmin, ?_⟩
  have hN := hP.n2
  have hf2 := h.few
  obtain ⟨f, hf⟩ := first_at h.rv
  obtain ⟨l, hl⟩ := last_at h.rv
  have hhl : (hs rs).length = rs.length := by unfold hs; rw [List.length_map]
  refine cv_body fun e hr hn => ?_
  unfold t_best_hour
  dsimp only [List.length_cons, List.length_nil, Nat.reduceSub, Nat.reduceAdd, List.replicate, List.cons_append, List.nil_append, List.append_nil, Pst.put, List.set_cons_zero, List.set_cons_succ, Pst.upL, Pst.own, List.getElem?_cons_zero, List.getElem?_cons_succ]
  refine s_seq (s_expr ?_)
  apply EV.use
  · walk_at "ddev"
  dsimp only
  refine s_seq (s_setO ?_)
  apply EV.use
  · walk_at "ddev"
  dsimp only [List.length_cons, List.length_nil, Nat.reduceSub, Nat.reduceAdd, List.replicate, List.cons_append, List.nil_append, List.append_nil, Pst.put, List.set_cons_zero, List.set_cons_succ, Pst.upL, Pst.own, List.getElem?_cons_zero, List.getElem?_cons_succ]
  refine s_seq (s_for ?_)
  apply iv_use
  · apply iv_rng2
    · walk_at "ddev"
    · exact ⟨by decide, by decide⟩
    · exact ⟨by omega, by omega⟩
  have key : ∀ (e2 : ED), (∀ s3 s4 s5, e2.nx ⟨[.sh (psD P), .sh (rsD rs), .ow (.lst ((List.range (N + 1)).map fun i => .tup [.int (gp rs i), .int (i : Nat)])), s3, s4, s5, .un, .un, .un], []⟩) →
      ∀ (m k : Nat) (s3 s4 s5 : Sl), k + m = N + 1 → forD (g_name 3) L_best_hour_1 (rangeD (k : Int) 1 m) e2 ⟨[.sh (psD P), .sh (rsD rs), .ow (.lst ((List.range k).map fun i => .tup [.int (gp rs i), .int (i : Nat)])), s3, s4, s5, .un, .un, .un], []⟩ := by
    intro e2 he m
    induction m with
    | zero =>
      intro k s3 s4 s5 hk
      have hk : k = N + 1 := hk
      subst hk
      exact forD_z (he _ _ _)
    | succ m ih =>
      intro k s3 s4 s5 hk
      refine forD_s (gv_use gv_name ?_)
      unfold L_best_hour_1
      dsimp only [List.length_cons, List.length_nil, Nat.reduceSub, Nat.reduceAdd, List.replicate, List.cons_append, List.nil_append, List.append_nil, Pst.put, List.set_cons_zero, List.set_cons_succ, Pst.upL, Pst.own, List.getElem?_cons_zero, List.getElem?_cons_succ]
      refine s_seq (s_set ?_)
      apply EV.use
      · apply ev_c1
        · walk_at "ddev"
          · refine lv_map (xs := rs) rdD (fun r => .int r.1) (fun r => [.sh (psD P), .sh (rsD rs), .ow (.lst ((List.range k).map fun i => .tup [.int (gp rs i), .int (i : Nat)])), .sh (.int k), s4, s5, .sh (.int r.1), .sh (.int r.2), .un]) (fun r hr => ?_) (fun _ _ => rfl) (Nat.le_trans h.few sz20) rfl rfl
            walk_at "ddev"
          · simp only [List.length_append, List.length_map, List.length_cons, List.length_nil]
            exact Nat.le_trans (show rs.length + (0 + 1) ≤ 1000 by omega) (by decide)
        · refine uv_sset (is := hs rs ++ [(k : Int)]) ?_ ?_
          · unfold hs
            rw [List.map_append, List.map_map]; rfl
          · rw [List.length_append, hhl]
            show rs.length + 1 < 64
            omega
      dsimp only [List.length_cons, List.length_nil, Nat.reduceSub, Nat.reduceAdd, List.replicate, List.cons_append, List.nil_append, List.append_nil, Pst.put, List.set_cons_zero, List.set_cons_succ, Pst.upL, Pst.own, List.getElem?_cons_zero, List.getElem?_cons_succ]
      have hsl := sdd_len_le (hs rs ++ [(k : Int)])
      rw [List.length_append, hhl] at hsl
      have hsl2 : (sdd (hs rs ++ [(k : Int)])).length ≤ 1000 := Nat.le_trans hsl (show rs.length + 1 ≤ 1000 by omega)
      refine s_seq (s_set ?_)
      apply EV.use
      · walk_at "ddev"
        refine lv_diffs (E := fun p => [.sh (psD P), .sh (rsD rs), .ow (.lst ((List.range k).map fun i => .tup [.int (gp rs i), .int (i : Nat)])), .sh (.int k), .sh (.lst ((sdd (hs rs ++ [(k : Int)])).map .int)), s5, .sh (.int p.1), .un, .sh (.int p.2)]) hsl2 (fun p => ?_) (fun p => rfl)
        walk_at "ddev"
      dsimp only [List.length_cons, List.length_nil, Nat.reduceSub, Nat.reduceAdd, List.replicate, List.cons_append, List.nil_append, List.append_nil, Pst.put, List.set_cons_zero, List.set_cons_succ, Pst.upL, Pst.own, List.getElem?_cons_zero, List.getElem?_cons_succ]
      refine s_expr ?_
      apply EV.use
      · apply ev_app
        · rfl
        · apply ev_tup
          · apply av_cons
            · apply ev_c1
              · walk_at "ddev"
                simp only [List.length_cons, List.length_append, List.length_map, List.length_nil, diffs_len]
                exact Nat.le_trans (show _ ≤ 1002 by omega) (by decide)
              · have := uv_maxI (l := 0 :: diffs (sdd (hs rs ++ [(k : Int)]))) (dmx_mem _) (fun y hy => dmx_ge hy)
                rw [List.map_cons] at this
                rw [List.append_nil]
                exact this
            · walk_at "ddev"
          · show (2 : Nat) ≤ sizeLine
            decide
        · simp only [List.length_map, List.length_range]
          exact Nat.lt_of_lt_of_le (show k < 1000 by omega) (by decide)
      dsimp only [List.length_cons, List.length_nil, Nat.reduceSub, Nat.reduceAdd, List.replicate, List.cons_append, List.nil_append, List.append_nil, Pst.put, List.set_cons_zero, List.set_cons_succ, Pst.upL, Pst.own, List.getElem?_cons_zero, List.getElem?_cons_succ]
      have := ih (k + 1) (.sh (.int k)) (.sh (.lst ((sdd (hs rs ++ [(k : Int)])).map .int))) (.sh (.lst ((diffs (sdd (hs rs ++ [(k : Int)]))).map .int))) (by omega)
      rw [List.range_succ, List.map_append] at this
      exact this
  have e0 : ((N : Int) + 1 - 0).toNat = N + 1 := by omega
  rw [e0]
  refine key _ (fun s3 s4 s5 => ?_) (N + 1) 0 .un .un .un (by omega)
  dsimp only
  refine s_ret ?_
  refine s_c1 ?_
  apply EV.use
  · walk_at "ddev"
  have hc := cmpb_ii ((List.range (N + 1)).map fun i => (gp rs i, ((i : Nat) : Int)))
  rw [List.map_map] at hc
  refine ⟨by simp, hc, fun d hd hd2 => ?_⟩
  obtain ⟨b, hb, rfl⟩ := List.mem_map.mp hd
  have hb := List.mem_range.mp hb
  have h1 := hd2 _ (List.mem_map.mpr ⟨j, List.mem_range.mpr (show j < N + 1 by omega), rfl⟩)
  rw [dlt_ii2] at h1
  simp only [Bool.or_eq_false_iff, decide_eq_false_iff_not, Bool.and_eq_false_iff, Bool.not_eq_false', decide_eq_true_eq] at h1
  have h2 := hmin b (by omega)
  have e : b = j := by
    rcases h1 with ⟨h3, h4 | h4⟩
    · omega
    · have := h2.2 (by omega)
      omega
  subst e
  exact hr _ rfl
end Dr
set_option maxHeartbeats 4000000
namespace Dr
open PySem PySem.Spec PyProof.Rows L2 DD M72
local macro_rules | `(tactic| walk_at "ddcv") => `(tactic| fail)
local macro_rules | `(tactic| walk_at "ddev") => `(tactic| (repeat' (first | (show (_ : Prop); with_reducible assumption) | ((with_reducible apply ev_v) <;> rfl) | ((with_reducible apply ev_vo) <;> rfl) | ((with_reducible apply ev_rd) <;> rfl) | ((with_reducible apply ev_rdo) <;> rfl) | ((with_reducible apply ev_take) <;> rfl) | ((with_reducible apply ev_rdb) <;> rfl) | with_reducible exact ev_c | with_reducible exact av_nil | with_reducible exact pv_none | with_reducible exact ov_add | with_reducible exact ov_sub | with_reducible exact ov_lt | with_reducible exact ov_le | with_reducible exact ov_gt | with_reducible exact ov_ge | with_reducible exact ov_eqi | with_reducible exact ov_nei | with_reducible exact ov_isN | with_reducible exact ov_isntN | with_reducible exact ov_isB | with_reducible exact ov_isntB | with_reducible exact uv_lenL | with_reducible exact uv_lenT | with_reducible exact uv_lenR | with_reducible exact uv_int | with_reducible exact uv_intB | with_reducible exact uv_abs | with_reducible exact uv_tupL | with_reducible exact uv_tupT | with_reducible exact uv_lstL | with_reducible exact uv_lstT | with_reducible exact uv_isi rfl | with_reducible exact nv_min2 | with_reducible exact nv_max2 | with_reducible exact gv_name | with_reducible exact gv_nil | with_reducible exact mv_nil | with_reducible exact ov_addI | with_reducible exact plT2 | with_reducible exact plL_ints _ | with_reducible exact plT_ints _ | with_reducible exact pl_int | with_reducible exact pl_part | with_reducible exact pl_money | with_reducible exact pl_same | with_reducible exact pl_two | ((with_reducible apply iv_zsL) <;> rfl) | ((with_reducible apply iv_zsT) <;> rfl) | ((with_reducible apply iv_zvLL) <;> rfl) | ((with_reducible apply iv_zvTT) <;> rfl) | ((with_reducible apply iv_zvLT) <;> rfl) | ((with_reducible apply iv_zvTL) <;> rfl) | ((with_reducible apply av_stTv); rfl) | ((with_reducible apply av_stLv); rfl) | ((with_reducible apply av_stLo); rfl) | ((with_reducible apply ev_slv); rfl) | ((with_reducible apply ev_ixv); rfl) | ((with_reducible apply ev_ixvo); rfl) | ((with_reducible apply ev_ixvb); rfl; rfl) | ((with_reducible apply iv_itT); (with_reducible apply ev_v); rfl) | ((with_reducible apply iv_itT); (with_reducible apply ev_vo); rfl) | ((with_reducible apply iv_itL); (with_reducible apply ev_v); rfl) | ((with_reducible apply iv_itL); (with_reducible apply ev_vo); rfl) | ((with_reducible apply iv_enumT); (with_reducible apply ev_v); rfl) | ((with_reducible apply iv_enumT); (with_reducible apply ev_vo); rfl) | ((with_reducible apply iv_enumL); (with_reducible apply ev_v); rfl) | ((with_reducible apply iv_enumL); (with_reducible apply ev_vo); rfl) | with_reducible apply ev_bin | with_reducible apply ev_c1 | with_reducible apply ev_cn | with_reducible apply ev_tup | with_reducible apply ev_lst | with_reducible apply ev_andV | with_reducible apply ev_orV | with_reducible apply ev_notV | with_reducible apply ev_chain | with_reducible apply ev_call1 | with_reducible apply ev_call2 | with_reducible apply ev_call3 | with_reducible apply ev_call4 | with_reducible apply ev_lc | with_reducible apply av_cons | with_reducible apply tv_tst | with_reducible apply tv_and | with_reducible apply tv_or | with_reducible apply tv_not | with_reducible apply pv_some | with_reducible apply ov_ixT | with_reducible apply ov_ixL | with_reducible apply ov_ixR | with_reducible apply iv_itT | with_reducible apply iv_itL | with_reducible apply iv_enumT | with_reducible apply iv_enumL | with_reducible apply iv_zipTT | with_reducible apply iv_rng1 | with_reducible apply iv_rng2 | with_reducible apply gv_tup | with_reducible apply gv_cons | with_reducible apply ls_yes | with_reducible apply lf_of | with_reducible apply ov_addT | with_reducible apply ov_fdiv | with_reducible apply ov_mod | with_reducible apply ov_pow | with_reducible apply uv_sum | with_reducible apply uv_sumR | with_reducible apply uv_sumT | with_reducible apply uv_all | with_reducible apply uv_any | with_reducible apply ov_mul | with_reducible apply ov_eq | with_reducible apply ov_ne | with_reducible apply mv_sh | with_reducible apply mv_ow | with_reducible apply ev_mulL | with_reducible apply ev_lrg1 | with_reducible apply ev_neg | with_reducible apply ov_addL | with_reducible apply ov_mulT | with_reducible apply av_starL | with_reducible apply ov_addI | with_reducible apply iv_rng1 | with_reducible apply uv_lsetT | with_reducible apply uv_lsetL | with_reducible apply ov_inL | with_reducible apply ov_ninL | with_reducible apply uv_sortL | with_reducible apply uv_sortT | with_reducible apply ev_ifE | ((with_reducible show CV _ _ _ _ _); assumption) | walk_at "ddcv" | with_reducible exact atI_0 | with_reducible exact atI_1 | with_reducible exact atI_2 | (show (_ : Prop); with_reducible rfl) | ((with_reducible show (_ : DV) = _); dsimp only [Function.comp]; done) | ((with_reducible show (_ : DV) = _); simp only [Function.comp, Int.natCast_add, Int.natCast_mul]; done) | ((with_reducible show (_ : Pst) = _); rfl) | ((with_reducible show List.length _ = _); rfl) | ((with_reducible show List.length _ ≤ sizeLine); simp only [List.length_cons, List.length_nil, Nat.reduceAdd]; decide) | with_reducible intro _ | ((with_reducible apply noown_ok); rfl))))
abbrev frD (p : Nat × Nat) : DV := .tup [.int (p.1 : Int), .int (p.2 : Int)]
def dcD (d : Dc) : DV := match d with
  | (true, x) => .tup [.str "part", .int (x : Int)]
  | (false, x) => .tup [.str "money", .int (x : Int)]
abbrev dsD (ds : List Dc) : DV := .tup (ds.map dcD)
theorem pl_fr {p : Nat × Nat} : Pl 20 (frD p) := fun d hd => by
  rcases List.mem_cons.mp hd with rfl | hd
  · trivial
  · rcases List.mem_cons.mp hd with rfl | hd
    · trivial
    · cases hd
structure Disc (p : Nat) (ds : List Dc) : Prop where
  p : p ≤ 1000000000
  few : ds.length ≤ 12
  ok : ∀ d ∈ ds, (d.1 = true → d.2 ≤ 100) ∧ (d.1 = false → d.2 ≤ 1000000000)
local macro_rules | `(tactic| walk_at "ddcv") => `(tactic| (first | ((with_reducible show CV c_is_int _ _ _ _); exact cv_is_int) | ((with_reducible show CV c_is_told _ _ _ _); exact cv_told1 (by simp))))
theorem sne : decide (("money" : Str) = ("part" : Str)) = false := by decide +kernel
theorem sne2 : decide (("part" : Str) = ("money" : Str)) = false := by decide +kernel
theorem see1 : decide (("part" : Str) = ("part" : Str)) = true := by decide +kernel
theorem see2 : decide (("money" : Str) = ("money" : Str)) = true := by decide +kernel
theorem cv_told2 {x : Str} {v : DV} : CV c_is_told [.sh (.tup [.str x, v]), .sh (.tup [.int 2])] [] (.bl true) [] := cv_told1 (n := 2) (by simp)
local macro_rules | `(tactic| walk_at "ddcv") => `(tactic| (first | ((with_reducible show CV c_is_told _ _ _ _); exact cv_told2)))
theorem cv_is_discount {d : Dc} (h : (d.1 = true → d.2 ≤ 100) ∧ (d.1 = false → d.2 ≤ 1000000000)) : CV c_is_discount [.sh (dcD d)] [] (.bl true) [] := by
  obtain ⟨k, x⟩ := d
  refine cv_body fun e hr hn => ?_
  unfold t_is_discount
  dsimp only [List.length_cons, List.length_nil, Nat.reduceSub, Nat.reduceAdd, List.replicate, List.cons_append, List.nil_append, List.append_nil, Pst.put, List.set_cons_zero, List.set_cons_succ, Pst.upL, Pst.own, List.getElem?_cons_zero, List.getElem?_cons_succ]
  cases k with
  | true =>
    have hx := h.1 rfl
    show t_seq _ _ e ⟨[.sh (.tup [.str "part", .int (x : Int)])], []⟩
    refine s_seq ?_
    apply s_if
    · walk_at "ddev"
    · intro hc; cases hc
    intro _
    refine s_skip ?_
    dsimp only
    refine s_seq ?_
    apply s_if
    · walk_at "ddev"
    · intro _
      refine s_ret ?_
      apply EV.use
      · walk_at "ddev"
      refine hr_of hr rfl ?_
      have hx : x ≤ 100 := hx
      congr 1
      simp
      omega
    · intro hc
      rw [deq_ss, see1] at hc; cases hc
  | false =>
    have hx := h.2 rfl
    show t_seq _ _ e ⟨[.sh (.tup [.str "money", .int (x : Int)])], []⟩
    refine s_seq ?_
    apply s_if
    · walk_at "ddev"
    · intro hc; cases hc
    intro _
    refine s_skip ?_
    dsimp only
    refine s_seq ?_
    apply s_if
    · walk_at "ddev"
    · intro hc
      rw [deq_ss, sne] at hc; cases hc
    · intro _
      refine s_skip ?_
      dsimp only
      refine s_ret ?_
      apply EV.use
      · walk_at "ddev"
      refine hr_of hr rfl ?_
      have hx : x ≤ 1000000000 := hx
      rw [deq_ss, see2]
      congr 1
      simp
      omega
theorem cv_look_at_discounts {p : Nat} {ds : List Dc} (h : Disc p ds) : CV c_look_at_discounts [.sh (.int p), .sh (dsD ds)] [] .non [] := by
  have hp := h.p
  have hf := h.few
  refine cv_body fun e hr hn => ?_
  unfold t_look_at_discounts
  dsimp only [List.length_cons, List.length_nil, Nat.reduceSub, Nat.reduceAdd, List.replicate, List.cons_append, List.nil_append, List.append_nil, Pst.put, List.set_cons_zero, List.set_cons_succ, Pst.upL, Pst.own, List.getElem?_cons_zero, List.getElem?_cons_succ]
  refine s_seq ?_
  apply s_if
  · walk_at "ddev"
  · intro hc
    exfalso
    simp at hc
    omega
  intro _
  refine s_skip ?_
  dsimp only
  refine s_seq ?_
  apply s_if
  · walk_at "ddev"
  · intro hc
    exfalso
    simp [DV.isTup] at hc
    omega
  intro _
  refine s_skip ?_
  dsimp only
  apply s_if
  · walk_at "ddev"
    · refine lv_map (xs := ds) dcD (DV.bl ∘ fun _ => true) (fun d => [.sh (.int p), .sh (dsD ds), .sh (dcD d)]) (fun d hd => ?_) (fun _ _ => rfl) (Nat.le_trans hf (by decide)) rfl List.map_map
      have hcd := cv_is_discount (h.ok d hd)
      walk_at "ddev"
  · intro hc
    exfalso
    simp at hc
  intro _
  exact hn rfl _ rfl
/-! lowest terms -/
theorem cv_lowest {t b : Nat} (hb : 0 < b) (ht : t < 2 ^ 200) (hb2 : b < 2 ^ 200) : CV c_lowest [.sh (.int t), .sh (.int b)] [] (frD (low1 t b)) [] := by
  refine cv_body fun e hr hn => ?_
  unfold t_lowest
  dsimp only [List.length_cons, List.length_nil, Nat.reduceSub, Nat.reduceAdd, List.replicate, List.cons_append, List.nil_append, List.append_nil, Pst.put, List.set_cons_zero, List.set_cons_succ, Pst.upL, Pst.own, List.getElem?_cons_zero, List.getElem?_cons_succ]
  refine s_seq (s_par ?_)
  apply MV.use
  · walk_at "ddev"
  refine ⟨rfl, ?_⟩
  dsimp only [putM, List.length_cons, List.length_nil, Nat.reduceSub, Nat.reduceAdd, List.replicate, List.cons_append, List.nil_append, List.append_nil, Pst.put, List.set_cons_zero, List.set_cons_succ, Pst.upL, Pst.own, List.getElem?_cons_zero, List.getElem?_cons_succ]
  refine s_seq (s_while (b + 1) ?_)
  have key : ∀ (e2 : ED), (∀ g : Nat, g = Nat.gcd t b → e2.nx ⟨[.sh (.int t), .sh (.int b), .sh (.int g), .sh (.int 0)], []⟩) →
      ∀ (m x y : Nat), y < m → Nat.gcd x y = Nat.gcd t b → whD (t_tst (t_bin o_ne (t_v 3) (t_c (.int 0)))) L_lowest_1 m e2 ⟨[.sh (.int t), .sh (.int b), .sh (.int x), .sh (.int y)], []⟩ := by
    intro e2 he m
    induction m with
    | zero => intro x y hm; exact absurd hm (Nat.not_lt_zero _)
    | succ m ih =>
      intro x y hm hg
      apply whD_step
      · walk_at "ddev"
      · intro hk
        have hy : 0 < y := by
          rcases Nat.eq_zero_or_pos y with z | z
          · subst z; simp at hk
          · exact z
        unfold L_lowest_1
        refine s_par ?_
        apply MV.use
        · walk_at "ddev"
          omega
        refine ⟨rfl, ?_⟩
        dsimp only [putM, List.length_cons, List.length_nil, Nat.reduceSub, Nat.reduceAdd, List.replicate, List.cons_append, List.nil_append, List.append_nil, Pst.put, List.set_cons_zero, List.set_cons_succ, Pst.upL, Pst.own, List.getElem?_cons_zero, List.getElem?_cons_succ]
        have := ih y (x % y) (by have := Nat.mod_lt x hy; omega) (by rw [← hg, Nat.gcd_comm x y, Nat.gcd_rec y x, Nat.gcd_comm])
        exact this
      · intro hk
        have hy : y = 0 := by simpa using hk
        subst hy
        exact he x (by rw [← hg, Nat.gcd_zero_right])
  refine key _ (fun g hg => ?_) (b + 1) t b (Nat.lt_succ_self _) rfl
  have hgp : 0 < g := by rw [hg]; exact Nat.gcd_pos_of_pos_right _ hb
  have hgb : g ≤ b := by rw [hg]; exact Nat.gcd_le_right _ hb
  have hgb2 : g < 2 ^ 200 := Nat.lt_of_le_of_lt hgb hb2
  dsimp only
  refine s_ret ?_
  apply EV.use
  · walk_at "ddev"
    · exact wide_div (b := 200) (by omega) (by rw [Int.natAbs_natCast]; exact hgb2) (by decide) (by decide)
    · exact wide_div (b := 200) (by omega) (by rw [Int.natAbs_natCast]; exact hgb2) (by decide) (by decide)
  refine hr_of hr rfl ?_
  unfold low1
  rw [← hg]
  rfl
end Dr
set_option maxHeartbeats 4000000
namespace Dr
open PySem PySem.Spec PyProof.Rows L2 DD M72
local macro_rules | `(tactic| walk_at "ddcv") => `(tactic| fail)
local macro_rules | `(tactic| walk_at "ddev") => `(tactic| (repeat' (first | (show (_ : Prop); with_reducible assumption) | ((with_reducible apply ev_v) <;> rfl) | ((with_reducible apply ev_vo) <;> rfl) | ((with_reducible apply ev_rd) <;> rfl) | ((with_reducible apply ev_rdo) <;> rfl) | ((with_reducible apply ev_take) <;> rfl) | ((with_reducible apply ev_rdb) <;> rfl) | with_reducible exact ev_c | with_reducible exact av_nil | with_reducible exact pv_none | with_reducible exact ov_add | with_reducible exact ov_sub | with_reducible exact ov_lt | with_reducible exact ov_le | with_reducible exact ov_gt | with_reducible exact ov_ge | with_reducible exact ov_eqi | with_reducible exact ov_nei | with_reducible exact ov_isN | with_reducible exact ov_isntN | with_reducible exact ov_isB | with_reducible exact ov_isntB | with_reducible exact uv_lenL | with_reducible exact uv_lenT | with_reducible exact uv_lenR | with_reducible exact uv_int | with_reducible exact uv_intB | with_reducible exact uv_abs | with_reducible exact uv_tupL | with_reducible exact uv_tupT | with_reducible exact uv_lstL | with_reducible exact uv_lstT | with_reducible exact uv_isi rfl | with_reducible exact nv_min2 | with_reducible exact nv_max2 | with_reducible exact gv_name | with_reducible exact gv_nil | with_reducible exact mv_nil | with_reducible exact ov_addI | with_reducible exact plT2 | with_reducible exact plL_ints _ | with_reducible exact plT_ints _ | with_reducible exact pl_int | with_reducible exact pl_part | with_reducible exact pl_money | with_reducible exact pl_same | with_reducible exact pl_two | ((with_reducible apply iv_zsL) <;> rfl) | ((with_reducible apply iv_zsT) <;> rfl) | ((with_reducible apply iv_zvLL) <;> rfl) | ((with_reducible apply iv_zvTT) <;> rfl) | ((with_reducible apply iv_zvLT) <;> rfl) | ((with_reducible apply iv_zvTL) <;> rfl) | ((with_reducible apply av_stTv); rfl) | ((with_reducible apply av_stLv); rfl) | ((with_reducible apply av_stLo); rfl) | ((with_reducible apply ev_slv); rfl) | ((with_reducible apply ev_ixv); rfl) | ((with_reducible apply ev_ixvo); rfl) | ((with_reducible apply ev_ixvb); rfl; rfl) | ((with_reducible apply iv_itT); (with_reducible apply ev_v); rfl) | ((with_reducible apply iv_itT); (with_reducible apply ev_vo); rfl) | ((with_reducible apply iv_itL); (with_reducible apply ev_v); rfl) | ((with_reducible apply iv_itL); (with_reducible apply ev_vo); rfl) | ((with_reducible apply iv_enumT); (with_reducible apply ev_v); rfl) | ((with_reducible apply iv_enumT); (with_reducible apply ev_vo); rfl) | ((with_reducible apply iv_enumL); (with_reducible apply ev_v); rfl) | ((with_reducible apply iv_enumL); (with_reducible apply ev_vo); rfl) | with_reducible apply ev_bin | with_reducible apply ev_c1 | with_reducible apply ev_cn | with_reducible apply ev_tup | with_reducible apply ev_lst | with_reducible apply ev_andV | with_reducible apply ev_orV | with_reducible apply ev_notV | with_reducible apply ev_chain | with_reducible apply ev_call1 | with_reducible apply ev_call2 | with_reducible apply ev_call3 | with_reducible apply ev_call4 | with_reducible apply ev_lc | with_reducible apply av_cons | with_reducible apply tv_tst | with_reducible apply tv_and | with_reducible apply tv_or | with_reducible apply tv_not | with_reducible apply pv_some | with_reducible apply ov_ixT | with_reducible apply ov_ixL | with_reducible apply ov_ixR | with_reducible apply iv_itT | with_reducible apply iv_itL | with_reducible apply iv_enumT | with_reducible apply iv_enumL | with_reducible apply iv_zipTT | with_reducible apply iv_rng1 | with_reducible apply iv_rng2 | with_reducible apply gv_tup | with_reducible apply gv_cons | with_reducible apply ls_yes | with_reducible apply lf_of | with_reducible apply ov_addT | with_reducible apply ov_fdiv | with_reducible apply ov_mod | with_reducible apply ov_pow | with_reducible apply uv_sum | with_reducible apply uv_sumR | with_reducible apply uv_sumT | with_reducible apply uv_all | with_reducible apply uv_any | with_reducible apply ov_mul | with_reducible apply ov_eq | with_reducible apply ov_ne | with_reducible apply mv_sh | with_reducible apply mv_ow | with_reducible apply ev_mulL | with_reducible apply ev_lrg1 | with_reducible apply ev_neg | with_reducible apply ov_addL | with_reducible apply ov_mulT | with_reducible apply av_starL | with_reducible apply ov_addI | with_reducible apply iv_rng1 | with_reducible apply uv_lsetT | with_reducible apply uv_lsetL | with_reducible apply ov_inL | with_reducible apply ov_ninL | with_reducible apply uv_sortL | with_reducible apply uv_sortT | with_reducible apply ev_ifE | ((with_reducible show CV _ _ _ _ _); assumption) | walk_at "ddcv" | with_reducible exact atI_0 | with_reducible exact atI_1 | with_reducible exact atI_2 | (show (_ : Prop); with_reducible rfl) | ((with_reducible show (_ : DV) = _); dsimp only [Function.comp]; done) | ((with_reducible show (_ : DV) = _); simp only [Function.comp, Int.natCast_add, Int.natCast_mul]; done) | ((with_reducible show (_ : Pst) = _); rfl) | ((with_reducible show List.length _ = _); rfl) | ((with_reducible show List.length _ ≤ sizeLine); simp only [List.length_cons, List.length_nil, Nat.reduceAdd]; decide) | with_reducible intro _ | ((with_reducible apply noown_ok); rfl))))
local macro_rules | `(tactic| walk_at "ddcv") => `(tactic| (first | ((with_reducible show CV c_is_int _ _ _ _); exact cv_is_int) | ((with_reducible show CV c_look_at_discounts _ _ _ _); exact cv_look_at_discounts (by assumption))))
def SzF (k : Nat) (p : Nat × Nat) : Prop := p.1 < 2 ^ (30 + 7 * k) ∧ p.2 < 2 ^ (1 + 7 * k) ∧ 0 < p.2
theorem pow_le {a b : Nat} (h : a ≤ b) : 2 ^ a ≤ 2 ^ b := Nat.pow_le_pow_right (by decide) h
theorem szf_off {k : Nat} {p : Nat × Nat} (h : SzF k p) (d : Dc) : SzF (k + 1) (off p d) := by
  obtain ⟨h1, h2, h3⟩ := h
  have e1 : 2 ^ (30 + 7 * (k + 1)) = 2 ^ (30 + 7 * k) * 128 := by rw [show 30 + 7 * (k + 1) = (30 + 7 * k) + 7 by omega, Nat.pow_add]
  have e2 : 2 ^ (1 + 7 * (k + 1)) = 2 ^ (1 + 7 * k) * 128 := by rw [show 1 + 7 * (k + 1) = (1 + 7 * k) + 7 by omega, Nat.pow_add]
  obtain ⟨b, x⟩ := d
  have hl : ∀ t c : Nat, 0 < c → (low1 t c).1 ≤ t ∧ (low1 t c).2 ≤ c ∧ 0 < (low1 t c).2 := fun t c hc => ⟨Nat.div_le_self _ _, Nat.div_le_self _ _, (low1_cross hc).2.1⟩
  cases b with
  | true =>
    obtain ⟨l1, l2, l3⟩ := hl (p.1 * (100 - x)) (p.2 * 100) (by omega)
    have hm : p.1 * (100 - x) ≤ p.1 * 100 := Nat.mul_le_mul_left _ (Nat.sub_le _ _)
    refine ⟨?_, ?_, l3⟩
    · rw [e1]
      show (low1 (p.1 * (100 - x)) (p.2 * 100)).1 < _
      omega
    · rw [e2]
      show (low1 (p.1 * (100 - x)) (p.2 * 100)).2 < _
      omega
  | false =>
    obtain ⟨l1, l2, l3⟩ := hl (p.1 - x * p.2) p.2 h3
    refine ⟨?_, ?_, l3⟩
    · rw [e1]
      show (low1 (p.1 - x * p.2) p.2).1 < _
      omega
    · rw [e2]
      show (low1 (p.1 - x * p.2) p.2).2 < _
      omega
theorem cv_told_off {k : Nat} {p : Nat × Nat} {d : Dc} (hk : k ≤ 13) (hz : SzF k p) (h : (d.1 = true → d.2 ≤ 100) ∧ (d.1 = false → d.2 ≤ 1000000000)) : CV c_told_off [.sh (frD p), .sh (dcD d)] [] (frD (off p d)) [] := by
  obtain ⟨h1, h2, h3⟩ := hz
  have q1 : p.1 < 2 ^ 121 := Nat.lt_of_lt_of_le h1 (pow_le (by omega))
  have q2 : p.2 < 2 ^ 92 := Nat.lt_of_lt_of_le h2 (pow_le (by omega))
  obtain ⟨b, x⟩ := d
  refine cv_body fun e hr hn => ?_
  unfold t_told_off
  dsimp only [List.length_cons, List.length_nil, Nat.reduceSub, Nat.reduceAdd, List.replicate, List.cons_append, List.nil_append, List.append_nil, Pst.put, List.set_cons_zero, List.set_cons_succ, Pst.upL, Pst.own, List.getElem?_cons_zero, List.getElem?_cons_succ]
  cases b with
  | true =>
    have hx : x ≤ 100 := h.1 rfl
    show t_seq _ _ e ⟨[.sh (frD p), .sh (.tup [.str "part", .int (x : Int)]), .un, .un], []⟩
    refine s_seq (s_asg ?_)
    apply EV.use
    · walk_at "ddev"
    apply gv_use
    · walk_at "ddev"
    dsimp only [List.length_cons, List.length_nil, Nat.reduceSub, Nat.reduceAdd, List.replicate, List.cons_append, List.nil_append, List.append_nil, Pst.put, List.set_cons_zero, List.set_cons_succ, Pst.upL, Pst.own, List.getElem?_cons_zero, List.getElem?_cons_succ]
    refine s_seq ?_
    apply s_if
    · walk_at "ddev"
    · intro _
      have e1 : (p.1 : Int) * (100 - (x : Int)) = ((p.1 * (100 - x) : Nat) : Int) := by rw [Int.natCast_mul]; congr 1; omega
      have hm : p.1 * (100 - x) ≤ p.1 * 100 := Nat.mul_le_mul_left _ (Nat.sub_le _ _)
      have hcl : CV c_lowest [.sh (.int ((p.1 : Int) * (100 - (x : Int)))), .sh (.int ((p.2 : Int) * 100))] [] (frD (off p (true, x))) [] := by
        rw [e1]
        exact cv_lowest (t := p.1 * (100 - x)) (b := p.2 * 100) (by omega) (by omega) (by omega)
      refine s_ret ?_
      apply EV.use
      · walk_at "ddev"
        · exact mulx_ok (a := 121) (b := 7) (by rw [Int.natAbs_natCast]; exact q1) (by omega) (by decide)
        · exact mulx_ok (a := 92) (b := 7) (by rw [Int.natAbs_natCast]; exact q2) (by omega) (by decide)
      exact hr _ rfl
    · intro hc
      rw [deq_ss, see1] at hc; cases hc
  | false =>
    have hx : x ≤ 1000000000 := h.2 rfl
    show t_seq _ _ e ⟨[.sh (frD p), .sh (.tup [.str "money", .int (x : Int)]), .un, .un], []⟩
    refine s_seq (s_asg ?_)
    apply EV.use
    · walk_at "ddev"
    apply gv_use
    · walk_at "ddev"
    dsimp only [List.length_cons, List.length_nil, Nat.reduceSub, Nat.reduceAdd, List.replicate, List.cons_append, List.nil_append, List.append_nil, Pst.put, List.set_cons_zero, List.set_cons_succ, Pst.upL, Pst.own, List.getElem?_cons_zero, List.getElem?_cons_succ]
    refine s_seq ?_
    apply s_if
    · walk_at "ddev"
    · intro hc
      rw [deq_ss, sne] at hc; cases hc
    · intro _
      refine s_skip ?_
      dsimp only
      have e1 : max 0 ((p.1 : Int) - (x : Int) * (p.2 : Int)) = ((p.1 - x * p.2 : Nat) : Int) := by rw [← Int.natCast_mul]; omega
      have hcl : CV c_lowest [.sh (.int (max 0 ((p.1 : Int) - (x : Int) * (p.2 : Int)))), .sh (.int (p.2 : Int))] [] (frD (off p (false, x))) [] := by
        rw [e1]
        exact cv_lowest (t := p.1 - x * p.2) (b := p.2) h3 (by omega) (by omega)
      refine s_ret ?_
      apply EV.use
      · walk_at "ddev"
        exact mulx_ok (a := 30) (b := 92) (by omega) (by rw [Int.natAbs_natCast]; exact q2) (by decide)
      exact hr _ rfl
/-- the discounts at these places -/
def pick (ds : List Dc) (os : List Nat) : List Dc := os.map fun i => (ds[i]?).getD (true, 0)
theorem cv_told_price' {D : DV} {p : Nat} {ds : List Dc} {os : List Nat} (h : Disc p ds) (hD : ∀ κ : List DV → Prop, κ (os.map natD) → D.items κ) (ho : ∀ i ∈ os, i < ds.length) (hl : os.length ≤ 12) : CV c_told_price [.sh (.int p), .sh (dsD ds), .sh D] [] (frD (tpl (pick ds os) (p, 1))) [] := by
  refine cv_body fun e hr hn => ?_
  unfold t_told_price
  dsimp only [List.length_cons, List.length_nil, Nat.reduceSub, Nat.reduceAdd, List.replicate, List.cons_append, List.nil_append, List.append_nil, Pst.put, List.set_cons_zero, List.set_cons_succ, Pst.upL, Pst.own, List.getElem?_cons_zero, List.getElem?_cons_succ]
  refine s_seq (s_set ?_)
  apply EV.use
  · walk_at "ddev"
  dsimp only [List.length_cons, List.length_nil, Nat.reduceSub, Nat.reduceAdd, List.replicate, List.cons_append, List.nil_append, List.append_nil, Pst.put, List.set_cons_zero, List.set_cons_succ, Pst.upL, Pst.own, List.getElem?_cons_zero, List.getElem?_cons_succ]
  refine s_seq (s_for ?_)
  refine iv_use (p1 := ⟨[.sh (.int p), .sh (dsD ds), .sh D, .sh (.tup [.int p, .int 1]), .un], []⟩) (ds := os.map natD) (fun Xd R q => ev_v rfl Xd _ (hD _ q)) ?_
  have key : ∀ (e2 : ED), (∀ s4, e2.nx ⟨[.sh (.int p), .sh (dsD ds), .sh D, .sh (frD (tpl (pick ds os) (p, 1))), s4], []⟩) →
      ∀ (O2 : List Nat) (k : Nat) (f : Nat × Nat) (s4 : Sl), (∀ i ∈ O2, i < ds.length) → k + O2.length ≤ 12 → SzF k f → tpl (pick ds O2) f = tpl (pick ds os) (p, 1) →
      forD (g_name 4) L_told_price_1 (O2.map natD) e2 ⟨[.sh (.int p), .sh (dsD ds), .sh D, .sh (frD f), s4], []⟩ := by
    intro e2 he O2
    induction O2 with
    | nil =>
      intro k f s4 ho hk hz hf
      refine forD_nil ?_
      have := he s4
      rw [← hf] at this
      exact this
    | cons i O2 ih =>
      intro k f s4 ho hk hz hf
      have hi := ho i List.mem_cons_self
      have hat : atI (ds.map dcD) (i : Int) = some (dcD ds[i]) := atI_n (n := i) (by rw [List.getElem?_map, List.getElem?_eq_getElem hi]; rfl) rfl
      have hco := cv_told_off (k := k) (p := f) (d := ds[i]) (by omega) hz (h.ok _ (List.getElem_mem _))
      refine forD_cons (gv_use gv_name ?_)
      unfold L_told_price_1
      dsimp only [List.length_cons, List.length_nil, Nat.reduceSub, Nat.reduceAdd, List.replicate, List.cons_append, List.nil_append, List.append_nil, Pst.put, List.set_cons_zero, List.set_cons_succ, Pst.upL, Pst.own, List.getElem?_cons_zero, List.getElem?_cons_succ]
      refine s_set ?_
      apply EV.use
      · walk_at "ddev"
      dsimp only [List.length_cons, List.length_nil, Nat.reduceSub, Nat.reduceAdd, List.replicate, List.cons_append, List.nil_append, List.append_nil, Pst.put, List.set_cons_zero, List.set_cons_succ, Pst.upL, Pst.own, List.getElem?_cons_zero, List.getElem?_cons_succ]
      rw [List.length_cons] at hk
      refine ih (k + 1) (off f ds[i]) _ (fun j hj => ho j (List.mem_cons_of_mem _ hj)) (by omega) (szf_off hz _) ?_
      rw [← hf]
      unfold pick
      rw [List.map_cons, List.getElem?_eq_getElem hi]
      rfl
  refine key _ (fun s4 => ?_) os 0 (p, 1) .un ho (by omega) ⟨?_, show 1 < 2 ^ (1 + 7 * 0) by decide, Nat.one_pos⟩ rfl
  · dsimp only
    refine s_ret ?_
    apply EV.use
    · walk_at "ddev"
    exact hr _ rfl
  · have := h.p
    show p < 2 ^ 30
    omega
theorem cv_told_priceT {p : Nat} {ds : List Dc} {os : List Nat} (h : Disc p ds) (ho : ∀ i ∈ os, i < ds.length) (hl : os.length ≤ 12) : CV c_told_price [.sh (.int p), .sh (dsD ds), .sh (.tup (os.map natD))] [] (frD (tpl (pick ds os) (p, 1))) [] := cv_told_price' h (fun κ q => q) ho hl
theorem cv_told_priceL {p : Nat} {ds : List Dc} {os : List Nat} (h : Disc p ds) (ho : ∀ i ∈ os, i < ds.length) (hl : os.length ≤ 12) : CV c_told_price [.sh (.int p), .sh (dsD ds), .sh (.lst (os.map natD))] [] (frD (tpl (pick ds os) (p, 1))) [] := cv_told_price' h (fun κ q => q) ho hl
theorem perm_lt {n : Nat} {os : List Nat} (h : os.Perm (List.range n)) : (∀ i ∈ os, i < n) ∧ os.length = n := ⟨fun i hi => List.mem_range.mp (h.mem_iff.mp hi), by rw [h.length_eq, List.length_range]⟩
theorem cv_price_of {p : Nat} {ds : List Dc} {os : List Nat} (h : Disc p ds) (ho : os.Perm (List.range ds.length)) : CV c_price_of [.sh (.int p), .sh (dsD ds), .sh (.tup (os.map natD))] [] (frD (tpl (pick ds os) (p, 1))) [] := by
  have hf := h.few
  have hio : CV c_is_order [.sh (.tup (os.map natD)), .sh (.int (ds.map dcD).length)] [] (.bl true) [] := by rw [List.length_map]; exact cv_is_order ho (by omega)
  have htp := cv_told_priceT h (perm_lt ho).1 (by rw [(perm_lt ho).2]; exact hf)
  refine cv_body fun e hr hn => ?_
  unfold t_price_of
  dsimp only [List.length_cons, List.length_nil, Nat.reduceSub, Nat.reduceAdd, List.replicate, List.cons_append, List.nil_append, List.append_nil, Pst.put, List.set_cons_zero, List.set_cons_succ, Pst.upL, Pst.own, List.getElem?_cons_zero, List.getElem?_cons_succ]
  refine s_seq (s_expr ?_)
  apply EV.use
  · walk_at "ddev"
  dsimp only
  refine s_seq ?_
  apply s_if
  · walk_at "ddev"
  · intro hc; cases hc
  intro _
  refine s_skip ?_
  dsimp only
  refine s_ret ?_
  apply EV.use
  · walk_at "ddev"
  exact hr _ rfl
/-! places of parts, of money -/
def pls (b : Bool) (ds : List Dc) : List Nat := ((ds.zipIdx).filter fun q => q.1.1 == b).map (·.2)
theorem cv_told_split {p : Nat} {ds : List Dc} (h : Disc p ds) : CV c_told_split [.sh (dsD ds)] [] (.tup [.lst ((pls true ds).map natD), .lst ((pls false ds).map natD)]) [] := by
  have hf := h.few
  have hzl : (ds.zipIdx).length ≤ sizeLine := by rw [List.length_zipIdx]; exact Nat.le_trans hf (by decide)
  refine cv_body fun e hr hn => ?_
  unfold t_told_split
  dsimp only [List.length_cons, List.length_nil, Nat.reduceSub, Nat.reduceAdd, List.replicate, List.cons_append, List.nil_append, List.append_nil, Pst.put, List.set_cons_zero, List.set_cons_succ, Pst.upL, Pst.own, List.getElem?_cons_zero, List.getElem?_cons_succ]
  refine s_seq (s_set ?_)
  apply EV.use
  · walk_at "ddev"
    refine lv_fil (xs := ds.zipIdx) (fun q => .tup [.int q.2, dcD q.1]) (fun q => natD q.2) (fun q => q.1.1 == true) (fun q => [.sh (dsD ds), .un, .sh (natD q.2), .sh (dcD q.1)]) (fun q => [.sh (dsD ds), .un, .sh (natD q.2), .sh (dcD q.1)]) (fun q hq => ?_) (fun _ _ => rfl) (fun _ _ => rfl) hzl (enumD_maps dcD ds 0) rfl
    obtain ⟨⟨k, x⟩, i⟩ := q
    cases k with
    | true =>
      show LF _ _ _ _ _ _ (.tup [.int (i : Int), .tup [.str "part", .int (x : Int)]]) true (natD i) [.sh (dsD ds), .un, .sh (natD i), .sh (.tup [.str "part", .int (x : Int)])] [.sh (dsD ds), .un, .sh (natD i), .sh (.tup [.str "part", .int (x : Int)])]
      walk_at "ddev"
      exact see1
    | false =>
      show LF _ _ _ _ _ _ (.tup [.int (i : Int), .tup [.str "money", .int (x : Int)]]) false (natD i) [.sh (dsD ds), .un, .sh (natD i), .sh (.tup [.str "money", .int (x : Int)])] [.sh (dsD ds), .un, .sh (natD i), .sh (.tup [.str "money", .int (x : Int)])]
      walk_at "ddev"
      exact sne
  dsimp only [List.length_cons, List.length_nil, Nat.reduceSub, Nat.reduceAdd, List.replicate, List.cons_append, List.nil_append, List.append_nil, Pst.put, List.set_cons_zero, List.set_cons_succ, Pst.upL, Pst.own, List.getElem?_cons_zero, List.getElem?_cons_succ]
  refine s_ret ?_
  apply EV.use
  · walk_at "ddev"
    refine lv_fil (xs := ds.zipIdx) (fun q => .tup [.int q.2, dcD q.1]) (fun q => natD q.2) (fun q => q.1.1 == false) (fun q => [.sh (dsD ds), .sh (.lst (((ds.zipIdx).filter fun q => q.1.1 == true).map fun q => natD q.2)), .sh (natD q.2), .sh (dcD q.1)]) (fun q => [.sh (dsD ds), .sh (.lst (((ds.zipIdx).filter fun q => q.1.1 == true).map fun q => natD q.2)), .sh (natD q.2), .sh (dcD q.1)]) (fun q hq => ?_) (fun _ _ => rfl) (fun _ _ => rfl) hzl (enumD_maps dcD ds 0) rfl
    obtain ⟨⟨k, x⟩, i⟩ := q
    cases k with
    | true =>
      show LF _ _ _ _ _ _ (.tup [.int (i : Int), .tup [.str "part", .int (x : Int)]]) false (natD i) [.sh (dsD ds), .sh (.lst (((ds.zipIdx).filter fun q => q.1.1 == true).map fun q => natD q.2)), .sh (natD i), .sh (.tup [.str "part", .int (x : Int)])] [.sh (dsD ds), .sh (.lst (((ds.zipIdx).filter fun q => q.1.1 == true).map fun q => natD q.2)), .sh (natD i), .sh (.tup [.str "part", .int (x : Int)])]
      walk_at "ddev"
      exact sne2
    | false =>
      show LF _ _ _ _ _ _ (.tup [.int (i : Int), .tup [.str "money", .int (x : Int)]]) true (natD i) [.sh (dsD ds), .sh (.lst (((ds.zipIdx).filter fun q => q.1.1 == true).map fun q => natD q.2)), .sh (natD i), .sh (.tup [.str "money", .int (x : Int)])] [.sh (dsD ds), .sh (.lst (((ds.zipIdx).filter fun q => q.1.1 == true).map fun q => natD q.2)), .sh (natD i), .sh (.tup [.str "money", .int (x : Int)])]
      walk_at "ddev"
      exact see2
  refine hr_of hr rfl ?_
  unfold pls
  rw [List.map_map, List.map_map]
  rfl
end Dr
set_option maxHeartbeats 4000000
namespace Dr
open PySem PySem.Spec PyProof.Rows L2 DD M72
local macro_rules | `(tactic| walk_at "ddcv") => `(tactic| fail)
local macro_rules | `(tactic| walk_at "ddev") => `(tactic| (repeat' (first | (show (_ : Prop); with_reducible assumption) | ((with_reducible apply ev_v) <;> rfl) | ((with_reducible apply ev_vo) <;> rfl) | ((with_reducible apply ev_rd) <;> rfl) | ((with_reducible apply ev_rdo) <;> rfl) | ((with_reducible apply ev_take) <;> rfl) | ((with_reducible apply ev_rdb) <;> rfl) | with_reducible exact ev_c | with_reducible exact av_nil | with_reducible exact pv_none | with_reducible exact ov_add | with_reducible exact ov_sub | with_reducible exact ov_lt | with_reducible exact ov_le | with_reducible exact ov_gt | with_reducible exact ov_ge | with_reducible exact ov_eqi | with_reducible exact ov_nei | with_reducible exact ov_isN | with_reducible exact ov_isntN | with_reducible exact ov_isB | with_reducible exact ov_isntB | with_reducible exact uv_lenL | with_reducible exact uv_lenT | with_reducible exact uv_lenR | with_reducible exact uv_int | with_reducible exact uv_intB | with_reducible exact uv_abs | with_reducible exact uv_tupL | with_reducible exact uv_tupT | with_reducible exact uv_lstL | with_reducible exact uv_lstT | with_reducible exact uv_isi rfl | with_reducible exact nv_min2 | with_reducible exact nv_max2 | with_reducible exact gv_name | with_reducible exact gv_nil | with_reducible exact mv_nil | with_reducible exact ov_addI | with_reducible exact plT2 | with_reducible exact plL_ints _ | with_reducible exact plT_ints _ | with_reducible exact pl_int | with_reducible exact pl_part | with_reducible exact pl_money | with_reducible exact pl_same | with_reducible exact pl_two | ((with_reducible apply iv_zsL) <;> rfl) | ((with_reducible apply iv_zsT) <;> rfl) | ((with_reducible apply iv_zvLL) <;> rfl) | ((with_reducible apply iv_zvTT) <;> rfl) | ((with_reducible apply iv_zvLT) <;> rfl) | ((with_reducible apply iv_zvTL) <;> rfl) | ((with_reducible apply av_stTv); rfl) | ((with_reducible apply av_stLv); rfl) | ((with_reducible apply av_stLo); rfl) | ((with_reducible apply ev_slv); rfl) | ((with_reducible apply ev_ixv); rfl) | ((with_reducible apply ev_ixvo); rfl) | ((with_reducible apply ev_ixvb); rfl; rfl) | ((with_reducible apply iv_itT); (with_reducible apply ev_v); rfl) | ((with_reducible apply iv_itT); (with_reducible apply ev_vo); rfl) | ((with_reducible apply iv_itL); (with_reducible apply ev_v); rfl) | ((with_reducible apply iv_itL); (with_reducible apply ev_vo); rfl) | ((with_reducible apply iv_enumT); (with_reducible apply ev_v); rfl) | ((with_reducible apply iv_enumT); (with_reducible apply ev_vo); rfl) | ((with_reducible apply iv_enumL); (with_reducible apply ev_v); rfl) | ((with_reducible apply iv_enumL); (with_reducible apply ev_vo); rfl) | with_reducible apply ev_bin | with_reducible apply ev_c1 | with_reducible apply ev_cn | with_reducible apply ev_tup | with_reducible apply ev_lst | with_reducible apply ev_andV | with_reducible apply ev_orV | with_reducible apply ev_notV | with_reducible apply ev_chain | with_reducible apply ev_call1 | with_reducible apply ev_call2 | with_reducible apply ev_call3 | with_reducible apply ev_call4 | with_reducible apply ev_lc | with_reducible apply av_cons | with_reducible apply tv_tst | with_reducible apply tv_and | with_reducible apply tv_or | with_reducible apply tv_not | with_reducible apply pv_some | with_reducible apply ov_ixT | with_reducible apply ov_ixL | with_reducible apply ov_ixR | with_reducible apply iv_itT | with_reducible apply iv_itL | with_reducible apply iv_enumT | with_reducible apply iv_enumL | with_reducible apply iv_zipTT | with_reducible apply iv_rng1 | with_reducible apply iv_rng2 | with_reducible apply gv_tup | with_reducible apply gv_cons | with_reducible apply ls_yes | with_reducible apply lf_of | with_reducible apply ov_addT | with_reducible apply ov_fdiv | with_reducible apply ov_mod | with_reducible apply ov_pow | with_reducible apply uv_sum | with_reducible apply uv_sumR | with_reducible apply uv_sumT | with_reducible apply uv_all | with_reducible apply uv_any | with_reducible apply ov_mul | with_reducible apply ov_eq | with_reducible apply ov_ne | with_reducible apply mv_sh | with_reducible apply mv_ow | with_reducible apply ev_mulL | with_reducible apply ev_lrg1 | with_reducible apply ev_neg | with_reducible apply ov_addL | with_reducible apply ov_mulT | with_reducible apply av_starL | with_reducible apply ov_addI | with_reducible apply iv_rng1 | with_reducible apply uv_lsetT | with_reducible apply uv_lsetL | with_reducible apply ov_inL | with_reducible apply ov_ninL | with_reducible apply uv_sortL | with_reducible apply uv_sortT | with_reducible apply ev_ifE | ((with_reducible show CV _ _ _ _ _); assumption) | walk_at "ddcv" | with_reducible exact atI_0 | with_reducible exact atI_1 | with_reducible exact atI_2 | (show (_ : Prop); with_reducible rfl) | ((with_reducible show (_ : DV) = _); dsimp only [Function.comp]; done) | ((with_reducible show (_ : DV) = _); simp only [Function.comp, Int.natCast_add, Int.natCast_mul]; done) | ((with_reducible show (_ : Pst) = _); rfl) | ((with_reducible show List.length _ = _); rfl) | ((with_reducible show List.length _ ≤ sizeLine); simp only [List.length_cons, List.length_nil, Nat.reduceAdd]; decide) | with_reducible intro _ | ((with_reducible apply noown_ok); rfl))))
local macro_rules | `(tactic| walk_at "ddcv") => `(tactic| (first | ((with_reducible show CV c_is_int _ _ _ _); exact cv_is_int) | ((with_reducible show CV c_look_at_discounts _ _ _ _); exact cv_look_at_discounts (by assumption)) | ((with_reducible show CV c_told_split _ _ _ _); exact cv_told_split (by assumption))))
theorem pls_pick (b : Bool) (ds : List Dc) : pick ds (pls b ds) = ds.filter fun d => d.1 == b := by
  unfold pick pls
  rw [List.map_map]
  have e : (ds.zipIdx.filter fun q => q.1.1 == b).map ((fun i => (ds[i]?).getD (true, 0)) ∘ fun q => q.2) = (ds.zipIdx.filter fun q => q.1.1 == b).map (·.1) := by
    refine List.map_congr_left fun q hq => ?_
    have := List.mem_zipIdx_iff_getElem?.mp (List.mem_filter.mp hq).1
    simp only [Function.comp]
    rw [this]; rfl
  rw [e]
  have h2 : (ds.zipIdx.map (·.1)).filter (fun d => d.1 == b) = (ds.zipIdx.filter ((fun d => d.1 == b) ∘ (·.1))).map (·.1) := List.filter_map
  rw [List.zipIdx_map_fst] at h2
  exact h2.symm
theorem pls_perm (ds : List Dc) : (pls true ds ++ pls false ds).Perm (List.range ds.length) := by
  unfold pls
  rw [← List.map_append]
  have h1 : (ds.zipIdx.filter (fun q => q.1.1 == true) ++ ds.zipIdx.filter (fun q => q.1.1 == false)).Perm ds.zipIdx := by
    have h := List.filter_append_perm (fun q : Dc × Nat => q.1.1 == true) ds.zipIdx
    have e : (fun q : Dc × Nat => !(q.1.1 == true)) = fun q => q.1.1 == false := by funext q; cases q.1.1 <;> rfl
    rw [e] at h
    exact h
  have h2 := h1.map (·.2)
  rw [List.zipIdx_map_snd] at h2
  rw [List.range_eq_range']
  exact h2
theorem pick_app (ds : List Dc) (a b : List Nat) : pick ds (a ++ b) = pick ds a ++ pick ds b := by unfold pick; rw [List.map_append]
theorem pick_range (ds : List Dc) : pick ds (List.range ds.length) = ds := by
  unfold pick
  refine List.ext_getElem? fun i => ?_
  rw [List.getElem?_map]
  by_cases hi : i < ds.length
  · rw [List.getElem?_range hi, List.getElem?_eq_getElem hi]
    simp [List.getElem?_eq_getElem hi]
  · rw [List.getElem?_eq_none (by rw [List.length_range]; omega), List.getElem?_eq_none (by omega)]; rfl
theorem pick_perm2 {ds : List Dc} {os : List Nat} (h : os.Perm (List.range ds.length)) : (pick ds os).Perm ds := by
  have := h.map fun i => (ds[i]?).getD (true, 0)
  have e := pick_range ds
  unfold pick at e ⊢
  rw [e] at this
  exact this
/-- parts first; money first -/
def lo1 (p : Nat) (ds : List Dc) : Nat × Nat := tpl (pick ds (pls true ds ++ pls false ds)) (p, 1)
def hi1 (p : Nat) (ds : List Dc) : Nat × Nat := tpl (pick ds (pls false ds ++ pls true ds)) (p, 1)
theorem pls_perm2 (ds : List Dc) : (pls false ds ++ pls true ds).Perm (List.range ds.length) := List.perm_append_comm.trans (pls_perm ds)
theorem cv_lowest_price {p : Nat} {ds : List Dc} (h : Disc p ds) : CV c_lowest_price [.sh (.int p), .sh (dsD ds)] [] (.tup [frD (lo1 p ds), .tup ((pls true ds ++ pls false ds).map natD)]) [] := by
  have hf := h.few
  have hpm := perm_lt (pls_perm ds)
  have hl : (pls true ds).length + (pls false ds).length ≤ 12 := by rw [← List.length_append, hpm.2]; exact hf
  have htp : CV c_told_price [.sh (.int p), .sh (dsD ds), .sh (.lst ((pls true ds).map natD ++ ((pls false ds).map natD ++ [])))] [] (frD (lo1 p ds)) [] := by
    rw [List.append_nil, ← List.map_append]
    exact cv_told_priceL h hpm.1 (by rw [hpm.2]; exact hf)
  refine cv_body fun e hr hn => ?_
  unfold t_lowest_price
  dsimp only [List.length_cons, List.length_nil, Nat.reduceSub, Nat.reduceAdd, List.replicate, List.cons_append, List.nil_append, List.append_nil, Pst.put, List.set_cons_zero, List.set_cons_succ, Pst.upL, Pst.own, List.getElem?_cons_zero, List.getElem?_cons_succ]
  refine s_seq (s_expr ?_)
  apply EV.use
  · walk_at "ddev"
  dsimp only
  refine s_seq (s_asg ?_)
  apply EV.use
  · walk_at "ddev"
  apply gv_use
  · walk_at "ddev"
  dsimp only [List.length_cons, List.length_nil, Nat.reduceSub, Nat.reduceAdd, List.replicate, List.cons_append, List.nil_append, List.append_nil, Pst.put, List.set_cons_zero, List.set_cons_succ, Pst.upL, Pst.own, List.getElem?_cons_zero, List.getElem?_cons_succ]
  refine s_ret ?_
  apply EV.use
  · walk_at "ddev"
    all_goals (simp only [List.length_append, List.length_map, List.length_nil]; exact Nat.le_trans (show (pls true ds).length + ((pls false ds).length + 0) ≤ 12 by omega) (by decide))
  refine hr_of hr rfl ?_
  rw [List.append_nil, ← List.map_append]
theorem cv_highest_price {p : Nat} {ds : List Dc} (h : Disc p ds) : CV c_highest_price [.sh (.int p), .sh (dsD ds)] [] (.tup [frD (hi1 p ds), .tup ((pls false ds ++ pls true ds).map natD)]) [] := by
  have hf := h.few
  have hpm := perm_lt (pls_perm2 ds)
  have hl : (pls false ds).length + (pls true ds).length ≤ 12 := by rw [← List.length_append, hpm.2]; exact hf
  have htp : CV c_told_price [.sh (.int p), .sh (dsD ds), .sh (.lst ((pls false ds).map natD ++ ((pls true ds).map natD ++ [])))] [] (frD (hi1 p ds)) [] := by
    rw [List.append_nil, ← List.map_append]
    exact cv_told_priceL h hpm.1 (by rw [hpm.2]; exact hf)
  refine cv_body fun e hr hn => ?_
  unfold t_highest_price
  dsimp only [List.length_cons, List.length_nil, Nat.reduceSub, Nat.reduceAdd, List.replicate, List.cons_append, List.nil_append, List.append_nil, Pst.put, List.set_cons_zero, List.set_cons_succ, Pst.upL, Pst.own, List.getElem?_cons_zero, List.getElem?_cons_succ]
  refine s_seq (s_expr ?_)
  apply EV.use
  · walk_at "ddev"
  dsimp only
  refine s_seq (s_asg ?_)
  apply EV.use
  · walk_at "ddev"
  apply gv_use
  · walk_at "ddev"
  dsimp only [List.length_cons, List.length_nil, Nat.reduceSub, Nat.reduceAdd, List.replicate, List.cons_append, List.nil_append, List.append_nil, Pst.put, List.set_cons_zero, List.set_cons_succ, Pst.upL, Pst.own, List.getElem?_cons_zero, List.getElem?_cons_succ]
  refine s_ret ?_
  apply EV.use
  · walk_at "ddev"
    all_goals (simp only [List.length_append, List.length_map, List.length_nil]; exact Nat.le_trans (show (pls false ds).length + ((pls true ds).length + 0) ≤ 12 by omega) (by decide))
  refine hr_of hr rfl ?_
  rw [List.append_nil, ← List.map_append]
theorem zip_fr (p : Nat × Nat) : zipD [DV.int (p.1 : Int), .int (p.2 : Int)] [DV.int (p.1 : Int), .int (p.2 : Int)] = [((p.1 : Int)), (p.2 : Int)].map fun k => .tup [.int k, .int k] := rfl
theorem cv_is_price {p : Nat} {ds : List Dc} {os : List Nat} (h : Disc p ds) (ho : os.Perm (List.range ds.length)) : CV c_is_price [.sh (.int p), .sh (dsD ds), .sh (frD (tpl (pick ds os) (p, 1))), .sh (.tup [frD (tpl (pick ds os) (p, 1)), .tup (os.map natD)])] [] (.bl true) [] := by
  have hf := h.few
  have hio : CV c_is_order [.sh (.tup (os.map natD)), .sh (.int (ds.map dcD).length)] [] (.bl true) [] := by rw [List.length_map]; exact cv_is_order ho (by omega)
  have htp := cv_told_priceT h (perm_lt ho).1 (by rw [(perm_lt ho).2]; exact hf)
  generalize tpl (pick ds os) (p, 1) = f at *
  refine cv_body fun e hr hn => ?_
  unfold t_is_price
  dsimp only [List.length_cons, List.length_nil, Nat.reduceSub, Nat.reduceAdd, List.replicate, List.cons_append, List.nil_append, List.append_nil, Pst.put, List.set_cons_zero, List.set_cons_succ, Pst.upL, Pst.own, List.getElem?_cons_zero, List.getElem?_cons_succ]
  refine s_seq ?_
  apply s_if
  · walk_at "ddev"
  · intro hc
    exfalso
    simp [DV.isTup] at hc
  intro _
  refine s_skip ?_
  dsimp only
  refine s_seq ?_
  apply s_if
  · walk_at "ddev"
    · refine lv_map (xs := [(f.1 : Int), (f.2 : Int)]) (fun k => .tup [.int k, .int k]) (DV.bl ∘ fun _ => true) (fun k => [.sh (.int p), .sh (dsD ds), .sh (frD f), .sh (.tup [frD f, .tup (os.map natD)]), .sh (.int k), .sh (.int k)]) (fun k hk => ?_) (fun _ _ => rfl) (show 2 ≤ sizeLine by decide) (zip_fr f) List.map_map
      walk_at "ddev"
      simp
  · intro hc
    exfalso
    simp at hc
  intro _
  refine s_skip ?_
  dsimp only
  refine s_ret ?_
  apply EV.use
  · walk_at "ddev"
    all_goals exact pl_fr
  refine hr_of hr rfl ?_
  simp
end Dr
set_option maxHeartbeats 4000000
namespace Dr
open PySem PySem.Spec PyProof.Rows L2 DD M72
local macro_rules | `(tactic| walk_at "ddcv") => `(tactic| fail)
local macro_rules | `(tactic| walk_at "ddev") => `(tactic| (repeat' (first | (show (_ : Prop); with_reducible assumption) | ((with_reducible apply ev_v) <;> rfl) | ((with_reducible apply ev_vo) <;> rfl) | ((with_reducible apply ev_rd) <;> rfl) | ((with_reducible apply ev_rdo) <;> rfl) | ((with_reducible apply ev_take) <;> rfl) | ((with_reducible apply ev_rdb) <;> rfl) | with_reducible exact ev_c | with_reducible exact av_nil | with_reducible exact pv_none | with_reducible exact ov_add | with_reducible exact ov_sub | with_reducible exact ov_lt | with_reducible exact ov_le | with_reducible exact ov_gt | with_reducible exact ov_ge | with_reducible exact ov_eqi | with_reducible exact ov_nei | with_reducible exact ov_isN | with_reducible exact ov_isntN | with_reducible exact ov_isB | with_reducible exact ov_isntB | with_reducible exact uv_lenL | with_reducible exact uv_lenT | with_reducible exact uv_lenR | with_reducible exact uv_int | with_reducible exact uv_intB | with_reducible exact uv_abs | with_reducible exact uv_tupL | with_reducible exact uv_tupT | with_reducible exact uv_lstL | with_reducible exact uv_lstT | with_reducible exact uv_isi rfl | with_reducible exact nv_min2 | with_reducible exact nv_max2 | with_reducible exact gv_name | with_reducible exact gv_nil | with_reducible exact mv_nil | with_reducible exact ov_addI | with_reducible exact plT2 | with_reducible exact plL_ints _ | with_reducible exact plT_ints _ | with_reducible exact pl_int | with_reducible exact pl_part | with_reducible exact pl_money | with_reducible exact pl_same | with_reducible exact pl_two | ((with_reducible apply iv_zsL) <;> rfl) | ((with_reducible apply iv_zsT) <;> rfl) | ((with_reducible apply iv_zvLL) <;> rfl) | ((with_reducible apply iv_zvTT) <;> rfl) | ((with_reducible apply iv_zvLT) <;> rfl) | ((with_reducible apply iv_zvTL) <;> rfl) | ((with_reducible apply av_stTv); rfl) | ((with_reducible apply av_stLv); rfl) | ((with_reducible apply av_stLo); rfl) | ((with_reducible apply ev_slv); rfl) | ((with_reducible apply ev_ixv); rfl) | ((with_reducible apply ev_ixvo); rfl) | ((with_reducible apply ev_ixvb); rfl; rfl) | ((with_reducible apply iv_itT); (with_reducible apply ev_v); rfl) | ((with_reducible apply iv_itT); (with_reducible apply ev_vo); rfl) | ((with_reducible apply iv_itL); (with_reducible apply ev_v); rfl) | ((with_reducible apply iv_itL); (with_reducible apply ev_vo); rfl) | ((with_reducible apply iv_enumT); (with_reducible apply ev_v); rfl) | ((with_reducible apply iv_enumT); (with_reducible apply ev_vo); rfl) | ((with_reducible apply iv_enumL); (with_reducible apply ev_v); rfl) | ((with_reducible apply iv_enumL); (with_reducible apply ev_vo); rfl) | with_reducible apply ev_bin | with_reducible apply ev_c1 | with_reducible apply ev_cn | with_reducible apply ev_tup | with_reducible apply ev_lst | with_reducible apply ev_andV | with_reducible apply ev_orV | with_reducible apply ev_notV | with_reducible apply ev_chain | with_reducible apply ev_call1 | with_reducible apply ev_call2 | with_reducible apply ev_call3 | with_reducible apply ev_call4 | with_reducible apply ev_lc | with_reducible apply av_cons | with_reducible apply tv_tst | with_reducible apply tv_and | with_reducible apply tv_or | with_reducible apply tv_not | with_reducible apply pv_some | with_reducible apply ov_ixT | with_reducible apply ov_ixL | with_reducible apply ov_ixR | with_reducible apply iv_itT | with_reducible apply iv_itL | with_reducible apply iv_enumT | with_reducible apply iv_enumL | with_reducible apply iv_zipTT | with_reducible apply iv_rng1 | with_reducible apply iv_rng2 | with_reducible apply gv_tup | with_reducible apply gv_cons | with_reducible apply ls_yes | with_reducible apply lf_of | with_reducible apply ov_addT | with_reducible apply ov_fdiv | with_reducible apply ov_mod | with_reducible apply ov_pow | with_reducible apply uv_sum | with_reducible apply uv_sumR | with_reducible apply uv_sumT | with_reducible apply uv_all | with_reducible apply uv_any | with_reducible apply ov_mul | with_reducible apply ov_eq | with_reducible apply ov_ne | with_reducible apply mv_sh | with_reducible apply mv_ow | with_reducible apply ev_mulL | with_reducible apply ev_lrg1 | with_reducible apply ev_neg | with_reducible apply ov_addL | with_reducible apply ov_mulT | with_reducible apply av_starL | with_reducible apply ov_addI | with_reducible apply iv_rng1 | with_reducible apply uv_lsetT | with_reducible apply uv_lsetL | with_reducible apply ov_inL | with_reducible apply ov_ninL | with_reducible apply uv_sortL | with_reducible apply uv_sortT | with_reducible apply ev_ifE | ((with_reducible show CV _ _ _ _ _); assumption) | walk_at "ddcv" | with_reducible exact atI_0 | with_reducible exact atI_1 | with_reducible exact atI_2 | (show (_ : Prop); with_reducible rfl) | ((with_reducible show (_ : DV) = _); dsimp only [Function.comp]; done) | ((with_reducible show (_ : DV) = _); simp only [Function.comp, Int.natCast_add, Int.natCast_mul]; done) | ((with_reducible show (_ : Pst) = _); rfl) | ((with_reducible show List.length _ = _); rfl) | ((with_reducible show List.length _ ≤ sizeLine); simp only [List.length_cons, List.length_nil, Nat.reduceAdd]; decide) | with_reducible intro _ | ((with_reducible apply noown_ok); rfl))))
local macro_rules | `(tactic| walk_at "ddcv") => `(tactic| (first | ((with_reducible show CV c_is_int _ _ _ _); exact cv_is_int) | ((with_reducible show CV c_look_at_discounts _ _ _ _); exact cv_look_at_discounts (by assumption)) | ((with_reducible show CV c_lowest_price _ _ _ _); exact cv_lowest_price (by assumption)) | ((with_reducible show CV c_highest_price _ _ _ _); exact cv_highest_price (by assumption))))
theorem cv_shows_low {p : Nat} {ds : List Dc} {os : List Nat} (h : Disc p ds) (ho : os.Perm (List.range ds.length)) (he : tpl (pick ds os) (p, 1) = lo1 p ds) : CV c_shows_lowest_price [.sh (.int p), .sh (dsD ds), .sh (.tup [frD (lo1 p ds), .tup (os.map natD)])] [] (.bl true) [] := by
  have hip := cv_is_price h ho
  rw [he] at hip
  refine cv_body fun e hr hn => ?_
  unfold t_shows_lowest_price
  dsimp only [List.length_cons, List.length_nil, Nat.reduceSub, Nat.reduceAdd, List.replicate, List.cons_append, List.nil_append, List.append_nil, Pst.put, List.set_cons_zero, List.set_cons_succ, Pst.upL, Pst.own, List.getElem?_cons_zero, List.getElem?_cons_succ]
  refine s_ret ?_
  apply EV.use
  · walk_at "ddev"
  exact hr _ rfl
theorem cv_shows_high {p : Nat} {ds : List Dc} {os : List Nat} (h : Disc p ds) (ho : os.Perm (List.range ds.length)) (he : tpl (pick ds os) (p, 1) = hi1 p ds) : CV c_shows_highest_price [.sh (.int p), .sh (dsD ds), .sh (.tup [frD (hi1 p ds), .tup (os.map natD)])] [] (.bl true) [] := by
  have hip := cv_is_price h ho
  rw [he] at hip
  refine cv_body fun e hr hn => ?_
  unfold t_shows_highest_price
  dsimp only [List.length_cons, List.length_nil, Nat.reduceSub, Nat.reduceAdd, List.replicate, List.cons_append, List.nil_append, List.append_nil, Pst.put, List.set_cons_zero, List.set_cons_succ, Pst.upL, Pst.own, List.getElem?_cons_zero, List.getElem?_cons_succ]
  refine s_ret ?_
  apply EV.use
  · walk_at "ddev"
  exact hr _ rfl
theorem cv_does_order {p : Nat} {ds : List Dc} (h : Disc p ds) (he : lo1 p ds = hi1 p ds) : CV c_does_order_matter [.sh (.int p), .sh (dsD ds)] [] (.tup [.str "same"]) [] := by
  refine cv_body fun e hr hn => ?_
  unfold t_does_order_matter
  dsimp only [List.length_cons, List.length_nil, Nat.reduceSub, Nat.reduceAdd, List.replicate, List.cons_append, List.nil_append, List.append_nil, Pst.put, List.set_cons_zero, List.set_cons_succ, Pst.upL, Pst.own, List.getElem?_cons_zero, List.getElem?_cons_succ]
  refine s_seq (s_expr ?_)
  apply EV.use
  · walk_at "ddev"
  dsimp only
  refine s_seq (s_par ?_)
  apply MV.use
  · walk_at "ddev"
  refine ⟨rfl, ?_⟩
  dsimp only [putM, List.length_cons, List.length_nil, Nat.reduceSub, Nat.reduceAdd, List.replicate, List.cons_append, List.nil_append, List.append_nil, Pst.put, List.set_cons_zero, List.set_cons_succ, Pst.upL, Pst.own, List.getElem?_cons_zero, List.getElem?_cons_succ]
  refine s_ret ?_
  refine EV.use (d := .tup [.str "same"]) (p' := ⟨[.sh (.int p), .sh (dsD ds), .sh (.tup [frD (lo1 p ds), .tup ((pls true ds ++ pls false ds).map natD)]), .sh (.tup [frD (hi1 p ds), .tup ((pls false ds ++ pls true ds).map natD)])], []⟩) (ev_ifT (p1 := ⟨[.sh (.int p), .sh (dsD ds), .sh (.tup [frD (lo1 p ds), .tup ((pls true ds ++ pls false ds).map natD)]), .sh (.tup [frD (hi1 p ds), .tup ((pls false ds ++ pls true ds).map natD)])], []⟩) (tv_as (k := deq (frD (lo1 p ds)) (frD (hi1 p ds))) ?_ ?_) ?_) ?_
  · walk_at "ddev"
    all_goals exact pl_fr
  · rw [he]; simp
  · walk_at "ddev"
  exact hr _ rfl
end Dr
set_option maxHeartbeats 4000000
namespace Dr
open PySem PySem.Spec PyProof.Rows L2 DD M72
local macro_rules | `(tactic| walk_at "ddcv") => `(tactic| fail)
local macro_rules | `(tactic| walk_at "ddev") => `(tactic| (repeat' (first | (show (_ : Prop); with_reducible assumption) | ((with_reducible apply ev_v) <;> rfl) | ((with_reducible apply ev_vo) <;> rfl) | ((with_reducible apply ev_rd) <;> rfl) | ((with_reducible apply ev_rdo) <;> rfl) | ((with_reducible apply ev_take) <;> rfl) | ((with_reducible apply ev_rdb) <;> rfl) | with_reducible exact ev_c | with_reducible exact av_nil | with_reducible exact pv_none | with_reducible exact ov_add | with_reducible exact ov_sub | with_reducible exact ov_lt | with_reducible exact ov_le | with_reducible exact ov_gt | with_reducible exact ov_ge | with_reducible exact ov_eqi | with_reducible exact ov_nei | with_reducible exact ov_isN | with_reducible exact ov_isntN | with_reducible exact ov_isB | with_reducible exact ov_isntB | with_reducible exact uv_lenL | with_reducible exact uv_lenT | with_reducible exact uv_lenR | with_reducible exact uv_int | with_reducible exact uv_intB | with_reducible exact uv_abs | with_reducible exact uv_tupL | with_reducible exact uv_tupT | with_reducible exact uv_lstL | with_reducible exact uv_lstT | with_reducible exact uv_isi rfl | with_reducible exact nv_min2 | with_reducible exact nv_max2 | with_reducible exact gv_name | with_reducible exact gv_nil | with_reducible exact mv_nil | with_reducible exact ov_addI | with_reducible exact plT2 | with_reducible exact plL_ints _ | with_reducible exact plT_ints _ | with_reducible exact pl_int | with_reducible exact pl_part | with_reducible exact pl_money | with_reducible exact pl_same | with_reducible exact pl_two | ((with_reducible apply iv_zsL) <;> rfl) | ((with_reducible apply iv_zsT) <;> rfl) | ((with_reducible apply iv_zvLL) <;> rfl) | ((with_reducible apply iv_zvTT) <;> rfl) | ((with_reducible apply iv_zvLT) <;> rfl) | ((with_reducible apply iv_zvTL) <;> rfl) | ((with_reducible apply av_stTv); rfl) | ((with_reducible apply av_stLv); rfl) | ((with_reducible apply av_stLo); rfl) | ((with_reducible apply ev_slv); rfl) | ((with_reducible apply ev_ixv); rfl) | ((with_reducible apply ev_ixvo); rfl) | ((with_reducible apply ev_ixvb); rfl; rfl) | ((with_reducible apply iv_itT); (with_reducible apply ev_v); rfl) | ((with_reducible apply iv_itT); (with_reducible apply ev_vo); rfl) | ((with_reducible apply iv_itL); (with_reducible apply ev_v); rfl) | ((with_reducible apply iv_itL); (with_reducible apply ev_vo); rfl) | ((with_reducible apply iv_enumT); (with_reducible apply ev_v); rfl) | ((with_reducible apply iv_enumT); (with_reducible apply ev_vo); rfl) | ((with_reducible apply iv_enumL); (with_reducible apply ev_v); rfl) | ((with_reducible apply iv_enumL); (with_reducible apply ev_vo); rfl) | with_reducible apply ev_bin | with_reducible apply ev_c1 | with_reducible apply ev_cn | with_reducible apply ev_tup | with_reducible apply ev_lst | with_reducible apply ev_andV | with_reducible apply ev_orV | with_reducible apply ev_notV | with_reducible apply ev_chain | with_reducible apply ev_call1 | with_reducible apply ev_call2 | with_reducible apply ev_call3 | with_reducible apply ev_call4 | with_reducible apply ev_lc | with_reducible apply av_cons | with_reducible apply tv_tst | with_reducible apply tv_and | with_reducible apply tv_or | with_reducible apply tv_not | with_reducible apply pv_some | with_reducible apply ov_ixT | with_reducible apply ov_ixL | with_reducible apply ov_ixR | with_reducible apply iv_itT | with_reducible apply iv_itL | with_reducible apply iv_enumT | with_reducible apply iv_enumL | with_reducible apply iv_zipTT | with_reducible apply iv_rng1 | with_reducible apply iv_rng2 | with_reducible apply gv_tup | with_reducible apply gv_cons | with_reducible apply ls_yes | with_reducible apply lf_of | with_reducible apply ov_addT | with_reducible apply ov_fdiv | with_reducible apply ov_mod | with_reducible apply ov_pow | with_reducible apply uv_sum | with_reducible apply uv_sumR | with_reducible apply uv_sumT | with_reducible apply uv_all | with_reducible apply uv_any | with_reducible apply ov_mul | with_reducible apply ov_eq | with_reducible apply ov_ne | with_reducible apply mv_sh | with_reducible apply mv_ow | with_reducible apply ev_mulL | with_reducible apply ev_lrg1 | with_reducible apply ev_neg | with_reducible apply ov_addL | with_reducible apply ov_mulT | with_reducible apply av_starL | with_reducible apply ov_addI | with_reducible apply iv_rng1 | with_reducible apply uv_lsetT | with_reducible apply uv_lsetL | with_reducible apply ov_inL | with_reducible apply ov_ninL | with_reducible apply uv_sortL | with_reducible apply uv_sortT | with_reducible apply ev_ifE | ((with_reducible show CV _ _ _ _ _); assumption) | walk_at "ddcv" | with_reducible exact atI_0 | with_reducible exact atI_1 | with_reducible exact atI_2 | (show (_ : Prop); with_reducible rfl) | ((with_reducible show (_ : DV) = _); dsimp only [Function.comp]; done) | ((with_reducible show (_ : DV) = _); simp only [Function.comp, Int.natCast_add, Int.natCast_mul]; done) | ((with_reducible show (_ : Pst) = _); rfl) | ((with_reducible show List.length _ = _); rfl) | ((with_reducible show List.length _ ≤ sizeLine); simp only [List.length_cons, List.length_nil, Nat.reduceAdd]; decide) | with_reducible intro _ | ((with_reducible apply noown_ok); rfl))))
abbrev nat (k : Nat) : DV := .int (k : Int)
abbrev potD (a b c : Nat) : DV := .lst [nat a, nat b, nat c]
theorem primes (j : Int) (h0 : 0 ≤ j) (h5 : j < 5) : ∃ P : Nat, atI [DV.int 2147483647, .int 2147483629, .int 2147483587, .int 2147483579, .int 2147483563] j = some (nat P) ∧ 0 < P ∧ P < 2147483648 := by
  rcases (show j = 0 ∨ j = 1 ∨ j = 2 ∨ j = 3 ∨ j = 4 by omega) with rfl | rfl | rfl | rfl | rfl
  · exact ⟨2147483647, rfl, by decide, by decide⟩
  · exact ⟨2147483629, rfl, by decide, by decide⟩
  · exact ⟨2147483587, rfl, by decide, by decide⟩
  · exact ⟨2147483579, rfl, by decide, by decide⟩
  · exact ⟨2147483563, rfl, by decide, by decide⟩
theorem dv_take {a b c u : Nat} {Xd : XB} {R : DV → List DV → Prop} (ha : a < 2 ^ 1000) (hb : b < 2 ^ 62) (hc : c ≤ 1000000) (hu : 1 ≤ u) (hu2 : u ≤ 1000000) (h : ∀ x a' c', x < u → a' < 2 ^ 1000 → c' ≤ c + 1 → R (nat x) [potD a' b c']) :
    c__law_take [.bo 0, .sh (nat u)] [potD a b c] Xd R := by
  refine dv_body fun e hr hx => ?_
  unfold t__law_take
  dsimp only [List.length_cons, List.length_nil, Nat.reduceSub, Nat.reduceAdd, List.replicate, List.cons_append, List.nil_append, List.append_nil, Pst.put, List.set_cons_zero, List.set_cons_succ, Pst.upL, Pst.own, List.getElem?_cons_zero, List.getElem?_cons_succ]
  refine s_seq ?_
  apply s_if
  · walk_at "ddev"
  · intro hpos
    refine s_seq (s_set ?_)
    apply EV.use
    · walk_at "ddev"
      omega
    dsimp only [List.length_cons, List.length_nil, Nat.reduceSub, Nat.reduceAdd, List.replicate, List.cons_append, List.nil_append, List.append_nil, Pst.put, List.set_cons_zero, List.set_cons_succ, Pst.upL, Pst.own, List.getElem?_cons_zero, List.getElem?_cons_succ]
    refine s_seq ?_
    apply s_setIv (n := 0)
    · walk_at "ddev"
      exact wide_div (b := 20) (by omega) (by omega) (by decide) (by decide)
    · rfl
    · walk_at "ddev"
    · rfl
    dsimp only [List.length_cons, List.length_nil, Nat.reduceSub, Nat.reduceAdd, List.replicate, List.cons_append, List.nil_append, List.append_nil, Pst.put, List.set_cons_zero, List.set_cons_succ, Pst.upL, Pst.own, List.getElem?_cons_zero, List.getElem?_cons_succ]
    refine s_ret ?_
    apply EV.use
    · walk_at "ddev"
    refine hr _ _ ?_
    have := h (a % u) (a / u) c (Nat.mod_lt _ hu) (Nat.lt_of_le_of_lt (Nat.div_le_self _ _) ha) (Nat.le_succ _)
    exact this
  · intro _
    refine s_skip ?_
    dsimp only
    refine s_seq ?_
    apply s_setIv (n := 2)
    · walk_at "ddev"
    · rfl
    · walk_at "ddev"
    · rfl
    dsimp only [List.length_cons, List.length_nil, Nat.reduceSub, Nat.reduceAdd, List.replicate, List.cons_append, List.nil_append, List.append_nil, Pst.put, List.set_cons_zero, List.set_cons_succ, Pst.upL, Pst.own, List.getElem?_cons_zero, List.getElem?_cons_succ]
    obtain ⟨m, hm, hm2⟩ : ∃ m : Nat, (c : Int) + 1 = m ∧ m = c + 1 := ⟨c + 1, rfl, rfl⟩
    rw [hm]
    have hm3 : m ≤ 1000001 := by omega
    obtain ⟨P, hP, hP1, hP2⟩ := primes ((m : Int) % 5) (by omega) (by omega)
    have hmm : 108793 * m * m ≤ 108793 * (1000001 * 1000001) := by rw [Nat.mul_assoc]; exact Nat.mul_le_mul_left _ (Nat.mul_le_mul hm3 hm3)
    have hX : (108793 * (m : Int)) * m = ((108793 * m * m : Nat) : Int) := by rw [Int.natCast_mul, Int.natCast_mul]; rfl
    refine s_seq (s_set ?_)
    apply EV.use
    · walk_at "ddev"
      decide
    dsimp only [List.length_cons, List.length_nil, Nat.reduceSub, Nat.reduceAdd, List.replicate, List.cons_append, List.nil_append, List.append_nil, Pst.put, List.set_cons_zero, List.set_cons_succ, Pst.upL, Pst.own, List.getElem?_cons_zero, List.getElem?_cons_succ]
    refine s_seq (s_set ?_)
    apply EV.use
    · walk_at "ddev"
      · exact mulx_ok (a := 20) (b := 20) (by decide) (by omega) (by decide)
      · exact mulx_ok (a := 40) (b := 20) (by omega) (by omega) (by decide)
      · rw [hX]
        refine ⟨by decide, ?_⟩
        have := PyProof.Rows.intBits_le (a := (b : Int) + ((108793 * m * m : Nat) : Int) + 4507) (k := 64) (by omega)
        omega
      · omega
    dsimp only [List.length_cons, List.length_nil, Nat.reduceSub, Nat.reduceAdd, List.replicate, List.cons_append, List.nil_append, List.append_nil, Pst.put, List.set_cons_zero, List.set_cons_succ, Pst.upL, Pst.own, List.getElem?_cons_zero, List.getElem?_cons_succ]
    rw [hX]
    generalize (((b : Int) + ((108793 * m * m : Nat) : Int) + 4507) ^ (3 : Int).toNat) = V
    obtain ⟨b1, hb1, hb2⟩ : ∃ b1 : Nat, V % (P : Int) = b1 ∧ b1 < 2147483648 := by
      have h1 := Int.emod_nonneg V (show (P : Int) ≠ 0 by omega)
      have h2 := Int.emod_lt_of_pos V (show (0 : Int) < P by omega)
      exact ⟨(V % P).toNat, by omega, by omega⟩
    rw [hb1]
    refine s_seq (s_set ?_)
    apply EV.use
    · walk_at "ddev"
      · decide
      · exact mulx_ok (a := 10) (b := 20) (by decide) (by omega) (by decide)
      · exact mulx_ok (a := 31) (b := 40) (by omega) (by omega) (by decide)
      · decide
    dsimp only [List.length_cons, List.length_nil, Nat.reduceSub, Nat.reduceAdd, List.replicate, List.cons_append, List.nil_append, List.append_nil, Pst.put, List.set_cons_zero, List.set_cons_succ, Pst.upL, Pst.own, List.getElem?_cons_zero, List.getElem?_cons_succ]
    generalize (b1 : Int) * ((b1 : Int) % 13121 + 457 * (m : Int)) % 2305843009213693907 = V2
    refine s_ret ?_
    apply EV.use
    · walk_at "ddev"
      · exact wide_div (b := 10) (by decide) (by decide) (by decide) (by decide)
      · omega
    refine hr _ _ ?_
    obtain ⟨x, hx1, hx2⟩ : ∃ x : Nat, V2 / 293 % (u : Int) = x ∧ x < u := by
      have h1 := Int.emod_nonneg (V2 / 293) (show (u : Int) ≠ 0 by omega)
      have h2 := Int.emod_lt_of_pos (V2 / 293) (show (0 : Int) < u by omega)
      exact ⟨(V2 / 293 % u).toNat, by omega, by omega⟩
    rw [hx1]
    exact h x a m hx2 ha (by omega)
theorem dv_of {a b c : Nat} {ds : List DV} {D : DV} {Xd : XB} {R : DV → List DV → Prop} (ha : a < 2 ^ 1000) (hb : b < 2 ^ 62) (hc : c ≤ 1000000) (hu : ds ≠ []) (hu2 : ds.length ≤ 1000000) (hD : D = .lst ds ∨ D = .tup ds)
    (h : ∀ d ∈ ds, ∀ a' c', a' < 2 ^ 1000 → c' ≤ c + 1 → R d [potD a' b c']) : c__law_of [.bo 0, .sh D] [potD a b c] Xd R := by
  refine dv_body fun e hr hx => ?_
  have hlen : UV o_len D (nat ds.length) := by rcases hD with rfl | rfl <;> exact fun R q => q
  unfold t__law_of
  dsimp only [List.length_cons, List.length_nil, Nat.reduceSub, Nat.reduceAdd, List.replicate, List.cons_append, List.nil_append, List.append_nil, Pst.put, List.set_cons_zero, List.set_cons_succ, Pst.upL, Pst.own, List.getElem?_cons_zero, List.getElem?_cons_succ]
  refine s_ret (s_ixv rfl ?_)
  refine s_callB rfl ?_
  refine s_cons ?_
  apply EV.use
  · walk_at "ddev"
  refine s_nil ?_
  refine cb_of rfl rfl ?_
  refine dv_take ha hb hc (List.length_pos_iff.mpr hu) hu2 fun x a' c' hx ha' hc' => ?_
  dsimp only [List.length_cons, List.length_nil, Nat.reduceSub, Nat.reduceAdd, List.replicate, List.cons_append, List.nil_append, List.append_nil, Pst.put, List.set_cons_zero, List.set_cons_succ, Pst.upL, Pst.own, List.getElem?_cons_zero, List.getElem?_cons_succ]
  refine at_sh rfl ?_
  have hat : atI ds (x : Int) = some ds[x] := atI_n (List.getElem?_eq_getElem hx) rfl
  rcases hD with rfl | rfl
  · exact ov_ixL hat _ (hr _ _ (h _ (List.getElem_mem hx) a' c' ha' hc'))
  · exact ov_ixT hat _ (hr _ _ (h _ (List.getElem_mem hx) a' c' ha' hc'))
theorem perm_erase {α : Type} : ∀ (l : List α) (x : Nat) (h : x < l.length), (l[x] :: l.eraseIdx x).Perm l
  | a :: l, 0, _ => List.Perm.refl _
  | a :: l, x + 1, h => (List.Perm.swap a _ _).trans (List.Perm.cons a (perm_erase l x (Nat.lt_of_succ_lt_succ h)))
theorem dv_some {a b c : Nat} {ds : List DV} {Xd : XB} {R : DV → List DV → Prop} (ha : a < 2 ^ 1000) (hb : b < 2 ^ 62) (hc : c ≤ 900000) (hu2 : ds.length ≤ 1000)
    (h : ∀ l a' c', l.Perm ds → a' < 2 ^ 1000 → c' ≤ c + ds.length → R (.lst l) [potD a' b c']) : c__law_some [.bo 0, .sh (.lst ds), .sh (nat ds.length)] [potD a b c] Xd R := by
  refine dv_body fun e hr hx => ?_
  unfold t__law_some
  dsimp only [List.length_cons, List.length_nil, Nat.reduceSub, Nat.reduceAdd, List.replicate, List.cons_append, List.nil_append, List.append_nil, Pst.put, List.set_cons_zero, List.set_cons_succ, Pst.upL, Pst.own, List.getElem?_cons_zero, List.getElem?_cons_succ]
  refine s_seq (s_par ?_)
  apply MV.use
  · walk_at "ddev"
  refine ⟨rfl, ?_⟩
  dsimp only [putM, List.length_cons, List.length_nil, Nat.reduceSub, Nat.reduceAdd, List.replicate, List.cons_append, List.nil_append, List.append_nil, Pst.put, List.set_cons_zero, List.set_cons_succ, Pst.upL, Pst.own, List.getElem?_cons_zero, List.getElem?_cons_succ]
  refine s_seq (s_for ?_)
  apply iv_use
  · walk_at "ddev"
    exact ⟨by omega, by omega⟩
  have key : ∀ (r lo : Nat) (a' c' : Nat) (rests found : List DV) (s5 : Sl), rests.length = r → (found ++ rests).Perm ds → a' < 2 ^ 1000 → c' + r ≤ c + ds.length → forD (g_name 5) L__law_some_1 (rangeD (lo : Int) 1 r)
      { nx := fun p' => t_ret (t_v 4) e p', rt := e.rt, bk := e.bk, ct := e.ct, ex := e.ex, ro := e.ro } ⟨[.bo 0, .sh (.lst ds), .sh (nat ds.length), .ow (.lst rests), .ow (.lst found), s5], [potD a' b c']⟩ := by
    intro r
    induction r with
    | zero =>
      intro lo a' c' rests found s5 hl hp ha' hc'
      refine forD_z ?_
      dsimp only
      refine s_ret ?_
      apply EV.use
      · walk_at "ddev"
      refine hr _ _ ?_
      have : rests = [] := List.eq_nil_of_length_eq_zero hl
      rw [this, List.append_nil] at hp
      exact h found a' c' hp ha' (by omega)
    | succ r ih =>
      intro lo a' c' rests found s5 hl hp ha' hc'
      have hpl : found.length + rests.length = ds.length := by rw [← List.length_append]; exact hp.length_eq
      refine forD_s (gv_use gv_name ?_)
      unfold L__law_some_1
      dsimp only [List.length_cons, List.length_nil, Nat.reduceSub, Nat.reduceAdd, List.replicate, List.cons_append, List.nil_append, List.append_nil, Pst.put, List.set_cons_zero, List.set_cons_succ, Pst.upL, Pst.own, List.getElem?_cons_zero, List.getElem?_cons_succ]
      refine s_expr (s_app rfl ?_)
      refine s_popAt rfl ?_
      refine s_callB rfl ?_
      refine s_cons ?_
      apply EV.use
      · walk_at "ddev"
      refine s_nil ?_
      refine cb_of rfl rfl ?_
      rw [hl]
      refine dv_take ha' hb (by omega) (by omega) (by omega) fun x a2 c2 hx ha2 hc2 => ?_
      dsimp only [List.length_cons, List.length_nil, Nat.reduceSub, Nat.reduceAdd, List.replicate, List.cons_append, List.nil_append, List.append_nil, Pst.put, List.set_cons_zero, List.set_cons_succ, Pst.upL, Pst.own, List.getElem?_cons_zero, List.getElem?_cons_succ]
      have hxl : x < rests.length := by omega
      refine ⟨by omega, by omega, s_ownL rfl ?_⟩
      refine pop_of (κ := fun j y => _) (ixN_nat rfl hxl) (List.getElem?_eq_getElem hxl) ?_
      try dsimp only [List.length_cons, List.length_nil, Nat.reduceSub, Nat.reduceAdd, List.replicate, List.cons_append, List.nil_append, List.append_nil, Pst.put, List.set_cons_zero, List.set_cons_succ, Pst.upL, Pst.own, List.getElem?_cons_zero, List.getElem?_cons_succ]
      refine s_ownL rfl ⟨Nat.lt_of_le_of_lt (show found.length ≤ 1000 by omega) (by decide), ?_⟩
      try dsimp only [List.length_cons, List.length_nil, Nat.reduceSub, Nat.reduceAdd, List.replicate, List.cons_append, List.nil_append, List.append_nil, Pst.put, List.set_cons_zero, List.set_cons_succ, Pst.upL, Pst.own, List.getElem?_cons_zero, List.getElem?_cons_succ]
      refine ih (lo + 1) a2 c2 (rests.eraseIdx x) (found ++ [rests[x]]) _ (by rw [List.length_eraseIdx, if_pos hxl]; omega) ?_ ha2 (by omega)
      refine List.Perm.trans ?_ hp
      rw [List.append_assoc]
      exact List.Perm.append_left _ (perm_erase rests x hxl)
  exact key ds.length 0 a c ds [] .un rfl (List.Perm.refl _) ha (by omega)
theorem cutD_map {α β : Type} (f : α → β) (l : List α) (lo hi : Option Int) : DD.cutD (l.map f) lo hi = (DD.cutD l lo hi).map f := by
  unfold DD.cutD
  rw [List.length_map, List.map_take, List.map_drop]
theorem b01 (b : Bool) : (if b = true then (1 : Int) else 0).natAbs < 2 ^ 1 := by cases b <;> decide
theorem dv_pot {ns : List Int} {k : Nat} {Xd : XB} {R : DV → List DV → Prop} (hk : k ≤ 100) (hl : ns.length ≤ 1000) (h : ∀ a b, a < 2 ^ 1000 → b < 2 ^ 62 → R (potD a b 0) []) : c__law_pot [.sh (.rol (ns.map .int)), .sh (nat k)] [] Xd R := by
  refine dv_bodyO fun e hr => ?_
  have hcut : ∀ R : DV → Prop, R (.lst ((DD.cutD ns none (some 1)).map .int)) → o_sl (.rol (ns.map .int)) none (some 1) R := fun R q => by
    show R (.lst (DD.cutD (ns.map .int) none (some 1)))
    rw [cutD_map]; exact q
  have hkk : (k : Int) * k ≤ 10000 := by
    have : k * k ≤ 100 * 100 := Nat.mul_le_mul hk hk
    rw [← Int.natCast_mul]
    omega
  have hcell : ∃ cell : Int, EV (t_ifE (t_tst (t_bin o_lt (t_v 1) (t_c1 o_len (t_rd 0)))) (t_ixv 0 (t_v 1)) (t_bin o_add (t_bin o_add (t_bin o_mod (t_c1 o_int (t_c1 o_sum (t_slv 0 t_none (t_some (t_c (.int 1)))))) (t_c (.int 1000357))) (t_bin o_mul (t_c (.int 6661)) (t_v 1))) (t_c (.int 4507)))) ⟨[.sh (.rol (ns.map .int)), .sh (nat k), .un, .un, .un], []⟩ (.int cell) ⟨[.sh (.rol (ns.map .int)), .sh (nat k), .un, .un, .un], []⟩ := by
    by_cases hlt : k < ns.length
    · refine ⟨ns[k], ?_⟩
      have hat : atI (ns.map DV.int) (k : Int) = some (.int ns[k]) := atI_n (n := k) (by rw [List.getElem?_map, List.getElem?_eq_getElem hlt]; rfl) rfl
      refine ev_ifT (p1 := ⟨[.sh (.rol (ns.map .int)), .sh (nat k), .un, .un, .un], []⟩) ?_ ?_
      · have e1 : true = decide ((k : Int) < ((ns.map DV.int).length : Nat)) := by simp [hlt]
        rw [e1]
        walk_at "ddev"
      · walk_at "ddev"
    · refine ⟨(DD.cutD ns none (some 1)).sum % 1000357 + 6661 * k + 4507, ?_⟩
      apply ev_ifF (p1 := ⟨[.sh (.rol (ns.map .int)), .sh (nat k), .un, .un, .un], []⟩)
      · have e1 : false = decide ((k : Int) < ((ns.map DV.int).length : Nat)) := by simp; omega
        rw [e1]
        walk_at "ddev"
      · walk_at "ddev"
        · decide
        · exact mulx_ok (a := 20) (b := 20) (by decide) (by omega) (by decide)
  obtain ⟨cell, hcell⟩ := hcell
  unfold t__law_pot
  dsimp only [List.length_cons, List.length_nil, Nat.reduceSub, Nat.reduceAdd, List.replicate, List.cons_append, List.nil_append, List.append_nil, Pst.put, List.set_cons_zero, List.set_cons_succ, Pst.upL, Pst.own, List.getElem?_cons_zero, List.getElem?_cons_succ]
  refine s_seq (s_set ?_)
  refine hcell.use ?_
  dsimp only [List.length_cons, List.length_nil, Nat.reduceSub, Nat.reduceAdd, List.replicate, List.cons_append, List.nil_append, List.append_nil, Pst.put, List.set_cons_zero, List.set_cons_succ, Pst.upL, Pst.own, List.getElem?_cons_zero, List.getElem?_cons_succ]
  have hM0 : (0 : Int) < (10 ^ (60 : Int).toNat) ^ (5 : Int).toNat := by decide +kernel
  have hM1 : (((10 : Int) ^ (60 : Int).toNat) ^ (5 : Int).toNat) < 2 ^ 1000 := by decide +kernel
  refine s_seq (s_set ?_)
  apply EV.use
  · walk_at "ddev"
    · exact ⟨by decide, by decide +kernel⟩
    · exact ⟨by decide, by decide +kernel⟩
    · exact ⟨by decide, by decide +kernel⟩
    · refine mulx_ok (a := 1000) (b := 1) ?_ (b01 _) (by decide)
      have h1 := Int.emod_nonneg (if cell < 0 then -cell else cell) (show ((10 : Int) ^ (60 : Int).toNat) ^ (5 : Int).toNat ≠ 0 by omega)
      have h2 := Int.emod_lt_of_pos (if cell < 0 then -cell else cell) hM0
      omega
  obtain ⟨a, ha1, ha2⟩ : ∃ a : Nat, (if cell < 0 then -cell else cell) % (10 ^ Int.toNat 60) ^ Int.toNat 5 * (if decide (10 ^ Int.toNat 18 ≤ if cell < 0 then -cell else cell) = true then 1 else 0) = (a : Int) ∧ a < 2 ^ 1000 := by
    have h1 := Int.emod_nonneg (if cell < 0 then -cell else cell) (show ((10 : Int) ^ (60 : Int).toNat) ^ (5 : Int).toNat ≠ 0 by omega)
    have h2 := Int.emod_lt_of_pos (if cell < 0 then -cell else cell) hM0
    have h3 := Int.lt_trans h2 hM1
    generalize (if cell < 0 then -cell else cell) % (10 ^ Int.toNat 60) ^ Int.toNat 5 = x at h1 h3
    obtain ⟨n, rfl⟩ := Int.eq_ofNat_of_zero_le h1
    have h4 : n < 2 ^ 1000 := by exact_mod_cast h3
    generalize decide (10 ^ Int.toNat 18 ≤ if cell < 0 then -cell else cell) = bb
    cases bb with
    | true => exact ⟨n, by rw [if_pos rfl, Int.mul_one], h4⟩
    | false => exact ⟨0, by rw [if_neg Bool.false_ne_true, Int.mul_zero]; rfl, by decide +kernel⟩
  dsimp only [List.length_cons, List.length_nil, Nat.reduceSub, Nat.reduceAdd, List.replicate, List.cons_append, List.nil_append, List.append_nil, Pst.put, List.set_cons_zero, List.set_cons_succ, Pst.upL, Pst.own, List.getElem?_cons_zero, List.getElem?_cons_succ]
  rw [ha1]
  obtain ⟨b0, hb1, hb2⟩ : ∃ b : Nat, cell % 2305843009213693951 = b ∧ b < 2305843009213693951 := ⟨(cell % 2305843009213693951).toNat, by omega, by omega⟩
  refine s_seq (s_set ?_)
  apply EV.use
  · walk_at "ddev"
    decide
  dsimp only [List.length_cons, List.length_nil, Nat.reduceSub, Nat.reduceAdd, List.replicate, List.cons_append, List.nil_append, List.append_nil, Pst.put, List.set_cons_zero, List.set_cons_succ, Pst.upL, Pst.own, List.getElem?_cons_zero, List.getElem?_cons_succ]
  rw [hb1]
  refine s_retO ?_
  apply EV.use
  · walk_at "ddev"
    · exact mulx_ok (a := 61) (b := 20) (by omega) (by decide) (by decide)
    · exact mulx_ok (a := 20) (b := 20) (by decide) (by omega) (by decide)
    · exact mulx_ok (a := 40) (b := 20) (by omega) (by omega) (by decide)
    · decide
  refine hr _ _ ?_
  generalize ((b0 : Int) * 98009 + 13513 * (k : Int) * k + 4001) = V
  obtain ⟨b, hb1, hb2⟩ : ∃ b : Nat, V % 2305843009213693921 = b ∧ b < 2305843009213693921 := ⟨(V % 2305843009213693921).toNat, by omega, by omega⟩
  rw [hb1]
  exact h a b ha2 (by omega)
end Dr
set_option maxHeartbeats 4000000
namespace Dr
open PySem PySem.Spec PyProof.Rows L2 DD M72
local macro_rules | `(tactic| walk_at "ddcv") => `(tactic| fail)
local macro_rules | `(tactic| walk_at "ddev") => `(tactic| (repeat' (first | (show (_ : Prop); with_reducible assumption) | ((with_reducible apply ev_v) <;> rfl) | ((with_reducible apply ev_vo) <;> rfl) | ((with_reducible apply ev_rd) <;> rfl) | ((with_reducible apply ev_rdo) <;> rfl) | ((with_reducible apply ev_take) <;> rfl) | ((with_reducible apply ev_rdb) <;> rfl) | with_reducible exact ev_c | with_reducible exact av_nil | with_reducible exact pv_none | with_reducible exact ov_add | with_reducible exact ov_sub | with_reducible exact ov_lt | with_reducible exact ov_le | with_reducible exact ov_gt | with_reducible exact ov_ge | with_reducible exact ov_eqi | with_reducible exact ov_nei | with_reducible exact ov_isN | with_reducible exact ov_isntN | with_reducible exact ov_isB | with_reducible exact ov_isntB | with_reducible exact uv_lenL | with_reducible exact uv_lenT | with_reducible exact uv_lenR | with_reducible exact uv_int | with_reducible exact uv_intB | with_reducible exact uv_abs | with_reducible exact uv_tupL | with_reducible exact uv_tupT | with_reducible exact uv_lstL | with_reducible exact uv_lstT | with_reducible exact uv_isi rfl | with_reducible exact nv_min2 | with_reducible exact nv_max2 | with_reducible exact gv_name | with_reducible exact gv_nil | with_reducible exact mv_nil | with_reducible exact ov_addI | with_reducible exact plT2 | with_reducible exact plL_ints _ | with_reducible exact plT_ints _ | with_reducible exact pl_int | with_reducible exact pl_part | with_reducible exact pl_money | with_reducible exact pl_same | with_reducible exact pl_two | ((with_reducible apply iv_zsL) <;> rfl) | ((with_reducible apply iv_zsT) <;> rfl) | ((with_reducible apply iv_zvLL) <;> rfl) | ((with_reducible apply iv_zvTT) <;> rfl) | ((with_reducible apply iv_zvLT) <;> rfl) | ((with_reducible apply iv_zvTL) <;> rfl) | ((with_reducible apply av_stTv); rfl) | ((with_reducible apply av_stLv); rfl) | ((with_reducible apply av_stLo); rfl) | ((with_reducible apply ev_slv); rfl) | ((with_reducible apply ev_ixv); rfl) | ((with_reducible apply ev_ixvo); rfl) | ((with_reducible apply ev_ixvb); rfl; rfl) | ((with_reducible apply iv_itT); (with_reducible apply ev_v); rfl) | ((with_reducible apply iv_itT); (with_reducible apply ev_vo); rfl) | ((with_reducible apply iv_itL); (with_reducible apply ev_v); rfl) | ((with_reducible apply iv_itL); (with_reducible apply ev_vo); rfl) | ((with_reducible apply iv_enumT); (with_reducible apply ev_v); rfl) | ((with_reducible apply iv_enumT); (with_reducible apply ev_vo); rfl) | ((with_reducible apply iv_enumL); (with_reducible apply ev_v); rfl) | ((with_reducible apply iv_enumL); (with_reducible apply ev_vo); rfl) | with_reducible apply ev_bin | with_reducible apply ev_c1 | with_reducible apply ev_cn | with_reducible apply ev_tup | with_reducible apply ev_lst | with_reducible apply ev_andV | with_reducible apply ev_orV | with_reducible apply ev_notV | with_reducible apply ev_chain | with_reducible apply ev_call1 | with_reducible apply ev_call2 | with_reducible apply ev_call3 | with_reducible apply ev_call4 | with_reducible apply ev_lc | with_reducible apply av_cons | with_reducible apply tv_tst | with_reducible apply tv_and | with_reducible apply tv_or | with_reducible apply tv_not | with_reducible apply pv_some | with_reducible apply ov_ixT | with_reducible apply ov_ixL | with_reducible apply ov_ixR | with_reducible apply iv_itT | with_reducible apply iv_itL | with_reducible apply iv_enumT | with_reducible apply iv_enumL | with_reducible apply iv_zipTT | with_reducible apply iv_rng1 | with_reducible apply iv_rng2 | with_reducible apply gv_tup | with_reducible apply gv_cons | with_reducible apply ls_yes | with_reducible apply lf_of | with_reducible apply ov_addT | with_reducible apply ov_fdiv | with_reducible apply ov_mod | with_reducible apply ov_pow | with_reducible apply uv_sum | with_reducible apply uv_sumR | with_reducible apply uv_sumT | with_reducible apply uv_all | with_reducible apply uv_any | with_reducible apply ov_mul | with_reducible apply ov_eq | with_reducible apply ov_ne | with_reducible apply mv_sh | with_reducible apply mv_ow | with_reducible apply ev_mulL | with_reducible apply ev_lrg1 | with_reducible apply ev_neg | with_reducible apply ov_addL | with_reducible apply ov_mulT | with_reducible apply av_starL | with_reducible apply ov_addI | with_reducible apply iv_rng1 | with_reducible apply uv_lsetT | with_reducible apply uv_lsetL | with_reducible apply ov_inL | with_reducible apply ov_ninL | with_reducible apply uv_sortL | with_reducible apply uv_sortT | with_reducible apply ev_ifE | ((with_reducible show CV _ _ _ _ _); assumption) | walk_at "ddcv" | with_reducible exact atI_0 | with_reducible exact atI_1 | with_reducible exact atI_2 | (show (_ : Prop); with_reducible rfl) | ((with_reducible show (_ : DV) = _); dsimp only [Function.comp]; done) | ((with_reducible show (_ : DV) = _); simp only [Function.comp, Int.natCast_add, Int.natCast_mul]; done) | ((with_reducible show (_ : Pst) = _); rfl) | ((with_reducible show List.length _ = _); rfl) | ((with_reducible show List.length _ ≤ sizeLine); simp only [List.length_cons, List.length_nil, Nat.reduceAdd]; decide) | with_reducible intro _ | ((with_reducible apply noown_ok); rfl))))
/-! draws -/
theorem tk {env : List Sl} {tx : TD} {a b c u : Nat} {Xd : XD} {R : DV → Pst → Prop} (hx : EV tx ⟨.bo 0 :: env, [potD a b c]⟩ (nat u) ⟨.bo 0 :: env, [potD a b c]⟩) (ha : a < 2 ^ 1000) (hb : b < 2 ^ 62) (hc : c ≤ 1000000) (hu : 1 ≤ u) (hu2 : u ≤ 1000000)
    (h : ∀ x a' c', x < u → a' < 2 ^ 1000 → c' ≤ c + 1 → R (nat x) ⟨.bo 0 :: env, [potD a' b c']⟩) : t_callB 2 [] c__law_take 0 (t_cons tx t_nil) Xd ⟨.bo 0 :: env, [potD a b c]⟩ R := by
  refine s_callB rfl (s_cons ?_)
  refine hx.use (s_nil (cb_of rfl rfl ?_))
  exact dv_take ha hb hc hu hu2 fun x a' c' h1 h2 h3 => h x a' c' h1 h2 h3
theorem tkI {env : List Sl} {tx : TD} {a b c u : Nat} {Xd : XD} {R : DV → Pst → Prop} (hx : EV tx ⟨.bo 0 :: env, [potD a b c]⟩ (nat u) ⟨.bo 0 :: env, [potD a b c]⟩) (ha : a < 2 ^ 1000) (hb : b < 2 ^ 62) (hc : c ≤ 1000000) (hu : 1 ≤ u) (hu2 : u ≤ 1000000)
    (h : ∀ x a' c', x < u → a' < 2 ^ 1000 → c' ≤ c + 1 → R (nat x) ⟨.bo 0 :: env, [potD a' b c']⟩) : t_c1 o_int (t_callB 2 [] c__law_take 0 (t_cons tx t_nil)) Xd ⟨.bo 0 :: env, [potD a b c]⟩ R :=
  s_c1 (tk hx ha hb hc hu hu2 fun x a' c' h1 h2 h3 => uv_int _ (h x a' c' h1 h2 h3))
theorem tkOf {env : List Sl} {tl : TD} {a b c : Nat} {us : List Nat} {Xd : XD} {R : DV → Pst → Prop} (hx : EV tl ⟨.bo 0 :: env, [potD a b c]⟩ (.lst (us.map natD)) ⟨.bo 0 :: env, [potD a b c]⟩) (hne : us ≠ []) (hul : us.length ≤ 100) (hus : ∀ u ∈ us, 1 ≤ u ∧ u ≤ 1000000) (ha : a < 2 ^ 1000) (hb : b < 2 ^ 62) (hc : c ≤ 900000)
    (h : ∀ x u a' c', u ∈ us → x < u → a' < 2 ^ 1000 → c' ≤ c + 2 → R (nat x) ⟨.bo 0 :: env, [potD a' b c']⟩) : t_c1 o_int (t_callB 2 [] c__law_take 0 (t_cons (t_callB 2 [] c__law_of 0 (t_cons tl t_nil)) t_nil)) Xd ⟨.bo 0 :: env, [potD a b c]⟩ R := by
  refine s_c1 (s_callB rfl (s_cons (s_callB rfl (s_cons ?_))))
  refine hx.use (s_nil (cb_of rfl rfl ?_))
  refine dv_of ha hb (by omega) (by simpa using hne) (by rw [List.length_map]; omega) (.inl rfl) fun d hd a1 c1 ha1 hc1 => ?_
  obtain ⟨u, hu, rfl⟩ := List.mem_map.mp hd
  refine s_nil (cb_of rfl rfl ?_)
  refine dv_take (u := u) ha1 hb (by omega) (hus u hu).1 (hus u hu).2 fun x a2 c2 h1 h2 h3 => ?_
  exact uv_int _ (h x u a2 c2 hu h1 h2 (by omega))
/-! what the law asks of discounts -/
theorem hun_pick {ds : List Dc} {a b : List Nat} (ha : a.Perm (List.range ds.length)) (hb : b.Perm (List.range ds.length)) : hun (pick ds a) = hun (pick ds b) := hun_perm ((pick_perm2 ha).trans (pick_perm2 hb).symm)
theorem raw_first {ds : List Dc} {ps ms : List Nat} (h1 : ∀ d ∈ pick ds ps, d.1 = true) (h2 : ∀ d ∈ pick ds ms, d.1 = false) (hp : (ps ++ ms).Perm (List.range ds.length)) (p : Nat) : (raw (pick ds (ps ++ ms)) (p, 1)).1 = lowB ds (p, 1) := by
  have e := lowB_perm (pick_perm2 hp) (p, 1)
  rw [pick_app] at e ⊢
  rw [raw_pm h1 h2, e]
theorem raw_last {ds : List Dc} {ps ms : List Nat} (h1 : ∀ d ∈ pick ds ps, d.1 = true) (h2 : ∀ d ∈ pick ds ms, d.1 = false) (hp : (ms ++ ps).Perm (List.range ds.length)) (p : Nat) : (raw (pick ds (ms ++ ps)) (p, 1)).1 = highB ds (p, 1) := by
  have e := highB_perm (pick_perm2 hp) (p, 1)
  rw [pick_app] at e ⊢
  rw [raw_mp h1 h2, e]
theorem pls_all (b : Bool) (ds : List Dc) : ∀ d ∈ pick ds (pls b ds), d.1 = b := fun d hd => by
  rw [pls_pick] at hd
  simpa using (List.mem_filter.mp hd).2
theorem raw_lo (p : Nat) (ds : List Dc) : (raw (pick ds (pls true ds ++ pls false ds)) (p, 1)).1 = lowB ds (p, 1) := raw_first (pls_all true ds) (pls_all false ds) (pls_perm ds) p
theorem raw_hi (p : Nat) (ds : List Dc) : (raw (pick ds (pls false ds ++ pls true ds)) (p, 1)).1 = highB ds (p, 1) := raw_last (pls_all true ds) (pls_all false ds) (pls_perm2 ds) p
theorem first_lo {ds : List Dc} {ps ms : List Nat} (h1 : ∀ d ∈ pick ds ps, d.1 = true) (h2 : ∀ d ∈ pick ds ms, d.1 = false) (hp : (ps ++ ms).Perm (List.range ds.length)) (p : Nat) : tpl (pick ds (ps ++ ms)) (p, 1) = lo1 p ds :=
  tpl_eq ((raw_first h1 h2 hp p).trans (raw_lo p ds).symm) (hun_pick hp (pls_perm ds))
theorem last_hi {ds : List Dc} {ps ms : List Nat} (h1 : ∀ d ∈ pick ds ps, d.1 = true) (h2 : ∀ d ∈ pick ds ms, d.1 = false) (hp : (ms ++ ps).Perm (List.range ds.length)) (p : Nat) : tpl (pick ds (ms ++ ps)) (p, 1) = hi1 p ds :=
  tpl_eq ((raw_last h1 h2 hp p).trans (raw_hi p ds).symm) (hun_pick hp (pls_perm2 ds))
theorem lo_le {ds : List Dc} {os : List Nat} (ho : os.Perm (List.range ds.length)) (p : Nat) : (lo1 p ds).1 * (tpl (pick ds os) (p, 1)).2 ≤ (tpl (pick ds os) (p, 1)).1 * (lo1 p ds).2 :=
  tpl_le (by rw [raw_lo, ← lowB_perm (pick_perm2 ho)]; exact raw_low _ _) (hun_pick (pls_perm ds) ho)
theorem le_hi {ds : List Dc} {os : List Nat} (ho : os.Perm (List.range ds.length)) (p : Nat) : (tpl (pick ds os) (p, 1)).1 * (hi1 p ds).2 ≤ (hi1 p ds).1 * (tpl (pick ds os) (p, 1)).2 :=
  tpl_le (by rw [raw_hi, ← highB_perm (pick_perm2 ho)]; exact raw_high _ _) (hun_pick ho (pls_perm2 ds))
theorem same_all {ds : List Dc} {os : List Nat} (ho : os.Perm (List.range ds.length)) (p : Nat) (h : lo1 p ds = hi1 p ds) : tpl (pick ds os) (p, 1) = lo1 p ds := by
  have e := tpl_inj h (hun_pick (pls_perm ds) (pls_perm2 ds))
  rw [raw_lo, raw_hi] at e
  refine tpl_eq ?_ (hun_pick ho (pls_perm ds))
  have h1 := raw_low (pick ds os) (p, 1)
  have h2 := raw_high (pick ds os) (p, 1)
  rw [lowB_perm (pick_perm2 ho)] at h1
  rw [highB_perm (pick_perm2 ho)] at h2
  rw [raw_lo]
  omega
theorem same_one {ds : List Dc} (p : Nat) (h : (∀ d ∈ ds, d.1 = true) ∨ ∀ d ∈ ds, d.1 = false) : lo1 p ds = hi1 p ds :=
  tpl_eq (by rw [raw_lo, raw_hi]; exact low_high h) (hun_pick (pls_perm ds) (pls_perm2 ds))
theorem more_lo (ds : List Dc) (p x : Nat) : (lo1 p (ds ++ [(true, x)])).1 * (lo1 p ds).2 ≤ (lo1 p ds).1 * (lo1 p (ds ++ [(true, x)])).2 := by
  refine more_le (x := x) ?_ ?_ ?_
  · rw [raw_lo, ← lowB_perm (pick_perm2 (pls_perm ds))]
  · rw [raw_lo, ← lowB_perm (pick_perm2 (pls_perm (ds ++ [(true, x)])))]
  · exact (pick_perm2 (pls_perm _)).trans ((pick_perm2 (pls_perm ds)).symm.append_right _)
theorem pick_far {ds : List Dc} {os : List Nat} (t : Nat) (ho : ∀ i ∈ os, i < ds.length) : pick (ds.map (far t)) os = (pick ds os).map (far t) := by
  unfold pick
  rw [List.map_map]
  refine List.map_congr_left fun i hi => ?_
  have := ho i hi
  simp only [Function.comp]
  rw [List.getElem?_map, List.getElem?_eq_getElem this]
  rfl
theorem szf_tpl : ∀ (l : List Dc) {k : Nat} {p : Nat × Nat}, SzF k p → SzF (k + l.length) (tpl l p)
  | [], k, p, h => h
  | d :: l, k, p, h => by
    have := szf_tpl l (szf_off h d)
    rw [List.length_cons, show k + (l.length + 1) = k + 1 + l.length by omega]
    exact this
theorem szf_pick {p : Nat} {ds : List Dc} {os : List Nat} (hp : p ≤ 1000000000) (hl : os.length ≤ 13) : (tpl (pick ds os) (p, 1)).1 < 2 ^ 121 ∧ (tpl (pick ds os) (p, 1)).2 < 2 ^ 92 := by
  have h0 : SzF 0 (p, 1) := ⟨show p < 2 ^ 30 by omega, show 1 < 2 ^ (1 + 7 * 0) by decide, Nat.one_pos⟩
  obtain ⟨h1, h2, _⟩ := szf_tpl (pick ds os) h0
  have e : (pick ds os).length = os.length := by unfold pick; rw [List.length_map]
  rw [e] at h1 h2
  exact ⟨Nat.lt_of_lt_of_le h1 (pow_le (by omega)), Nat.lt_of_lt_of_le h2 (pow_le (by omega))⟩
theorem szf_lo {p : Nat} {ds : List Dc} (h : Disc p ds) : (lo1 p ds).1 < 2 ^ 121 ∧ (lo1 p ds).2 < 2 ^ 92 := szf_pick h.p (by rw [(perm_lt (pls_perm ds)).2]; have := h.few; omega)
theorem szf_hi {p : Nat} {ds : List Dc} (h : Disc p ds) : (hi1 p ds).1 < 2 ^ 121 ∧ (hi1 p ds).2 < 2 ^ 92 := szf_pick h.p (by rw [(perm_lt (pls_perm2 ds)).2]; have := h.few; omega)
theorem mulF {x y : Nat} (hx : x < 2 ^ 121) (hy : y < 2 ^ 121) : CMulX (x : Int) (y : Int) := mulx_ok (a := 121) (b := 121) (by rw [Int.natAbs_natCast]; exact hx) (by rw [Int.natAbs_natCast]; exact hy) (by decide)
theorem lt92 {x : Nat} (h : x < 2 ^ 92) : x < 2 ^ 121 := Nat.lt_of_lt_of_le h (pow_le (by decide))
end Dr
set_option maxHeartbeats 0
namespace Dr
open PySem PySem.Spec PyProof.Rows L2 DD M72
local macro_rules | `(tactic| walk_at "ddcv") => `(tactic| fail)
local macro_rules | `(tactic| walk_at "ddev") => `(tactic| (repeat' (first | (show (_ : Prop); with_reducible assumption) | ((with_reducible apply ev_v) <;> rfl) | ((with_reducible apply ev_vo) <;> rfl) | ((with_reducible apply ev_rd) <;> rfl) | ((with_reducible apply ev_rdo) <;> rfl) | ((with_reducible apply ev_take) <;> rfl) | ((with_reducible apply ev_rdb) <;> rfl) | with_reducible exact ev_c | with_reducible exact av_nil | with_reducible exact pv_none | with_reducible exact ov_add | with_reducible exact ov_sub | with_reducible exact ov_lt | with_reducible exact ov_le | with_reducible exact ov_gt | with_reducible exact ov_ge | with_reducible exact ov_eqi | with_reducible exact ov_nei | with_reducible exact ov_isN | with_reducible exact ov_isntN | with_reducible exact ov_isB | with_reducible exact ov_isntB | with_reducible exact uv_lenL | with_reducible exact uv_lenT | with_reducible exact uv_lenR | with_reducible exact uv_int | with_reducible exact uv_intB | with_reducible exact uv_abs | with_reducible exact uv_tupL | with_reducible exact uv_tupT | with_reducible exact uv_lstL | with_reducible exact uv_lstT | with_reducible exact uv_isi rfl | with_reducible exact nv_min2 | with_reducible exact nv_max2 | with_reducible exact gv_name | with_reducible exact gv_nil | with_reducible exact mv_nil | with_reducible exact ov_addI | with_reducible exact plT2 | with_reducible exact plL_ints _ | with_reducible exact plT_ints _ | with_reducible exact pl_int | with_reducible exact pl_part | with_reducible exact pl_money | with_reducible exact pl_same | with_reducible exact pl_two | ((with_reducible apply iv_zsL) <;> rfl) | ((with_reducible apply iv_zsT) <;> rfl) | ((with_reducible apply iv_zvLL) <;> rfl) | ((with_reducible apply iv_zvTT) <;> rfl) | ((with_reducible apply iv_zvLT) <;> rfl) | ((with_reducible apply iv_zvTL) <;> rfl) | ((with_reducible apply av_stTv); rfl) | ((with_reducible apply av_stLv); rfl) | ((with_reducible apply av_stLo); rfl) | ((with_reducible apply ev_slv); rfl) | ((with_reducible apply ev_ixv); rfl) | ((with_reducible apply ev_ixvo); rfl) | ((with_reducible apply ev_ixvb); rfl; rfl) | ((with_reducible apply iv_itT); (with_reducible apply ev_v); rfl) | ((with_reducible apply iv_itT); (with_reducible apply ev_vo); rfl) | ((with_reducible apply iv_itL); (with_reducible apply ev_v); rfl) | ((with_reducible apply iv_itL); (with_reducible apply ev_vo); rfl) | ((with_reducible apply iv_enumT); (with_reducible apply ev_v); rfl) | ((with_reducible apply iv_enumT); (with_reducible apply ev_vo); rfl) | ((with_reducible apply iv_enumL); (with_reducible apply ev_v); rfl) | ((with_reducible apply iv_enumL); (with_reducible apply ev_vo); rfl) | with_reducible apply ev_bin | with_reducible apply ev_c1 | with_reducible apply ev_cn | with_reducible apply ev_tup | with_reducible apply ev_lst | with_reducible apply ev_andV | with_reducible apply ev_orV | with_reducible apply ev_notV | with_reducible apply ev_chain | with_reducible apply ev_call1 | with_reducible apply ev_call2 | with_reducible apply ev_call3 | with_reducible apply ev_call4 | with_reducible apply ev_lc | with_reducible apply av_cons | with_reducible apply tv_tst | with_reducible apply tv_and | with_reducible apply tv_or | with_reducible apply tv_not | with_reducible apply pv_some | with_reducible apply ov_ixT | with_reducible apply ov_ixL | with_reducible apply ov_ixR | with_reducible apply iv_itT | with_reducible apply iv_itL | with_reducible apply iv_enumT | with_reducible apply iv_enumL | with_reducible apply iv_zipTT | with_reducible apply iv_rng1 | with_reducible apply iv_rng2 | with_reducible apply gv_tup | with_reducible apply gv_cons | with_reducible apply ls_yes | with_reducible apply lf_of | with_reducible apply ov_addT | with_reducible apply ov_fdiv | with_reducible apply ov_mod | with_reducible apply ov_pow | with_reducible apply uv_sum | with_reducible apply uv_sumR | with_reducible apply uv_sumT | with_reducible apply uv_all | with_reducible apply uv_any | with_reducible apply ov_mul | with_reducible apply ov_eq | with_reducible apply ov_ne | with_reducible apply mv_sh | with_reducible apply mv_ow | with_reducible apply ev_mulL | with_reducible apply ev_lrg1 | with_reducible apply ev_neg | with_reducible apply ov_addL | with_reducible apply ov_mulT | with_reducible apply av_starL | with_reducible apply ov_addI | with_reducible apply iv_rng1 | with_reducible apply uv_lsetT | with_reducible apply uv_lsetL | with_reducible apply ov_inL | with_reducible apply ov_ninL | with_reducible apply uv_sortL | with_reducible apply uv_sortT | with_reducible apply ev_ifE | ((with_reducible show CV _ _ _ _ _); assumption) | walk_at "ddcv" | with_reducible exact atI_0 | with_reducible exact atI_1 | with_reducible exact atI_2 | (show (_ : Prop); with_reducible rfl) | ((with_reducible show (_ : DV) = _); dsimp only [Function.comp]; done) | ((with_reducible show (_ : DV) = _); simp only [Function.comp, Int.natCast_add, Int.natCast_mul]; done) | ((with_reducible show (_ : Pst) = _); rfl) | ((with_reducible show List.length _ = _); rfl) | ((with_reducible show List.length _ ≤ sizeLine); simp only [List.length_cons, List.length_nil, Nat.reduceAdd]; decide) | with_reducible intro _ | ((with_reducible apply noown_ok); rfl))))
def TL_law_are_discounts_right_12 : TSd := (t_seq (t_set 11 (t_bin o_add (t_v 2) (t_tup (t_cons (t_tup (t_cons (t_c (.str "part")) (t_cons (t_c1 o_int (t_callB 2 [] c__law_take 0 (t_cons (t_c (.int 101)) t_nil))) t_nil))) t_nil)))) (t_seq (t_if (t_and (t_tst (t_bin o_lt (t_v 4) (t_c (.int 12)))) (t_tst (t_bin o_gt (t_bin o_mul (t_bin o_ix (t_bin o_ix (t_call 2 [] c_lowest_price (t_cons (t_v 1) (t_cons (t_v 11) t_nil))) (t_c (.int 0))) (t_c (.int 0))) (t_bin o_ix (t_ixv 6 (t_c (.int 0))) (t_c (.int 1)))) (t_bin o_mul (t_bin o_ix (t_ixv 6 (t_c (.int 0))) (t_c (.int 0))) (t_bin o_ix (t_bin o_ix (t_call 2 [] c_lowest_price (t_cons (t_v 1) (t_cons (t_v 11) t_nil))) (t_c (.int 0))) (t_c (.int 1))))))) (t_ret (t_c (.bl false))) t_skip) (t_seq (t_set 12 (t_bin o_add (t_c (.int 2)) (t_c1 o_int (t_callB 2 [] c__law_take 0 (t_cons (t_c (.int 5)) t_nil))))) (t_seq (t_set 13 (t_c1 o_tuple (t_lc (t_it (t_v 2)) (g_tup 2 (g_cons (g_name 17) (g_cons (g_name 18) g_nil))) t_yes (t_tup (t_cons (t_v 17) (t_cons (t_ifE (t_tst (t_bin o_eq (t_v 17) (t_c (.str "part")))) (t_v 18) (t_bin o_mul (t_v 12) (t_v 18))) t_nil))) [17, 18]))) (t_seq (t_set 14 (t_call 3 [] c_price_of (t_cons (t_bin o_mul (t_v 12) (t_v 1)) (t_cons (t_v 13) (t_cons (t_v 5) t_nil))))) (t_seq (t_if (t_tst (t_bin o_ne (t_bin o_mul (t_ixv 14 (t_c (.int 0))) (t_ixv 8 (t_c (.int 1)))) (t_bin o_mul (t_bin o_mul (t_v 12) (t_ixv 8 (t_c (.int 0)))) (t_ixv 14 (t_c (.int 1)))))) (t_ret (t_c (.bl false))) t_skip) (t_seq (t_set 15 (t_tup (t_cons (t_tup (t_cons (t_c (.str "part")) (t_cons (t_c (.int 0)) t_nil))) (t_cons (t_tup (t_cons (t_c (.str "money")) (t_cons (t_c (.int 0)) t_nil))) t_nil)))) (t_ret (t_andV (t_bin o_eq (t_call 3 [] c_price_of (t_cons (t_v 1) (t_cons (t_v 15) (t_cons (t_tup (t_cons (t_c (.int 1)) (t_cons (t_c (.int 0)) t_nil))) t_nil)))) (t_tup (t_cons (t_v 1) (t_cons (t_c (.int 1)) t_nil)))) (t_bin o_eq (t_call 3 [] c_price_of (t_cons (t_v 1) (t_cons (t_tup (t_cons (t_tup (t_cons (t_c (.str "part")) (t_cons (t_c (.int 100)) t_nil))) t_nil)) (t_cons (t_tup (t_cons (t_c (.int 0)) t_nil)) t_nil)))) (t_tup (t_cons (t_c (.int 0)) (t_cons (t_c (.int 1)) t_nil)))))))))))))
local macro_rules | `(tactic| walk_at "ddcv") => `(tactic| (first | ((with_reducible show CV c_is_int _ _ _ _); exact cv_is_int) | ((with_reducible show CV c_look_at_discounts _ _ _ _); exact cv_look_at_discounts (by assumption)) | ((with_reducible show CV c_lowest_price _ _ _ _); exact cv_lowest_price (by assumption)) | ((with_reducible show CV c_highest_price _ _ _ _); exact cv_highest_price (by assumption)) | ((with_reducible show CV c_price_of _ _ _ _); exact cv_price_of (by assumption) (by assumption))))
theorem tpl_none (p : Nat) : tpl (pick [(true, 0), (false, 0)] [1, 0]) (p, 1) = (p, 1) := by
  show off (off (p, 1) (false, 0)) (true, 0) = (p, 1)
  have e1 : off (p, 1) (false, 0) = (p, 1) := by
    show low1 (p - 0 * 1) 1 = (p, 1)
    unfold low1
    simp
  rw [e1]
  show low1 (p * (100 - 0)) (1 * 100) = (p, 1)
  unfold low1
  have e2 : Nat.gcd (p * (100 - 0)) (1 * 100) = 100 := by
    show Nat.gcd (p * 100) 100 = 100
    exact Nat.gcd_mul_left_left _ _
  rw [e2]
  show (p * 100 / 100, 1 * 100 / 100) = (p, 1)
  rw [Nat.mul_div_cancel _ (by decide)]
theorem tpl_all (p : Nat) : tpl (pick [(true, 100)] [0]) (p, 1) = (0, 1) := by
  show off (p, 1) (true, 100) = (0, 1)
  show low1 (p * (100 - 100)) (1 * 100) = (0, 1)
  rw [Nat.sub_self, Nat.mul_zero]
  rfl
theorem disc_part3 {e : ED} {p : Nat} {ds : List Dc} {os : List Nat} {s3 s9 s10 : Sl} {a b c : Nat} (h : Disc p ds) (hp : p ≤ 1000000) (hl : ds.length ≤ 11) (hm : ∀ d ∈ ds, d.1 = false → d.2 ≤ 1000000) (ho : os.Perm (List.range ds.length)) (ha : a < 2 ^ 1000) (hb : b < 2 ^ 62) (hc : c ≤ 900000)
    (hr : ∀ a' c' q, a' < 2 ^ 1000 → c' ≤ c + 2 → q.bor = [potD a' b c'] → e.rt (.bl true) q) :
    TL_law_are_discounts_right_12 e ⟨[.bo 0, .sh (nat p), .sh (dsD ds), s3, .sh (nat ds.length), .sh (.tup (os.map natD)), .sh (.tup [frD (lo1 p ds), .tup ((pls true ds ++ pls false ds).map natD)]), .sh (.tup [frD (hi1 p ds), .tup ((pls false ds ++ pls true ds).map natD)]), .sh (frD (tpl (pick ds os) (p, 1))), s9, s10, .un, .un, .un, .un, .un, .un, .un, .un], [potD a b c]⟩ := by
  have hlo := szf_lo h
  have hme := szf_pick (ds := ds) (os := os) h.p (by rw [(perm_lt ho).2]; omega)
  unfold TL_law_are_discounts_right_12
  refine s_seq (s_set (s_bin ?_))
  apply EV.use
  · walk_at "ddev"
  refine s_tup (s_cons (s_tup (s_cons ?_)))
  apply EV.use
  · walk_at "ddev"
  refine s_cons (tkI (u := 101) ?_ ha hb (by omega) (by decide) (by decide) fun x a1 c1 hx ha1 hc1 => ?_)
  · exact ev_c
  refine s_nil ⟨show 2 ≤ sizeLine by decide, s_nil ⟨show 1 ≤ sizeLine by decide, ⟨?_, ?_⟩⟩⟩
  · simp only [List.length_map, List.length_cons, List.length_nil]
    exact Nat.le_trans (show ds.length + (0 + 1) ≤ 12 by omega) (by decide)
  dsimp only [List.length_cons, List.length_nil, Nat.reduceSub, Nat.reduceAdd, List.replicate, List.cons_append, List.nil_append, List.append_nil, Pst.put, List.set_cons_zero, List.set_cons_succ, Pst.upL, Pst.own, List.getElem?_cons_zero, List.getElem?_cons_succ]
  have hmore : Disc p (ds ++ [(true, x)]) := ⟨h.p, by rw [List.length_append]; show ds.length + 1 ≤ 12; omega, fun d hd => by
    rcases List.mem_append.mp hd with hd | hd
    · exact h.ok d hd
    · rw [List.mem_singleton] at hd
      subst hd
      exact ⟨(fun _ => by show x ≤ 100; omega), (fun z => nomatch z)⟩⟩
  have hlm := szf_lo hmore
  have hcv : CV c_lowest_price [.sh (nat p), .sh (.tup (ds.map dcD ++ [.tup [.str "part", nat x]]))] [] (.tup [frD (lo1 p (ds ++ [(true, x)])), .tup ((pls true (ds ++ [(true, x)]) ++ pls false (ds ++ [(true, x)])).map natD)]) [] := by
    have := cv_lowest_price hmore
    unfold dsD at this
    rw [List.map_append] at this
    exact this
  refine s_seq ?_
  apply s_if
  · walk_at "ddev"
    · exact mulF hlm.1 (lt92 hlo.2)
    · exact mulF hlo.1 (lt92 hlm.2)
  · intro hk
    exfalso
    have := more_lo ds p x
    simp only [Bool.and_eq_true, decide_eq_true_eq, ← Int.natCast_mul] at hk
    omega
  intro _
  refine s_skip ?_
  dsimp only
  refine s_seq (s_set (s_bin ?_))
  apply EV.use
  · walk_at "ddev"
  refine tkI (u := 5) ?_ ha1 hb (by omega) (by decide) (by decide) fun t0 a2 c2 ht ha2 hc2 => ?_
  · exact ev_c
  obtain ⟨t, ht2⟩ : ∃ t : Nat, t = 2 + t0 := ⟨_, rfl⟩
  have ht3 : t ≤ 6 := by omega
  have e2 : (2 : Int) + (t0 : Int) = (t : Int) := by omega
  refine ov_add _ ?_
  rw [e2]
  dsimp only [List.length_cons, List.length_nil, Nat.reduceSub, Nat.reduceAdd, List.replicate, List.cons_append, List.nil_append, List.append_nil, Pst.put, List.set_cons_zero, List.set_cons_succ, Pst.upL, Pst.own, List.getElem?_cons_zero, List.getElem?_cons_succ]
  refine s_seq (s_set ?_)
  apply EV.use
  · apply ev_c1
    · walk_at "ddev"
      refine lv_map (xs := ds) dcD (fun d => dcD (far t d)) (fun d => [.bo 0, .sh (nat p), .sh (dsD ds), s3, .sh (nat ds.length), .sh (.tup (os.map natD)), .sh (.tup [frD (lo1 p ds), .tup ((pls true ds ++ pls false ds).map natD)]), .sh (.tup [frD (hi1 p ds), .tup ((pls false ds ++ pls true ds).map natD)]), .sh (frD (tpl (pick ds os) (p, 1))), s9, s10, .sh (.tup (ds.map dcD ++ [.tup [.str "part", nat x]])), .sh (nat t), .un, .un, .un, .un, .sh (.str (if d.1 = true then "part" else "money")), .sh (nat d.2)]) (fun d hd => ?_) (fun _ _ => rfl) (Nat.le_trans h.few (by decide)) rfl rfl
      obtain ⟨k, y⟩ := d
      cases k with
      | true =>
        show LS _ _ _ _ _ _ (.tup [.str "part", nat y]) (.tup [.str "part", nat y]) _
        walk_at "ddev"
        · exact mulx_ok (a := 10) (b := 30) (by omega) (by have := (h.ok _ hd).1 rfl; have : y ≤ 100 := this; omega) (by decide)
        · rw [deq_ss, see1]; rfl
      | false =>
        show LS _ _ _ _ _ _ (.tup [.str "money", nat y]) (.tup [.str "money", nat (t * y)]) _
        walk_at "ddev"
        · exact mulx_ok (a := 10) (b := 30) (by omega) (by have := hm _ hd rfl; have : y ≤ 1000000 := this; omega) (by decide)
        · rw [deq_ss, sne, ← Int.natCast_mul]; rfl
    · exact uv_tupL
  dsimp only [List.length_cons, List.length_nil, Nat.reduceSub, Nat.reduceAdd, List.replicate, List.cons_append, List.nil_append, List.append_nil, Pst.put, List.set_cons_zero, List.set_cons_succ, Pst.upL, Pst.own, List.getElem?_cons_zero, List.getElem?_cons_succ]
  have hfar : Disc (t * p) (ds.map (far t)) := by
    refine ⟨?_, by rw [List.length_map]; omega, fun d hd => ?_⟩
    · have : t * p ≤ 6 * 1000000 := Nat.mul_le_mul ht3 hp
      omega
    obtain ⟨⟨k, y⟩, hy, rfl⟩ := List.mem_map.mp hd
    have h1 := h.ok _ hy
    have h2 := hm _ hy
    cases k with
    | true => exact ⟨(fun _ => h1.1 rfl), (fun z => nomatch z)⟩
    | false =>
      refine ⟨(fun z => nomatch z), (fun _ => ?_)⟩
      have : t * y ≤ 6 * 1000000 := Nat.mul_le_mul ht3 (h2 rfl)
      show t * y ≤ 1000000000
      omega
  have hof : os.Perm (List.range (ds.map (far t)).length) := by rw [List.length_map]; exact ho
  have hwd := szf_pick (ds := ds.map (far t)) (os := os) hfar.p (by rw [(perm_lt ho).2]; omega)
  have hcw : CV c_price_of [.sh (.int ((t : Int) * (p : Int))), .sh (.tup (ds.map fun d => dcD (far t d))), .sh (.tup (os.map natD))] [] (frD (tpl (pick (ds.map (far t)) os) (t * p, 1))) [] := by
    have := cv_price_of hfar hof
    unfold dsD at this
    rw [List.map_map, Int.natCast_mul] at this
    exact this
  refine s_seq (s_set ?_)
  apply EV.use
  · walk_at "ddev"
    exact mulx_ok (a := 10) (b := 30) (by omega) (by omega) (by decide)
  dsimp only [List.length_cons, List.length_nil, Nat.reduceSub, Nat.reduceAdd, List.replicate, List.cons_append, List.nil_append, List.append_nil, Pst.put, List.set_cons_zero, List.set_cons_succ, Pst.upL, Pst.own, List.getElem?_cons_zero, List.getElem?_cons_succ]
  refine s_seq ?_
  apply s_if
  · walk_at "ddev"
    · exact mulF hwd.1 (lt92 hme.2)
    · exact mulx_ok (a := 10) (b := 121) (by omega) (by rw [Int.natAbs_natCast]; exact hme.1) (by decide)
    · rw [← Int.natCast_mul]
      have : t * (tpl (pick ds os) (p, 1)).1 < 2 ^ 131 := by
        have h1 : t * (tpl (pick ds os) (p, 1)).1 ≤ 6 * (tpl (pick ds os) (p, 1)).1 := Nat.mul_le_mul_right _ ht3
        have h2 := hme.1
        omega
      exact mulx_ok (a := 131) (b := 92) (by rw [Int.natAbs_natCast]; exact this) (by rw [Int.natAbs_natCast]; exact hwd.2) (by decide)
  · intro hk
    exfalso
    have e3 := tpl_far (t := t) (p := p) (l := pick ds os)
    rw [← pick_far t (fun i hi => (perm_lt ho).1 i hi)] at e3
    simp only [Bool.not_eq_true', decide_eq_false_iff_not, ← Int.natCast_mul] at hk
    exact hk (by rw [e3])
  intro _
  refine s_skip ?_
  dsimp only
  refine s_seq (s_set ?_)
  apply EV.use
  · walk_at "ddev"
  dsimp only [List.length_cons, List.length_nil, Nat.reduceSub, Nat.reduceAdd, List.replicate, List.cons_append, List.nil_append, List.append_nil, Pst.put, List.set_cons_zero, List.set_cons_succ, Pst.upL, Pst.own, List.getElem?_cons_zero, List.getElem?_cons_succ]
  have hn1 : Disc p [(true, 0), (false, 0)] := ⟨h.p, by decide, fun d hd => by
    rcases List.mem_cons.mp hd with rfl | hd
    · exact ⟨(fun _ => by decide), (fun z => nomatch z)⟩
    · rw [List.mem_singleton] at hd; subst hd; exact ⟨(fun z => nomatch z), (fun _ => by decide)⟩⟩
  have hn2 : Disc p [(true, 100)] := ⟨h.p, by decide, fun d hd => by
    rw [List.mem_singleton] at hd; subst hd; exact ⟨(fun _ => by decide), (fun z => nomatch z)⟩⟩
  have hcn1 : CV c_price_of [.sh (nat p), .sh (.tup [.tup [.str "part", .int 0], .tup [.str "money", .int 0]]), .sh (.tup [.int 1, .int 0])] [] (.tup [nat p, .int 1]) [] := by
    have := cv_price_of (os := [1, 0]) hn1 (List.Perm.swap 0 1 [])
    rw [tpl_none] at this
    exact this
  have hcn2 : CV c_price_of [.sh (nat p), .sh (.tup [.tup [.str "part", .int 100]]), .sh (.tup [.int 0])] [] (.tup [.int 0, .int 1]) [] := by
    have := cv_price_of (os := [0]) hn2 (List.Perm.refl _)
    rw [tpl_all] at this
    exact this
  refine s_ret ?_
  apply EV.use
  · apply ev_andV
    · apply ev_bin
      · apply ev_call
        · walk_at "ddev"
        · rfl
        · exact hcn1
      · walk_at "ddev"
      · exact ov_eq plT2 plT2
    · intro _
      apply ev_bin
      · apply ev_call
        · walk_at "ddev"
        · rfl
        · exact hcn2
      · walk_at "ddev"
      · exact ov_eq plT2 plT2
  have e5 : (deq (DV.tup [nat p, .int 1]) (.tup [nat p, .int 1]) && deq (DV.tup [.int 0, .int 1]) (.tup [.int 0, .int 1])) = true := by simp
  rw [e5]
  exact hr a2 c2 _ ha2 (by omega) rfl
end Dr
set_option maxHeartbeats 0
namespace Dr
open PySem PySem.Spec PyProof.Rows L2 DD M72
-- List.length_cons, List.length_nil, Nat.reduceSub, Nat.reduceAdd, List.replicate, List.cons_append, List.nil_append, List.append_nil, Pst.put, List.set_cons_zero, List.set_cons_succ, Pst.upL, Pst.own, List.getElem?_cons_zero, List.getElem?_cons_succODEF
local macro_rules | `(tactic| walk_at "ddcv") => `(tactic| fail)
local macro_rules | `(tactic| walk_at "ddev") => `(tactic| (repeat' (first | (show (_ : Prop); with_reducible assumption) | ((with_reducible apply ev_v) <;> rfl) | ((with_reducible apply ev_vo) <;> rfl) | ((with_reducible apply ev_rd) <;> rfl) | ((with_reducible apply ev_rdo) <;> rfl) | ((with_reducible apply ev_take) <;> rfl) | ((with_reducible apply ev_rdb) <;> rfl) | with_reducible exact ev_c | with_reducible exact av_nil | with_reducible exact pv_none | with_reducible exact ov_add | with_reducible exact ov_sub | with_reducible exact ov_lt | with_reducible exact ov_le | with_reducible exact ov_gt | with_reducible exact ov_ge | with_reducible exact ov_eqi | with_reducible exact ov_nei | with_reducible exact ov_isN | with_reducible exact ov_isntN | with_reducible exact ov_isB | with_reducible exact ov_isntB | with_reducible exact uv_lenL | with_reducible exact uv_lenT | with_reducible exact uv_lenR | with_reducible exact uv_int | with_reducible exact uv_intB | with_reducible exact uv_abs | with_reducible exact uv_tupL | with_reducible exact uv_tupT | with_reducible exact uv_lstL | with_reducible exact uv_lstT | with_reducible exact uv_isi rfl | with_reducible exact nv_min2 | with_reducible exact nv_max2 | with_reducible exact gv_name | with_reducible exact gv_nil | with_reducible exact mv_nil | with_reducible exact ov_addI | with_reducible exact plT2 | with_reducible exact plL_ints _ | with_reducible exact plT_ints _ | with_reducible exact pl_int | with_reducible exact pl_part | with_reducible exact pl_money | with_reducible exact pl_same | with_reducible exact pl_two | ((with_reducible apply iv_zsL) <;> rfl) | ((with_reducible apply iv_zsT) <;> rfl) | ((with_reducible apply iv_zvLL) <;> rfl) | ((with_reducible apply iv_zvTT) <;> rfl) | ((with_reducible apply iv_zvLT) <;> rfl) | ((with_reducible apply iv_zvTL) <;> rfl) | ((with_reducible apply av_stTv); rfl) | ((with_reducible apply av_stLv); rfl) | ((with_reducible apply av_stLo); rfl) | ((with_reducible apply ev_slv); rfl) | ((with_reducible apply ev_ixv); rfl) | ((with_reducible apply ev_ixvo); rfl) | ((with_reducible apply ev_ixvb); rfl; rfl) | ((with_reducible apply iv_itT); (with_reducible apply ev_v); rfl) | ((with_reducible apply iv_itT); (with_reducible apply ev_vo); rfl) | ((with_reducible apply iv_itL); (with_reducible apply ev_v); rfl) | ((with_reducible apply iv_itL); (with_reducible apply ev_vo); rfl) | ((with_reducible apply iv_enumT); (with_reducible apply ev_v); rfl) | ((with_reducible apply iv_enumT); (with_reducible apply ev_vo); rfl) | ((with_reducible apply iv_enumL); (with_reducible apply ev_v); rfl) | ((with_reducible apply iv_enumL); (with_reducible apply ev_vo); rfl) | with_reducible apply ev_bin | with_reducible apply ev_c1 | with_reducible apply ev_cn | with_reducible apply ev_tup | with_reducible apply ev_lst | with_reducible apply ev_andV | with_reducible apply ev_orV | with_reducible apply ev_notV | with_reducible apply ev_chain | with_reducible apply ev_call1 | with_reducible apply ev_call2 | with_reducible apply ev_call3 | with_reducible apply ev_call4 | with_reducible apply ev_lc | with_reducible apply av_cons | with_reducible apply tv_tst | with_reducible apply tv_and | with_reducible apply tv_or | with_reducible apply tv_not | with_reducible apply pv_some | with_reducible apply ov_ixT | with_reducible apply ov_ixL | with_reducible apply ov_ixR | with_reducible apply iv_itT | with_reducible apply iv_itL | with_reducible apply iv_enumT | with_reducible apply iv_enumL | with_reducible apply iv_zipTT | with_reducible apply iv_rng1 | with_reducible apply iv_rng2 | with_reducible apply gv_tup | with_reducible apply gv_cons | with_reducible apply ls_yes | with_reducible apply lf_of | with_reducible apply ov_addT | with_reducible apply ov_fdiv | with_reducible apply ov_mod | with_reducible apply ov_pow | with_reducible apply uv_sum | with_reducible apply uv_sumR | with_reducible apply uv_sumT | with_reducible apply uv_all | with_reducible apply uv_any | with_reducible apply ov_mul | with_reducible apply ov_eq | with_reducible apply ov_ne | with_reducible apply mv_sh | with_reducible apply mv_ow | with_reducible apply ev_mulL | with_reducible apply ev_lrg1 | with_reducible apply ev_neg | with_reducible apply ov_addL | with_reducible apply ov_mulT | with_reducible apply av_starL | with_reducible apply ov_addI | with_reducible apply iv_rng1 | with_reducible apply uv_lsetT | with_reducible apply uv_lsetL | with_reducible apply ov_inL | with_reducible apply ov_ninL | with_reducible apply uv_sortL | with_reducible apply uv_sortT | with_reducible apply ev_ifE  | walk_at "ddcv" | with_reducible exact atI_0 | with_reducible exact atI_1 | with_reducible exact atI_2 | (show (_ : Prop); with_reducible rfl) | ((with_reducible show (_ : DV) = _); dsimp only [Function.comp]; done) | ((with_reducible show (_ : DV) = _); simp only [Function.comp, Int.natCast_add, Int.natCast_mul]; done) | ((with_reducible show (_ : Pst) = _); rfl) | ((with_reducible show List.length _ = _); rfl) | ((with_reducible show List.length _ ≤ sizeLine); simp only [List.length_cons, List.length_nil, Nat.reduceAdd]; decide) | with_reducible intro _ | ((with_reducible apply noown_ok); rfl))))
def TL_law_are_discounts_right_8 : TSd := (t_seq (t_if (t_or (t_tst (t_bin o_ne (t_call 3 [] c_price_of (t_cons (t_v 1) (t_cons (t_v 2) (t_cons (t_bin o_add (t_v 9) (t_v 10)) t_nil)))) (t_ixv 6 (t_c (.int 0))))) (t_tst (t_bin o_ne (t_call 3 [] c_price_of (t_cons (t_v 1) (t_cons (t_v 2) (t_cons (t_bin o_add (t_v 10) (t_v 9)) t_nil)))) (t_ixv 7 (t_c (.int 0)))))) (t_ret (t_c (.bl false))) t_skip) (t_seq (t_if (t_tst (t_bin o_isnt (t_call 3 [] c_shows_lowest_price (t_cons (t_v 1) (t_cons (t_v 2) (t_cons (t_tup (t_cons (t_ixv 6 (t_c (.int 0))) (t_cons (t_bin o_add (t_v 9) (t_v 10)) t_nil))) t_nil)))) (t_c (.bl true)))) (t_ret (t_c (.bl false))) t_skip) (t_seq (t_if (t_tst (t_bin o_isnt (t_call 3 [] c_shows_highest_price (t_cons (t_v 1) (t_cons (t_v 2) (t_cons (t_tup (t_cons (t_ixv 7 (t_c (.int 0))) (t_cons (t_bin o_add (t_v 10) (t_v 9)) t_nil))) t_nil)))) (t_c (.bl true)))) (t_ret (t_c (.bl false))) t_skip) (t_seq (t_if (t_or (t_tst (t_bin o_eq (t_v 9) (t_tup t_nil))) (t_or (t_tst (t_bin o_eq (t_v 10) (t_tup t_nil))) (t_tst (t_bin o_eq (t_ixv 6 (t_c (.int 0))) (t_ixv 7 (t_c (.int 0))))))) (t_if (t_or (t_tst (t_bin o_ne (t_call 2 [] c_does_order_matter (t_cons (t_v 1) (t_cons (t_v 2) t_nil))) (t_tup (t_cons (t_c (.str "same")) t_nil)))) (t_tst (t_bin o_ne (t_v 8) (t_ixv 6 (t_c (.int 0)))))) (t_ret (t_c (.bl false))) t_skip) t_skip) (t_seq (t_set 11 (t_bin o_add (t_v 2) (t_tup (t_cons (t_tup (t_cons (t_c (.str "part")) (t_cons (t_c1 o_int (t_callB 2 [] c__law_take 0 (t_cons (t_c (.int 101)) t_nil))) t_nil))) t_nil)))) (t_seq (t_if (t_and (t_tst (t_bin o_lt (t_v 4) (t_c (.int 12)))) (t_tst (t_bin o_gt (t_bin o_mul (t_bin o_ix (t_bin o_ix (t_call 2 [] c_lowest_price (t_cons (t_v 1) (t_cons (t_v 11) t_nil))) (t_c (.int 0))) (t_c (.int 0))) (t_bin o_ix (t_ixv 6 (t_c (.int 0))) (t_c (.int 1)))) (t_bin o_mul (t_bin o_ix (t_ixv 6 (t_c (.int 0))) (t_c (.int 0))) (t_bin o_ix (t_bin o_ix (t_call 2 [] c_lowest_price (t_cons (t_v 1) (t_cons (t_v 11) t_nil))) (t_c (.int 0))) (t_c (.int 1))))))) (t_ret (t_c (.bl false))) t_skip) (t_seq (t_set 12 (t_bin o_add (t_c (.int 2)) (t_c1 o_int (t_callB 2 [] c__law_take 0 (t_cons (t_c (.int 5)) t_nil))))) (t_seq (t_set 13 (t_c1 o_tuple (t_lc (t_it (t_v 2)) (g_tup 2 (g_cons (g_name 17) (g_cons (g_name 18) g_nil))) t_yes (t_tup (t_cons (t_v 17) (t_cons (t_ifE (t_tst (t_bin o_eq (t_v 17) (t_c (.str "part")))) (t_v 18) (t_bin o_mul (t_v 12) (t_v 18))) t_nil))) [17, 18]))) (t_seq (t_set 14 (t_call 3 [] c_price_of (t_cons (t_bin o_mul (t_v 12) (t_v 1)) (t_cons (t_v 13) (t_cons (t_v 5) t_nil))))) (t_seq (t_if (t_tst (t_bin o_ne (t_bin o_mul (t_ixv 14 (t_c (.int 0))) (t_ixv 8 (t_c (.int 1)))) (t_bin o_mul (t_bin o_mul (t_v 12) (t_ixv 8 (t_c (.int 0)))) (t_ixv 14 (t_c (.int 1)))))) (t_ret (t_c (.bl false))) t_skip) (t_seq (t_set 15 (t_tup (t_cons (t_tup (t_cons (t_c (.str "part")) (t_cons (t_c (.int 0)) t_nil))) (t_cons (t_tup (t_cons (t_c (.str "money")) (t_cons (t_c (.int 0)) t_nil))) t_nil)))) (t_ret (t_andV (t_bin o_eq (t_call 3 [] c_price_of (t_cons (t_v 1) (t_cons (t_v 15) (t_cons (t_tup (t_cons (t_c (.int 1)) (t_cons (t_c (.int 0)) t_nil))) t_nil)))) (t_tup (t_cons (t_v 1) (t_cons (t_c (.int 1)) t_nil)))) (t_bin o_eq (t_call 3 [] c_price_of (t_cons (t_v 1) (t_cons (t_tup (t_cons (t_tup (t_cons (t_c (.str "part")) (t_cons (t_c (.int 100)) t_nil))) t_nil)) (t_cons (t_tup (t_cons (t_c (.int 0)) t_nil)) t_nil)))) (t_tup (t_cons (t_c (.int 0)) (t_cons (t_c (.int 1)) t_nil)))))))))))))))))
local macro_rules | `(tactic| walk_at "ddcv") => `(tactic| (first | ((with_reducible show CV c_lowest_price _ _ _ _); exact cv_lowest_price (by assumption)) | ((with_reducible show CV c_highest_price _ _ _ _); exact cv_highest_price (by assumption)) | ((with_reducible show CV c_price_of _ _ _ _); exact cv_price_of (by assumption) (by assumption))))
theorem s_lc {ti : TDi} {g : TGd} {tt : TB} {te : TD} {vs : List Nat} {Xd : XD} {p : Pst} {R : DV → Pst → Prop} (h : ti Xd p fun ds p1 => NoOwn p1.env vs ∧ lcD g tt te vs p1.env ds p1.bor [] fun acc bor => R (.lst acc) ⟨p1.env, bor⟩) : t_lc ti g tt te vs Xd p R := h
theorem pl_nats (os : List Nat) : Pl 20 (.tup (os.map natD)) := fun d hd => by
  obtain ⟨y, _, rfl⟩ := List.mem_map.mp hd
  trivial
theorem pl_tnil : Pl 20 (.tup []) := fun d hd => by cases hd
theorem pl_sameT : Pl 20 (.tup [.str "same"]) := fun d hd => by
  rw [List.mem_singleton] at hd; subst hd; exact pl_same
theorem deq_nil (os : List Nat) : deq (.tup (os.map natD)) (.tup []) = decide (os = []) := by cases os <;> rfl
def ats (ds : List Dc) (b : Bool) (os : List Nat) : List Nat := os.filter fun i => ((ds[i]?).getD (true, 0)).1 == b
theorem ats_all (ds : List Dc) (b : Bool) (os : List Nat) : ∀ d ∈ pick ds (ats ds b os), d.1 = b := fun d hd => by
  obtain ⟨i, hi, rfl⟩ := List.mem_map.mp hd
  simpa using (List.mem_filter.mp hi).2
theorem ats_perm (ds : List Dc) (os : List Nat) : (ats ds true os ++ ats ds false os).Perm os := by
  have h := List.filter_append_perm (fun i : Nat => ((ds[i]?).getD (true, 0)).1 == true) os
  have e : (fun i : Nat => !(((ds[i]?).getD (true, 0)).1 == true)) = fun i => ((ds[i]?).getD (true, 0)).1 == false := by funext i; cases ((ds[i]?).getD (true, 0)).1 <;> rfl
  rw [e] at h
  exact h
theorem all_of_nil {ds : List Dc} {os : List Nat} {b : Bool} (ho : os.Perm (List.range ds.length)) (h : ats ds (!b) os = []) : ∀ d ∈ ds, d.1 = b := fun d hd => by
  have hd2 : d ∈ pick ds os := (pick_perm2 ho).mem_iff.mpr hd
  obtain ⟨i, hi, e⟩ := List.mem_map.mp hd2
  have hn : i ∉ ats ds (!b) os := by rw [h]; simp
  unfold ats at hn
  rw [List.mem_filter] at hn
  have : (((ds[i]?).getD (true, 0)).1 == !b) ≠ true := fun z => hn ⟨hi, z⟩
  rw [e] at this
  cases h1 : d.1 <;> cases b <;> simp [h1] at this <;> rfl
theorem disc_part2b {e : ED} {p : Nat} {ds : List Dc} {os PS MS : List Nat} {s3 : Sl} {a b c : Nat} (h : Disc p ds) (hp : p ≤ 1000000) (hl : ds.length ≤ 11) (hm : ∀ d ∈ ds, d.1 = false → d.2 ≤ 1000000) (ho : os.Perm (List.range ds.length)) (hPS : PS = ats ds true os) (hMS : MS = ats ds false os) (ha : a < 2 ^ 1000) (hb : b < 2 ^ 62) (hc : c ≤ 900000)
    (hr : ∀ a' c' q, a' < 2 ^ 1000 → c' ≤ c + 2 → q.bor = [potD a' b c'] → e.rt (.bl true) q) :
    TL_law_are_discounts_right_8 e ⟨[.bo 0, .sh (nat p), .sh (dsD ds), s3, .sh (nat ds.length), .sh (.tup (os.map natD)), .sh (.tup [frD (lo1 p ds), .tup ((pls true ds ++ pls false ds).map natD)]), .sh (.tup [frD (hi1 p ds), .tup ((pls false ds ++ pls true ds).map natD)]), .sh (frD (tpl (pick ds os) (p, 1))), .sh (.tup (PS.map natD)), .sh (.tup (MS.map natD)), .un, .un, .un, .un, .un, .un, .un, .un], [potD a b c]⟩ := by
  have rest := disc_part3 (e := e) (s3 := s3) (s9 := .sh (.tup (PS.map natD))) (s10 := .sh (.tup (MS.map natD))) h hp hl hm ho ha hb hc hr
  have hp1 : (PS ++ MS).Perm (List.range ds.length) := by rw [hPS, hMS]; exact (ats_perm ds os).trans ho
  have hp2 : (MS ++ PS).Perm (List.range ds.length) := List.perm_append_comm.trans hp1
  have hP : ∀ d ∈ pick ds PS, d.1 = true := by rw [hPS]; exact ats_all ds true os
  have hM : ∀ d ∈ pick ds MS, d.1 = false := by rw [hMS]; exact ats_all ds false os
  have hsame : lo1 p ds = hi1 p ds → tpl (pick ds os) (p, 1) = lo1 p ds := same_all ho p
  have hps : PS = [] → lo1 p ds = hi1 p ds := fun z => same_one p (.inr (all_of_nil (b := false) ho (by rw [← hPS.symm.trans z]; rfl)))
  have hms : MS = [] → lo1 p ds = hi1 p ds := fun z => same_one p (.inl (all_of_nil (b := true) ho (by rw [← hMS.symm.trans z]; rfl)))
  have hl1 : PS.length + MS.length ≤ 12 := by rw [← List.length_append, (perm_lt hp1).2]; omega
  have hc1 : CV c_price_of [.sh (nat p), .sh (dsD ds), .sh (.tup (PS.map natD ++ MS.map natD))] [] (frD (lo1 p ds)) [] := by
    rw [← List.map_append, ← first_lo hP hM hp1 p]; exact cv_price_of h hp1
  have hc2 : CV c_price_of [.sh (nat p), .sh (dsD ds), .sh (.tup (MS.map natD ++ PS.map natD))] [] (frD (hi1 p ds)) [] := by
    rw [← List.map_append, ← last_hi hP hM hp2 p]; exact cv_price_of h hp2
  have hc3 : CV c_shows_lowest_price [.sh (nat p), .sh (dsD ds), .sh (.tup [frD (lo1 p ds), .tup (PS.map natD ++ MS.map natD)])] [] (.bl true) [] := by
    rw [← List.map_append]; exact cv_shows_low h hp1 (first_lo hP hM hp1 p)
  have hc4 : CV c_shows_highest_price [.sh (nat p), .sh (dsD ds), .sh (.tup [frD (hi1 p ds), .tup (MS.map natD ++ PS.map natD)])] [] (.bl true) [] := by
    rw [← List.map_append]; exact cv_shows_high h hp2 (last_hi hP hM hp2 p)
  have hz1 : (PS.map natD).length + (MS.map natD).length ≤ sizeLine := by rw [List.length_map, List.length_map]; exact Nat.le_trans hl1 (by decide)
  have hz2 : (MS.map natD).length + (PS.map natD).length ≤ sizeLine := by rw [List.length_map, List.length_map]; exact Nat.le_trans (show _ ≤ 12 by omega) (by decide)
  clear hPS hMS hP hM
  unfold TL_law_are_discounts_right_8
  refine s_seq ?_
  apply s_if
  · walk_at "ddev"
  · intro hk
    exfalso
    simp at hk
  intro _
  refine s_skip ?_
  dsimp only
  refine s_seq ?_
  apply s_if
  · walk_at "ddev"
  · intro hk
    exfalso
    simp at hk
  intro _
  refine s_skip ?_
  dsimp only
  refine s_seq ?_
  apply s_if
  · walk_at "ddev"
  · intro hk
    exfalso
    simp at hk
  intro _
  refine s_skip ?_
  dsimp only
  clear hc1 hc2 hc3 hc4
  refine s_seq ?_
  apply s_if
  · walk_at "ddev"
    · exact pl_nats _
    · exact pl_tnil
    · exact pl_nats _
    · exact pl_tnil
  · intro hk
    have hlh : lo1 p ds = hi1 p ds := by
      rw [deq_nil, deq_nil] at hk
      simp only [Bool.or_eq_true, decide_eq_true_eq] at hk
      rcases hk with hk | hk | hk
      · exact hps hk
      · exact hms hk
      · simp at hk
        exact Prod.ext (by omega) (by omega)
    have hme := hsame hlh
    have hcd := cv_does_order h hlh
    apply s_if
    · walk_at "ddev"
      all_goals exact pl_sameT
    · intro hk
      exfalso
      rw [hme] at hk
      simp at hk
    intro _
    exact rest
  intro _
  exact rest
end Dr
set_option maxHeartbeats 0
namespace Dr
open PySem PySem.Spec PyProof.Rows L2 DD M72
-- List.length_cons, List.length_nil, Nat.reduceSub, Nat.reduceAdd, List.replicate, List.cons_append, List.nil_append, List.append_nil, Pst.put, List.set_cons_zero, List.set_cons_succ, Pst.upL, Pst.own, List.getElem?_cons_zero, List.getElem?_cons_succODEF
local macro_rules | `(tactic| walk_at "ddcv") => `(tactic| fail)
local macro_rules | `(tactic| walk_at "ddev") => `(tactic| (repeat' (first | (show (_ : Prop); with_reducible assumption) | ((with_reducible apply ev_v) <;> rfl) | ((with_reducible apply ev_vo) <;> rfl) | ((with_reducible apply ev_rd) <;> rfl) | ((with_reducible apply ev_rdo) <;> rfl) | ((with_reducible apply ev_take) <;> rfl) | ((with_reducible apply ev_rdb) <;> rfl) | with_reducible exact ev_c | with_reducible exact av_nil | with_reducible exact pv_none | with_reducible exact ov_add | with_reducible exact ov_sub | with_reducible exact ov_lt | with_reducible exact ov_le | with_reducible exact ov_gt | with_reducible exact ov_ge | with_reducible exact ov_eqi | with_reducible exact ov_nei | with_reducible exact ov_isN | with_reducible exact ov_isntN | with_reducible exact ov_isB | with_reducible exact ov_isntB | with_reducible exact uv_lenL | with_reducible exact uv_lenT | with_reducible exact uv_lenR | with_reducible exact uv_int | with_reducible exact uv_intB | with_reducible exact uv_abs | with_reducible exact uv_tupL | with_reducible exact uv_tupT | with_reducible exact uv_lstL | with_reducible exact uv_lstT | with_reducible exact uv_isi rfl | with_reducible exact nv_min2 | with_reducible exact nv_max2 | with_reducible exact gv_name | with_reducible exact gv_nil | with_reducible exact mv_nil | with_reducible exact ov_addI | with_reducible exact plT2 | with_reducible exact plL_ints _ | with_reducible exact plT_ints _ | with_reducible exact pl_int | with_reducible exact pl_part | with_reducible exact pl_money | with_reducible exact pl_same | with_reducible exact pl_two | ((with_reducible apply iv_zsL) <;> rfl) | ((with_reducible apply iv_zsT) <;> rfl) | ((with_reducible apply iv_zvLL) <;> rfl) | ((with_reducible apply iv_zvTT) <;> rfl) | ((with_reducible apply iv_zvLT) <;> rfl) | ((with_reducible apply iv_zvTL) <;> rfl) | ((with_reducible apply av_stTv); rfl) | ((with_reducible apply av_stLv); rfl) | ((with_reducible apply av_stLo); rfl) | ((with_reducible apply ev_slv); rfl) | ((with_reducible apply ev_ixv); rfl) | ((with_reducible apply ev_ixvo); rfl) | ((with_reducible apply ev_ixvb); rfl; rfl) | ((with_reducible apply iv_itT); (with_reducible apply ev_v); rfl) | ((with_reducible apply iv_itT); (with_reducible apply ev_vo); rfl) | ((with_reducible apply iv_itL); (with_reducible apply ev_v); rfl) | ((with_reducible apply iv_itL); (with_reducible apply ev_vo); rfl) | ((with_reducible apply iv_enumT); (with_reducible apply ev_v); rfl) | ((with_reducible apply iv_enumT); (with_reducible apply ev_vo); rfl) | ((with_reducible apply iv_enumL); (with_reducible apply ev_v); rfl) | ((with_reducible apply iv_enumL); (with_reducible apply ev_vo); rfl) | with_reducible apply ev_bin | with_reducible apply ev_c1 | with_reducible apply ev_cn | with_reducible apply ev_tup | with_reducible apply ev_lst | with_reducible apply ev_andV | with_reducible apply ev_orV | with_reducible apply ev_notV | with_reducible apply ev_chain | with_reducible apply ev_call1 | with_reducible apply ev_call2 | with_reducible apply ev_call3 | with_reducible apply ev_call4 | with_reducible apply ev_lc | with_reducible apply av_cons | with_reducible apply tv_tst | with_reducible apply tv_and | with_reducible apply tv_or | with_reducible apply tv_not | with_reducible apply pv_some | with_reducible apply ov_ixT | with_reducible apply ov_ixL | with_reducible apply ov_ixR | with_reducible apply iv_itT | with_reducible apply iv_itL | with_reducible apply iv_enumT | with_reducible apply iv_enumL | with_reducible apply iv_zipTT | with_reducible apply iv_rng1 | with_reducible apply iv_rng2 | with_reducible apply gv_tup | with_reducible apply gv_cons | with_reducible apply ls_yes | with_reducible apply lf_of | with_reducible apply ov_addT | with_reducible apply ov_fdiv | with_reducible apply ov_mod | with_reducible apply ov_pow | with_reducible apply uv_sum | with_reducible apply uv_sumR | with_reducible apply uv_sumT | with_reducible apply uv_all | with_reducible apply uv_any | with_reducible apply ov_mul | with_reducible apply ov_eq | with_reducible apply ov_ne | with_reducible apply mv_sh | with_reducible apply mv_ow | with_reducible apply ev_mulL | with_reducible apply ev_lrg1 | with_reducible apply ev_neg | with_reducible apply ov_addL | with_reducible apply ov_mulT | with_reducible apply av_starL | with_reducible apply ov_addI | with_reducible apply iv_rng1 | with_reducible apply uv_lsetT | with_reducible apply uv_lsetL | with_reducible apply ov_inL | with_reducible apply ov_ninL | with_reducible apply uv_sortL | with_reducible apply uv_sortT | with_reducible apply ev_ifE  | walk_at "ddcv" | with_reducible exact atI_0 | with_reducible exact atI_1 | with_reducible exact atI_2 | (show (_ : Prop); with_reducible rfl) | ((with_reducible show (_ : DV) = _); dsimp only [Function.comp]; done) | ((with_reducible show (_ : DV) = _); simp only [Function.comp, Int.natCast_add, Int.natCast_mul]; done) | ((with_reducible show (_ : Pst) = _); rfl) | ((with_reducible show List.length _ = _); rfl) | ((with_reducible show List.length _ ≤ sizeLine); simp only [List.length_cons, List.length_nil, Nat.reduceAdd]; decide) | with_reducible intro _ | ((with_reducible apply noown_ok); rfl))))
def TL_law_are_discounts_right_2 : TSd := (t_seq (t_par [2, 4] (m_sh (t_c1 o_tuple (t_rd 2)) (m_sh (t_c1 o_len (t_rd 2)) m_nil))) (t_seq (t_set 5 (t_c1 o_tuple (t_lc (t_it (t_callB 3 [] c__law_some 0 (t_cons (t_lrg1 (t_v 4)) (t_cons (t_v 4) t_nil)))) (g_name 16) t_yes (t_c1 o_int (t_rd 16)) [16]))) (t_seq (t_par [6, 7, 8] (m_sh (t_call 2 [] c_lowest_price (t_cons (t_v 1) (t_cons (t_v 2) t_nil))) (m_sh (t_call 2 [] c_highest_price (t_cons (t_v 1) (t_cons (t_v 2) t_nil))) (m_sh (t_call 3 [] c_price_of (t_cons (t_v 1) (t_cons (t_v 2) (t_cons (t_v 5) t_nil)))) m_nil)))) (t_seq (t_if (t_or (t_tst (t_bin o_gt (t_bin o_mul (t_bin o_ix (t_ixv 6 (t_c (.int 0))) (t_c (.int 0))) (t_ixv 8 (t_c (.int 1)))) (t_bin o_mul (t_ixv 8 (t_c (.int 0))) (t_bin o_ix (t_ixv 6 (t_c (.int 0))) (t_c (.int 1)))))) (t_tst (t_bin o_gt (t_bin o_mul (t_ixv 8 (t_c (.int 0))) (t_bin o_ix (t_ixv 7 (t_c (.int 0))) (t_c (.int 1)))) (t_bin o_mul (t_bin o_ix (t_ixv 7 (t_c (.int 0))) (t_c (.int 0))) (t_ixv 8 (t_c (.int 1))))))) (t_ret (t_c (.bl false))) t_skip) (t_seq (t_set 9 (t_c1 o_tuple (t_lc (t_it (t_v 5)) (g_name 16) (t_tst (t_bin o_eq (t_bin o_ix (t_ixv 2 (t_v 16)) (t_c (.int 0))) (t_c (.str "part")))) (t_v 16) [16]))) (t_seq (t_set 10 (t_c1 o_tuple (t_lc (t_it (t_v 5)) (g_name 16) (t_tst (t_bin o_eq (t_bin o_ix (t_ixv 2 (t_v 16)) (t_c (.int 0))) (t_c (.str "money")))) (t_v 16) [16]))) (t_seq (t_if (t_or (t_tst (t_bin o_ne (t_call 3 [] c_price_of (t_cons (t_v 1) (t_cons (t_v 2) (t_cons (t_bin o_add (t_v 9) (t_v 10)) t_nil)))) (t_ixv 6 (t_c (.int 0))))) (t_tst (t_bin o_ne (t_call 3 [] c_price_of (t_cons (t_v 1) (t_cons (t_v 2) (t_cons (t_bin o_add (t_v 10) (t_v 9)) t_nil)))) (t_ixv 7 (t_c (.int 0)))))) (t_ret (t_c (.bl false))) t_skip) (t_seq (t_if (t_tst (t_bin o_isnt (t_call 3 [] c_shows_lowest_price (t_cons (t_v 1) (t_cons (t_v 2) (t_cons (t_tup (t_cons (t_ixv 6 (t_c (.int 0))) (t_cons (t_bin o_add (t_v 9) (t_v 10)) t_nil))) t_nil)))) (t_c (.bl true)))) (t_ret (t_c (.bl false))) t_skip) (t_seq (t_if (t_tst (t_bin o_isnt (t_call 3 [] c_shows_highest_price (t_cons (t_v 1) (t_cons (t_v 2) (t_cons (t_tup (t_cons (t_ixv 7 (t_c (.int 0))) (t_cons (t_bin o_add (t_v 10) (t_v 9)) t_nil))) t_nil)))) (t_c (.bl true)))) (t_ret (t_c (.bl false))) t_skip) (t_seq (t_if (t_or (t_tst (t_bin o_eq (t_v 9) (t_tup t_nil))) (t_or (t_tst (t_bin o_eq (t_v 10) (t_tup t_nil))) (t_tst (t_bin o_eq (t_ixv 6 (t_c (.int 0))) (t_ixv 7 (t_c (.int 0))))))) (t_if (t_or (t_tst (t_bin o_ne (t_call 2 [] c_does_order_matter (t_cons (t_v 1) (t_cons (t_v 2) t_nil))) (t_tup (t_cons (t_c (.str "same")) t_nil)))) (t_tst (t_bin o_ne (t_v 8) (t_ixv 6 (t_c (.int 0)))))) (t_ret (t_c (.bl false))) t_skip) t_skip) (t_seq (t_set 11 (t_bin o_add (t_v 2) (t_tup (t_cons (t_tup (t_cons (t_c (.str "part")) (t_cons (t_c1 o_int (t_callB 2 [] c__law_take 0 (t_cons (t_c (.int 101)) t_nil))) t_nil))) t_nil)))) (t_seq (t_if (t_and (t_tst (t_bin o_lt (t_v 4) (t_c (.int 12)))) (t_tst (t_bin o_gt (t_bin o_mul (t_bin o_ix (t_bin o_ix (t_call 2 [] c_lowest_price (t_cons (t_v 1) (t_cons (t_v 11) t_nil))) (t_c (.int 0))) (t_c (.int 0))) (t_bin o_ix (t_ixv 6 (t_c (.int 0))) (t_c (.int 1)))) (t_bin o_mul (t_bin o_ix (t_ixv 6 (t_c (.int 0))) (t_c (.int 0))) (t_bin o_ix (t_bin o_ix (t_call 2 [] c_lowest_price (t_cons (t_v 1) (t_cons (t_v 11) t_nil))) (t_c (.int 0))) (t_c (.int 1))))))) (t_ret (t_c (.bl false))) t_skip) (t_seq (t_set 12 (t_bin o_add (t_c (.int 2)) (t_c1 o_int (t_callB 2 [] c__law_take 0 (t_cons (t_c (.int 5)) t_nil))))) (t_seq (t_set 13 (t_c1 o_tuple (t_lc (t_it (t_v 2)) (g_tup 2 (g_cons (g_name 17) (g_cons (g_name 18) g_nil))) t_yes (t_tup (t_cons (t_v 17) (t_cons (t_ifE (t_tst (t_bin o_eq (t_v 17) (t_c (.str "part")))) (t_v 18) (t_bin o_mul (t_v 12) (t_v 18))) t_nil))) [17, 18]))) (t_seq (t_set 14 (t_call 3 [] c_price_of (t_cons (t_bin o_mul (t_v 12) (t_v 1)) (t_cons (t_v 13) (t_cons (t_v 5) t_nil))))) (t_seq (t_if (t_tst (t_bin o_ne (t_bin o_mul (t_ixv 14 (t_c (.int 0))) (t_ixv 8 (t_c (.int 1)))) (t_bin o_mul (t_bin o_mul (t_v 12) (t_ixv 8 (t_c (.int 0)))) (t_ixv 14 (t_c (.int 1)))))) (t_ret (t_c (.bl false))) t_skip) (t_seq (t_set 15 (t_tup (t_cons (t_tup (t_cons (t_c (.str "part")) (t_cons (t_c (.int 0)) t_nil))) (t_cons (t_tup (t_cons (t_c (.str "money")) (t_cons (t_c (.int 0)) t_nil))) t_nil)))) (t_ret (t_andV (t_bin o_eq (t_call 3 [] c_price_of (t_cons (t_v 1) (t_cons (t_v 15) (t_cons (t_tup (t_cons (t_c (.int 1)) (t_cons (t_c (.int 0)) t_nil))) t_nil)))) (t_tup (t_cons (t_v 1) (t_cons (t_c (.int 1)) t_nil)))) (t_bin o_eq (t_call 3 [] c_price_of (t_cons (t_v 1) (t_cons (t_tup (t_cons (t_tup (t_cons (t_c (.str "part")) (t_cons (t_c (.int 100)) t_nil))) t_nil)) (t_cons (t_tup (t_cons (t_c (.int 0)) t_nil)) t_nil)))) (t_tup (t_cons (t_c (.int 0)) (t_cons (t_c (.int 1)) t_nil)))))))))))))))))))))))
local macro_rules | `(tactic| walk_at "ddcv") => `(tactic| (first | ((with_reducible show CV c_lowest_price _ _ _ _); exact cv_lowest_price (by assumption)) | ((with_reducible show CV c_highest_price _ _ _ _); exact cv_highest_price (by assumption)) | ((with_reducible show CV c_price_of _ _ _ _); exact cv_price_of (by assumption) (by assumption))))
theorem perm_nat {l : List DV} {n : Nat} (h : l.Perm ((List.range n).map natD)) : ∃ os : List Nat, l = os.map natD ∧ os.Perm (List.range n) := by
  refine ⟨l.map fun d => match d with | .int i => i.toNat | _ => 0, ?_, ?_⟩
  · rw [List.map_map]
    have : ∀ d ∈ l, (natD ∘ fun d => match d with | .int i => i.toNat | _ => 0) d = d := fun d hd => by
      obtain ⟨k, _, rfl⟩ := List.mem_map.mp (h.mem_iff.mp hd)
      rfl
    exact (List.map_congr_left this |>.trans (List.map_id _)).symm
  · have := h.map fun d : DV => match d with | .int i => i.toNat | _ => 0
    rw [List.map_map] at this
    refine this.trans (List.Perm.of_eq ?_)
    exact (List.map_congr_left fun k _ => rfl).trans (List.map_id _)
theorem disc_part2 {e : ED} {p : Nat} {ds : List Dc} {s3 : Sl} {a b c : Nat} (h : Disc p ds) (hp : p ≤ 1000000) (hl : ds.length ≤ 11) (hm : ∀ d ∈ ds, d.1 = false → d.2 ≤ 1000000) (ha : a < 2 ^ 1000) (hb : b < 2 ^ 62) (hc : c ≤ 800000)
    (hr : ∀ a' c' q, a' < 2 ^ 1000 → c' ≤ c + 20 → q.bor = [potD a' b c'] → e.rt (.bl true) q) :
    TL_law_are_discounts_right_2 e ⟨[.bo 0, .sh (nat p), .ow (.lst (ds.map dcD)), s3, .un, .un, .un, .un, .un, .un, .un, .un, .un, .un, .un, .un, .un, .un, .un], [potD a b c]⟩ := by
  unfold TL_law_are_discounts_right_2
  refine s_seq (s_par ?_)
  apply MV.use
  · walk_at "ddev"
  refine ⟨rfl, ?_⟩
  dsimp only [putM, List.length_cons, List.length_nil, Nat.reduceSub, Nat.reduceAdd, List.replicate, List.cons_append, List.nil_append, List.append_nil, Pst.put, List.set_cons_zero, List.set_cons_succ, Pst.upL, Pst.own, List.getElem?_cons_zero, List.getElem?_cons_succ]
  rw [List.length_map]
  refine s_seq (s_set (s_c1 (s_lc (s_it (s_callB rfl (s_cons (s_lrg1 ?_)))))))
  apply EV.use
  · walk_at "ddev"
  refine ⟨⟨by decide, by decide, by omega, by omega, by omega⟩, ?_⟩
  refine s_cons ?_
  apply EV.use
  · walk_at "ddev"
  refine s_nil (cb_of rfl rfl ?_)
  have e1 : ((ds.length : Int) - 0).toNat = ds.length := by omega
  have e2 : rangeD 0 1 ds.length = (List.range ds.length).map natD := rangeD_nat _
  rw [e1, e2]
  have hh : ((List.range ds.length).map natD).length = ds.length := by simp
  have key := fun Xd R => dv_some (a := a) (b := b) (c := c) (ds := (List.range ds.length).map natD) (Xd := Xd) (R := R) ha hb (by omega) (by rw [hh]; omega)
  simp only [hh] at key
  refine key _ _ fun l a1 c1 hl2 ha1 hc1 => ?_
  obtain ⟨os, rfl, ho⟩ := perm_nat hl2
  have hosl := (perm_lt ho).2
  have hosm := (perm_lt ho).1
  have hosz : os.length ≤ sizeLine := by rw [hosl]; exact Nat.le_trans h.few (by decide)
  refine ⟨noown_ok rfl, ?_⟩
  refine (lv_map (xs := os) natD natD (fun j => [.bo 0, .sh (nat p), .sh (dsD ds), s3, .sh (nat ds.length), .un, .un, .un, .un, .un, .un, .un, .un, .un, .un, .un, .sh (natD j), .un, .un]) (fun j hj => ?_) (fun _ _ => rfl) hosz rfl rfl : LV _ _ _ _ _ _ _ _) _ ?_
  · walk_at "ddev"
  refine uv_tupL _ ?_
  dsimp only [List.length_cons, List.length_nil, Nat.reduceSub, Nat.reduceAdd, List.replicate, List.cons_append, List.nil_append, List.append_nil, Pst.put, List.set_cons_zero, List.set_cons_succ, Pst.upL, Pst.own, List.getElem?_cons_zero, List.getElem?_cons_succ]
  refine s_seq (s_par ?_)
  apply MV.use
  · walk_at "ddev"
  refine ⟨rfl, ?_⟩
  dsimp only [putM, List.length_cons, List.length_nil, Nat.reduceSub, Nat.reduceAdd, List.replicate, List.cons_append, List.nil_append, List.append_nil, Pst.put, List.set_cons_zero, List.set_cons_succ, Pst.upL, Pst.own, List.getElem?_cons_zero, List.getElem?_cons_succ]
  have hlo := szf_lo h
  have hhi := szf_hi h
  have hme := szf_pick (ds := ds) (os := os) h.p (by rw [hosl]; omega)
  have hlm := lo_le ho p
  have hmh := le_hi ho p
  have hsame : lo1 p ds = hi1 p ds → tpl (pick ds os) (p, 1) = lo1 p ds := same_all ho p
  refine s_seq ?_
  apply s_if
  · walk_at "ddev"
    · exact mulF hlo.1 (lt92 hme.2)
    · exact mulF hme.1 (lt92 hlo.2)
    · exact mulF hme.1 (lt92 hhi.2)
    · exact mulF hhi.1 (lt92 hme.2)
  · intro hk
    exfalso
    simp only [Bool.or_eq_true, decide_eq_true_eq, ← Int.natCast_mul] at hk
    omega
  intro _
  refine s_skip ?_
  dsimp only
  refine s_seq (s_set ?_)
  apply EV.use
  · apply ev_c1
    · walk_at "ddev"
      refine lv_fil (xs := os) natD natD (fun i => ((ds[i]?).getD (true, 0)).1 == true) (fun i => [.bo 0, .sh (nat p), .sh (dsD ds), s3, .sh (nat ds.length), .sh (.tup (os.map natD)), .sh (.tup [frD (lo1 p ds), .tup ((pls true ds ++ pls false ds).map natD)]), .sh (.tup [frD (hi1 p ds), .tup ((pls false ds ++ pls true ds).map natD)]), .sh (frD (tpl (pick ds os) (p, 1))), .un, .un, .un, .un, .un, .un, .un, .sh (natD i), .un, .un]) (fun i => [.bo 0, .sh (nat p), .sh (dsD ds), s3, .sh (nat ds.length), .sh (.tup (os.map natD)), .sh (.tup [frD (lo1 p ds), .tup ((pls true ds ++ pls false ds).map natD)]), .sh (.tup [frD (hi1 p ds), .tup ((pls false ds ++ pls true ds).map natD)]), .sh (frD (tpl (pick ds os) (p, 1))), .un, .un, .un, .un, .un, .un, .un, .sh (natD i), .un, .un]) (fun i hi => ?_) (fun _ _ => rfl) (fun _ _ => rfl) hosz rfl rfl
      have hil := hosm i hi
      have hat : atI (ds.map dcD) (i : Int) = some (dcD ds[i]) := atI_n (n := i) (by rw [List.getElem?_map, List.getElem?_eq_getElem hil]; rfl) rfl
      rw [List.getElem?_eq_getElem hil]
      generalize ds[i] = d at hat
      obtain ⟨k, y⟩ := d
      cases k with
      | true =>
        have hat2 : atI (ds.map dcD) (i : Int) = some (.tup [.str "part", nat y]) := hat
        clear hat
        walk_at "ddev"
        exact see1
      | false =>
        have hat2 : atI (ds.map dcD) (i : Int) = some (.tup [.str "money", nat y]) := hat
        clear hat
        walk_at "ddev"
        exact sne
    · exact uv_tupL
  dsimp only [List.length_cons, List.length_nil, Nat.reduceSub, Nat.reduceAdd, List.replicate, List.cons_append, List.nil_append, List.append_nil, Pst.put, List.set_cons_zero, List.set_cons_succ, Pst.upL, Pst.own, List.getElem?_cons_zero, List.getElem?_cons_succ]
  refine s_seq (s_set ?_)
  apply EV.use
  · apply ev_c1
    · walk_at "ddev"
      refine lv_fil (xs := os) natD natD (fun i => ((ds[i]?).getD (true, 0)).1 == false) (fun i => [.bo 0, .sh (nat p), .sh (dsD ds), s3, .sh (nat ds.length), .sh (.tup (os.map natD)), .sh (.tup [frD (lo1 p ds), .tup ((pls true ds ++ pls false ds).map natD)]), .sh (.tup [frD (hi1 p ds), .tup ((pls false ds ++ pls true ds).map natD)]), .sh (frD (tpl (pick ds os) (p, 1))), .sh (.tup ((ats ds true os).map natD)), .un, .un, .un, .un, .un, .un, .sh (natD i), .un, .un]) (fun i => [.bo 0, .sh (nat p), .sh (dsD ds), s3, .sh (nat ds.length), .sh (.tup (os.map natD)), .sh (.tup [frD (lo1 p ds), .tup ((pls true ds ++ pls false ds).map natD)]), .sh (.tup [frD (hi1 p ds), .tup ((pls false ds ++ pls true ds).map natD)]), .sh (frD (tpl (pick ds os) (p, 1))), .sh (.tup ((ats ds true os).map natD)), .un, .un, .un, .un, .un, .un, .sh (natD i), .un, .un]) (fun i hi => ?_) (fun _ _ => rfl) (fun _ _ => rfl) hosz rfl rfl
      have hil := hosm i hi
      have hat : atI (ds.map dcD) (i : Int) = some (dcD ds[i]) := atI_n (n := i) (by rw [List.getElem?_map, List.getElem?_eq_getElem hil]; rfl) rfl
      rw [List.getElem?_eq_getElem hil]
      generalize ds[i] = d at hat
      obtain ⟨k, y⟩ := d
      cases k with
      | true =>
        have hat2 : atI (ds.map dcD) (i : Int) = some (.tup [.str "part", nat y]) := hat
        clear hat
        walk_at "ddev"
        exact sne2
      | false =>
        have hat2 : atI (ds.map dcD) (i : Int) = some (.tup [.str "money", nat y]) := hat
        clear hat
        walk_at "ddev"
        exact see2
    · exact uv_tupL
  dsimp only [List.length_cons, List.length_nil, Nat.reduceSub, Nat.reduceAdd, List.replicate, List.cons_append, List.nil_append, List.append_nil, Pst.put, List.set_cons_zero, List.set_cons_succ, Pst.upL, Pst.own, List.getElem?_cons_zero, List.getElem?_cons_succ]
  refine disc_part2b h hp hl hm ho rfl rfl ha1 hb (by omega) fun a' c' q h1 h2 h3 => hr a' c' q h1 (by omega) h3
end Dr
set_option maxHeartbeats 0
namespace Dr
open PySem PySem.Spec PyProof.Rows L2 DD M72
-- List.length_cons, List.length_nil, Nat.reduceSub, Nat.reduceAdd, List.replicate, List.cons_append, List.nil_append, List.append_nil, Pst.put, List.set_cons_zero, List.set_cons_succ, Pst.upL, Pst.own, List.getElem?_cons_zero, List.getElem?_cons_succODEF
local macro_rules | `(tactic| walk_at "ddcv") => `(tactic| fail)
local macro_rules | `(tactic| walk_at "ddev") => `(tactic| (repeat' (first | (show (_ : Prop); with_reducible assumption) | ((with_reducible apply ev_v) <;> rfl) | ((with_reducible apply ev_vo) <;> rfl) | ((with_reducible apply ev_rd) <;> rfl) | ((with_reducible apply ev_rdo) <;> rfl) | ((with_reducible apply ev_take) <;> rfl) | ((with_reducible apply ev_rdb) <;> rfl) | with_reducible exact ev_c | with_reducible exact av_nil | with_reducible exact pv_none | with_reducible exact ov_add | with_reducible exact ov_sub | with_reducible exact ov_lt | with_reducible exact ov_le | with_reducible exact ov_gt | with_reducible exact ov_ge | with_reducible exact ov_eqi | with_reducible exact ov_nei | with_reducible exact ov_isN | with_reducible exact ov_isntN | with_reducible exact ov_isB | with_reducible exact ov_isntB | with_reducible exact uv_lenL | with_reducible exact uv_lenT | with_reducible exact uv_lenR | with_reducible exact uv_int | with_reducible exact uv_intB | with_reducible exact uv_abs | with_reducible exact uv_tupL | with_reducible exact uv_tupT | with_reducible exact uv_lstL | with_reducible exact uv_lstT | with_reducible exact uv_isi rfl | with_reducible exact nv_min2 | with_reducible exact nv_max2 | with_reducible exact gv_name | with_reducible exact gv_nil | with_reducible exact mv_nil | with_reducible exact ov_addI | with_reducible exact plT2 | with_reducible exact plL_ints _ | with_reducible exact plT_ints _ | with_reducible exact pl_int | with_reducible exact pl_part | with_reducible exact pl_money | with_reducible exact pl_same | with_reducible exact pl_two | ((with_reducible apply iv_zsL) <;> rfl) | ((with_reducible apply iv_zsT) <;> rfl) | ((with_reducible apply iv_zvLL) <;> rfl) | ((with_reducible apply iv_zvTT) <;> rfl) | ((with_reducible apply iv_zvLT) <;> rfl) | ((with_reducible apply iv_zvTL) <;> rfl) | ((with_reducible apply av_stTv); rfl) | ((with_reducible apply av_stLv); rfl) | ((with_reducible apply av_stLo); rfl) | ((with_reducible apply ev_slv); rfl) | ((with_reducible apply ev_ixv); rfl) | ((with_reducible apply ev_ixvo); rfl) | ((with_reducible apply ev_ixvb); rfl; rfl) | ((with_reducible apply iv_itT); (with_reducible apply ev_v); rfl) | ((with_reducible apply iv_itT); (with_reducible apply ev_vo); rfl) | ((with_reducible apply iv_itL); (with_reducible apply ev_v); rfl) | ((with_reducible apply iv_itL); (with_reducible apply ev_vo); rfl) | ((with_reducible apply iv_enumT); (with_reducible apply ev_v); rfl) | ((with_reducible apply iv_enumT); (with_reducible apply ev_vo); rfl) | ((with_reducible apply iv_enumL); (with_reducible apply ev_v); rfl) | ((with_reducible apply iv_enumL); (with_reducible apply ev_vo); rfl) | with_reducible apply ev_bin | with_reducible apply ev_c1 | with_reducible apply ev_cn | with_reducible apply ev_tup | with_reducible apply ev_lst | with_reducible apply ev_andV | with_reducible apply ev_orV | with_reducible apply ev_notV | with_reducible apply ev_chain | with_reducible apply ev_call1 | with_reducible apply ev_call2 | with_reducible apply ev_call3 | with_reducible apply ev_call4 | with_reducible apply ev_lc | with_reducible apply av_cons | with_reducible apply tv_tst | with_reducible apply tv_and | with_reducible apply tv_or | with_reducible apply tv_not | with_reducible apply pv_some | with_reducible apply ov_ixT | with_reducible apply ov_ixL | with_reducible apply ov_ixR | with_reducible apply iv_itT | with_reducible apply iv_itL | with_reducible apply iv_enumT | with_reducible apply iv_enumL | with_reducible apply iv_zipTT | with_reducible apply iv_rng1 | with_reducible apply iv_rng2 | with_reducible apply gv_tup | with_reducible apply gv_cons | with_reducible apply ls_yes | with_reducible apply lf_of | with_reducible apply ov_addT | with_reducible apply ov_fdiv | with_reducible apply ov_mod | with_reducible apply ov_pow | with_reducible apply uv_sum | with_reducible apply uv_sumR | with_reducible apply uv_sumT | with_reducible apply uv_all | with_reducible apply uv_any | with_reducible apply ov_mul | with_reducible apply ov_eq | with_reducible apply ov_ne | with_reducible apply mv_sh | with_reducible apply mv_ow | with_reducible apply ev_mulL | with_reducible apply ev_lrg1 | with_reducible apply ev_neg | with_reducible apply ov_addL | with_reducible apply ov_mulT | with_reducible apply av_starL | with_reducible apply ov_addI | with_reducible apply iv_rng1 | with_reducible apply uv_lsetT | with_reducible apply uv_lsetL | with_reducible apply ov_inL | with_reducible apply ov_ninL | with_reducible apply uv_sortL | with_reducible apply uv_sortT | with_reducible apply ev_ifE  | walk_at "ddcv" | with_reducible exact atI_0 | with_reducible exact atI_1 | with_reducible exact atI_2 | (show (_ : Prop); with_reducible rfl) | ((with_reducible show (_ : DV) = _); dsimp only [Function.comp]; done) | ((with_reducible show (_ : DV) = _); simp only [Function.comp, Int.natCast_add, Int.natCast_mul]; done) | ((with_reducible show (_ : Pst) = _); rfl) | ((with_reducible show List.length _ = _); rfl) | ((with_reducible show List.length _ ≤ sizeLine); simp only [List.length_cons, List.length_nil, Nat.reduceAdd]; decide) | with_reducible intro _ | ((with_reducible apply noown_ok); rfl))))
theorem s_ifC {c : TB} {A B : TSd} {e : ED} {p : Pst} (h : c e.ex p fun k p' => if k = true then A e p' else B e p') : t_if c A B e p := h
theorem disc_loop {e : ED} {p b : Nat} (hb : b < 2 ^ 62) (hp : p < 1000000) (K : Nat) (hK : K ≤ 700000)
    (he : ∀ (ds : List Dc) s3 a c, ds.length ≤ 11 → (∀ d ∈ ds, (d.1 = true → d.2 ≤ 100) ∧ (d.1 = false → d.2 ≤ 1000000)) → a < 2 ^ 1000 → c ≤ K + 30 → e.nx ⟨[.bo 0, .sh (nat p), .ow (.lst (ds.map dcD)), s3, .un, .un, .un, .un, .un, .un, .un, .un, .un, .un, .un, .un, .un, .un, .un], [potD a b c]⟩) :
    ∀ (m : Nat) (lo : Int) (ds : List Dc) (s3 : Sl) (a c : Nat), ds.length + m ≤ 11 → (∀ d ∈ ds, (d.1 = true → d.2 ≤ 100) ∧ (d.1 = false → d.2 ≤ 1000000)) → a < 2 ^ 1000 → c + 2 * m ≤ K + 30 →
    forD (g_name 3) L__law_are_discounts_right_1 (rangeD lo 1 m) e ⟨[.bo 0, .sh (nat p), .ow (.lst (ds.map dcD)), s3, .un, .un, .un, .un, .un, .un, .un, .un, .un, .un, .un, .un, .un, .un, .un], [potD a b c]⟩ := by
  intro m
  induction m with
  | zero => intro lo ds s3 a c h1 h2 h3 h4; exact forD_z (he ds s3 a c (by omega) h2 h3 (by omega))
  | succ m ih =>
    intro lo ds s3 a c h1 h2 ha h4
    have hlen : (ds.map dcD).length < sizeLine := by rw [List.length_map]; exact Nat.lt_of_lt_of_le (show ds.length < 100 by omega) (by decide)
    refine forD_s (gv_use gv_name ?_)
    unfold L__law_are_discounts_right_1
    dsimp only [List.length_cons, List.length_nil, Nat.reduceSub, Nat.reduceAdd, List.replicate, List.cons_append, List.nil_append, List.append_nil, Pst.put, List.set_cons_zero, List.set_cons_succ, Pst.upL, Pst.own, List.getElem?_cons_zero, List.getElem?_cons_succ]
    refine s_ifC (s_tst (s_bin (tk (u := 2) ev_c ha hb (by omega) (by decide) (by decide) fun x a1 c1 hx ha1 hc1 => ?_)))
    apply EV.use
    · walk_at "ddev"
    refine ov_eqi _ ?_
    dsimp only
    by_cases hx0 : x = 0
    · rw [if_pos (by rw [hx0]; rfl)]
      refine s_expr (s_app rfl (s_tup (s_cons ?_)))
      apply EV.use
      · walk_at "ddev"
      refine s_cons (tkI (u := 101) ev_c ha1 hb (by omega) (by decide) (by decide) fun y a2 c2 hy ha2 hc2 => ?_)
      refine s_nil ⟨show 2 ≤ sizeLine by decide, s_ownL rfl ⟨hlen, ?_⟩⟩
      dsimp only [List.length_cons, List.length_nil, Nat.reduceSub, Nat.reduceAdd, List.replicate, List.cons_append, List.nil_append, List.append_nil, Pst.put, List.set_cons_zero, List.set_cons_succ, Pst.upL, Pst.own, List.getElem?_cons_zero, List.getElem?_cons_succ]
      have := ih (lo + 1) (ds ++ [(true, y)]) (.sh (.int lo)) a2 c2 (by rw [List.length_append]; show ds.length + 1 + m ≤ 11; omega) (fun d hd => by
        rcases List.mem_append.mp hd with hd | hd
        · exact h2 d hd
        · rw [List.mem_singleton] at hd; subst hd
          exact ⟨(fun _ => by show y ≤ 100; omega), (fun z => nomatch z)⟩) ha2 (by omega)
      rw [List.map_append] at this
      exact this
    · rw [if_neg (by simpa using hx0)]
      refine s_expr (s_app rfl (s_tup (s_cons ?_)))
      apply EV.use
      · walk_at "ddev"
      refine s_cons (tkI (u := 1 + p / 4) (ev_as (d := .int (1 + (p : Int) / 4)) ?_ (by show DV.int _ = DV.int _; congr 1)) ha1 hb (by omega) (by omega) (by omega) fun y a2 c2 hy ha2 hc2 => ?_)
      · walk_at "ddev"
        exact wide_div (b := 10) (by decide) (by decide) (by decide) (by decide)
      refine s_nil ⟨show 2 ≤ sizeLine by decide, s_ownL rfl ⟨hlen, ?_⟩⟩
      dsimp only [List.length_cons, List.length_nil, Nat.reduceSub, Nat.reduceAdd, List.replicate, List.cons_append, List.nil_append, List.append_nil, Pst.put, List.set_cons_zero, List.set_cons_succ, Pst.upL, Pst.own, List.getElem?_cons_zero, List.getElem?_cons_succ]
      have := ih (lo + 1) (ds ++ [(false, y)]) (.sh (.int lo)) a2 c2 (by rw [List.length_append]; show ds.length + 1 + m ≤ 11; omega) (fun d hd => by
        rcases List.mem_append.mp hd with hd | hd
        · exact h2 d hd
        · rw [List.mem_singleton] at hd; subst hd
          exact ⟨(fun z => nomatch z), (fun _ => by show y ≤ 1000000; omega)⟩) ha2 (by omega)
      rw [List.map_append] at this
      exact this
theorem dv_discounts {a b c : Nat} {Xd : XB} {R : DV → List DV → Prop} (ha : a < 2 ^ 1000) (hb : b < 2 ^ 62) (hc : c ≤ 600000) (h : ∀ a' c', a' < 2 ^ 1000 → c' ≤ c + 60 → R (.bl true) [potD a' b c']) : c__law_are_discounts_right [.bo 0] [potD a b c] Xd R := by
  refine dv_body fun e hr hx => ?_
  unfold t__law_are_discounts_right
  dsimp only [List.length_cons, List.length_nil, Nat.reduceSub, Nat.reduceAdd, List.replicate, List.cons_append, List.nil_append, List.append_nil, Pst.put, List.set_cons_zero, List.set_cons_succ, Pst.upL, Pst.own, List.getElem?_cons_zero, List.getElem?_cons_succ]
  refine s_seq (s_par (sm_sh (tkOf (us := [50, 1000000]) ?_ (by decide) (by decide) (by decide) ha hb (by omega) fun x u a1 c1 hu hx ha1 hc1 => ?_)))
  · refine ev_as (d := .lst [.int 50, .int (10 ^ (6 : Int).toNat)]) ?_ ?_
    · walk_at "ddev"
      exact ⟨by decide, by decide +kernel⟩
    · rfl
  have hx2 : x < 1000000 := by
    rcases List.mem_cons.mp hu with rfl | hu
    · omega
    · rw [List.mem_singleton] at hu; subst hu; exact hx
  apply MV.use
  · walk_at "ddev"
  refine ⟨rfl, ?_⟩
  dsimp only [putM, List.length_cons, List.length_nil, Nat.reduceSub, Nat.reduceAdd, List.replicate, List.cons_append, List.nil_append, List.append_nil, Pst.put, List.set_cons_zero, List.set_cons_succ, Pst.upL, Pst.own, List.getElem?_cons_zero, List.getElem?_cons_succ]
  refine s_seq (s_for (s_rng1 (s_cons (tk (u := 12) ev_c ha1 hb (by omega) (by decide) (by decide) fun n a2 c2 hn ha2 hc2 => ?_))))
  refine s_nil ⟨⟨by omega, by omega⟩, ?_⟩
  have e1 : ((n : Nat) : Int).toNat = n := by omega
  rw [e1]
  refine disc_loop (p := x) hb hx2 (c + 10) (by omega) (fun ds s3 a3 c3 h1 h2 h3 h4 => ?_) n 0 [] .un a2 c2 (by show 0 + n ≤ 11; omega) (fun d hd => by cases hd) ha2 (by omega)
  exact disc_part2 ⟨by omega, by omega, fun d hd => ⟨(h2 d hd).1, fun z => Nat.le_trans ((h2 d hd).2 z) (by decide)⟩⟩ (by omega) h1 (fun d hd z => (h2 d hd).2 z) h3 hb (by omega) fun a' c' q h5 h6 h7 => hr _ _ (by rw [h7]; exact h a' c' h5 (by omega))
end Dr
set_option maxHeartbeats 4000000
namespace Dr
open PySem PySem.Spec PyProof.Rows L2 DD M72
theorem ins_same (x : Int) : ∀ l : List Int, insI x l = insU x l
  | [] => rfl
  | y :: ys => by unfold insI insU; rw [ins_same x ys]
theorem hs_pw {rs : List Rd} (h : Rok rs) : (hs rs).Pairwise (· < ·) := hours_pw h
theorem sdd_ins {T : List Int} (hT : T.Pairwise (· < ·)) (b : Int) : sdd (T ++ [b]) = insI b T := by
  rw [ins_same]
  refine rise_eq (sdd_pw _) (insU_pw hT) fun k => ?_
  rw [mem_sdd, DD.mem_insU, List.mem_append, List.mem_singleton]
  constructor
  · rintro (h | h)
    · exact .inr h
    · exact .inl h
  · rintro (h | h)
    · exact .inr h
    · exact .inl h
theorem hs_ends {N : Nat} {rs : List Rd} (h : RV N rs) : ∃ t, hs rs = 0 :: t ∧ (0 :: t).getLast? = some (N : Int) := by
  obtain ⟨r, t, rfl, h0⟩ := h.cons
  have hl := h.last (by simp)
  refine ⟨t.map fun r => (r.1 : Int), ?_, ?_⟩
  · show (r.1 : Int) :: _ = _
    rw [h0]; rfl
  · have : (0 : Int) :: t.map (fun r => (r.1 : Int)) = (r :: t).map fun r => (r.1 : Int) := by rw [List.map_cons, h0]; rfl
    rw [this, List.getLast?_map, List.getLast?_eq_some_getLast (by simp)]
    show some (((r :: t).getLast _).1 : Int) = _
    rw [hl]
theorem gp_eq {rs : List Rd} (h : Rok rs) (b : Nat) : gp rs b = dmx (insI b (hs rs)) := by
  unfold gp
  rw [sdd_ins (hs_pw h)]
theorem gp_le {N : Nat} {rs : List Rd} (h : RV N rs) {b : Nat} (hb : b ≤ N) : gp rs b ≤ dmx (hs rs) := by
  rw [gp_eq h.ok]
  obtain ⟨t, e, hl⟩ := hs_ends h
  rw [e]
  exact dmx_ins hl (by omega) (by omega)
theorem insI_len (b : Int) : ∀ l : List Int, l.length ≤ (insI b l).length
  | [] => by simp [insI]
  | y :: ys => by
    unfold insI
    split
    · simp
    · split
      · simp
      · have := insI_len b ys
        simp only [List.length_cons]
        omega
theorem hs_two {N : Nat} {rs : List Rd} (h : RV N rs) (hN : 1 ≤ N) : 2 ≤ (hs rs).length := by
  obtain ⟨t, e, hl⟩ := hs_ends h
  rw [e]
  cases t with
  | nil => simp at hl; omega
  | cons x t => simp
theorem gp_pos {N : Nat} {rs : List Rd} (h : RV N rs) (hN : 1 ≤ N) (b : Nat) : 1 ≤ gp rs b := by
  have e := gp_eq h.ok b
  have hp := sdd_pw (hs rs ++ [(b : Int)])
  rw [sdd_ins (hs_pw h.ok)] at hp
  rw [e]
  exact dmx_pos hp (Nat.le_trans (hs_two h hN) (insI_len _ _))
theorem dmx_hs_pos {N : Nat} {rs : List Rd} (h : RV N rs) (hN : 1 ≤ N) : 1 ≤ dmx (hs rs) := dmx_pos (hs_pw h.ok) (hs_two h hN)
theorem hs_with {N : Nat} {rs : List Rd} {x : Rd} (h : RV N rs) (h2 : RV N (sortR (rs ++ [x]))) : hs (sortR (rs ++ [x])) = insI x.1 (hs rs) := by
  rw [← sdd_ins (hs_pw h.ok)]
  refine rise_eq (hs_pw h2.ok) (sdd_pw _) fun k => ?_
  rw [mem_sdd, List.mem_append, List.mem_singleton]
  unfold hs
  rw [((sortR_perm _).map _).mem_iff, List.map_append, List.mem_append]
  simp
theorem gp_made {N : Nat} {rs : List Rd} {x : Rd} (h : RV N rs) (h2 : RV N (sortR (rs ++ [x]))) (hx : x.1 ≤ N) {j : Nat} (hmin : ∀ i, i ≤ N → gp (sortR (rs ++ [x])) j ≤ gp (sortR (rs ++ [x])) i) : gp (sortR (rs ++ [x])) j ≤ dmx (hs rs) := by
  have h3 := hmin 0 (Nat.zero_le _)
  have h4 := gp_le h2 (b := 0) (Nat.zero_le _)
  rw [hs_with h h2, ← gp_eq h.ok] at h4
  have h5 := gp_le h hx
  omega
theorem gp_all {N : Nat} {rs : List Rd} (h : RV N rs) (hN : 1 ≤ N) (hall : ∀ k : Nat, k ≤ N → (k : Int) ∈ hs rs) {b : Nat} (hb : b ≤ N) : gp rs b = 1 := by
  have h1 := gp_pos h hN b
  have h2 := gp_le h hb
  obtain ⟨t, e, hl⟩ := hs_ends h
  have h3 : dmx (hs rs) ≤ 1 := by
    have hp := hs_pw h.ok
    rw [e] at hp ⊢
    refine dmx_all (n := N) hp (fun k hk => ?_) fun k k1 k2 => ?_
    · rw [← e] at hk
      obtain ⟨r, hr, rfl⟩ := List.mem_map.mp hk
      have := (h.le r hr).1
      omega
    · have := hall k.toNat (by omega)
      rw [show ((k.toNat : Nat) : Int) = k by omega, e] at this
      exact this
  omega
theorem max_gaps {N : Nat} {rs : List Rd} (h : RV N rs) (hN : 1 ≤ N) : UV o_max (.lst ((diffs (hs rs)).map .int)) (.int (dmx (hs rs))) := by
  have hp := dmx_hs_pos h hN
  refine uv_maxI ?_ fun y hy => dmx_ge (List.mem_cons_of_mem _ hy)
  rcases List.mem_cons.mp (dmx_mem (hs rs)) with z | z
  · omega
  · exact z
theorem pl_ll (l : List Int) : Pl 20 (.lst (l.map DV.int)) := plL_ints l
theorem deq_lst (l m : List Int) : deq (.lst (l.map DV.int)) (.lst (m.map DV.int)) = decide (l = m) := by
  rw [deq_ll]
  refine Bool.eq_iff_iff.mpr ?_
  rw [deqL_ints, decide_eq_true_eq]
theorem deq_tup (l m : List Int) : deq (.tup (l.map DV.int)) (.tup (m.map DV.int)) = decide (l = m) := by
  rw [deq_tt]
  refine Bool.eq_iff_iff.mpr ?_
  rw [deqL_ints, decide_eq_true_eq]
/-- sorted(readings + (one,)) -/
theorem sort_with (rs : List Rd) (x : Rd) : DV.tup ((rs.map rdD ++ [rdD x]).mergeSort dle) = rsD (sortR (rs ++ [x])) := by
  have := sort_rds (rs ++ [x])
  rw [List.map_append] at this
  show DV.tup _ = DV.tup _
  rw [← this]; rfl
theorem sortb_with (rs : List Rd) (x : Rd) : Sortb (rs.map rdD ++ [rdD x]) := by
  have := sortb_rds (rs ++ [x])
  rwa [List.map_append] at this
end Dr
set_option maxHeartbeats 0
namespace Dr
open PySem PySem.Spec PyProof.Rows L2 DD M72
-- List.length_cons, List.length_nil, Nat.reduceSub, Nat.reduceAdd, List.replicate, List.cons_append, List.nil_append, List.append_nil, Pst.put, List.set_cons_zero, List.set_cons_succ, Pst.upL, Pst.own, List.getElem?_cons_zero, List.getElem?_cons_succODEF
local macro_rules | `(tactic| walk_at "ddcv") => `(tactic| fail)
local macro_rules | `(tactic| walk_at "ddev") => `(tactic| (repeat' (first | (show (_ : Prop); with_reducible assumption) | ((with_reducible apply ev_v) <;> rfl) | ((with_reducible apply ev_vo) <;> rfl) | ((with_reducible apply ev_rd) <;> rfl) | ((with_reducible apply ev_rdo) <;> rfl) | ((with_reducible apply ev_take) <;> rfl) | ((with_reducible apply ev_rdb) <;> rfl) | with_reducible exact ev_c | with_reducible exact av_nil | with_reducible exact pv_none | with_reducible exact ov_add | with_reducible exact ov_sub | with_reducible exact ov_lt | with_reducible exact ov_le | with_reducible exact ov_gt | with_reducible exact ov_ge | with_reducible exact ov_eqi | with_reducible exact ov_nei | with_reducible exact ov_isN | with_reducible exact ov_isntN | with_reducible exact ov_isB | with_reducible exact ov_isntB | with_reducible exact uv_lenL | with_reducible exact uv_lenT | with_reducible exact uv_lenR | with_reducible exact uv_int | with_reducible exact uv_intB | with_reducible exact uv_abs | with_reducible exact uv_tupL | with_reducible exact uv_tupT | with_reducible exact uv_lstL | with_reducible exact uv_lstT | with_reducible exact uv_isi rfl | with_reducible exact nv_min2 | with_reducible exact nv_max2 | with_reducible exact gv_name | with_reducible exact gv_nil | with_reducible exact mv_nil | with_reducible exact ov_addI | with_reducible exact plT2 | with_reducible exact plL_ints _ | with_reducible exact plT_ints _ | with_reducible exact pl_int | with_reducible exact pl_part | with_reducible exact pl_money | with_reducible exact pl_same | with_reducible exact pl_two | ((with_reducible apply iv_zsL) <;> rfl) | ((with_reducible apply iv_zsT) <;> rfl) | ((with_reducible apply iv_zvLL) <;> rfl) | ((with_reducible apply iv_zvTT) <;> rfl) | ((with_reducible apply iv_zvLT) <;> rfl) | ((with_reducible apply iv_zvTL) <;> rfl) | ((with_reducible apply av_stTv); rfl) | ((with_reducible apply av_stLv); rfl) | ((with_reducible apply av_stLo); rfl) | ((with_reducible apply ev_slv); rfl) | ((with_reducible apply ev_ixv); rfl) | ((with_reducible apply ev_ixvo); rfl) | ((with_reducible apply ev_ixvb); rfl; rfl) | ((with_reducible apply iv_itT); (with_reducible apply ev_v); rfl) | ((with_reducible apply iv_itT); (with_reducible apply ev_vo); rfl) | ((with_reducible apply iv_itL); (with_reducible apply ev_v); rfl) | ((with_reducible apply iv_itL); (with_reducible apply ev_vo); rfl) | ((with_reducible apply iv_enumT); (with_reducible apply ev_v); rfl) | ((with_reducible apply iv_enumT); (with_reducible apply ev_vo); rfl) | ((with_reducible apply iv_enumL); (with_reducible apply ev_v); rfl) | ((with_reducible apply iv_enumL); (with_reducible apply ev_vo); rfl) | with_reducible apply ev_bin | with_reducible apply ev_c1 | with_reducible apply ev_cn | with_reducible apply ev_tup | with_reducible apply ev_lst | with_reducible apply ev_andV | with_reducible apply ev_orV | with_reducible apply ev_notV | with_reducible apply ev_chain | with_reducible apply ev_call1 | with_reducible apply ev_call2 | with_reducible apply ev_call3 | with_reducible apply ev_call4 | with_reducible apply ev_lc | with_reducible apply av_cons | with_reducible apply tv_tst | with_reducible apply tv_and | with_reducible apply tv_or | with_reducible apply tv_not | with_reducible apply pv_some | with_reducible apply ov_ixT | with_reducible apply ov_ixL | with_reducible apply ov_ixR | with_reducible apply iv_itT | with_reducible apply iv_itL | with_reducible apply iv_enumT | with_reducible apply iv_enumL | with_reducible apply iv_zipTT | with_reducible apply iv_rng1 | with_reducible apply iv_rng2 | with_reducible apply gv_tup | with_reducible apply gv_cons | with_reducible apply ls_yes | with_reducible apply lf_of | with_reducible apply ov_addT | with_reducible apply ov_fdiv | with_reducible apply ov_mod | with_reducible apply ov_pow | with_reducible apply uv_sum | with_reducible apply uv_sumR | with_reducible apply uv_sumT | with_reducible apply uv_all | with_reducible apply uv_any | with_reducible apply ov_mul | with_reducible apply ov_eq | with_reducible apply ov_ne | with_reducible apply mv_sh | with_reducible apply mv_ow | with_reducible apply ev_mulL | with_reducible apply ev_lrg1 | with_reducible apply ev_neg | with_reducible apply ov_addL | with_reducible apply ov_mulT | with_reducible apply av_starL | with_reducible apply ov_addI | with_reducible apply iv_rng1 | with_reducible apply uv_lsetT | with_reducible apply uv_lsetL | with_reducible apply ov_inL | with_reducible apply ov_ninL | with_reducible apply uv_sortL | with_reducible apply uv_sortT | with_reducible apply ev_ifE  | walk_at "ddcv" | with_reducible exact atI_0 | with_reducible exact atI_1 | with_reducible exact atI_2 | (show (_ : Prop); with_reducible rfl) | ((with_reducible show (_ : DV) = _); dsimp only [Function.comp]; done) | ((with_reducible show (_ : DV) = _); simp only [Function.comp, Int.natCast_add, Int.natCast_mul]; done) | ((with_reducible show (_ : Pst) = _); rfl) | ((with_reducible show List.length _ = _); rfl) | ((with_reducible show List.length _ ≤ sizeLine); simp only [List.length_cons, List.length_nil, Nat.reduceAdd]; decide) | with_reducible intro _ | ((with_reducible apply noown_ok); rfl))))
def TL_law_are_estimates_right_30 : TSd := (t_seq (t_set 24 (t_lc (t_zip (t_v 14) (t_v 21)) (g_tup 2 (g_cons (g_name 28) (g_cons (g_name 32) g_nil))) t_yes (t_bin o_add (t_v 28) (t_v 32)) [28, 32])) (t_seq (t_if (t_tst (t_bin o_ne (t_v 24) (t_lc (t_zip (t_v 22) (t_v 23)) (g_tup 2 (g_cons (g_name 28) (g_cons (g_name 32) g_nil))) t_yes (t_bin o_add (t_v 28) (t_v 32)) [28, 32]))) (t_ret (t_c (.bl false))) t_skip) (t_seq (t_asg (t_call 2 [] c_best_hour (t_cons (t_v 2) (t_cons (t_v 5) t_nil))) (g_tup 2 (g_cons (g_name 25) (g_cons (g_name 26) g_nil)))) (t_seq (t_set 27 (t_lc (t_zip (t_v 3) (t_slv 3 (t_some (t_c (.int 1))) t_none)) (g_tup 2 (g_cons (g_name 28) (g_cons (g_name 33) g_nil))) t_yes (t_bin o_sub (t_v 33) (t_v 28)) [28, 33])) (t_ret (t_andV (t_bin o_le (t_bin o_ix (t_call 2 [] c_best_hour (t_cons (t_v 2) (t_cons (t_v 15) t_nil))) (t_c (.int 0))) (t_c1 o_max (t_rd 27))) (t_andV (t_chain o_le o_le (t_c (.int 1)) (t_v 25) (t_c1 o_max (t_rd 27))) (t_chain o_le o_le (t_c (.int 0)) (t_v 26) (t_v 1)))))))))
theorem lv_add {env : List Sl} {i j : Nat} {l m : List Int} {vs : List Nat} {E : Int × Int → List Sl} {bor : List DV} (hl : l.length ≤ 1000) (h : ∀ p, LS (g_tup 2 (g_cons (g_name i) (g_cons (g_name j) g_nil))) t_yes (t_bin o_add (t_v i) (t_v j)) vs env bor (.tup [.int p.1, .int p.2]) (.int (p.1 + p.2)) (E p)) (hE : ∀ p, wipeE (E p) vs = wipeE env vs) :
    LV (g_tup 2 (g_cons (g_name i) (g_cons (g_name j) g_nil))) t_yes (t_bin o_add (t_v i) (t_v j)) vs env (zipD (l.map .int) (m.map .int)) bor ((add2 l m).map .int) := by
  refine lv_map (xs := l.zip m) (fun p => .tup [.int p.1, .int p.2]) (fun p => .int (p.1 + p.2)) E (fun p _ => h p) (fun p _ => hE p) (by rw [List.length_zip]; exact Nat.le_trans (Nat.min_le_left _ _) (Nat.le_trans hl (by decide))) (zipD_maps _ _ _ _) ?_
  unfold add2; rw [List.map_map]; rfl
theorem lv_dif {env : List Sl} {i j : Nat} {l : List Int} {vs : List Nat} {E : Int × Int → List Sl} {bor : List DV} (hl : l.length ≤ 1000) (h : ∀ p, LS (g_tup 2 (g_cons (g_name i) (g_cons (g_name j) g_nil))) t_yes (t_bin o_sub (t_v j) (t_v i)) vs env bor (.tup [.int p.1, .int p.2]) (.int (p.2 - p.1)) (E p)) (hE : ∀ p, wipeE (E p) vs = wipeE env vs) :
    LV (g_tup 2 (g_cons (g_name i) (g_cons (g_name j) g_nil))) t_yes (t_bin o_sub (t_v j) (t_v i)) vs env (zipD (l.map .int) (l.map .int).tail) bor ((diffs l).map .int) := by
  refine lv_map (xs := l.zip l.tail) (fun p => .tup [.int p.1, .int p.2]) (fun p => .int (p.2 - p.1)) E (fun p _ => h p) (fun p _ => hE p) (by rw [List.length_zip]; exact Nat.le_trans (Nat.min_le_left _ _) (Nat.le_trans hl (by decide))) ?_ ?_
  · rw [← List.map_tail, zipD_maps]
  · unfold diffs; rw [List.map_map]; rfl
theorem est_D2 {e : ED} {N : Nat} {P : List Int} {rs : List Rd} {x y : Rd} {s4 s7 s8 s9 s10 s11 s12 s16 s17 s18 s19 s20 : Sl} {a b c : Nat} (hP : Prof N P) (hx : More N rs x) (hy : More N (sortR (rs ++ [x])) y) (hy2 : More N rs y) (hx2 : More N (sortR (rs ++ [y])) x)
    (hr : ∀ q, q.bor = [potD a b c] → e.rt (.bl true) q) :
    TL_law_are_estimates_right_30 e ⟨[.bo 0, .sh (nat N), .sh (psD P), .sh (.lst ((hs rs).map .int)), s4, .sh (rsD rs), .sh (natD x.1), s7, s8, s9, s10, s11, s12, .sh (.int x.2), .sh (.tup ((sub2 (diffs (tc P rs)) (diffs (tc P (sortR (rs ++ [x]))))).map .int)), .sh (rsD (sortR (rs ++ [x]))), s16, s17, s18, s19, s20, .sh (.tup ((sub2 (diffs (tc P (sortR (rs ++ [x])))) (diffs (tc P (sortR ((sortR (rs ++ [x])) ++ [y]))))).map .int)), .sh (.tup ((sub2 (diffs (tc P rs)) (diffs (tc P (sortR (rs ++ [y]))))).map .int)), .sh (.tup ((sub2 (diffs (tc P (sortR (rs ++ [y])))) (diffs (tc P (sortR ((sortR (rs ++ [x])) ++ [y]))))).map .int)), .un, .un, .un, .un, .un, .un, .un, .un, .un, .un], [potD a b c]⟩ := by
  have hN1 := hP.n1
  have hN2 := hP.n2
  have hk := hx.k
  have hm := hx.rvk
  have h2 := hy2.rvk
  have hf := hy.rvk
  have l1 : (sub2 (diffs (tc P rs)) (diffs (tc P (sortR (rs ++ [x]))))).length = N := by rw [sub2_len (by rw [hk.rv.dlen, hm.rv.dlen]), hk.rv.dlen]
  have l2 : (sub2 (diffs (tc P rs)) (diffs (tc P (sortR (rs ++ [y]))))).length = N := by rw [sub2_len (by rw [hk.rv.dlen, h2.rv.dlen]), hk.rv.dlen]
  have hsw : add2 (sub2 (diffs (tc P rs)) (diffs (tc P (sortR (rs ++ [x]))))) (sub2 (diffs (tc P (sortR (rs ++ [x])))) (diffs (tc P (sortR ((sortR (rs ++ [x])) ++ [y]))))) = add2 (sub2 (diffs (tc P rs)) (diffs (tc P (sortR (rs ++ [y]))))) (sub2 (diffs (tc P (sortR (rs ++ [y])))) (diffs (tc P (sortR ((sortR (rs ++ [x])) ++ [y]))))) := sub_swap (by rw [hk.rv.dlen, hm.rv.dlen]) (by rw [hm.rv.dlen, h2.rv.dlen]) (by rw [h2.rv.dlen, hf.rv.dlen])
  unfold TL_law_are_estimates_right_30
  refine s_seq (s_set ?_)
  apply EV.use
  · walk_at "ddev"
    refine lv_add (E := fun p => [.bo 0, .sh (nat N), .sh (psD P), .sh (.lst ((hs rs).map .int)), s4, .sh (rsD rs), .sh (natD x.1), s7, s8, s9, s10, s11, s12, .sh (.int x.2), .sh (.tup ((sub2 (diffs (tc P rs)) (diffs (tc P (sortR (rs ++ [x]))))).map .int)), .sh (rsD (sortR (rs ++ [x]))), s16, s17, s18, s19, s20, .sh (.tup ((sub2 (diffs (tc P (sortR (rs ++ [x])))) (diffs (tc P (sortR ((sortR (rs ++ [x])) ++ [y]))))).map .int)), .sh (.tup ((sub2 (diffs (tc P rs)) (diffs (tc P (sortR (rs ++ [y]))))).map .int)), .sh (.tup ((sub2 (diffs (tc P (sortR (rs ++ [y])))) (diffs (tc P (sortR ((sortR (rs ++ [x])) ++ [y]))))).map .int)), .un, .un, .un, .un, .sh (.int p.1), .un, .un, .un, .sh (.int p.2), .un]) (by omega) (fun p => ?_) (fun p => rfl)
    walk_at "ddev"
  dsimp only [List.length_cons, List.length_nil, Nat.reduceSub, Nat.reduceAdd, List.replicate, List.cons_append, List.nil_append, List.append_nil, Pst.put, List.set_cons_zero, List.set_cons_succ, Pst.upL, Pst.own, List.getElem?_cons_zero, List.getElem?_cons_succ]
  refine s_seq ?_
  apply s_if
  · walk_at "ddev"
    · refine lv_add (E := fun p => [.bo 0, .sh (nat N), .sh (psD P), .sh (.lst ((hs rs).map .int)), s4, .sh (rsD rs), .sh (natD x.1), s7, s8, s9, s10, s11, s12, .sh (.int x.2), .sh (.tup ((sub2 (diffs (tc P rs)) (diffs (tc P (sortR (rs ++ [x]))))).map .int)), .sh (rsD (sortR (rs ++ [x]))), s16, s17, s18, s19, s20, .sh (.tup ((sub2 (diffs (tc P (sortR (rs ++ [x])))) (diffs (tc P (sortR ((sortR (rs ++ [x])) ++ [y]))))).map .int)), .sh (.tup ((sub2 (diffs (tc P rs)) (diffs (tc P (sortR (rs ++ [y]))))).map .int)), .sh (.tup ((sub2 (diffs (tc P (sortR (rs ++ [y])))) (diffs (tc P (sortR ((sortR (rs ++ [x])) ++ [y]))))).map .int)), .sh (.lst ((add2 (sub2 (diffs (tc P rs)) (diffs (tc P (sortR (rs ++ [x]))))) (sub2 (diffs (tc P (sortR (rs ++ [x])))) (diffs (tc P (sortR ((sortR (rs ++ [x])) ++ [y])))))).map .int)), .un, .un, .un, .sh (.int p.1), .un, .un, .un, .sh (.int p.2), .un]) (by omega) (fun p => ?_) (fun p => rfl)
      walk_at "ddev"
    · exact pl_ll _
  · intro hq
    exfalso
    rw [deq_lst, hsw] at hq
    simp at hq
  intro _
  refine s_skip ?_
  dsimp only
  clear hsw
  obtain ⟨j, hj, hjm, hcj⟩ := cv_best_hour hP hk
  obtain ⟨i, hi, him, hci⟩ := cv_best_hour hP hm
  have g1 := gp_pos hk.rv (by omega) j
  have g2 := (hjm 0 (Nat.zero_le _)).1
  have g3 := gp_le hk.rv (b := 0) (Nat.zero_le _)
  have g4 := gp_made hk.rv hm.rv hx.n (fun i hi => (him i hi).1)
  have gm := max_gaps hk.rv (by omega)
  have hsl : (hs rs).length ≤ 1000 := by unfold hs; rw [List.length_map]; exact Nat.le_trans hk.few (by decide)
  refine s_seq (s_asg ?_)
  apply EV.use
  · walk_at "ddev"
  apply gv_use
  · walk_at "ddev"
  dsimp only [List.length_cons, List.length_nil, Nat.reduceSub, Nat.reduceAdd, List.replicate, List.cons_append, List.nil_append, List.append_nil, Pst.put, List.set_cons_zero, List.set_cons_succ, Pst.upL, Pst.own, List.getElem?_cons_zero, List.getElem?_cons_succ]
  refine s_seq (s_set ?_)
  apply EV.use
  · walk_at "ddev"
    refine lv_dif (E := fun p => [.bo 0, .sh (nat N), .sh (psD P), .sh (.lst ((hs rs).map .int)), s4, .sh (rsD rs), .sh (natD x.1), s7, s8, s9, s10, s11, s12, .sh (.int x.2), .sh (.tup ((sub2 (diffs (tc P rs)) (diffs (tc P (sortR (rs ++ [x]))))).map .int)), .sh (rsD (sortR (rs ++ [x]))), s16, s17, s18, s19, s20, .sh (.tup ((sub2 (diffs (tc P (sortR (rs ++ [x])))) (diffs (tc P (sortR ((sortR (rs ++ [x])) ++ [y]))))).map .int)), .sh (.tup ((sub2 (diffs (tc P rs)) (diffs (tc P (sortR (rs ++ [y]))))).map .int)), .sh (.tup ((sub2 (diffs (tc P (sortR (rs ++ [y])))) (diffs (tc P (sortR ((sortR (rs ++ [x])) ++ [y]))))).map .int)), .sh (.lst ((add2 (sub2 (diffs (tc P rs)) (diffs (tc P (sortR (rs ++ [x]))))) (sub2 (diffs (tc P (sortR (rs ++ [x])))) (diffs (tc P (sortR ((sortR (rs ++ [x])) ++ [y])))))).map .int)), .sh (.int (gp rs j)), .sh (natD j), .un, .sh (.int p.1), .un, .un, .un, .un, .sh (.int p.2)]) hsl (fun p => ?_) (fun p => rfl)
    walk_at "ddev"
  dsimp only [List.length_cons, List.length_nil, Nat.reduceSub, Nat.reduceAdd, List.replicate, List.cons_append, List.nil_append, List.append_nil, Pst.put, List.set_cons_zero, List.set_cons_succ, Pst.upL, Pst.own, List.getElem?_cons_zero, List.getElem?_cons_succ]
  refine s_ret ?_
  apply EV.use
  · walk_at "ddev"
    all_goals exact gm
  have e5 : (decide (gp (sortR (rs ++ [x])) i ≤ dmx (hs rs)) && (decide (1 ≤ gp rs j) && decide (gp rs j ≤ dmx (hs rs)) && (decide ((0 : Int) ≤ (j : Int)) && decide ((j : Int) ≤ (N : Int))))) = true := by
    simp only [Bool.and_eq_true, decide_eq_true_eq]
    omega
  rw [e5]
  exact hr _ rfl
end Dr
set_option maxHeartbeats 0
namespace Dr
open PySem PySem.Spec PyProof.Rows L2 DD M72
-- List.length_cons, List.length_nil, Nat.reduceSub, Nat.reduceAdd, List.replicate, List.cons_append, List.nil_append, List.append_nil, Pst.put, List.set_cons_zero, List.set_cons_succ, Pst.upL, Pst.own, List.getElem?_cons_zero, List.getElem?_cons_succODEF
local macro_rules | `(tactic| walk_at "ddcv") => `(tactic| fail)
local macro_rules | `(tactic| walk_at "ddev") => `(tactic| (repeat' (first | (show (_ : Prop); with_reducible assumption) | ((with_reducible apply ev_v) <;> rfl) | ((with_reducible apply ev_vo) <;> rfl) | ((with_reducible apply ev_rd) <;> rfl) | ((with_reducible apply ev_rdo) <;> rfl) | ((with_reducible apply ev_take) <;> rfl) | ((with_reducible apply ev_rdb) <;> rfl) | with_reducible exact ev_c | with_reducible exact av_nil | with_reducible exact pv_none | with_reducible exact ov_add | with_reducible exact ov_sub | with_reducible exact ov_lt | with_reducible exact ov_le | with_reducible exact ov_gt | with_reducible exact ov_ge | with_reducible exact ov_eqi | with_reducible exact ov_nei | with_reducible exact ov_isN | with_reducible exact ov_isntN | with_reducible exact ov_isB | with_reducible exact ov_isntB | with_reducible exact uv_lenL | with_reducible exact uv_lenT | with_reducible exact uv_lenR | with_reducible exact uv_int | with_reducible exact uv_intB | with_reducible exact uv_abs | with_reducible exact uv_tupL | with_reducible exact uv_tupT | with_reducible exact uv_lstL | with_reducible exact uv_lstT | with_reducible exact uv_isi rfl | with_reducible exact nv_min2 | with_reducible exact nv_max2 | with_reducible exact gv_name | with_reducible exact gv_nil | with_reducible exact mv_nil | with_reducible exact ov_addI | with_reducible exact plT2 | with_reducible exact plL_ints _ | with_reducible exact plT_ints _ | with_reducible exact pl_int | with_reducible exact pl_part | with_reducible exact pl_money | with_reducible exact pl_same | with_reducible exact pl_two | ((with_reducible apply iv_zsL) <;> rfl) | ((with_reducible apply iv_zsT) <;> rfl) | ((with_reducible apply iv_zvLL) <;> rfl) | ((with_reducible apply iv_zvTT) <;> rfl) | ((with_reducible apply iv_zvLT) <;> rfl) | ((with_reducible apply iv_zvTL) <;> rfl) | ((with_reducible apply av_stTv); rfl) | ((with_reducible apply av_stLv); rfl) | ((with_reducible apply av_stLo); rfl) | ((with_reducible apply ev_slv); rfl) | ((with_reducible apply ev_ixv); rfl) | ((with_reducible apply ev_ixvo); rfl) | ((with_reducible apply ev_ixvb); rfl; rfl) | ((with_reducible apply iv_itT); (with_reducible apply ev_v); rfl) | ((with_reducible apply iv_itT); (with_reducible apply ev_vo); rfl) | ((with_reducible apply iv_itL); (with_reducible apply ev_v); rfl) | ((with_reducible apply iv_itL); (with_reducible apply ev_vo); rfl) | ((with_reducible apply iv_enumT); (with_reducible apply ev_v); rfl) | ((with_reducible apply iv_enumT); (with_reducible apply ev_vo); rfl) | ((with_reducible apply iv_enumL); (with_reducible apply ev_v); rfl) | ((with_reducible apply iv_enumL); (with_reducible apply ev_vo); rfl) | with_reducible apply ev_bin | with_reducible apply ev_c1 | with_reducible apply ev_cn | with_reducible apply ev_tup | with_reducible apply ev_lst | with_reducible apply ev_andV | with_reducible apply ev_orV | with_reducible apply ev_notV | with_reducible apply ev_chain | with_reducible apply ev_call1 | with_reducible apply ev_call2 | with_reducible apply ev_call3 | with_reducible apply ev_call4 | with_reducible apply ev_lc | with_reducible apply av_cons | with_reducible apply tv_tst | with_reducible apply tv_and | with_reducible apply tv_or | with_reducible apply tv_not | with_reducible apply pv_some | with_reducible apply ov_ixT | with_reducible apply ov_ixL | with_reducible apply ov_ixR | with_reducible apply iv_itT | with_reducible apply iv_itL | with_reducible apply iv_enumT | with_reducible apply iv_enumL | with_reducible apply iv_zipTT | with_reducible apply iv_rng1 | with_reducible apply iv_rng2 | with_reducible apply gv_tup | with_reducible apply gv_cons | with_reducible apply ls_yes | with_reducible apply lf_of | with_reducible apply ov_addT | with_reducible apply ov_fdiv | with_reducible apply ov_mod | with_reducible apply ov_pow | with_reducible apply uv_sum | with_reducible apply uv_sumR | with_reducible apply uv_sumT | with_reducible apply uv_all | with_reducible apply uv_any | with_reducible apply ov_mul | with_reducible apply ov_eq | with_reducible apply ov_ne | with_reducible apply mv_sh | with_reducible apply mv_ow | with_reducible apply ev_mulL | with_reducible apply ev_lrg1 | with_reducible apply ev_neg | with_reducible apply ov_addL | with_reducible apply ov_mulT | with_reducible apply av_starL | with_reducible apply ov_addI | with_reducible apply iv_rng1 | with_reducible apply uv_lsetT | with_reducible apply uv_lsetL | with_reducible apply ov_inL | with_reducible apply ov_ninL | with_reducible apply uv_sortL | with_reducible apply uv_sortT | with_reducible apply ev_ifE  | walk_at "ddcv" | with_reducible exact atI_0 | with_reducible exact atI_1 | with_reducible exact atI_2 | (show (_ : Prop); with_reducible rfl) | ((with_reducible show (_ : DV) = _); dsimp only [Function.comp]; done) | ((with_reducible show (_ : DV) = _); simp only [Function.comp, Int.natCast_add, Int.natCast_mul]; done) | ((with_reducible show (_ : Pst) = _); rfl) | ((with_reducible show List.length _ = _); rfl) | ((with_reducible show List.length _ ≤ sizeLine); simp only [List.length_cons, List.length_nil, Nat.reduceAdd]; decide) | with_reducible intro _ | ((with_reducible apply noown_ok); rfl))))
def TL_law_are_estimates_right_24 : TSd := (t_seq (t_set 17 (t_callB 2 [] c__law_of 0 (t_cons (t_v 16) t_nil))) (t_seq (t_asg (t_call 3 [] c_worst_off (t_cons (t_v 2) (t_cons (t_v 15) (t_cons (t_v 17) t_nil)))) (g_tup 2 (g_cons (g_name 18) (g_cons (g_name 19) g_nil)))) (t_seq (t_set 20 (t_tup (t_cons (t_v 17) (t_cons (t_bin o_add (t_bin o_add (t_call 3 [] c_estimated_at (t_cons (t_v 2) (t_cons (t_v 15) (t_cons (t_v 17) t_nil)))) (t_v 18)) (t_c1 o_int (t_callB 2 [] c__law_take 0 (t_cons (t_bin o_add (t_bin o_sub (t_v 19) (t_v 18)) (t_c (.int 1))) t_nil)))) t_nil)))) (t_seq (t_set 21 (t_call 3 [] c_put_right (t_cons (t_v 2) (t_cons (t_v 15) (t_cons (t_v 20) t_nil))))) (t_seq (t_set 22 (t_call 3 [] c_put_right (t_cons (t_v 2) (t_cons (t_v 5) (t_cons (t_v 20) t_nil))))) (t_seq (t_set 23 (t_call 3 [] c_put_right (t_cons (t_v 2) (t_cons (t_c1 o_tuple (t_c1 o_sortedT (t_bin o_add (t_v 5) (t_tup (t_cons (t_v 20) t_nil))))) (t_cons (t_tup (t_cons (t_v 6) (t_cons (t_v 13) t_nil))) t_nil))))) (t_seq (t_set 24 (t_lc (t_zip (t_v 14) (t_v 21)) (g_tup 2 (g_cons (g_name 28) (g_cons (g_name 32) g_nil))) t_yes (t_bin o_add (t_v 28) (t_v 32)) [28, 32])) (t_seq (t_if (t_tst (t_bin o_ne (t_v 24) (t_lc (t_zip (t_v 22) (t_v 23)) (g_tup 2 (g_cons (g_name 28) (g_cons (g_name 32) g_nil))) t_yes (t_bin o_add (t_v 28) (t_v 32)) [28, 32]))) (t_ret (t_c (.bl false))) t_skip) (t_seq (t_asg (t_call 2 [] c_best_hour (t_cons (t_v 2) (t_cons (t_v 5) t_nil))) (g_tup 2 (g_cons (g_name 25) (g_cons (g_name 26) g_nil)))) (t_seq (t_set 27 (t_lc (t_zip (t_v 3) (t_slv 3 (t_some (t_c (.int 1))) t_none)) (g_tup 2 (g_cons (g_name 28) (g_cons (g_name 33) g_nil))) t_yes (t_bin o_sub (t_v 33) (t_v 28)) [28, 33])) (t_ret (t_andV (t_bin o_le (t_bin o_ix (t_call 2 [] c_best_hour (t_cons (t_v 2) (t_cons (t_v 15) t_nil))) (t_c (.int 0))) (t_c1 o_max (t_rd 27))) (t_andV (t_chain o_le o_le (t_c (.int 1)) (t_v 25) (t_c1 o_max (t_rd 27))) (t_chain o_le o_le (t_c (.int 0)) (t_v 26) (t_v 1)))))))))))))))
theorem est_D1 {e : ED} {N : Nat} {P : List Int} {rs : List Rd} {x : Rd} {rest : List Nat} {s4 s7 s8 s9 s10 s11 s12 : Sl} {a b c : Nat} (hP : Prof N P) (hx : More N rs x) (hfew : rs.length ≤ 10) (hne : rest ≠ []) (hlen : rest.length ≤ 1000) (hrest : ∀ o ∈ rest, o ≤ N ∧ ∀ r ∈ (sortR (rs ++ [x])), r.1 ≠ o) (ha : a < 2 ^ 1000) (hb : b < 2 ^ 62) (hc : c ≤ 800000)
    (hr : ∀ a' c' q, a' < 2 ^ 1000 → c' ≤ c + 3 → q.bor = [potD a' b c'] → e.rt (.bl true) q) :
    TL_law_are_estimates_right_24 e ⟨[.bo 0, .sh (nat N), .sh (psD P), .sh (.lst ((hs rs).map .int)), s4, .sh (rsD rs), .sh (natD x.1), s7, s8, s9, s10, s11, s12, .sh (.int x.2), .sh (.tup ((sub2 (diffs (tc P rs)) (diffs (tc P (sortR (rs ++ [x]))))).map .int)), .sh (rsD (sortR (rs ++ [x]))), .sh (.lst (rest.map natD)), .un, .un, .un, .un, .un, .un, .un, .un, .un, .un, .un, .un, .un, .un, .un, .un, .un], [potD a b c]⟩ := by
  have hN1 := hP.n1
  have hN2 := hP.n2
  have hk := hx.k
  have hm := hx.rvk
  unfold TL_law_are_estimates_right_24
  refine s_seq (s_set (s_callB rfl (s_cons ?_)))
  apply EV.use
  · walk_at "ddev"
  refine s_nil (cb_of rfl rfl ?_)
  refine dv_of ha hb (by omega) (by simpa using hne) (by rw [List.length_map]; omega) (.inl rfl) fun d hd a1 c1 ha1 hc1 => ?_
  obtain ⟨o, ho, rfl⟩ := List.mem_map.mp hd
  obtain ⟨hoN, hon⟩ := hrest o ho
  dsimp only [List.length_cons, List.length_nil, Nat.reduceSub, Nat.reduceAdd, List.replicate, List.cons_append, List.nil_append, List.append_nil, Pst.put, List.set_cons_zero, List.set_cons_succ, Pst.upL, Pst.own, List.getElem?_cons_zero, List.getElem?_cons_succ]
  obtain ⟨cc, hcc, _⟩ := tc_get (P := P) hm.rv hoN
  obtain ⟨lo, hi, hB, hcw⟩ := cv_worst_off hP hm hoN hcc
  have hmid := hB.mid hm.rv hP.nn hcc
  have hrng := hB.rng hm.rv
  have hce := cv_estimated_at hP hm hoN hcc
  refine s_seq (s_asg ?_)
  apply EV.use
  · walk_at "ddev"
  apply gv_use
  · walk_at "ddev"
  dsimp only [List.length_cons, List.length_nil, Nat.reduceSub, Nat.reduceAdd, List.replicate, List.cons_append, List.nil_append, List.append_nil, Pst.put, List.set_cons_zero, List.set_cons_succ, Pst.upL, Pst.own, List.getElem?_cons_zero, List.getElem?_cons_succ]
  obtain ⟨u, hu⟩ : ∃ u : Nat, (u : Int) = hi - lo + 1 := ⟨(hi - lo + 1).toNat, by omega⟩
  refine s_seq (s_set (s_tup (s_cons ?_)))
  apply EV.use
  · walk_at "ddev"
  refine s_cons (s_bin ?_)
  apply EV.use
  · walk_at "ddev"
  refine tkI (u := u) ?_ ha1 hb (by omega) (by omega) (by omega) fun z a2 c2 hz ha2 hc2 => ?_
  · refine ev_as (d := .int (hi - cc - (lo - cc) + 1)) ?_ ?_
    · walk_at "ddev"
    · show DV.int _ = DV.int _
      congr 1
      omega
  refine ov_add _ (s_nil ⟨show 2 ≤ sizeLine by decide, ?_⟩)
  have ev : cc + (lo - cc) + (z : Int) = lo + z := by omega
  rw [ev]
  dsimp only [List.length_cons, List.length_nil, Nat.reduceSub, Nat.reduceAdd, List.replicate, List.cons_append, List.nil_append, List.append_nil, Pst.put, List.set_cons_zero, List.set_cons_succ, Pst.upL, Pst.own, List.getElem?_cons_zero, List.getElem?_cons_succ]
  have hfit : Fits (sortR (rs ++ [x])) (o, lo + z) := hB.fits (fun r hr => hon r hr) (by omega) (by omega)
  have hml : (sortR (rs ++ [x])).length = rs.length + 1 := by rw [(sortR_perm _).length_eq, List.length_append]; rfl
  have hy : More N (sortR (rs ++ [x])) (o, lo + z) := ⟨hm, hfit, hoN, by show 0 ≤ lo + (z : Int); omega, by show lo + (z : Int) ≤ 10000; omega, by omega⟩
  have hy2 : More N rs (o, lo + z) := ⟨hk, fits_sub hfit, hoN, by show 0 ≤ lo + (z : Int); omega, by show lo + (z : Int) ≤ 10000; omega, by omega⟩
  have hl2 : (sortR (rs ++ [(o, lo + z)])).length = rs.length + 1 := by rw [(sortR_perm _).length_eq, List.length_append]; rfl
  have hx2 : More N (sortR (rs ++ [(o, lo + z)])) x := ⟨hy2.rvk, fits_swap hx.f hfit, hx.n, hx.z, hx.b, by omega⟩
  have q1 : CV c_put_right [.sh (psD P), .sh (rsD (sortR (rs ++ [x]))), .sh (.tup [natD o, .int (lo + z)])] [] (.tup ((sub2 (diffs (tc P (sortR (rs ++ [x])))) (diffs (tc P (sortR ((sortR (rs ++ [x])) ++ [(o, lo + z)]))))).map .int)) [] := cv_put_right hP hy
  have q2 : CV c_put_right [.sh (psD P), .sh (rsD rs), .sh (.tup [natD o, .int (lo + z)])] [] (.tup ((sub2 (diffs (tc P rs)) (diffs (tc P (sortR (rs ++ [(o, lo + z)]))))).map .int)) [] := cv_put_right hP hy2
  have q3 : CV c_put_right [.sh (psD P), .sh (.tup ((rs.map rdD ++ [DV.tup [natD o, .int (lo + z)]]).mergeSort dle)), .sh (.tup [natD x.1, .int x.2])] [] (.tup ((sub2 (diffs (tc P (sortR (rs ++ [(o, lo + z)])))) (diffs (tc P (sortR ((sortR (rs ++ [x])) ++ [(o, lo + z)]))))).map .int)) [] := by
    have e1 : DV.tup ((rs.map rdD ++ [DV.tup [natD o, .int (lo + z)]]).mergeSort dle) = rsD (sortR (rs ++ [(o, lo + z)])) := sort_with rs (o, lo + z)
    have e2 : sortR ((sortR (rs ++ [x])) ++ [(o, lo + z)]) = sortR (sortR (rs ++ [(o, lo + z)]) ++ [x]) := sortR_swap
    rw [e1, e2]
    exact cv_put_right hP hx2
  have hsb := sortb_with rs (o, lo + z)
  have hsl : (rs.map rdD).length + [DV.tup [natD o, .int (lo + z)]].length ≤ sizeLine := by
    rw [List.length_map]
    exact Nat.le_trans (show rs.length + 1 ≤ 11 by omega) (by decide)
  clear hcw hce
  refine s_seq (s_set ?_)
  apply EV.use
  · apply ev_call3
    · walk_at "ddev"
    · exact q1
  dsimp only [List.length_cons, List.length_nil, Nat.reduceSub, Nat.reduceAdd, List.replicate, List.cons_append, List.nil_append, List.append_nil, Pst.put, List.set_cons_zero, List.set_cons_succ, Pst.upL, Pst.own, List.getElem?_cons_zero, List.getElem?_cons_succ]
  refine s_seq (s_set ?_)
  apply EV.use
  · apply ev_call3
    · walk_at "ddev"
    · exact q2
  dsimp only [List.length_cons, List.length_nil, Nat.reduceSub, Nat.reduceAdd, List.replicate, List.cons_append, List.nil_append, List.append_nil, Pst.put, List.set_cons_zero, List.set_cons_succ, Pst.upL, Pst.own, List.getElem?_cons_zero, List.getElem?_cons_succ]
  refine s_seq (s_set ?_)
  apply EV.use
  · apply ev_call3
    · walk_at "ddev"
      all_goals first | exact hsb | exact hsl
    · exact q3
  dsimp only [List.length_cons, List.length_nil, Nat.reduceSub, Nat.reduceAdd, List.replicate, List.cons_append, List.nil_append, List.append_nil, Pst.put, List.set_cons_zero, List.set_cons_succ, Pst.upL, Pst.own, List.getElem?_cons_zero, List.getElem?_cons_succ]
  exact est_D2 hP hx hy hy2 hx2 fun q hq => hr a2 c2 q ha2 (by omega) hq
end Dr
set_option maxHeartbeats 0
namespace Dr
open PySem PySem.Spec PyProof.Rows L2 DD M72
-- List.length_cons, List.length_nil, Nat.reduceSub, Nat.reduceAdd, List.replicate, List.cons_append, List.nil_append, List.append_nil, Pst.put, List.set_cons_zero, List.set_cons_succ, Pst.upL, Pst.own, List.getElem?_cons_zero, List.getElem?_cons_succODEF
-- @GUARD
local macro_rules | `(tactic| walk_at "ddcv") => `(tactic| fail)
local macro_rules | `(tactic| walk_at "ddev") => `(tactic| (repeat' (first | with_reducible apply DD.ev_tupLC | (show (_ : Prop); with_reducible assumption) | ((with_reducible apply ev_v) <;> rfl) | ((with_reducible apply ev_vo) <;> rfl) | ((with_reducible apply ev_rd) <;> rfl) | ((with_reducible apply ev_rdo) <;> rfl) | ((with_reducible apply ev_take) <;> rfl) | ((with_reducible apply ev_rdb) <;> rfl) | with_reducible exact ev_c | with_reducible exact av_nil | with_reducible exact pv_none | with_reducible exact ov_add | with_reducible exact ov_sub | with_reducible exact ov_lt | with_reducible exact ov_le | with_reducible exact ov_gt | with_reducible exact ov_ge | with_reducible exact ov_eqi | with_reducible exact ov_nei | with_reducible exact ov_isN | with_reducible exact ov_isntN | with_reducible exact ov_isB | with_reducible exact ov_isntB | with_reducible exact uv_lenL | with_reducible exact uv_lenT | with_reducible exact uv_lenR | with_reducible exact uv_int | with_reducible exact uv_intB | with_reducible exact uv_abs | with_reducible exact uv_tupL | with_reducible exact uv_tupT | with_reducible exact uv_lstL | with_reducible exact uv_lstT | with_reducible exact uv_isi rfl | with_reducible exact nv_min2 | with_reducible exact nv_max2 | with_reducible exact gv_name | with_reducible exact gv_nil | with_reducible exact mv_nil | with_reducible exact ov_addI | ((fail_if_success with_reducible exact DD.pl_non); with_reducible exact plT2) | ((fail_if_success with_reducible exact DD.pl_non); with_reducible exact plL_ints _) | ((fail_if_success with_reducible exact DD.pl_non); with_reducible exact plT_ints _) | ((fail_if_success with_reducible exact DD.pl_non); with_reducible exact pl_int) | ((fail_if_success with_reducible exact DD.pl_non); with_reducible exact pl_part) | ((fail_if_success with_reducible exact DD.pl_non); with_reducible exact pl_money) | ((fail_if_success with_reducible exact DD.pl_non); with_reducible exact pl_same) | ((fail_if_success with_reducible exact DD.pl_non); with_reducible exact pl_two) | ((with_reducible apply iv_zsL) <;> rfl) | ((with_reducible apply iv_zsT) <;> rfl) | ((with_reducible apply iv_zvLL) <;> rfl) | ((with_reducible apply iv_zvTT) <;> rfl) | ((with_reducible apply iv_zvLT) <;> rfl) | ((with_reducible apply iv_zvTL) <;> rfl) | ((with_reducible apply av_stTv); rfl) | ((with_reducible apply av_stLv); rfl) | ((with_reducible apply av_stLo); rfl) | ((with_reducible apply ev_slv); rfl) | ((with_reducible apply ev_ixv); rfl) | ((with_reducible apply ev_ixvo); rfl) | ((with_reducible apply ev_ixvb); rfl; rfl) | ((with_reducible apply iv_itT); (with_reducible apply ev_v); rfl) | ((with_reducible apply iv_itT); (with_reducible apply ev_vo); rfl) | ((with_reducible apply iv_itL); (with_reducible apply ev_v); rfl) | ((with_reducible apply iv_itL); (with_reducible apply ev_vo); rfl) | ((with_reducible apply iv_enumT); (with_reducible apply ev_v); rfl) | ((with_reducible apply iv_enumT); (with_reducible apply ev_vo); rfl) | ((with_reducible apply iv_enumL); (with_reducible apply ev_v); rfl) | ((with_reducible apply iv_enumL); (with_reducible apply ev_vo); rfl) | with_reducible apply ev_bin | with_reducible apply ev_c1 | with_reducible apply ev_cn | with_reducible apply ev_tup | with_reducible apply ev_lst | with_reducible apply ev_andV | with_reducible apply ev_orV | with_reducible apply ev_notV | with_reducible apply ev_chain | with_reducible apply ev_call1 | with_reducible apply ev_call2 | with_reducible apply ev_call3 | with_reducible apply ev_call4 | with_reducible apply ev_lc | with_reducible apply av_cons | with_reducible apply tv_tst | with_reducible apply tv_and | with_reducible apply tv_or | with_reducible apply tv_not | with_reducible apply pv_some | with_reducible apply ov_ixT | with_reducible apply ov_ixL | with_reducible apply ov_ixR | with_reducible apply iv_itT | with_reducible apply iv_itL | with_reducible apply iv_enumT | with_reducible apply iv_enumL | with_reducible apply iv_zipTT | with_reducible apply iv_rng1 | with_reducible apply iv_rng2 | with_reducible apply gv_tup | with_reducible apply gv_cons | with_reducible apply ls_yes | with_reducible apply lf_of | with_reducible apply ov_addT | with_reducible apply ov_fdiv | with_reducible apply ov_mod | with_reducible apply ov_pow | with_reducible apply uv_sum | with_reducible apply uv_sumR | with_reducible apply uv_sumT | with_reducible apply uv_all | with_reducible apply uv_any | with_reducible apply ov_mul | with_reducible apply ov_eq | with_reducible apply ov_ne | with_reducible apply mv_sh | with_reducible apply mv_ow | with_reducible apply ev_mulL | with_reducible apply ev_lrg1 | with_reducible apply ev_neg | with_reducible apply ov_addL | with_reducible apply ov_mulT | with_reducible apply av_starL | with_reducible apply ov_addI | with_reducible apply iv_rng1 | with_reducible apply uv_lsetT | with_reducible apply uv_lsetL | with_reducible apply ov_inL | with_reducible apply ov_ninL | with_reducible apply uv_sortL | with_reducible apply uv_sortT | with_reducible apply ev_ifE  | walk_at "ddcv" | with_reducible exact atI_0 | with_reducible exact atI_1 | with_reducible exact atI_2 | (show (_ : Prop); with_reducible rfl) | ((with_reducible show (_ : DV) = _); dsimp only [Function.comp]; done) | ((with_reducible show (_ : DV) = _); simp only [Function.comp, Int.natCast_add, Int.natCast_mul]; done) | ((with_reducible show (_ : Pst) = _); rfl) | ((with_reducible show List.length _ = _); rfl) | ((with_reducible show List.length _ ≤ sizeLine); simp only [List.length_cons, List.length_nil, Nat.reduceAdd]; decide) | with_reducible intro _ | ((with_reducible apply noown_ok); rfl))))
def TL_law_are_estimates_right_20 : TSd := (t_seq (t_set 15 (t_c1 o_tuple (t_c1 o_sortedT (t_bin o_add (t_v 5) (t_tup (t_cons (t_tup (t_cons (t_v 6) (t_cons (t_v 13) t_nil))) t_nil)))))) (t_seq (t_if (t_tst (t_bin o_ne (t_call 2 [] c_uses_by_hours (t_cons (t_v 2) (t_cons (t_v 15) t_nil))) (t_c1 o_tuple (t_lc (t_zip (t_v 8) (t_v 14)) (g_tup 2 (g_cons (g_name 30) (g_cons (g_name 31) g_nil))) t_yes (t_bin o_add (t_v 30) (t_v 31)) [30, 31])))) (t_ret (t_c (.bl false))) t_skip) (t_seq (t_set 16 (t_lc (t_it (t_v 9)) (g_name 28) (t_tst (t_bin o_ne (t_v 28) (t_v 6))) (t_v 28) [28])) (t_seq (t_if (t_tst (t_bin o_eq (t_v 16) (t_lst t_nil))) (t_ret (t_c (.bl true))) t_skip) (t_seq (t_set 17 (t_callB 2 [] c__law_of 0 (t_cons (t_v 16) t_nil))) (t_seq (t_asg (t_call 3 [] c_worst_off (t_cons (t_v 2) (t_cons (t_v 15) (t_cons (t_v 17) t_nil)))) (g_tup 2 (g_cons (g_name 18) (g_cons (g_name 19) g_nil)))) (t_seq (t_set 20 (t_tup (t_cons (t_v 17) (t_cons (t_bin o_add (t_bin o_add (t_call 3 [] c_estimated_at (t_cons (t_v 2) (t_cons (t_v 15) (t_cons (t_v 17) t_nil)))) (t_v 18)) (t_c1 o_int (t_callB 2 [] c__law_take 0 (t_cons (t_bin o_add (t_bin o_sub (t_v 19) (t_v 18)) (t_c (.int 1))) t_nil)))) t_nil)))) (t_seq (t_set 21 (t_call 3 [] c_put_right (t_cons (t_v 2) (t_cons (t_v 15) (t_cons (t_v 20) t_nil))))) (t_seq (t_set 22 (t_call 3 [] c_put_right (t_cons (t_v 2) (t_cons (t_v 5) (t_cons (t_v 20) t_nil))))) (t_seq (t_set 23 (t_call 3 [] c_put_right (t_cons (t_v 2) (t_cons (t_c1 o_tuple (t_c1 o_sortedT (t_bin o_add (t_v 5) (t_tup (t_cons (t_v 20) t_nil))))) (t_cons (t_tup (t_cons (t_v 6) (t_cons (t_v 13) t_nil))) t_nil))))) (t_seq (t_set 24 (t_lc (t_zip (t_v 14) (t_v 21)) (g_tup 2 (g_cons (g_name 28) (g_cons (g_name 32) g_nil))) t_yes (t_bin o_add (t_v 28) (t_v 32)) [28, 32])) (t_seq (t_if (t_tst (t_bin o_ne (t_v 24) (t_lc (t_zip (t_v 22) (t_v 23)) (g_tup 2 (g_cons (g_name 28) (g_cons (g_name 32) g_nil))) t_yes (t_bin o_add (t_v 28) (t_v 32)) [28, 32]))) (t_ret (t_c (.bl false))) t_skip) (t_seq (t_asg (t_call 2 [] c_best_hour (t_cons (t_v 2) (t_cons (t_v 5) t_nil))) (g_tup 2 (g_cons (g_name 25) (g_cons (g_name 26) g_nil)))) (t_seq (t_set 27 (t_lc (t_zip (t_v 3) (t_slv 3 (t_some (t_c (.int 1))) t_none)) (g_tup 2 (g_cons (g_name 28) (g_cons (g_name 33) g_nil))) t_yes (t_bin o_sub (t_v 33) (t_v 28)) [28, 33])) (t_ret (t_andV (t_bin o_le (t_bin o_ix (t_call 2 [] c_best_hour (t_cons (t_v 2) (t_cons (t_v 15) t_nil))) (t_c (.int 0))) (t_c1 o_max (t_rd 27))) (t_andV (t_chain o_le o_le (t_c (.int 1)) (t_v 25) (t_c1 o_max (t_rd 27))) (t_chain o_le o_le (t_c (.int 0)) (t_v 26) (t_v 1)))))))))))))))))))
theorem deq_lnil (os : List Nat) : deq (.lst (os.map natD)) (.lst []) = decide (os = []) := by cases os <;> rfl
theorem pl_lnil : Pl 20 (.lst []) := fun d hd => by cases hd
theorem pl_lnats (os : List Nat) : Pl 20 (.lst (os.map natD)) := fun d hd => by
  obtain ⟨y, _, rfl⟩ := List.mem_map.mp hd
  trivial
theorem est_C2 {e : ED} {N : Nat} {P : List Int} {rs : List Rd} {x : Rd} {free : List Nat} {s4 s7 s10 s11 s12 : Sl} {a b c : Nat} (hP : Prof N P) (hx : More N rs x) (hfew : rs.length ≤ 10) (hlen : free.length ≤ 100) (hfree : ∀ o ∈ free, o ≤ N ∧ ∀ r ∈ rs, r.1 ≠ o) (ha : a < 2 ^ 1000) (hb : b < 2 ^ 62) (hc : c ≤ 800000)
    (hr : ∀ a' c' q, a' < 2 ^ 1000 → c' ≤ c + 3 → q.bor = [potD a' b c'] → e.rt (.bl true) q) :
    TL_law_are_estimates_right_20 e ⟨[.bo 0, .sh (nat N), .sh (psD P), .sh (.lst ((hs rs).map .int)), s4, .sh (rsD rs), .sh (natD x.1), s7, .sh (.tup ((diffs (tc P rs)).map .int)), .sh (.lst (free.map natD)), s10, s11, s12, .sh (.int x.2), .sh (.tup ((sub2 (diffs (tc P rs)) (diffs (tc P (sortR (rs ++ [x]))))).map .int)), .un, .un, .un, .un, .un, .un, .un, .un, .un, .un, .un, .un, .un, .un, .un, .un, .un, .un, .un], [potD a b c]⟩ := by
  have hN1 := hP.n1
  have hN2 := hP.n2
  have hk := hx.k
  have hm := hx.rvk
  have hsb := sortb_with rs x
  have hsl : (rs.map rdD).length + [DV.tup [natD x.1, .int x.2]].length ≤ sizeLine := by
    rw [List.length_map]
    exact Nat.le_trans (show rs.length + 1 ≤ 11 by omega) (by decide)
  have l1 : (diffs (tc P rs)).length = N := hk.rv.dlen P
  have l2 : (diffs (tc P (sortR (rs ++ [x])))).length = N := hm.rv.dlen P
  have hadd : add2 (diffs (tc P rs)) (sub2 (diffs (tc P rs)) (diffs (tc P (sortR (rs ++ [x]))))) = (diffs (tc P (sortR (rs ++ [x])))) := add_sub2 (by rw [l1, l2])
  have hub := cv_uses_by_hours hP hm
  unfold TL_law_are_estimates_right_20
  refine s_seq (s_set ?_)
  refine EV.use (d := rsD (sortR (rs ++ [x]))) (p' := ⟨[.bo 0, .sh (nat N), .sh (psD P), .sh (.lst ((hs rs).map .int)), s4, .sh (rsD rs), .sh (natD x.1), s7, .sh (.tup ((diffs (tc P rs)).map .int)), .sh (.lst (free.map natD)), s10, s11, s12, .sh (.int x.2), .sh (.tup ((sub2 (diffs (tc P rs)) (diffs (tc P (sortR (rs ++ [x]))))).map .int)), .un, .un, .un, .un, .un, .un, .un, .un, .un, .un, .un, .un, .un, .un, .un, .un, .un, .un, .un], [potD a b c]⟩) (ev_as (d := .tup ((rs.map rdD ++ [DV.tup [natD x.1, .int x.2]]).mergeSort dle)) ?_ (sort_with rs x)) ?_
  · walk_at "ddev"
    all_goals first | exact hsb | exact hsl
  dsimp only [List.length_cons, List.length_nil, Nat.reduceSub, Nat.reduceAdd, List.replicate, List.cons_append, List.nil_append, List.append_nil, Pst.put, List.set_cons_zero, List.set_cons_succ, Pst.upL, Pst.own, List.getElem?_cons_zero, List.getElem?_cons_succ]
  clear hsb hsl
  refine s_seq ?_
  apply s_if
  · walk_at "ddev"
    · refine lv_add (E := fun p => [.bo 0, .sh (nat N), .sh (psD P), .sh (.lst ((hs rs).map .int)), s4, .sh (rsD rs), .sh (natD x.1), s7, .sh (.tup ((diffs (tc P rs)).map .int)), .sh (.lst (free.map natD)), s10, s11, s12, .sh (.int x.2), .sh (.tup ((sub2 (diffs (tc P rs)) (diffs (tc P (sortR (rs ++ [x]))))).map .int)), .sh (rsD (sortR (rs ++ [x]))), .un, .un, .un, .un, .un, .un, .un, .un, .un, .un, .un, .un, .un, .un, .sh (.int p.1), .sh (.int p.2), .un, .un]) (by omega) (fun p => ?_) (fun p => rfl)
      walk_at "ddev"
    · exact plT_ints _
  · intro hq
    exfalso
    rw [deq_tup, hadd] at hq
    simp at hq
  intro _
  refine s_skip ?_
  dsimp only
  clear hub
  refine s_seq (s_set ?_)
  apply EV.use
  · walk_at "ddev"
    refine lv_fil (xs := free) natD natD (fun o => !decide ((o : Int) = (x.1 : Int))) (fun o => [.bo 0, .sh (nat N), .sh (psD P), .sh (.lst ((hs rs).map .int)), s4, .sh (rsD rs), .sh (natD x.1), s7, .sh (.tup ((diffs (tc P rs)).map .int)), .sh (.lst (free.map natD)), s10, s11, s12, .sh (.int x.2), .sh (.tup ((sub2 (diffs (tc P rs)) (diffs (tc P (sortR (rs ++ [x]))))).map .int)), .sh (rsD (sortR (rs ++ [x]))), .un, .un, .un, .un, .un, .un, .un, .un, .un, .un, .un, .un, .sh (natD o), .un, .un, .un, .un, .un]) (fun o => [.bo 0, .sh (nat N), .sh (psD P), .sh (.lst ((hs rs).map .int)), s4, .sh (rsD rs), .sh (natD x.1), s7, .sh (.tup ((diffs (tc P rs)).map .int)), .sh (.lst (free.map natD)), s10, s11, s12, .sh (.int x.2), .sh (.tup ((sub2 (diffs (tc P rs)) (diffs (tc P (sortR (rs ++ [x]))))).map .int)), .sh (rsD (sortR (rs ++ [x]))), .un, .un, .un, .un, .un, .un, .un, .un, .un, .un, .un, .un, .sh (natD o), .un, .un, .un, .un, .un]) (fun o ho => ?_) (fun _ _ => rfl) (fun _ _ => rfl) (Nat.le_trans hlen (by decide)) rfl rfl
    walk_at "ddev"
  dsimp only [List.length_cons, List.length_nil, Nat.reduceSub, Nat.reduceAdd, List.replicate, List.cons_append, List.nil_append, List.append_nil, Pst.put, List.set_cons_zero, List.set_cons_succ, Pst.upL, Pst.own, List.getElem?_cons_zero, List.getElem?_cons_succ]
  obtain ⟨rest, hrest⟩ : ∃ rest, rest = free.filter fun o : Nat => !decide ((o : Int) = (x.1 : Int)) := ⟨_, rfl⟩
  rw [← hrest]
  have hrm : ∀ o ∈ rest, o ∈ free ∧ o ≠ x.1 := fun o ho => by
    rw [hrest] at ho
    have := List.mem_filter.mp ho
    refine ⟨this.1, fun z => ?_⟩
    have h2 := this.2
    rw [z] at h2
    simp at h2
  have hrl : rest.length ≤ 1000 := by rw [hrest]; exact Nat.le_trans (List.length_filter_le _ _) (Nat.le_trans hlen (by decide))
  refine s_seq ?_
  apply s_if
  · walk_at "ddev"
    · exact pl_lnats _
    · exact pl_lnil
  · intro _
    refine s_ret ?_
    apply EV.use
    · exact ev_c
    exact hr a c _ ha (by omega) rfl
  intro hq
  refine s_skip ?_
  dsimp only
  rw [deq_lnil, decide_eq_false_iff_not] at hq
  exact est_D1 hP hx hfew hq hrl (fun o ho => ⟨(hfree o (hrm o ho).1).1, fun r hr z => by
    rcases mem_sortR.mp hr with hr | hr
    · exact (hfree o (hrm o ho).1).2 r hr z
    · subst hr; exact (hrm o ho).2 z.symm⟩) ha hb hc hr
end Dr
set_option maxHeartbeats 0
namespace Dr
open PySem PySem.Spec PyProof.Rows L2 DD M72
-- List.length_cons, List.length_nil, Nat.reduceSub, Nat.reduceAdd, List.replicate, List.cons_append, List.nil_append, List.append_nil, Pst.put, List.set_cons_zero, List.set_cons_succ, Pst.upL, Pst.own, List.getElem?_cons_zero, List.getElem?_cons_succODEF
-- @GUARD
local macro_rules | `(tactic| walk_at "ddcv") => `(tactic| fail)
local macro_rules | `(tactic| walk_at "ddev") => `(tactic| (repeat' (first | with_reducible apply DD.ev_tupLC | (show (_ : Prop); with_reducible assumption) | ((with_reducible apply ev_v) <;> rfl) | ((with_reducible apply ev_vo) <;> rfl) | ((with_reducible apply ev_rd) <;> rfl) | ((with_reducible apply ev_rdo) <;> rfl) | ((with_reducible apply ev_take) <;> rfl) | ((with_reducible apply ev_rdb) <;> rfl) | with_reducible exact ev_c | with_reducible exact av_nil | with_reducible exact pv_none | with_reducible exact ov_add | with_reducible exact ov_sub | with_reducible exact ov_lt | with_reducible exact ov_le | with_reducible exact ov_gt | with_reducible exact ov_ge | with_reducible exact ov_eqi | with_reducible exact ov_nei | with_reducible exact ov_isN | with_reducible exact ov_isntN | with_reducible exact ov_isB | with_reducible exact ov_isntB | with_reducible exact uv_lenL | with_reducible exact uv_lenT | with_reducible exact uv_lenR | with_reducible exact uv_int | with_reducible exact uv_intB | with_reducible exact uv_abs | with_reducible exact uv_tupL | with_reducible exact uv_tupT | with_reducible exact uv_lstL | with_reducible exact uv_lstT | with_reducible exact uv_isi rfl | with_reducible exact nv_min2 | with_reducible exact nv_max2 | with_reducible exact gv_name | with_reducible exact gv_nil | with_reducible exact mv_nil | with_reducible exact ov_addI | ((fail_if_success with_reducible exact DD.pl_non); with_reducible exact plT2) | ((fail_if_success with_reducible exact DD.pl_non); with_reducible exact plL_ints _) | ((fail_if_success with_reducible exact DD.pl_non); with_reducible exact plT_ints _) | ((fail_if_success with_reducible exact DD.pl_non); with_reducible exact pl_int) | ((fail_if_success with_reducible exact DD.pl_non); with_reducible exact pl_part) | ((fail_if_success with_reducible exact DD.pl_non); with_reducible exact pl_money) | ((fail_if_success with_reducible exact DD.pl_non); with_reducible exact pl_same) | ((fail_if_success with_reducible exact DD.pl_non); with_reducible exact pl_two) | ((with_reducible apply iv_zsL) <;> rfl) | ((with_reducible apply iv_zsT) <;> rfl) | ((with_reducible apply iv_zvLL) <;> rfl) | ((with_reducible apply iv_zvTT) <;> rfl) | ((with_reducible apply iv_zvLT) <;> rfl) | ((with_reducible apply iv_zvTL) <;> rfl) | ((with_reducible apply av_stTv); rfl) | ((with_reducible apply av_stLv); rfl) | ((with_reducible apply av_stLo); rfl) | ((with_reducible apply ev_slv); rfl) | ((with_reducible apply ev_ixv); rfl) | ((with_reducible apply ev_ixvo); rfl) | ((with_reducible apply ev_ixvb); rfl; rfl) | ((with_reducible apply iv_itT); (with_reducible apply ev_v); rfl) | ((with_reducible apply iv_itT); (with_reducible apply ev_vo); rfl) | ((with_reducible apply iv_itL); (with_reducible apply ev_v); rfl) | ((with_reducible apply iv_itL); (with_reducible apply ev_vo); rfl) | ((with_reducible apply iv_enumT); (with_reducible apply ev_v); rfl) | ((with_reducible apply iv_enumT); (with_reducible apply ev_vo); rfl) | ((with_reducible apply iv_enumL); (with_reducible apply ev_v); rfl) | ((with_reducible apply iv_enumL); (with_reducible apply ev_vo); rfl) | with_reducible apply ev_bin | with_reducible apply ev_c1 | with_reducible apply ev_cn | with_reducible apply ev_tup | with_reducible apply ev_lst | with_reducible apply ev_andV | with_reducible apply ev_orV | with_reducible apply ev_notV | with_reducible apply ev_chain | with_reducible apply ev_call1 | with_reducible apply ev_call2 | with_reducible apply ev_call3 | with_reducible apply ev_call4 | with_reducible apply ev_lc | with_reducible apply av_cons | with_reducible apply tv_tst | with_reducible apply tv_and | with_reducible apply tv_or | with_reducible apply tv_not | with_reducible apply pv_some | with_reducible apply ov_ixT | with_reducible apply ov_ixL | with_reducible apply ov_ixR | with_reducible apply iv_itT | with_reducible apply iv_itL | with_reducible apply iv_enumT | with_reducible apply iv_enumL | with_reducible apply iv_zipTT | with_reducible apply iv_rng1 | with_reducible apply iv_rng2 | with_reducible apply gv_tup | with_reducible apply gv_cons | with_reducible apply ls_yes | with_reducible apply lf_of | with_reducible apply ov_addT | with_reducible apply ov_fdiv | with_reducible apply ov_mod | with_reducible apply ov_pow | with_reducible apply uv_sum | with_reducible apply uv_sumR | with_reducible apply uv_sumT | with_reducible apply uv_all | with_reducible apply uv_any | with_reducible apply ov_mul | with_reducible apply ov_eq | with_reducible apply ov_ne | with_reducible apply mv_sh | with_reducible apply mv_ow | with_reducible apply ev_mulL | with_reducible apply ev_lrg1 | with_reducible apply ev_neg | with_reducible apply ov_addL | with_reducible apply ov_mulT | with_reducible apply av_starL | with_reducible apply ov_addI | with_reducible apply iv_rng1 | with_reducible apply uv_lsetT | with_reducible apply uv_lsetL | with_reducible apply ov_inL | with_reducible apply ov_ninL | with_reducible apply uv_sortL | with_reducible apply uv_sortT | with_reducible apply ev_ifE  | walk_at "ddcv" | with_reducible exact atI_0 | with_reducible exact atI_1 | with_reducible exact atI_2 | (show (_ : Prop); with_reducible rfl) | ((with_reducible show (_ : DV) = _); dsimp only [Function.comp]; done) | ((with_reducible show (_ : DV) = _); simp only [Function.comp, Int.natCast_add, Int.natCast_mul]; done) | ((with_reducible show (_ : Pst) = _); rfl) | ((with_reducible show List.length _ = _); rfl) | ((with_reducible show List.length _ ≤ sizeLine); simp only [List.length_cons, List.length_nil, Nat.reduceAdd]; decide) | with_reducible intro _ | ((with_reducible apply noown_ok); rfl))))
def TL_law_are_estimates_right_17 : TSd := (t_seq (t_set 13 (t_bin o_add (t_bin o_add (t_v 12) (t_v 10)) (t_c1 o_int (t_callB 2 [] c__law_take 0 (t_cons (t_bin o_add (t_bin o_sub (t_v 11) (t_v 10)) (t_c (.int 1))) t_nil))))) (t_seq (t_set 14 (t_call 3 [] c_put_right (t_cons (t_v 2) (t_cons (t_v 5) (t_cons (t_tup (t_cons (t_v 6) (t_cons (t_v 13) t_nil))) t_nil))))) (t_seq (t_if (t_or (t_tst (t_bin o_ne (t_c1 o_sum (t_rd 14)) (t_c (.int 0)))) (t_or (t_tst (t_bin o_ne (t_c1 o_sum (t_slv 14 t_none (t_some (t_v 6)))) (t_bin o_sub (t_v 13) (t_v 12)))) (t_tst (t_bin o_ne (t_c1 o_len (t_rd 14)) (t_v 1))))) (t_ret (t_c (.bl false))) t_skip) (t_seq (t_set 15 (t_c1 o_tuple (t_c1 o_sortedT (t_bin o_add (t_v 5) (t_tup (t_cons (t_tup (t_cons (t_v 6) (t_cons (t_v 13) t_nil))) t_nil)))))) (t_seq (t_if (t_tst (t_bin o_ne (t_call 2 [] c_uses_by_hours (t_cons (t_v 2) (t_cons (t_v 15) t_nil))) (t_c1 o_tuple (t_lc (t_zip (t_v 8) (t_v 14)) (g_tup 2 (g_cons (g_name 30) (g_cons (g_name 31) g_nil))) t_yes (t_bin o_add (t_v 30) (t_v 31)) [30, 31])))) (t_ret (t_c (.bl false))) t_skip) (t_seq (t_set 16 (t_lc (t_it (t_v 9)) (g_name 28) (t_tst (t_bin o_ne (t_v 28) (t_v 6))) (t_v 28) [28])) (t_seq (t_if (t_tst (t_bin o_eq (t_v 16) (t_lst t_nil))) (t_ret (t_c (.bl true))) t_skip) (t_seq (t_set 17 (t_callB 2 [] c__law_of 0 (t_cons (t_v 16) t_nil))) (t_seq (t_asg (t_call 3 [] c_worst_off (t_cons (t_v 2) (t_cons (t_v 15) (t_cons (t_v 17) t_nil)))) (g_tup 2 (g_cons (g_name 18) (g_cons (g_name 19) g_nil)))) (t_seq (t_set 20 (t_tup (t_cons (t_v 17) (t_cons (t_bin o_add (t_bin o_add (t_call 3 [] c_estimated_at (t_cons (t_v 2) (t_cons (t_v 15) (t_cons (t_v 17) t_nil)))) (t_v 18)) (t_c1 o_int (t_callB 2 [] c__law_take 0 (t_cons (t_bin o_add (t_bin o_sub (t_v 19) (t_v 18)) (t_c (.int 1))) t_nil)))) t_nil)))) (t_seq (t_set 21 (t_call 3 [] c_put_right (t_cons (t_v 2) (t_cons (t_v 15) (t_cons (t_v 20) t_nil))))) (t_seq (t_set 22 (t_call 3 [] c_put_right (t_cons (t_v 2) (t_cons (t_v 5) (t_cons (t_v 20) t_nil))))) (t_seq (t_set 23 (t_call 3 [] c_put_right (t_cons (t_v 2) (t_cons (t_c1 o_tuple (t_c1 o_sortedT (t_bin o_add (t_v 5) (t_tup (t_cons (t_v 20) t_nil))))) (t_cons (t_tup (t_cons (t_v 6) (t_cons (t_v 13) t_nil))) t_nil))))) (t_seq (t_set 24 (t_lc (t_zip (t_v 14) (t_v 21)) (g_tup 2 (g_cons (g_name 28) (g_cons (g_name 32) g_nil))) t_yes (t_bin o_add (t_v 28) (t_v 32)) [28, 32])) (t_seq (t_if (t_tst (t_bin o_ne (t_v 24) (t_lc (t_zip (t_v 22) (t_v 23)) (g_tup 2 (g_cons (g_name 28) (g_cons (g_name 32) g_nil))) t_yes (t_bin o_add (t_v 28) (t_v 32)) [28, 32]))) (t_ret (t_c (.bl false))) t_skip) (t_seq (t_asg (t_call 2 [] c_best_hour (t_cons (t_v 2) (t_cons (t_v 5) t_nil))) (g_tup 2 (g_cons (g_name 25) (g_cons (g_name 26) g_nil)))) (t_seq (t_set 27 (t_lc (t_zip (t_v 3) (t_slv 3 (t_some (t_c (.int 1))) t_none)) (g_tup 2 (g_cons (g_name 28) (g_cons (g_name 33) g_nil))) t_yes (t_bin o_sub (t_v 33) (t_v 28)) [28, 33])) (t_ret (t_andV (t_bin o_le (t_bin o_ix (t_call 2 [] c_best_hour (t_cons (t_v 2) (t_cons (t_v 15) t_nil))) (t_c (.int 0))) (t_c1 o_max (t_rd 27))) (t_andV (t_chain o_le o_le (t_c (.int 1)) (t_v 25) (t_c1 o_max (t_rd 27))) (t_chain o_le o_le (t_c (.int 0)) (t_v 26) (t_v 1))))))))))))))))))))))
theorem ends_at {N : Nat} {P : List Int} {rs ms : List Rd} (hP : Prof N P) (h : RV N rs) (h2 : RV N ms) (hsub : ∀ r ∈ rs, r ∈ ms) : ∃ f l, (tc P rs)[0]? = some f ∧ (tc P rs)[N]? = some l ∧ (tc P ms)[0]? = some f ∧ (tc P ms)[N]? = some l := by
  obtain ⟨f, hf⟩ := h.z
  obtain ⟨l, hl⟩ := h.e
  exact ⟨f, l, h.at hP.nn hf, h.at hP.nn hl, h2.at hP.nn (hsub _ hf), h2.at hP.nn (hsub _ hl)⟩
theorem sub_sums {N : Nat} {P : List Int} {rs ms : List Rd} {t : Nat} {v cc : Int} (hP : Prof N P) (h : RV N rs) (h2 : RV N ms) (hsub : ∀ r ∈ rs, r ∈ ms) (ht : (tc P rs)[t]? = some cc) (hv : (tc P ms)[t]? = some v) :
    (sub2 (diffs (tc P rs)) (diffs (tc P ms))).sum = 0 ∧ ((sub2 (diffs (tc P rs)) (diffs (tc P ms))).take t).sum = v - cc ∧ (sub2 (diffs (tc P rs)) (diffs (tc P ms))).length = N := by
  obtain ⟨f, l, e1, e2, e3, e4⟩ := ends_at hP h h2 hsub
  have l1 := h.dlen P
  have l2 := h2.dlen P
  refine ⟨?_, ?_, ?_⟩
  · rw [sub2_sum (by rw [l1, l2]), diffs_sum (h.len P) e1 e2, diffs_sum (h2.len P) e3 e4]; omega
  · rw [sub2_take, sub2_sum (by rw [List.length_take, List.length_take, l1, l2]), diffs_take _ _ e1 ht, diffs_take _ _ e3 hv]; omega
  · rw [sub2_len (by rw [l1, l2]), l1]
theorem est_C1 {e : ED} {N : Nat} {P : List Int} {rs : List Rd} {h : Nat} {lo hi cc : Int} {free : List Nat} {s4 s7 : Sl} {a b c : Nat} (hP : Prof N P) (hk : RVK N rs) (hhN : h ≤ N) (hhn : ∀ r ∈ rs, r.1 ≠ h) (hB : Bnd rs h lo hi) (hcc : (tc P rs)[h]? = some cc) (hfew : rs.length ≤ 10) (hlen : free.length ≤ 100) (hfree : ∀ o ∈ free, o ≤ N ∧ ∀ r ∈ rs, r.1 ≠ o) (ha : a < 2 ^ 1000) (hb : b < 2 ^ 62) (hc : c ≤ 700000)
    (hr : ∀ a' c' q, a' < 2 ^ 1000 → c' ≤ c + 4 → q.bor = [potD a' b c'] → e.rt (.bl true) q) :
    TL_law_are_estimates_right_17 e ⟨[.bo 0, .sh (nat N), .sh (psD P), .sh (.lst ((hs rs).map .int)), s4, .sh (rsD rs), .sh (natD h), s7, .sh (.tup ((diffs (tc P rs)).map .int)), .sh (.lst (free.map natD)), .sh (.int (lo - cc)), .sh (.int (hi - cc)), .sh (.int cc), .un, .un, .un, .un, .un, .un, .un, .un, .un, .un, .un, .un, .un, .un, .un, .un, .un, .un, .un, .un, .un], [potD a b c]⟩ := by
  have hN1 := hP.n1
  have hN2 := hP.n2
  have hmid := hB.mid hk.rv hP.nn hcc
  have hrng := hB.rng hk.rv
  unfold TL_law_are_estimates_right_17
  obtain ⟨u, hu⟩ : ∃ u : Nat, (u : Int) = hi - lo + 1 := ⟨(hi - lo + 1).toNat, by omega⟩
  refine s_seq (s_set (s_bin ?_))
  apply EV.use
  · walk_at "ddev"
  refine tkI (u := u) ?_ ha hb (by omega) (by omega) (by omega) fun z a2 c2 hz ha2 hc2 => ?_
  · refine ev_as (d := .int (hi - cc - (lo - cc) + 1)) ?_ ?_
    · walk_at "ddev"
    · show DV.int _ = DV.int _
      congr 1
      omega
  refine ov_add _ ?_
  have ev : cc + (lo - cc) + (z : Int) = lo + z := by omega
  rw [ev]
  dsimp only [List.length_cons, List.length_nil, Nat.reduceSub, Nat.reduceAdd, List.replicate, List.cons_append, List.nil_append, List.append_nil, Pst.put, List.set_cons_zero, List.set_cons_succ, Pst.upL, Pst.own, List.getElem?_cons_zero, List.getElem?_cons_succ]
  have hx : More N rs (h, lo + (z : Int)) := ⟨hk, hB.fits hhn (by omega) (by omega), hhN, by show 0 ≤ lo + (z : Int); omega, by show lo + (z : Int) ≤ 10000; omega, by omega⟩
  have hm := hx.rvk
  have q1 : CV c_put_right [.sh (psD P), .sh (rsD rs), .sh (.tup [natD h, .int (lo + (z : Int))])] [] (.tup ((sub2 (diffs (tc P rs)) (diffs (tc P (sortR (rs ++ [(h, lo + (z : Int))]))))).map .int)) [] := cv_put_right hP hx
  have hv : (tc P (sortR (rs ++ [(h, lo + (z : Int))])))[h]? = some (lo + (z : Int)) := hm.rv.at hP.nn (x := (h, lo + (z : Int))) (mem_sortR.mpr (.inr rfl))
  obtain ⟨w1, w2, w3⟩ := sub_sums hP hk.rv hm.rv (fun r hr => mem_sortR.mpr (.inl hr)) hcc hv
  refine s_seq (s_set ?_)
  apply EV.use
  · apply ev_call3
    · walk_at "ddev"
    · exact q1
  clear q1
  dsimp only [List.length_cons, List.length_nil, Nat.reduceSub, Nat.reduceAdd, List.replicate, List.cons_append, List.nil_append, List.append_nil, Pst.put, List.set_cons_zero, List.set_cons_succ, Pst.upL, Pst.own, List.getElem?_cons_zero, List.getElem?_cons_succ]
  have hcut : ∀ R : DV → Prop, R (.tup (((sub2 (diffs (tc P rs)) (diffs (tc P (sortR (rs ++ [(h, lo + (z : Int))]))))).take h).map .int)) → o_sl (.tup ((sub2 (diffs (tc P rs)) (diffs (tc P (sortR (rs ++ [(h, lo + (z : Int))]))))).map .int)) none (some (h : Int)) R := sl_T (by rw [cutD_mapD, cutD_take])
  refine s_seq ?_
  apply s_if
  · walk_at "ddev"
  · intro hq
    exfalso
    rw [w1, w2, List.length_map, w3] at hq
    simp at hq
  intro _
  refine s_skip ?_
  dsimp only
  exact est_C2 hP hx hfew hlen hfree ha2 hb (by omega) fun a' c' q h1 h2 h3 => hr a' c' q h1 (by omega) h3
end Dr
set_option maxHeartbeats 0
namespace Dr
open PySem PySem.Spec PyProof.Rows L2 DD M72
-- List.length_cons, List.length_nil, Nat.reduceSub, Nat.reduceAdd, List.replicate, List.cons_append, List.nil_append, List.append_nil, Pst.put, List.set_cons_zero, List.set_cons_succ, Pst.upL, Pst.own, List.getElem?_cons_zero, List.getElem?_cons_succODEF
-- @GUARD
local macro_rules | `(tactic| walk_at "ddcv") => `(tactic| fail)
local macro_rules | `(tactic| walk_at "ddev") => `(tactic| (repeat' (first | with_reducible apply DD.ev_tupLC | (show (_ : Prop); with_reducible assumption) | ((with_reducible apply ev_v) <;> rfl) | ((with_reducible apply ev_vo) <;> rfl) | ((with_reducible apply ev_rd) <;> rfl) | ((with_reducible apply ev_rdo) <;> rfl) | ((with_reducible apply ev_take) <;> rfl) | ((with_reducible apply ev_rdb) <;> rfl) | with_reducible exact ev_c | with_reducible exact av_nil | with_reducible exact pv_none | with_reducible exact ov_add | with_reducible exact ov_sub | with_reducible exact ov_lt | with_reducible exact ov_le | with_reducible exact ov_gt | with_reducible exact ov_ge | with_reducible exact ov_eqi | with_reducible exact ov_nei | with_reducible exact ov_isN | with_reducible exact ov_isntN | with_reducible exact ov_isB | with_reducible exact ov_isntB | with_reducible exact uv_lenL | with_reducible exact uv_lenT | with_reducible exact uv_lenR | with_reducible exact uv_int | with_reducible exact uv_intB | with_reducible exact uv_abs | with_reducible exact uv_tupL | with_reducible exact uv_tupT | with_reducible exact uv_lstL | with_reducible exact uv_lstT | with_reducible exact uv_isi rfl | with_reducible exact nv_min2 | with_reducible exact nv_max2 | with_reducible exact gv_name | with_reducible exact gv_nil | with_reducible exact mv_nil | with_reducible exact ov_addI | ((fail_if_success with_reducible exact DD.pl_non); with_reducible exact plT2) | ((fail_if_success with_reducible exact DD.pl_non); with_reducible exact plL_ints _) | ((fail_if_success with_reducible exact DD.pl_non); with_reducible exact plT_ints _) | ((fail_if_success with_reducible exact DD.pl_non); with_reducible exact pl_int) | ((fail_if_success with_reducible exact DD.pl_non); with_reducible exact pl_part) | ((fail_if_success with_reducible exact DD.pl_non); with_reducible exact pl_money) | ((fail_if_success with_reducible exact DD.pl_non); with_reducible exact pl_same) | ((fail_if_success with_reducible exact DD.pl_non); with_reducible exact pl_two) | ((with_reducible apply iv_zsL) <;> rfl) | ((with_reducible apply iv_zsT) <;> rfl) | ((with_reducible apply iv_zvLL) <;> rfl) | ((with_reducible apply iv_zvTT) <;> rfl) | ((with_reducible apply iv_zvLT) <;> rfl) | ((with_reducible apply iv_zvTL) <;> rfl) | ((with_reducible apply av_stTv); rfl) | ((with_reducible apply av_stLv); rfl) | ((with_reducible apply av_stLo); rfl) | ((with_reducible apply ev_slv); rfl) | ((with_reducible apply ev_ixv); rfl) | ((with_reducible apply ev_ixvo); rfl) | ((with_reducible apply ev_ixvb); rfl; rfl) | ((with_reducible apply iv_itT); (with_reducible apply ev_v); rfl) | ((with_reducible apply iv_itT); (with_reducible apply ev_vo); rfl) | ((with_reducible apply iv_itL); (with_reducible apply ev_v); rfl) | ((with_reducible apply iv_itL); (with_reducible apply ev_vo); rfl) | ((with_reducible apply iv_enumT); (with_reducible apply ev_v); rfl) | ((with_reducible apply iv_enumT); (with_reducible apply ev_vo); rfl) | ((with_reducible apply iv_enumL); (with_reducible apply ev_v); rfl) | ((with_reducible apply iv_enumL); (with_reducible apply ev_vo); rfl) | with_reducible apply ev_bin | with_reducible apply ev_c1 | with_reducible apply ev_cn | with_reducible apply ev_tup | with_reducible apply ev_lst | with_reducible apply ev_andV | with_reducible apply ev_orV | with_reducible apply ev_notV | with_reducible apply ev_chain | with_reducible apply ev_call1 | with_reducible apply ev_call2 | with_reducible apply ev_call3 | with_reducible apply ev_call4 | with_reducible apply ev_lc | with_reducible apply av_cons | with_reducible apply tv_tst | with_reducible apply tv_and | with_reducible apply tv_or | with_reducible apply tv_not | with_reducible apply pv_some | with_reducible apply ov_ixT | with_reducible apply ov_ixL | with_reducible apply ov_ixR | with_reducible apply iv_itT | with_reducible apply iv_itL | with_reducible apply iv_enumT | with_reducible apply iv_enumL | with_reducible apply iv_zipTT | with_reducible apply iv_rng1 | with_reducible apply iv_rng2 | with_reducible apply gv_tup | with_reducible apply gv_cons | with_reducible apply ls_yes | with_reducible apply lf_of | with_reducible apply ov_addT | with_reducible apply ov_fdiv | with_reducible apply ov_mod | with_reducible apply ov_pow | with_reducible apply uv_sum | with_reducible apply uv_sumR | with_reducible apply uv_sumT | with_reducible apply uv_all | with_reducible apply uv_any | with_reducible apply ov_mul | with_reducible apply ov_eq | with_reducible apply ov_ne | with_reducible apply mv_sh | with_reducible apply mv_ow | with_reducible apply ev_mulL | with_reducible apply ev_lrg1 | with_reducible apply ev_neg | with_reducible apply ov_addL | with_reducible apply ov_mulT | with_reducible apply av_starL | with_reducible apply ov_addI | with_reducible apply iv_rng1 | with_reducible apply uv_lsetT | with_reducible apply uv_lsetL | with_reducible apply ov_inL | with_reducible apply ov_ninL | with_reducible apply uv_sortL | with_reducible apply uv_sortT | with_reducible apply ev_ifE  | walk_at "ddcv" | with_reducible exact atI_0 | with_reducible exact atI_1 | with_reducible exact atI_2 | (show (_ : Prop); with_reducible rfl) | ((with_reducible show (_ : DV) = _); dsimp only [Function.comp]; done) | ((with_reducible show (_ : DV) = _); simp only [Function.comp, Int.natCast_add, Int.natCast_mul]; done) | ((with_reducible show (_ : Pst) = _); rfl) | ((with_reducible show List.length _ = _); rfl) | ((with_reducible show List.length _ ≤ sizeLine); simp only [List.length_cons, List.length_nil, Nat.reduceAdd]; decide) | with_reducible intro _ | ((with_reducible apply noown_ok); rfl))))
def TL_law_are_estimates_right_13 : TSd := (t_seq (t_set 6 (t_callB 2 [] c__law_of 0 (t_cons (t_v 9) t_nil))) (t_seq (t_asg (t_call 3 [] c_worst_off (t_cons (t_v 2) (t_cons (t_v 5) (t_cons (t_v 6) t_nil)))) (g_tup 2 (g_cons (g_name 10) (g_cons (g_name 11) g_nil)))) (t_seq (t_set 12 (t_call 3 [] c_estimated_at (t_cons (t_v 2) (t_cons (t_v 5) (t_cons (t_v 6) t_nil))))) (t_seq (t_if (t_or (t_not (t_tst (t_chain o_le o_le (t_v 10) (t_c (.int 0)) (t_v 11)))) (t_or (t_tst (t_bin o_ne (t_v 12) (t_ixv 7 (t_v 6)))) (t_tst (t_bin o_ne (t_call 3 [] c_off_at (t_cons (t_v 2) (t_cons (t_v 5) (t_cons (t_tup (t_cons (t_v 6) (t_cons (t_bin o_add (t_v 12) (t_v 10)) t_nil))) t_nil)))) (t_v 10))))) (t_ret (t_c (.bl false))) t_skip) (t_seq (t_set 13 (t_bin o_add (t_bin o_add (t_v 12) (t_v 10)) (t_c1 o_int (t_callB 2 [] c__law_take 0 (t_cons (t_bin o_add (t_bin o_sub (t_v 11) (t_v 10)) (t_c (.int 1))) t_nil))))) (t_seq (t_set 14 (t_call 3 [] c_put_right (t_cons (t_v 2) (t_cons (t_v 5) (t_cons (t_tup (t_cons (t_v 6) (t_cons (t_v 13) t_nil))) t_nil))))) (t_seq (t_if (t_or (t_tst (t_bin o_ne (t_c1 o_sum (t_rd 14)) (t_c (.int 0)))) (t_or (t_tst (t_bin o_ne (t_c1 o_sum (t_slv 14 t_none (t_some (t_v 6)))) (t_bin o_sub (t_v 13) (t_v 12)))) (t_tst (t_bin o_ne (t_c1 o_len (t_rd 14)) (t_v 1))))) (t_ret (t_c (.bl false))) t_skip) (t_seq (t_set 15 (t_c1 o_tuple (t_c1 o_sortedT (t_bin o_add (t_v 5) (t_tup (t_cons (t_tup (t_cons (t_v 6) (t_cons (t_v 13) t_nil))) t_nil)))))) (t_seq (t_if (t_tst (t_bin o_ne (t_call 2 [] c_uses_by_hours (t_cons (t_v 2) (t_cons (t_v 15) t_nil))) (t_c1 o_tuple (t_lc (t_zip (t_v 8) (t_v 14)) (g_tup 2 (g_cons (g_name 30) (g_cons (g_name 31) g_nil))) t_yes (t_bin o_add (t_v 30) (t_v 31)) [30, 31])))) (t_ret (t_c (.bl false))) t_skip) (t_seq (t_set 16 (t_lc (t_it (t_v 9)) (g_name 28) (t_tst (t_bin o_ne (t_v 28) (t_v 6))) (t_v 28) [28])) (t_seq (t_if (t_tst (t_bin o_eq (t_v 16) (t_lst t_nil))) (t_ret (t_c (.bl true))) t_skip) (t_seq (t_set 17 (t_callB 2 [] c__law_of 0 (t_cons (t_v 16) t_nil))) (t_seq (t_asg (t_call 3 [] c_worst_off (t_cons (t_v 2) (t_cons (t_v 15) (t_cons (t_v 17) t_nil)))) (g_tup 2 (g_cons (g_name 18) (g_cons (g_name 19) g_nil)))) (t_seq (t_set 20 (t_tup (t_cons (t_v 17) (t_cons (t_bin o_add (t_bin o_add (t_call 3 [] c_estimated_at (t_cons (t_v 2) (t_cons (t_v 15) (t_cons (t_v 17) t_nil)))) (t_v 18)) (t_c1 o_int (t_callB 2 [] c__law_take 0 (t_cons (t_bin o_add (t_bin o_sub (t_v 19) (t_v 18)) (t_c (.int 1))) t_nil)))) t_nil)))) (t_seq (t_set 21 (t_call 3 [] c_put_right (t_cons (t_v 2) (t_cons (t_v 15) (t_cons (t_v 20) t_nil))))) (t_seq (t_set 22 (t_call 3 [] c_put_right (t_cons (t_v 2) (t_cons (t_v 5) (t_cons (t_v 20) t_nil))))) (t_seq (t_set 23 (t_call 3 [] c_put_right (t_cons (t_v 2) (t_cons (t_c1 o_tuple (t_c1 o_sortedT (t_bin o_add (t_v 5) (t_tup (t_cons (t_v 20) t_nil))))) (t_cons (t_tup (t_cons (t_v 6) (t_cons (t_v 13) t_nil))) t_nil))))) (t_seq (t_set 24 (t_lc (t_zip (t_v 14) (t_v 21)) (g_tup 2 (g_cons (g_name 28) (g_cons (g_name 32) g_nil))) t_yes (t_bin o_add (t_v 28) (t_v 32)) [28, 32])) (t_seq (t_if (t_tst (t_bin o_ne (t_v 24) (t_lc (t_zip (t_v 22) (t_v 23)) (g_tup 2 (g_cons (g_name 28) (g_cons (g_name 32) g_nil))) t_yes (t_bin o_add (t_v 28) (t_v 32)) [28, 32]))) (t_ret (t_c (.bl false))) t_skip) (t_seq (t_asg (t_call 2 [] c_best_hour (t_cons (t_v 2) (t_cons (t_v 5) t_nil))) (g_tup 2 (g_cons (g_name 25) (g_cons (g_name 26) g_nil)))) (t_seq (t_set 27 (t_lc (t_zip (t_v 3) (t_slv 3 (t_some (t_c (.int 1))) t_none)) (g_tup 2 (g_cons (g_name 28) (g_cons (g_name 33) g_nil))) t_yes (t_bin o_sub (t_v 33) (t_v 28)) [28, 33])) (t_ret (t_andV (t_bin o_le (t_bin o_ix (t_call 2 [] c_best_hour (t_cons (t_v 2) (t_cons (t_v 15) t_nil))) (t_c (.int 0))) (t_c1 o_max (t_rd 27))) (t_andV (t_chain o_le o_le (t_c (.int 1)) (t_v 25) (t_c1 o_max (t_rd 27))) (t_chain o_le o_le (t_c (.int 0)) (t_v 26) (t_v 1))))))))))))))))))))))))))
theorem est_C0 {e : ED} {N : Nat} {P : List Int} {rs : List Rd} {free : List Nat} {s4 s6 : Sl} {a b c : Nat} (hP : Prof N P) (hk : RVK N rs) (hfew : rs.length ≤ 10) (hne : free ≠ []) (hlen : free.length ≤ 100) (hfree : ∀ o ∈ free, o ≤ N ∧ ∀ r ∈ rs, r.1 ≠ o) (ha : a < 2 ^ 1000) (hb : b < 2 ^ 62) (hc : c ≤ 600000)
    (hr : ∀ a' c' q, a' < 2 ^ 1000 → c' ≤ c + 5 → q.bor = [potD a' b c'] → e.rt (.bl true) q) :
    TL_law_are_estimates_right_13 e ⟨[.bo 0, .sh (nat N), .sh (psD P), .sh (.lst ((hs rs).map .int)), s4, .sh (rsD rs), s6, .sh (.tup ((tc P rs).map .int)), .sh (.tup ((diffs (tc P rs)).map .int)), .sh (.lst (free.map natD)), .un, .un, .un, .un, .un, .un, .un, .un, .un, .un, .un, .un, .un, .un, .un, .un, .un, .un, .un, .un, .un, .un, .un, .un], [potD a b c]⟩ := by
  have hN1 := hP.n1
  have hN2 := hP.n2
  unfold TL_law_are_estimates_right_13
  refine s_seq (s_set (s_callB rfl (s_cons ?_)))
  apply EV.use
  · walk_at "ddev"
  refine s_nil (cb_of rfl rfl ?_)
  refine dv_of ha hb (by omega) (by simpa using hne) (by rw [List.length_map]; omega) (.inl rfl) fun d hd a1 c1 ha1 hc1 => ?_
  obtain ⟨h, ho, rfl⟩ := List.mem_map.mp hd
  obtain ⟨hhN, hhn⟩ := hfree h ho
  dsimp only [List.length_cons, List.length_nil, Nat.reduceSub, Nat.reduceAdd, List.replicate, List.cons_append, List.nil_append, List.append_nil, Pst.put, List.set_cons_zero, List.set_cons_succ, Pst.upL, Pst.own, List.getElem?_cons_zero, List.getElem?_cons_succ]
  obtain ⟨cc, hcc, hat⟩ := tc_get (P := P) hk.rv hhN
  rw [Int.sub_zero] at hat
  obtain ⟨lo, hi, hB, hcw⟩ := cv_worst_off hP hk hhN hcc
  have hmid := hB.mid hk.rv hP.nn hcc
  have hrng := hB.rng hk.rv
  have hce := cv_estimated_at hP hk hhN hcc
  have hlo : More N rs (h, lo) := ⟨hk, hB.fits hhn (Int.le_refl _) (by omega), hhN, hrng.1, by show lo ≤ 10000; omega, by omega⟩
  have hco : CV c_off_at [.sh (psD P), .sh (rsD rs), .sh (.tup [natD h, .int (cc + (lo - cc))])] [] (.int (lo - cc)) [] := by
    rw [show cc + (lo - cc) = lo by omega]
    exact cv_off_at hP hlo hcc
  refine s_seq (s_asg ?_)
  apply EV.use
  · walk_at "ddev"
  apply gv_use
  · walk_at "ddev"
  dsimp only [List.length_cons, List.length_nil, Nat.reduceSub, Nat.reduceAdd, List.replicate, List.cons_append, List.nil_append, List.append_nil, Pst.put, List.set_cons_zero, List.set_cons_succ, Pst.upL, Pst.own, List.getElem?_cons_zero, List.getElem?_cons_succ]
  refine s_seq (s_set ?_)
  apply EV.use
  · walk_at "ddev"
  dsimp only [List.length_cons, List.length_nil, Nat.reduceSub, Nat.reduceAdd, List.replicate, List.cons_append, List.nil_append, List.append_nil, Pst.put, List.set_cons_zero, List.set_cons_succ, Pst.upL, Pst.own, List.getElem?_cons_zero, List.getElem?_cons_succ]
  refine s_seq ?_
  apply s_if
  · walk_at "ddev"
  · intro hq
    exfalso
    simp at hq
    omega
  intro _
  refine s_skip ?_
  dsimp only
  exact est_C1 hP hk hhN hhn hB hcc hfew hlen hfree ha1 hb (by omega) fun a' c' q h1 h2 h3 => hr a' c' q h1 (by omega) h3
end Dr
set_option maxHeartbeats 0
namespace Dr
open PySem PySem.Spec PyProof.Rows L2 DD M72
-- List.length_cons, List.length_nil, Nat.reduceSub, Nat.reduceAdd, List.replicate, List.cons_append, List.nil_append, List.append_nil, Pst.put, List.set_cons_zero, List.set_cons_succ, Pst.upL, Pst.own, List.getElem?_cons_zero, List.getElem?_cons_succODEF
-- @GUARD
local macro_rules | `(tactic| walk_at "ddcv") => `(tactic| fail)
local macro_rules | `(tactic| walk_at "ddev") => `(tactic| (repeat' (first | with_reducible apply DD.ev_tupLC | (show (_ : Prop); with_reducible assumption) | ((with_reducible apply ev_v) <;> rfl) | ((with_reducible apply ev_vo) <;> rfl) | ((with_reducible apply ev_rd) <;> rfl) | ((with_reducible apply ev_rdo) <;> rfl) | ((with_reducible apply ev_take) <;> rfl) | ((with_reducible apply ev_rdb) <;> rfl) | with_reducible exact ev_c | with_reducible exact av_nil | with_reducible exact pv_none | with_reducible exact ov_add | with_reducible exact ov_sub | with_reducible exact ov_lt | with_reducible exact ov_le | with_reducible exact ov_gt | with_reducible exact ov_ge | with_reducible exact ov_eqi | with_reducible exact ov_nei | with_reducible exact ov_isN | with_reducible exact ov_isntN | with_reducible exact ov_isB | with_reducible exact ov_isntB | with_reducible exact uv_lenL | with_reducible exact uv_lenT | with_reducible exact uv_lenR | with_reducible exact uv_int | with_reducible exact uv_intB | with_reducible exact uv_abs | with_reducible exact uv_tupL | with_reducible exact uv_tupT | with_reducible exact uv_lstL | with_reducible exact uv_lstT | with_reducible exact uv_isi rfl | with_reducible exact nv_min2 | with_reducible exact nv_max2 | with_reducible exact gv_name | with_reducible exact gv_nil | with_reducible exact mv_nil | with_reducible exact ov_addI | ((fail_if_success with_reducible exact DD.pl_non); with_reducible exact plT2) | ((fail_if_success with_reducible exact DD.pl_non); with_reducible exact plL_ints _) | ((fail_if_success with_reducible exact DD.pl_non); with_reducible exact plT_ints _) | ((fail_if_success with_reducible exact DD.pl_non); with_reducible exact pl_int) | ((fail_if_success with_reducible exact DD.pl_non); with_reducible exact pl_part) | ((fail_if_success with_reducible exact DD.pl_non); with_reducible exact pl_money) | ((fail_if_success with_reducible exact DD.pl_non); with_reducible exact pl_same) | ((fail_if_success with_reducible exact DD.pl_non); with_reducible exact pl_two) | ((with_reducible apply iv_zsL) <;> rfl) | ((with_reducible apply iv_zsT) <;> rfl) | ((with_reducible apply iv_zvLL) <;> rfl) | ((with_reducible apply iv_zvTT) <;> rfl) | ((with_reducible apply iv_zvLT) <;> rfl) | ((with_reducible apply iv_zvTL) <;> rfl) | ((with_reducible apply av_stTv); rfl) | ((with_reducible apply av_stLv); rfl) | ((with_reducible apply av_stLo); rfl) | ((with_reducible apply ev_slv); rfl) | ((with_reducible apply ev_ixv); rfl) | ((with_reducible apply ev_ixvo); rfl) | ((with_reducible apply ev_ixvb); rfl; rfl) | ((with_reducible apply iv_itT); (with_reducible apply ev_v); rfl) | ((with_reducible apply iv_itT); (with_reducible apply ev_vo); rfl) | ((with_reducible apply iv_itL); (with_reducible apply ev_v); rfl) | ((with_reducible apply iv_itL); (with_reducible apply ev_vo); rfl) | ((with_reducible apply iv_enumT); (with_reducible apply ev_v); rfl) | ((with_reducible apply iv_enumT); (with_reducible apply ev_vo); rfl) | ((with_reducible apply iv_enumL); (with_reducible apply ev_v); rfl) | ((with_reducible apply iv_enumL); (with_reducible apply ev_vo); rfl) | with_reducible apply ev_bin | with_reducible apply ev_c1 | with_reducible apply ev_cn | with_reducible apply ev_tup | with_reducible apply ev_lst | with_reducible apply ev_andV | with_reducible apply ev_orV | with_reducible apply ev_notV | with_reducible apply ev_chain | with_reducible apply ev_call1 | with_reducible apply ev_call2 | with_reducible apply ev_call3 | with_reducible apply ev_call4 | with_reducible apply ev_lc | with_reducible apply av_cons | with_reducible apply tv_tst | with_reducible apply tv_and | with_reducible apply tv_or | with_reducible apply tv_not | with_reducible apply pv_some | with_reducible apply ov_ixT | with_reducible apply ov_ixL | with_reducible apply ov_ixR | with_reducible apply iv_itT | with_reducible apply iv_itL | with_reducible apply iv_enumT | with_reducible apply iv_enumL | with_reducible apply iv_zipTT | with_reducible apply iv_rng1 | with_reducible apply iv_rng2 | with_reducible apply gv_tup | with_reducible apply gv_cons | with_reducible apply ls_yes | with_reducible apply lf_of | with_reducible apply ov_addT | with_reducible apply ov_fdiv | with_reducible apply ov_mod | with_reducible apply ov_pow | with_reducible apply uv_sum | with_reducible apply uv_sumR | with_reducible apply uv_sumT | with_reducible apply uv_all | with_reducible apply uv_any | with_reducible apply ov_mul | with_reducible apply ov_eq | with_reducible apply ov_ne | with_reducible apply mv_sh | with_reducible apply mv_ow | with_reducible apply ev_mulL | with_reducible apply ev_lrg1 | with_reducible apply ev_neg | with_reducible apply ov_addL | with_reducible apply ov_mulT | with_reducible apply av_starL | with_reducible apply ov_addI | with_reducible apply iv_rng1 | with_reducible apply uv_lsetT | with_reducible apply uv_lsetL | with_reducible apply ov_inL | with_reducible apply ov_ninL | with_reducible apply uv_sortL | with_reducible apply uv_sortT | with_reducible apply ev_ifE  | walk_at "ddcv" | with_reducible exact atI_0 | with_reducible exact atI_1 | with_reducible exact atI_2 | (show (_ : Prop); with_reducible rfl) | ((with_reducible show (_ : DV) = _); dsimp only [Function.comp]; done) | ((with_reducible show (_ : DV) = _); simp only [Function.comp, Int.natCast_add, Int.natCast_mul]; done) | ((with_reducible show (_ : Pst) = _); rfl) | ((with_reducible show List.length _ = _); rfl) | ((with_reducible show List.length _ ≤ sizeLine); simp only [List.length_cons, List.length_nil, Nat.reduceAdd]; decide) | with_reducible intro _ | ((with_reducible apply noown_ok); rfl))))
def TL_law_are_estimates_right_11 : TSd := (t_seq (t_set 9 (t_lc (t_rng1 (t_cons (t_bin o_add (t_v 1) (t_c (.int 1))) t_nil)) (g_name 6) (t_tst (t_bin (o_in true) (t_v 6) (t_v 3))) (t_v 6) [6])) (t_seq (t_if (t_tst (t_bin o_eq (t_v 9) (t_lst t_nil))) (t_ret (t_bin o_eq (t_call 2 [] c_best_hour (t_cons (t_v 2) (t_cons (t_v 5) t_nil))) (t_tup (t_cons (t_c (.int 1)) (t_cons (t_c (.int 0)) t_nil))))) t_skip) (t_seq (t_set 6 (t_callB 2 [] c__law_of 0 (t_cons (t_v 9) t_nil))) (t_seq (t_asg (t_call 3 [] c_worst_off (t_cons (t_v 2) (t_cons (t_v 5) (t_cons (t_v 6) t_nil)))) (g_tup 2 (g_cons (g_name 10) (g_cons (g_name 11) g_nil)))) (t_seq (t_set 12 (t_call 3 [] c_estimated_at (t_cons (t_v 2) (t_cons (t_v 5) (t_cons (t_v 6) t_nil))))) (t_seq (t_if (t_or (t_not (t_tst (t_chain o_le o_le (t_v 10) (t_c (.int 0)) (t_v 11)))) (t_or (t_tst (t_bin o_ne (t_v 12) (t_ixv 7 (t_v 6)))) (t_tst (t_bin o_ne (t_call 3 [] c_off_at (t_cons (t_v 2) (t_cons (t_v 5) (t_cons (t_tup (t_cons (t_v 6) (t_cons (t_bin o_add (t_v 12) (t_v 10)) t_nil))) t_nil)))) (t_v 10))))) (t_ret (t_c (.bl false))) t_skip) (t_seq (t_set 13 (t_bin o_add (t_bin o_add (t_v 12) (t_v 10)) (t_c1 o_int (t_callB 2 [] c__law_take 0 (t_cons (t_bin o_add (t_bin o_sub (t_v 11) (t_v 10)) (t_c (.int 1))) t_nil))))) (t_seq (t_set 14 (t_call 3 [] c_put_right (t_cons (t_v 2) (t_cons (t_v 5) (t_cons (t_tup (t_cons (t_v 6) (t_cons (t_v 13) t_nil))) t_nil))))) (t_seq (t_if (t_or (t_tst (t_bin o_ne (t_c1 o_sum (t_rd 14)) (t_c (.int 0)))) (t_or (t_tst (t_bin o_ne (t_c1 o_sum (t_slv 14 t_none (t_some (t_v 6)))) (t_bin o_sub (t_v 13) (t_v 12)))) (t_tst (t_bin o_ne (t_c1 o_len (t_rd 14)) (t_v 1))))) (t_ret (t_c (.bl false))) t_skip) (t_seq (t_set 15 (t_c1 o_tuple (t_c1 o_sortedT (t_bin o_add (t_v 5) (t_tup (t_cons (t_tup (t_cons (t_v 6) (t_cons (t_v 13) t_nil))) t_nil)))))) (t_seq (t_if (t_tst (t_bin o_ne (t_call 2 [] c_uses_by_hours (t_cons (t_v 2) (t_cons (t_v 15) t_nil))) (t_c1 o_tuple (t_lc (t_zip (t_v 8) (t_v 14)) (g_tup 2 (g_cons (g_name 30) (g_cons (g_name 31) g_nil))) t_yes (t_bin o_add (t_v 30) (t_v 31)) [30, 31])))) (t_ret (t_c (.bl false))) t_skip) (t_seq (t_set 16 (t_lc (t_it (t_v 9)) (g_name 28) (t_tst (t_bin o_ne (t_v 28) (t_v 6))) (t_v 28) [28])) (t_seq (t_if (t_tst (t_bin o_eq (t_v 16) (t_lst t_nil))) (t_ret (t_c (.bl true))) t_skip) (t_seq (t_set 17 (t_callB 2 [] c__law_of 0 (t_cons (t_v 16) t_nil))) (t_seq (t_asg (t_call 3 [] c_worst_off (t_cons (t_v 2) (t_cons (t_v 15) (t_cons (t_v 17) t_nil)))) (g_tup 2 (g_cons (g_name 18) (g_cons (g_name 19) g_nil)))) (t_seq (t_set 20 (t_tup (t_cons (t_v 17) (t_cons (t_bin o_add (t_bin o_add (t_call 3 [] c_estimated_at (t_cons (t_v 2) (t_cons (t_v 15) (t_cons (t_v 17) t_nil)))) (t_v 18)) (t_c1 o_int (t_callB 2 [] c__law_take 0 (t_cons (t_bin o_add (t_bin o_sub (t_v 19) (t_v 18)) (t_c (.int 1))) t_nil)))) t_nil)))) (t_seq (t_set 21 (t_call 3 [] c_put_right (t_cons (t_v 2) (t_cons (t_v 15) (t_cons (t_v 20) t_nil))))) (t_seq (t_set 22 (t_call 3 [] c_put_right (t_cons (t_v 2) (t_cons (t_v 5) (t_cons (t_v 20) t_nil))))) (t_seq (t_set 23 (t_call 3 [] c_put_right (t_cons (t_v 2) (t_cons (t_c1 o_tuple (t_c1 o_sortedT (t_bin o_add (t_v 5) (t_tup (t_cons (t_v 20) t_nil))))) (t_cons (t_tup (t_cons (t_v 6) (t_cons (t_v 13) t_nil))) t_nil))))) (t_seq (t_set 24 (t_lc (t_zip (t_v 14) (t_v 21)) (g_tup 2 (g_cons (g_name 28) (g_cons (g_name 32) g_nil))) t_yes (t_bin o_add (t_v 28) (t_v 32)) [28, 32])) (t_seq (t_if (t_tst (t_bin o_ne (t_v 24) (t_lc (t_zip (t_v 22) (t_v 23)) (g_tup 2 (g_cons (g_name 28) (g_cons (g_name 32) g_nil))) t_yes (t_bin o_add (t_v 28) (t_v 32)) [28, 32]))) (t_ret (t_c (.bl false))) t_skip) (t_seq (t_asg (t_call 2 [] c_best_hour (t_cons (t_v 2) (t_cons (t_v 5) t_nil))) (g_tup 2 (g_cons (g_name 25) (g_cons (g_name 26) g_nil)))) (t_seq (t_set 27 (t_lc (t_zip (t_v 3) (t_slv 3 (t_some (t_c (.int 1))) t_none)) (g_tup 2 (g_cons (g_name 28) (g_cons (g_name 33) g_nil))) t_yes (t_bin o_sub (t_v 33) (t_v 28)) [28, 33])) (t_ret (t_andV (t_bin o_le (t_bin o_ix (t_call 2 [] c_best_hour (t_cons (t_v 2) (t_cons (t_v 15) t_nil))) (t_c (.int 0))) (t_c1 o_max (t_rd 27))) (t_andV (t_chain o_le o_le (t_c (.int 1)) (t_v 25) (t_c1 o_max (t_rd 27))) (t_chain o_le o_le (t_c (.int 0)) (t_v 26) (t_v 1))))))))))))))))))))))))))))
theorem est_B {e : ED} {N : Nat} {P : List Int} {rs : List Rd} {s4 s6 : Sl} {a b c : Nat} (hP : Prof N P) (hk : RVK N rs) (h6 : NoOwn [s6] [0]) (hfew : rs.length ≤ 10) (ha : a < 2 ^ 1000) (hb : b < 2 ^ 62) (hc : c ≤ 600000)
    (hr : ∀ a' c' q, a' < 2 ^ 1000 → c' ≤ c + 5 → q.bor = [potD a' b c'] → e.rt (.bl true) q) :
    TL_law_are_estimates_right_11 e ⟨[.bo 0, .sh (nat N), .sh (psD P), .sh (.lst ((hs rs).map .int)), s4, .sh (rsD rs), s6, .sh (.tup ((tc P rs).map .int)), .sh (.tup ((diffs (tc P rs)).map .int)), .un, .un, .un, .un, .un, .un, .un, .un, .un, .un, .un, .un, .un, .un, .un, .un, .un, .un, .un, .un, .un, .un, .un, .un, .un], [potD a b c]⟩ := by
  have hN1 := hP.n1
  have hN2 := hP.n2
  unfold TL_law_are_estimates_right_11
  refine s_seq (s_set ?_)
  apply EV.use
  · walk_at "ddev"
    · exact ⟨by omega, by omega⟩
    · exact h6
    · refine lv_fil (xs := List.range (N + 1)) natD natD (fun k => !decide ((k : Int) ∈ hs rs)) (fun k => [.bo 0, .sh (nat N), .sh (psD P), .sh (.lst ((hs rs).map .int)), s4, .sh (rsD rs), .sh (natD k), .sh (.tup ((tc P rs).map .int)), .sh (.tup ((diffs (tc P rs)).map .int)), .un, .un, .un, .un, .un, .un, .un, .un, .un, .un, .un, .un, .un, .un, .un, .un, .un, .un, .un, .un, .un, .un, .un, .un, .un]) (fun k => [.bo 0, .sh (nat N), .sh (psD P), .sh (.lst ((hs rs).map .int)), s4, .sh (rsD rs), .sh (natD k), .sh (.tup ((tc P rs).map .int)), .sh (.tup ((diffs (tc P rs)).map .int)), .un, .un, .un, .un, .un, .un, .un, .un, .un, .un, .un, .un, .un, .un, .un, .un, .un, .un, .un, .un, .un, .un, .un, .un, .un]) (fun k hk => ?_) (fun _ _ => rfl) (fun _ _ => rfl) (by rw [List.length_range]; exact Nat.le_trans (show N + 1 ≤ 100 by omega) (by decide)) (by rw [show ((N : Int) + 1).toNat = N + 1 by omega]; exact rangeD_nat _) rfl
      walk_at "ddev"
      rw [dIn_ints]
  dsimp only [List.length_cons, List.length_nil, Nat.reduceSub, Nat.reduceAdd, List.replicate, List.cons_append, List.nil_append, List.append_nil, Pst.put, List.set_cons_zero, List.set_cons_succ, Pst.upL, Pst.own, List.getElem?_cons_zero, List.getElem?_cons_succ]
  obtain ⟨free, hfree⟩ : ∃ free, free = (List.range (N + 1)).filter fun k : Nat => !decide ((k : Int) ∈ hs rs) := ⟨_, rfl⟩
  rw [← hfree]
  have hfl : free.length ≤ 100 := by rw [hfree]; exact Nat.le_trans (List.length_filter_le _ _) (by rw [List.length_range]; omega)
  have hfm : ∀ o ∈ free, o ≤ N ∧ ∀ r ∈ rs, r.1 ≠ o := fun o ho => by
    rw [hfree] at ho
    obtain ⟨h1, h2⟩ := List.mem_filter.mp ho
    have h1 := List.mem_range.mp h1
    refine ⟨by omega, fun r hr z => ?_⟩
    have h3 : (o : Int) ∈ hs rs := List.mem_map.mpr ⟨r, hr, by rw [z]⟩
    rw [decide_eq_true h3] at h2
    cases h2
  refine s_seq ?_
  apply s_if
  · walk_at "ddev"
    · exact pl_lnats _
    · exact pl_lnil
  · intro hq
    rw [deq_lnil, decide_eq_true_eq] at hq
    have hall : ∀ k : Nat, k ≤ N → (k : Int) ∈ hs rs := fun k hk => by
      refine Decidable.byContradiction fun z => ?_
      have : k ∈ free := by
        rw [hfree]
        exact List.mem_filter.mpr ⟨List.mem_range.mpr (by omega), by rw [decide_eq_false z]; rfl⟩
      rw [hq] at this
      cases this
    obtain ⟨j, hj, hjm, hcj⟩ := cv_best_hour hP hk
    have g1 := gp_all hk.rv (by omega) hall hj
    have g2 := gp_all hk.rv (by omega) hall (Nat.zero_le N)
    have j0 : j = 0 := by
      have := (hjm 0 (Nat.zero_le _)).2 (by rw [g1, g2])
      omega
    subst j0
    rw [g1] at hcj
    refine s_ret ?_
    apply EV.use
    · walk_at "ddev"
    have e5 : deq (.tup [.int 1, .int ((0 : Nat) : Int)]) (.tup [.int 1, .int 0]) = true := by simp
    rw [e5]
    exact hr a c _ ha (by omega) rfl
  intro hq
  refine s_skip ?_
  dsimp only
  rw [deq_lnil, decide_eq_false_iff_not] at hq
  exact est_C0 hP hk hfew hq hfl hfm ha hb hc hr
end Dr
set_option maxHeartbeats 0
namespace Dr
open PySem PySem.Spec PyProof.Rows L2 DD M72
-- List.length_cons, List.length_nil, Nat.reduceSub, Nat.reduceAdd, List.replicate, List.cons_append, List.nil_append, List.append_nil, Pst.put, List.set_cons_zero, List.set_cons_succ, Pst.upL, Pst.own, List.getElem?_cons_zero, List.getElem?_cons_succODEF
-- @GUARD
local macro_rules | `(tactic| walk_at "ddcv") => `(tactic| fail)
local macro_rules | `(tactic| walk_at "ddev") => `(tactic| (repeat' (first | with_reducible apply DD.ev_tupLC | (show (_ : Prop); with_reducible assumption) | ((with_reducible apply ev_v) <;> rfl) | ((with_reducible apply ev_vo) <;> rfl) | ((with_reducible apply ev_rd) <;> rfl) | ((with_reducible apply ev_rdo) <;> rfl) | ((with_reducible apply ev_take) <;> rfl) | ((with_reducible apply ev_rdb) <;> rfl) | with_reducible exact ev_c | with_reducible exact av_nil | with_reducible exact pv_none | with_reducible exact ov_add | with_reducible exact ov_sub | with_reducible exact ov_lt | with_reducible exact ov_le | with_reducible exact ov_gt | with_reducible exact ov_ge | with_reducible exact ov_eqi | with_reducible exact ov_nei | with_reducible exact ov_isN | with_reducible exact ov_isntN | with_reducible exact ov_isB | with_reducible exact ov_isntB | with_reducible exact uv_lenL | with_reducible exact uv_lenT | with_reducible exact uv_lenR | with_reducible exact uv_int | with_reducible exact uv_intB | with_reducible exact uv_abs | with_reducible exact uv_tupL | with_reducible exact uv_tupT | with_reducible exact uv_lstL | with_reducible exact uv_lstT | with_reducible exact uv_isi rfl | with_reducible exact nv_min2 | with_reducible exact nv_max2 | with_reducible exact gv_name | with_reducible exact gv_nil | with_reducible exact mv_nil | with_reducible exact ov_addI | ((fail_if_success with_reducible exact DD.pl_non); with_reducible exact plT2) | ((fail_if_success with_reducible exact DD.pl_non); with_reducible exact plL_ints _) | ((fail_if_success with_reducible exact DD.pl_non); with_reducible exact plT_ints _) | ((fail_if_success with_reducible exact DD.pl_non); with_reducible exact pl_int) | ((fail_if_success with_reducible exact DD.pl_non); with_reducible exact pl_part) | ((fail_if_success with_reducible exact DD.pl_non); with_reducible exact pl_money) | ((fail_if_success with_reducible exact DD.pl_non); with_reducible exact pl_same) | ((fail_if_success with_reducible exact DD.pl_non); with_reducible exact pl_two) | ((with_reducible apply iv_zsL) <;> rfl) | ((with_reducible apply iv_zsT) <;> rfl) | ((with_reducible apply iv_zvLL) <;> rfl) | ((with_reducible apply iv_zvTT) <;> rfl) | ((with_reducible apply iv_zvLT) <;> rfl) | ((with_reducible apply iv_zvTL) <;> rfl) | ((with_reducible apply av_stTv); rfl) | ((with_reducible apply av_stLv); rfl) | ((with_reducible apply av_stLo); rfl) | ((with_reducible apply ev_slv); rfl) | ((with_reducible apply ev_ixv); rfl) | ((with_reducible apply ev_ixvo); rfl) | ((with_reducible apply ev_ixvb); rfl; rfl) | ((with_reducible apply iv_itT); (with_reducible apply ev_v); rfl) | ((with_reducible apply iv_itT); (with_reducible apply ev_vo); rfl) | ((with_reducible apply iv_itL); (with_reducible apply ev_v); rfl) | ((with_reducible apply iv_itL); (with_reducible apply ev_vo); rfl) | ((with_reducible apply iv_enumT); (with_reducible apply ev_v); rfl) | ((with_reducible apply iv_enumT); (with_reducible apply ev_vo); rfl) | ((with_reducible apply iv_enumL); (with_reducible apply ev_v); rfl) | ((with_reducible apply iv_enumL); (with_reducible apply ev_vo); rfl) | with_reducible apply ev_bin | with_reducible apply ev_c1 | with_reducible apply ev_cn | with_reducible apply ev_tup | with_reducible apply ev_lst | with_reducible apply ev_andV | with_reducible apply ev_orV | with_reducible apply ev_notV | with_reducible apply ev_chain | with_reducible apply ev_call1 | with_reducible apply ev_call2 | with_reducible apply ev_call3 | with_reducible apply ev_call4 | with_reducible apply ev_lc | with_reducible apply av_cons | with_reducible apply tv_tst | with_reducible apply tv_and | with_reducible apply tv_or | with_reducible apply tv_not | with_reducible apply pv_some | with_reducible apply ov_ixT | with_reducible apply ov_ixL | with_reducible apply ov_ixR | with_reducible apply iv_itT | with_reducible apply iv_itL | with_reducible apply iv_enumT | with_reducible apply iv_enumL | with_reducible apply iv_zipTT | with_reducible apply iv_rng1 | with_reducible apply iv_rng2 | with_reducible apply gv_tup | with_reducible apply gv_cons | with_reducible apply ls_yes | with_reducible apply lf_of | with_reducible apply ov_addT | with_reducible apply ov_fdiv | with_reducible apply ov_mod | with_reducible apply ov_pow | with_reducible apply uv_sum | with_reducible apply uv_sumR | with_reducible apply uv_sumT | with_reducible apply uv_all | with_reducible apply uv_any | with_reducible apply ov_mul | with_reducible apply ov_eq | with_reducible apply ov_ne | with_reducible apply mv_sh | with_reducible apply mv_ow | with_reducible apply ev_mulL | with_reducible apply ev_lrg1 | with_reducible apply ev_neg | with_reducible apply ov_addL | with_reducible apply ov_mulT | with_reducible apply av_starL | with_reducible apply ov_addI | with_reducible apply iv_rng1 | with_reducible apply uv_lsetT | with_reducible apply uv_lsetL | with_reducible apply ov_inL | with_reducible apply ov_ninL | with_reducible apply uv_sortL | with_reducible apply uv_sortT | with_reducible apply ev_ifE  | walk_at "ddcv" | with_reducible exact atI_0 | with_reducible exact atI_1 | with_reducible exact atI_2 | (show (_ : Prop); with_reducible rfl) | ((with_reducible show (_ : DV) = _); dsimp only [Function.comp]; done) | ((with_reducible show (_ : DV) = _); simp only [Function.comp, Int.natCast_add, Int.natCast_mul]; done) | ((with_reducible show (_ : Pst) = _); rfl) | ((with_reducible show List.length _ = _); rfl) | ((with_reducible show List.length _ ≤ sizeLine); simp only [List.length_cons, List.length_nil, Nat.reduceAdd]; decide) | with_reducible intro _ | ((with_reducible apply noown_ok); rfl))))
def TL_law_are_estimates_right_8 : TSd := (t_seq (t_if (t_or (t_tst (t_bin o_ne (t_c1 o_sum (t_rd 8)) (t_bin o_sub (t_bin o_ix (t_ixv 5 (t_neg (t_c (.int 1)))) (t_c (.int 1))) (t_bin o_ix (t_ixv 5 (t_c (.int 0))) (t_c (.int 1)))))) (t_or (t_tst (t_bin o_lt (t_c1 o_min (t_rd 8)) (t_c (.int 0)))) (t_tst (t_bin o_ne (t_c1 o_len (t_rd 8)) (t_v 1))))) (t_ret (t_c (.bl false))) t_skip) (t_seq (t_if (t_tst (t_bin o_ne (t_call 2 [] c_estimated (t_cons (t_c1 o_tuple (t_lc (t_it (t_v 2)) (g_name 29) t_yes (t_bin o_mul (t_c (.int 3)) (t_v 29)) [29])) (t_cons (t_v 5) t_nil))) (t_v 7))) (t_ret (t_c (.bl false))) t_skip) (t_seq (t_if (t_tst (t_bin o_ne (t_call 2 [] c_estimated (t_cons (t_bin o_mul (t_tup (t_cons (t_c (.int 7)) t_nil)) (t_v 1)) (t_cons (t_v 5) t_nil))) (t_call 2 [] c_estimated (t_cons (t_bin o_mul (t_tup (t_cons (t_c (.int 0)) t_nil)) (t_v 1)) (t_cons (t_v 5) t_nil))))) (t_ret (t_c (.bl false))) t_skip) (t_seq (t_set 9 (t_lc (t_rng1 (t_cons (t_bin o_add (t_v 1) (t_c (.int 1))) t_nil)) (g_name 6) (t_tst (t_bin (o_in true) (t_v 6) (t_v 3))) (t_v 6) [6])) (t_seq (t_if (t_tst (t_bin o_eq (t_v 9) (t_lst t_nil))) (t_ret (t_bin o_eq (t_call 2 [] c_best_hour (t_cons (t_v 2) (t_cons (t_v 5) t_nil))) (t_tup (t_cons (t_c (.int 1)) (t_cons (t_c (.int 0)) t_nil))))) t_skip) (t_seq (t_set 6 (t_callB 2 [] c__law_of 0 (t_cons (t_v 9) t_nil))) (t_seq (t_asg (t_call 3 [] c_worst_off (t_cons (t_v 2) (t_cons (t_v 5) (t_cons (t_v 6) t_nil)))) (g_tup 2 (g_cons (g_name 10) (g_cons (g_name 11) g_nil)))) (t_seq (t_set 12 (t_call 3 [] c_estimated_at (t_cons (t_v 2) (t_cons (t_v 5) (t_cons (t_v 6) t_nil))))) (t_seq (t_if (t_or (t_not (t_tst (t_chain o_le o_le (t_v 10) (t_c (.int 0)) (t_v 11)))) (t_or (t_tst (t_bin o_ne (t_v 12) (t_ixv 7 (t_v 6)))) (t_tst (t_bin o_ne (t_call 3 [] c_off_at (t_cons (t_v 2) (t_cons (t_v 5) (t_cons (t_tup (t_cons (t_v 6) (t_cons (t_bin o_add (t_v 12) (t_v 10)) t_nil))) t_nil)))) (t_v 10))))) (t_ret (t_c (.bl false))) t_skip) (t_seq (t_set 13 (t_bin o_add (t_bin o_add (t_v 12) (t_v 10)) (t_c1 o_int (t_callB 2 [] c__law_take 0 (t_cons (t_bin o_add (t_bin o_sub (t_v 11) (t_v 10)) (t_c (.int 1))) t_nil))))) (t_seq (t_set 14 (t_call 3 [] c_put_right (t_cons (t_v 2) (t_cons (t_v 5) (t_cons (t_tup (t_cons (t_v 6) (t_cons (t_v 13) t_nil))) t_nil))))) (t_seq (t_if (t_or (t_tst (t_bin o_ne (t_c1 o_sum (t_rd 14)) (t_c (.int 0)))) (t_or (t_tst (t_bin o_ne (t_c1 o_sum (t_slv 14 t_none (t_some (t_v 6)))) (t_bin o_sub (t_v 13) (t_v 12)))) (t_tst (t_bin o_ne (t_c1 o_len (t_rd 14)) (t_v 1))))) (t_ret (t_c (.bl false))) t_skip) (t_seq (t_set 15 (t_c1 o_tuple (t_c1 o_sortedT (t_bin o_add (t_v 5) (t_tup (t_cons (t_tup (t_cons (t_v 6) (t_cons (t_v 13) t_nil))) t_nil)))))) (t_seq (t_if (t_tst (t_bin o_ne (t_call 2 [] c_uses_by_hours (t_cons (t_v 2) (t_cons (t_v 15) t_nil))) (t_c1 o_tuple (t_lc (t_zip (t_v 8) (t_v 14)) (g_tup 2 (g_cons (g_name 30) (g_cons (g_name 31) g_nil))) t_yes (t_bin o_add (t_v 30) (t_v 31)) [30, 31])))) (t_ret (t_c (.bl false))) t_skip) (t_seq (t_set 16 (t_lc (t_it (t_v 9)) (g_name 28) (t_tst (t_bin o_ne (t_v 28) (t_v 6))) (t_v 28) [28])) (t_seq (t_if (t_tst (t_bin o_eq (t_v 16) (t_lst t_nil))) (t_ret (t_c (.bl true))) t_skip) (t_seq (t_set 17 (t_callB 2 [] c__law_of 0 (t_cons (t_v 16) t_nil))) (t_seq (t_asg (t_call 3 [] c_worst_off (t_cons (t_v 2) (t_cons (t_v 15) (t_cons (t_v 17) t_nil)))) (g_tup 2 (g_cons (g_name 18) (g_cons (g_name 19) g_nil)))) (t_seq (t_set 20 (t_tup (t_cons (t_v 17) (t_cons (t_bin o_add (t_bin o_add (t_call 3 [] c_estimated_at (t_cons (t_v 2) (t_cons (t_v 15) (t_cons (t_v 17) t_nil)))) (t_v 18)) (t_c1 o_int (t_callB 2 [] c__law_take 0 (t_cons (t_bin o_add (t_bin o_sub (t_v 19) (t_v 18)) (t_c (.int 1))) t_nil)))) t_nil)))) (t_seq (t_set 21 (t_call 3 [] c_put_right (t_cons (t_v 2) (t_cons (t_v 15) (t_cons (t_v 20) t_nil))))) (t_seq (t_set 22 (t_call 3 [] c_put_right (t_cons (t_v 2) (t_cons (t_v 5) (t_cons (t_v 20) t_nil))))) (t_seq (t_set 23 (t_call 3 [] c_put_right (t_cons (t_v 2) (t_cons (t_c1 o_tuple (t_c1 o_sortedT (t_bin o_add (t_v 5) (t_tup (t_cons (t_v 20) t_nil))))) (t_cons (t_tup (t_cons (t_v 6) (t_cons (t_v 13) t_nil))) t_nil))))) (t_seq (t_set 24 (t_lc (t_zip (t_v 14) (t_v 21)) (g_tup 2 (g_cons (g_name 28) (g_cons (g_name 32) g_nil))) t_yes (t_bin o_add (t_v 28) (t_v 32)) [28, 32])) (t_seq (t_if (t_tst (t_bin o_ne (t_v 24) (t_lc (t_zip (t_v 22) (t_v 23)) (g_tup 2 (g_cons (g_name 28) (g_cons (g_name 32) g_nil))) t_yes (t_bin o_add (t_v 28) (t_v 32)) [28, 32]))) (t_ret (t_c (.bl false))) t_skip) (t_seq (t_asg (t_call 2 [] c_best_hour (t_cons (t_v 2) (t_cons (t_v 5) t_nil))) (g_tup 2 (g_cons (g_name 25) (g_cons (g_name 26) g_nil)))) (t_seq (t_set 27 (t_lc (t_zip (t_v 3) (t_slv 3 (t_some (t_c (.int 1))) t_none)) (g_tup 2 (g_cons (g_name 28) (g_cons (g_name 33) g_nil))) t_yes (t_bin o_sub (t_v 33) (t_v 28)) [28, 33])) (t_ret (t_andV (t_bin o_le (t_bin o_ix (t_call 2 [] c_best_hour (t_cons (t_v 2) (t_cons (t_v 15) t_nil))) (t_c (.int 0))) (t_c1 o_max (t_rd 27))) (t_andV (t_chain o_le o_le (t_c (.int 1)) (t_v 25) (t_c1 o_max (t_rd 27))) (t_chain o_le o_le (t_c (.int 0)) (t_v 26) (t_v 1)))))))))))))))))))))))))))))))
theorem flat_rep (n : Nat) (k : Int) : (List.replicate n [DV.int k]).flatten = (List.replicate n k).map DV.int := by
  induction n with
  | zero => rfl
  | succ n ih => rw [List.replicate_succ, List.flatten_cons, ih]; rfl
theorem uv_minI {l : List Int} {m : Int} (hm : m ∈ l) (hle : ∀ y ∈ l, m ≤ y) : UV o_min (.tup (l.map .int)) (.int m) := fun R q => by
  refine ⟨fun z => ?_, cmpb_ints l, fun d hd hmin => ?_⟩
  · rw [List.map_eq_nil_iff] at z; subst z; cases hm
  · obtain ⟨y, hy, rfl⟩ := List.mem_map.mp hd
    have h1 := hmin (.int m) (List.mem_map.mpr ⟨m, hm, rfl⟩)
    have h2 := hle y hy
    have h3 : dle (.int y) (.int m) = true := by
      unfold dle
      rw [h1]; rfl
    rw [dle_ints, decide_eq_true_eq] at h3
    have : y = m := by omega
    subst this
    exact q
theorem ex_least : ∀ {l : List Int}, l ≠ [] → ∃ m ∈ l, ∀ y ∈ l, m ≤ y
  | [x], _ => ⟨x, by simp, by simp⟩
  | x :: y :: l, _ => by
    obtain ⟨m, hm, h⟩ := ex_least (l := y :: l) (by simp)
    rcases Int.le_total x m with z | z
    · exact ⟨x, by simp, fun k hk => by
        rcases List.mem_cons.mp hk with rfl | hk
        · omega
        · have := h k hk; omega⟩
    · exact ⟨m, List.mem_cons_of_mem _ hm, fun k hk => by
        rcases List.mem_cons.mp hk with rfl | hk
        · omega
        · exact h k hk⟩
theorem ends_rd {N : Nat} {rs : List Rd} (h : RV N rs) : ∃ f l, (0, f) ∈ rs ∧ (N, l) ∈ rs ∧ atI (rs.map rdD) 0 = some (.tup [.int 0, .int f]) ∧ atI (rs.map rdD) (-1) = some (.tup [.int N, .int l]) := by
  have hne := h.ne
  have hl := h.last hne
  obtain ⟨r, t, rfl, h0⟩ := h.cons
  refine ⟨r.2, ((r :: t).getLast hne).2, ?_, ?_, ?_, ?_⟩
  · have : r = (0, r.2) := Prod.ext h0 rfl
    rw [← this]; simp
  · have : (r :: t).getLast hne = (N, ((r :: t).getLast hne).2) := Prod.ext hl rfl
    rw [← this]; exact List.getLast_mem hne
  · rw [List.map_cons, atI_0]
    unfold rdD
    rw [h0]; rfl
  · refine atI_last ?_
    rw [List.getLast?_map, List.getLast?_eq_some_getLast hne]
    show some (rdD _) = _
    unfold rdD
    rw [hl]
theorem est_A3 {e : ED} {N : Nat} {P : List Int} {rs : List Rd} {s4 s6 : Sl} {a b c : Nat} (hP : Prof N P) (hPw : ∀ w ∈ P, w ≤ 50) (hk : RVK N rs) (h6 : NoOwn [s6] [0]) (hfew : rs.length ≤ 10) (ha : a < 2 ^ 1000) (hb : b < 2 ^ 62) (hc : c ≤ 600000)
    (hr : ∀ a' c' q, a' < 2 ^ 1000 → c' ≤ c + 5 → q.bor = [potD a' b c'] → e.rt (.bl true) q) :
    TL_law_are_estimates_right_8 e ⟨[.bo 0, .sh (nat N), .sh (psD P), .sh (.lst ((hs rs).map .int)), s4, .sh (rsD rs), s6, .sh (.tup ((tc P rs).map .int)), .sh (.tup ((diffs (tc P rs)).map .int)), .un, .un, .un, .un, .un, .un, .un, .un, .un, .un, .un, .un, .un, .un, .un, .un, .un, .un, .un, .un, .un, .un, .un, .un, .un], [potD a b c]⟩ := by
  have hN1 := hP.n1
  have hN2 := hP.n2
  have hl1 := hk.rv.dlen P
  obtain ⟨f, l, hf, hl, haf, hal⟩ := ends_rd hk.rv
  have hsum := diffs_sum (hk.rv.len P) (hk.rv.at hP.nn hf) (hk.rv.at hP.nn hl)
  obtain ⟨m, hm, hml⟩ := ex_least (l := (diffs (tc P rs))) (fun z => by rw [z] at hl1; simp at hl1; omega)
  have hm0 := diffs_nn (hk.rv.sorted hP.nn) m hm
  have hmin := uv_minI hm hml
  have p3 : Prof N (P.map (3 * ·)) := ⟨by rw [List.length_map]; exact hP.len, hN1, hN2, fun w hw => by
    obtain ⟨v, hv, rfl⟩ := List.mem_map.mp hw
    have h1 := (hP.ok v hv).1
    have h2 := hPw v hv
    omega⟩
  have c3 : CV c_estimated [.sh (.tup (P.map fun w => DV.int (3 * w))), .sh (rsD rs)] [] (.tup ((tc P rs).map .int)) [] := by
    have := cv_estimated p3 hk
    rw [tc_3 (by decide)] at this
    unfold psD at this
    rw [List.map_map] at this
    exact this
  have hPz : P.length ≤ sizeLine := by rw [hP.len]; exact Nat.le_trans hN2 (by decide)
  clear hml hm p3
  unfold TL_law_are_estimates_right_8
  refine s_seq ?_
  apply s_if
  · walk_at "ddev"
  · intro hq
    exfalso
    rw [hsum, List.length_map, hl1] at hq
    simp at hq
    omega
  intro _
  refine s_skip ?_
  dsimp only
  clear hmin hsum
  refine s_seq ?_
  apply s_if
  · walk_at "ddev"
    · refine lv_map (xs := P) .int (fun w => DV.int (3 * w)) (fun w => [.bo 0, .sh (nat N), .sh (psD P), .sh (.lst ((hs rs).map .int)), s4, .sh (rsD rs), s6, .sh (.tup ((tc P rs).map .int)), .sh (.tup ((diffs (tc P rs)).map .int)), .un, .un, .un, .un, .un, .un, .un, .un, .un, .un, .un, .un, .un, .un, .un, .un, .un, .un, .un, .un, .sh (.int w), .un, .un, .un, .un]) (fun w hw => ?_) (fun _ _ => rfl) hPz rfl rfl
      have hwb := hP.ok w hw
      walk_at "ddev"
      exact mulx_ok (a := 10) (b := 20) (by decide) (by omega) (by decide)
  · intro hq
    exfalso
    rw [deq_tup] at hq
    simp at hq
  intro _
  refine s_skip ?_
  dsimp only
  clear c3
  have p7 : Prof N (List.replicate N 7) := ⟨List.length_replicate, hN1, hN2, fun w hw => by rw [List.eq_of_mem_replicate hw]; omega⟩
  have p0 : Prof N (List.replicate N 0) := ⟨List.length_replicate, hN1, hN2, fun w hw => by rw [List.eq_of_mem_replicate hw]; omega⟩
  have eN : ((N : Nat) : Int).toNat = N := by omega
  have c7 : CV c_estimated [.sh (.tup (List.replicate ((N : Nat) : Int).toNat [DV.int 7]).flatten), .sh (rsD rs)] [] (.tup ((tc (List.replicate N 0) rs).map .int)) [] := by
    rw [eN, flat_rep, ← tc_flat hk.rv.ok fun r hr => (hk.rv.le r hr).1]
    exact cv_estimated p7 hk
  have c0 : CV c_estimated [.sh (.tup (List.replicate ((N : Nat) : Int).toNat [DV.int 0]).flatten), .sh (rsD rs)] [] (.tup ((tc (List.replicate N 0) rs).map .int)) [] := by
    rw [eN, flat_rep]
    exact cv_estimated p0 hk
  clear p7 p0
  refine s_seq ?_
  apply s_if
  · walk_at "ddev"
    all_goals first | omega | (show (1 : Nat) ≤ 1000; decide) | simp
  · intro hq
    exfalso
    rw [deq_tup] at hq
    simp at hq
  intro _
  refine s_skip ?_
  dsimp only
  exact est_B hP hk h6 hfew ha hb hc hr
end Dr
set_option maxHeartbeats 0
namespace Dr
open PySem PySem.Spec PyProof.Rows L2 DD M72
-- List.length_cons, List.length_nil, Nat.reduceSub, Nat.reduceAdd, List.replicate, List.cons_append, List.nil_append, List.append_nil, Pst.put, List.set_cons_zero, List.set_cons_succ, Pst.upL, Pst.own, List.getElem?_cons_zero, List.getElem?_cons_succODEF
-- @GUARD
local macro_rules | `(tactic| walk_at "ddcv") => `(tactic| fail)
local macro_rules | `(tactic| walk_at "ddev") => `(tactic| (repeat' (first | with_reducible apply DD.ev_tupLC | (show (_ : Prop); with_reducible assumption) | ((with_reducible apply ev_v) <;> rfl) | ((with_reducible apply ev_vo) <;> rfl) | ((with_reducible apply ev_rd) <;> rfl) | ((with_reducible apply ev_rdo) <;> rfl) | ((with_reducible apply ev_take) <;> rfl) | ((with_reducible apply ev_rdb) <;> rfl) | with_reducible exact ev_c | with_reducible exact av_nil | with_reducible exact pv_none | with_reducible exact ov_add | with_reducible exact ov_sub | with_reducible exact ov_lt | with_reducible exact ov_le | with_reducible exact ov_gt | with_reducible exact ov_ge | with_reducible exact ov_eqi | with_reducible exact ov_nei | with_reducible exact ov_isN | with_reducible exact ov_isntN | with_reducible exact ov_isB | with_reducible exact ov_isntB | with_reducible exact uv_lenL | with_reducible exact uv_lenT | with_reducible exact uv_lenR | with_reducible exact uv_int | with_reducible exact uv_intB | with_reducible exact uv_abs | with_reducible exact uv_tupL | with_reducible exact uv_tupT | with_reducible exact uv_lstL | with_reducible exact uv_lstT | with_reducible exact uv_isi rfl | with_reducible exact nv_min2 | with_reducible exact nv_max2 | with_reducible exact gv_name | with_reducible exact gv_nil | with_reducible exact mv_nil | with_reducible exact ov_addI | ((fail_if_success with_reducible exact DD.pl_non); with_reducible exact plT2) | ((fail_if_success with_reducible exact DD.pl_non); with_reducible exact plL_ints _) | ((fail_if_success with_reducible exact DD.pl_non); with_reducible exact plT_ints _) | ((fail_if_success with_reducible exact DD.pl_non); with_reducible exact pl_int) | ((fail_if_success with_reducible exact DD.pl_non); with_reducible exact pl_part) | ((fail_if_success with_reducible exact DD.pl_non); with_reducible exact pl_money) | ((fail_if_success with_reducible exact DD.pl_non); with_reducible exact pl_same) | ((fail_if_success with_reducible exact DD.pl_non); with_reducible exact pl_two) | ((with_reducible apply iv_zsL) <;> rfl) | ((with_reducible apply iv_zsT) <;> rfl) | ((with_reducible apply iv_zvLL) <;> rfl) | ((with_reducible apply iv_zvTT) <;> rfl) | ((with_reducible apply iv_zvLT) <;> rfl) | ((with_reducible apply iv_zvTL) <;> rfl) | ((with_reducible apply av_stTv); rfl) | ((with_reducible apply av_stLv); rfl) | ((with_reducible apply av_stLo); rfl) | ((with_reducible apply ev_slv); rfl) | ((with_reducible apply ev_ixv); rfl) | ((with_reducible apply ev_ixvo); rfl) | ((with_reducible apply ev_ixvb); rfl; rfl) | ((with_reducible apply iv_itT); (with_reducible apply ev_v); rfl) | ((with_reducible apply iv_itT); (with_reducible apply ev_vo); rfl) | ((with_reducible apply iv_itL); (with_reducible apply ev_v); rfl) | ((with_reducible apply iv_itL); (with_reducible apply ev_vo); rfl) | ((with_reducible apply iv_enumT); (with_reducible apply ev_v); rfl) | ((with_reducible apply iv_enumT); (with_reducible apply ev_vo); rfl) | ((with_reducible apply iv_enumL); (with_reducible apply ev_v); rfl) | ((with_reducible apply iv_enumL); (with_reducible apply ev_vo); rfl) | with_reducible apply ev_bin | with_reducible apply ev_c1 | with_reducible apply ev_cn | with_reducible apply ev_tup | with_reducible apply ev_lst | with_reducible apply ev_andV | with_reducible apply ev_orV | with_reducible apply ev_notV | with_reducible apply ev_chain | with_reducible apply ev_call1 | with_reducible apply ev_call2 | with_reducible apply ev_call3 | with_reducible apply ev_call4 | with_reducible apply ev_lc | with_reducible apply av_cons | with_reducible apply tv_tst | with_reducible apply tv_and | with_reducible apply tv_or | with_reducible apply tv_not | with_reducible apply pv_some | with_reducible apply ov_ixT | with_reducible apply ov_ixL | with_reducible apply ov_ixR | with_reducible apply iv_itT | with_reducible apply iv_itL | with_reducible apply iv_enumT | with_reducible apply iv_enumL | with_reducible apply iv_zipTT | with_reducible apply iv_rng1 | with_reducible apply iv_rng2 | with_reducible apply gv_tup | with_reducible apply gv_cons | with_reducible apply ls_yes | with_reducible apply lf_of | with_reducible apply ov_addT | with_reducible apply ov_fdiv | with_reducible apply ov_mod | with_reducible apply ov_pow | with_reducible apply uv_sum | with_reducible apply uv_sumR | with_reducible apply uv_sumT | with_reducible apply uv_all | with_reducible apply uv_any | with_reducible apply ov_mul | with_reducible apply ov_eq | with_reducible apply ov_ne | with_reducible apply mv_sh | with_reducible apply mv_ow | with_reducible apply ev_mulL | with_reducible apply ev_lrg1 | with_reducible apply ev_neg | with_reducible apply ov_addL | with_reducible apply ov_mulT | with_reducible apply av_starL | with_reducible apply ov_addI | with_reducible apply iv_rng1 | with_reducible apply uv_lsetT | with_reducible apply uv_lsetL | with_reducible apply ov_inL | with_reducible apply ov_ninL | with_reducible apply uv_sortL | with_reducible apply uv_sortT | with_reducible apply ev_ifE  | walk_at "ddcv" | with_reducible exact atI_0 | with_reducible exact atI_1 | with_reducible exact atI_2 | (show (_ : Prop); with_reducible rfl) | ((with_reducible show (_ : DV) = _); dsimp only [Function.comp]; done) | ((with_reducible show (_ : DV) = _); simp only [Function.comp, Int.natCast_add, Int.natCast_mul]; done) | ((with_reducible show (_ : Pst) = _); rfl) | ((with_reducible show List.length _ = _); rfl) | ((with_reducible show List.length _ ≤ sizeLine); simp only [List.length_cons, List.length_nil, Nat.reduceAdd]; decide) | with_reducible intro _ | ((with_reducible apply noown_ok); rfl))))
def TL_law_are_estimates_right_5 : TSd := (t_seq (t_set 5 (t_c1 o_tuple (t_rd 5))) (t_seq (t_par [7, 8] (m_sh (t_call 2 [] c_estimated (t_cons (t_v 2) (t_cons (t_v 5) t_nil))) (m_sh (t_call 2 [] c_uses_by_hours (t_cons (t_v 2) (t_cons (t_v 5) t_nil))) m_nil))) (t_seq (t_if (t_or (t_tst (t_bin o_ne (t_c1 o_list (t_rd 7)) (t_c1 o_sortedT (t_rd 7)))) (t_not (t_tst (t_c1 o_all (t_lc (t_it (t_v 5)) (g_tup 2 (g_cons (g_name 6) (g_cons (g_name 13) g_nil))) t_yes (t_bin o_eq (t_ixv 7 (t_v 6)) (t_v 13)) [6, 13]))))) (t_ret (t_c (.bl false))) t_skip) (t_seq (t_if (t_or (t_tst (t_bin o_ne (t_c1 o_sum (t_rd 8)) (t_bin o_sub (t_bin o_ix (t_ixv 5 (t_neg (t_c (.int 1)))) (t_c (.int 1))) (t_bin o_ix (t_ixv 5 (t_c (.int 0))) (t_c (.int 1)))))) (t_or (t_tst (t_bin o_lt (t_c1 o_min (t_rd 8)) (t_c (.int 0)))) (t_tst (t_bin o_ne (t_c1 o_len (t_rd 8)) (t_v 1))))) (t_ret (t_c (.bl false))) t_skip) (t_seq (t_if (t_tst (t_bin o_ne (t_call 2 [] c_estimated (t_cons (t_c1 o_tuple (t_lc (t_it (t_v 2)) (g_name 29) t_yes (t_bin o_mul (t_c (.int 3)) (t_v 29)) [29])) (t_cons (t_v 5) t_nil))) (t_v 7))) (t_ret (t_c (.bl false))) t_skip) (t_seq (t_if (t_tst (t_bin o_ne (t_call 2 [] c_estimated (t_cons (t_bin o_mul (t_tup (t_cons (t_c (.int 7)) t_nil)) (t_v 1)) (t_cons (t_v 5) t_nil))) (t_call 2 [] c_estimated (t_cons (t_bin o_mul (t_tup (t_cons (t_c (.int 0)) t_nil)) (t_v 1)) (t_cons (t_v 5) t_nil))))) (t_ret (t_c (.bl false))) t_skip) (t_seq (t_set 9 (t_lc (t_rng1 (t_cons (t_bin o_add (t_v 1) (t_c (.int 1))) t_nil)) (g_name 6) (t_tst (t_bin (o_in true) (t_v 6) (t_v 3))) (t_v 6) [6])) (t_seq (t_if (t_tst (t_bin o_eq (t_v 9) (t_lst t_nil))) (t_ret (t_bin o_eq (t_call 2 [] c_best_hour (t_cons (t_v 2) (t_cons (t_v 5) t_nil))) (t_tup (t_cons (t_c (.int 1)) (t_cons (t_c (.int 0)) t_nil))))) t_skip) (t_seq (t_set 6 (t_callB 2 [] c__law_of 0 (t_cons (t_v 9) t_nil))) (t_seq (t_asg (t_call 3 [] c_worst_off (t_cons (t_v 2) (t_cons (t_v 5) (t_cons (t_v 6) t_nil)))) (g_tup 2 (g_cons (g_name 10) (g_cons (g_name 11) g_nil)))) (t_seq (t_set 12 (t_call 3 [] c_estimated_at (t_cons (t_v 2) (t_cons (t_v 5) (t_cons (t_v 6) t_nil))))) (t_seq (t_if (t_or (t_not (t_tst (t_chain o_le o_le (t_v 10) (t_c (.int 0)) (t_v 11)))) (t_or (t_tst (t_bin o_ne (t_v 12) (t_ixv 7 (t_v 6)))) (t_tst (t_bin o_ne (t_call 3 [] c_off_at (t_cons (t_v 2) (t_cons (t_v 5) (t_cons (t_tup (t_cons (t_v 6) (t_cons (t_bin o_add (t_v 12) (t_v 10)) t_nil))) t_nil)))) (t_v 10))))) (t_ret (t_c (.bl false))) t_skip) (t_seq (t_set 13 (t_bin o_add (t_bin o_add (t_v 12) (t_v 10)) (t_c1 o_int (t_callB 2 [] c__law_take 0 (t_cons (t_bin o_add (t_bin o_sub (t_v 11) (t_v 10)) (t_c (.int 1))) t_nil))))) (t_seq (t_set 14 (t_call 3 [] c_put_right (t_cons (t_v 2) (t_cons (t_v 5) (t_cons (t_tup (t_cons (t_v 6) (t_cons (t_v 13) t_nil))) t_nil))))) (t_seq (t_if (t_or (t_tst (t_bin o_ne (t_c1 o_sum (t_rd 14)) (t_c (.int 0)))) (t_or (t_tst (t_bin o_ne (t_c1 o_sum (t_slv 14 t_none (t_some (t_v 6)))) (t_bin o_sub (t_v 13) (t_v 12)))) (t_tst (t_bin o_ne (t_c1 o_len (t_rd 14)) (t_v 1))))) (t_ret (t_c (.bl false))) t_skip) (t_seq (t_set 15 (t_c1 o_tuple (t_c1 o_sortedT (t_bin o_add (t_v 5) (t_tup (t_cons (t_tup (t_cons (t_v 6) (t_cons (t_v 13) t_nil))) t_nil)))))) (t_seq (t_if (t_tst (t_bin o_ne (t_call 2 [] c_uses_by_hours (t_cons (t_v 2) (t_cons (t_v 15) t_nil))) (t_c1 o_tuple (t_lc (t_zip (t_v 8) (t_v 14)) (g_tup 2 (g_cons (g_name 30) (g_cons (g_name 31) g_nil))) t_yes (t_bin o_add (t_v 30) (t_v 31)) [30, 31])))) (t_ret (t_c (.bl false))) t_skip) (t_seq (t_set 16 (t_lc (t_it (t_v 9)) (g_name 28) (t_tst (t_bin o_ne (t_v 28) (t_v 6))) (t_v 28) [28])) (t_seq (t_if (t_tst (t_bin o_eq (t_v 16) (t_lst t_nil))) (t_ret (t_c (.bl true))) t_skip) (t_seq (t_set 17 (t_callB 2 [] c__law_of 0 (t_cons (t_v 16) t_nil))) (t_seq (t_asg (t_call 3 [] c_worst_off (t_cons (t_v 2) (t_cons (t_v 15) (t_cons (t_v 17) t_nil)))) (g_tup 2 (g_cons (g_name 18) (g_cons (g_name 19) g_nil)))) (t_seq (t_set 20 (t_tup (t_cons (t_v 17) (t_cons (t_bin o_add (t_bin o_add (t_call 3 [] c_estimated_at (t_cons (t_v 2) (t_cons (t_v 15) (t_cons (t_v 17) t_nil)))) (t_v 18)) (t_c1 o_int (t_callB 2 [] c__law_take 0 (t_cons (t_bin o_add (t_bin o_sub (t_v 19) (t_v 18)) (t_c (.int 1))) t_nil)))) t_nil)))) (t_seq (t_set 21 (t_call 3 [] c_put_right (t_cons (t_v 2) (t_cons (t_v 15) (t_cons (t_v 20) t_nil))))) (t_seq (t_set 22 (t_call 3 [] c_put_right (t_cons (t_v 2) (t_cons (t_v 5) (t_cons (t_v 20) t_nil))))) (t_seq (t_set 23 (t_call 3 [] c_put_right (t_cons (t_v 2) (t_cons (t_c1 o_tuple (t_c1 o_sortedT (t_bin o_add (t_v 5) (t_tup (t_cons (t_v 20) t_nil))))) (t_cons (t_tup (t_cons (t_v 6) (t_cons (t_v 13) t_nil))) t_nil))))) (t_seq (t_set 24 (t_lc (t_zip (t_v 14) (t_v 21)) (g_tup 2 (g_cons (g_name 28) (g_cons (g_name 32) g_nil))) t_yes (t_bin o_add (t_v 28) (t_v 32)) [28, 32])) (t_seq (t_if (t_tst (t_bin o_ne (t_v 24) (t_lc (t_zip (t_v 22) (t_v 23)) (g_tup 2 (g_cons (g_name 28) (g_cons (g_name 32) g_nil))) t_yes (t_bin o_add (t_v 28) (t_v 32)) [28, 32]))) (t_ret (t_c (.bl false))) t_skip) (t_seq (t_asg (t_call 2 [] c_best_hour (t_cons (t_v 2) (t_cons (t_v 5) t_nil))) (g_tup 2 (g_cons (g_name 25) (g_cons (g_name 26) g_nil)))) (t_seq (t_set 27 (t_lc (t_zip (t_v 3) (t_slv 3 (t_some (t_c (.int 1))) t_none)) (g_tup 2 (g_cons (g_name 28) (g_cons (g_name 33) g_nil))) t_yes (t_bin o_sub (t_v 33) (t_v 28)) [28, 33])) (t_ret (t_andV (t_bin o_le (t_bin o_ix (t_call 2 [] c_best_hour (t_cons (t_v 2) (t_cons (t_v 15) t_nil))) (t_c (.int 0))) (t_c1 o_max (t_rd 27))) (t_andV (t_chain o_le o_le (t_c (.int 1)) (t_v 25) (t_c1 o_max (t_rd 27))) (t_chain o_le o_le (t_c (.int 0)) (t_v 26) (t_v 1))))))))))))))))))))))))))))))))))
local macro_rules | `(tactic| walk_at "ddcv") => `(tactic| (first | ((with_reducible show CV c_estimated _ _ _ _); exact cv_estimated (by assumption) (by assumption)) | ((with_reducible show CV c_uses_by_hours _ _ _ _); exact cv_uses_by_hours (by assumption) (by assumption))))
theorem est_A2 {e : ED} {N : Nat} {P : List Int} {rs : List Rd} {s4 s6 : Sl} {a b c : Nat} (hP : Prof N P) (hPw : ∀ w ∈ P, w ≤ 50) (hk : RVK N rs) (h6 : NoOwn [s6] [0]) (hfew : rs.length ≤ 10) (ha : a < 2 ^ 1000) (hb : b < 2 ^ 62) (hc : c ≤ 600000)
    (hr : ∀ a' c' q, a' < 2 ^ 1000 → c' ≤ c + 5 → q.bor = [potD a' b c'] → e.rt (.bl true) q) :
    TL_law_are_estimates_right_5 e ⟨[.bo 0, .sh (nat N), .sh (psD P), .sh (.lst ((hs rs).map .int)), s4, .ow (.lst (rs.map rdD)), s6, .un, .un, .un, .un, .un, .un, .un, .un, .un, .un, .un, .un, .un, .un, .un, .un, .un, .un, .un, .un, .un, .un, .un, .un, .un, .un, .un], [potD a b c]⟩ := by
  have hso : UV o_sortedT (.tup ((tc P rs).map .int)) (.lst ((tc P rs).map .int)) := uv_sortT (sortb_ints _) (sort_ints (hk.rv.sorted hP.nn))
  unfold TL_law_are_estimates_right_5
  refine s_seq (s_set ?_)
  apply EV.use
  · walk_at "ddev"
  dsimp only [List.length_cons, List.length_nil, Nat.reduceSub, Nat.reduceAdd, List.replicate, List.cons_append, List.nil_append, List.append_nil, Pst.put, List.set_cons_zero, List.set_cons_succ, Pst.upL, Pst.own, List.getElem?_cons_zero, List.getElem?_cons_succ]
  refine s_seq (s_par ?_)
  apply MV.use
  · walk_at "ddev"
  refine ⟨rfl, ?_⟩
  dsimp only [putM, List.length_cons, List.length_nil, Nat.reduceSub, Nat.reduceAdd, List.replicate, List.cons_append, List.nil_append, List.append_nil, Pst.put, List.set_cons_zero, List.set_cons_succ, Pst.upL, Pst.own, List.getElem?_cons_zero, List.getElem?_cons_succ]
  refine s_seq ?_
  apply s_if
  · walk_at "ddev"
    · exact ⟨h6.1, trivial, trivial⟩
    · refine lv_map (xs := rs) rdD (DV.bl ∘ fun _ => true) (fun r => [.bo 0, .sh (nat N), .sh (psD P), .sh (.lst ((hs rs).map .int)), s4, .sh (rsD rs), .sh (natD r.1), .sh (.tup ((tc P rs).map .int)), .sh (.tup ((diffs (tc P rs)).map .int)), .un, .un, .un, .un, .sh (.int r.2), .un, .un, .un, .un, .un, .un, .un, .un, .un, .un, .un, .un, .un, .un, .un, .un, .un, .un, .un, .un]) (fun r hr => ?_) (fun _ _ => rfl) (Nat.le_trans hk.few sz20) rfl List.map_map
      have hat : atI ((tc P rs).map DV.int) (r.1 : Int) = some (.int r.2) := atI_n (n := r.1) (by rw [List.getElem?_map, hk.rv.at hP.nn hr]; rfl) rfl
      walk_at "ddev"
      simp
  · intro hq
    exfalso
    rw [deq_lst] at hq
    simp at hq
  intro _
  refine s_skip ?_
  dsimp only
  exact est_A3 hP hPw hk h6 hfew ha hb hc hr
end Dr
set_option maxHeartbeats 0
namespace Dr
open PySem PySem.Spec PyProof.Rows L2 DD M72
-- List.length_cons, List.length_nil, Nat.reduceSub, Nat.reduceAdd, List.replicate, List.cons_append, List.nil_append, List.append_nil, Pst.put, List.set_cons_zero, List.set_cons_succ, Pst.upL, Pst.own, List.getElem?_cons_zero, List.getElem?_cons_succODEF
-- @GUARD
local macro_rules | `(tactic| walk_at "ddcv") => `(tactic| fail)
local macro_rules | `(tactic| walk_at "ddev") => `(tactic| (repeat' (first | with_reducible apply DD.ev_tupLC | (show (_ : Prop); with_reducible assumption) | ((with_reducible apply ev_v) <;> rfl) | ((with_reducible apply ev_vo) <;> rfl) | ((with_reducible apply ev_rd) <;> rfl) | ((with_reducible apply ev_rdo) <;> rfl) | ((with_reducible apply ev_take) <;> rfl) | ((with_reducible apply ev_rdb) <;> rfl) | with_reducible exact ev_c | with_reducible exact av_nil | with_reducible exact pv_none | with_reducible exact ov_add | with_reducible exact ov_sub | with_reducible exact ov_lt | with_reducible exact ov_le | with_reducible exact ov_gt | with_reducible exact ov_ge | with_reducible exact ov_eqi | with_reducible exact ov_nei | with_reducible exact ov_isN | with_reducible exact ov_isntN | with_reducible exact ov_isB | with_reducible exact ov_isntB | with_reducible exact uv_lenL | with_reducible exact uv_lenT | with_reducible exact uv_lenR | with_reducible exact uv_int | with_reducible exact uv_intB | with_reducible exact uv_abs | with_reducible exact uv_tupL | with_reducible exact uv_tupT | with_reducible exact uv_lstL | with_reducible exact uv_lstT | with_reducible exact uv_isi rfl | with_reducible exact nv_min2 | with_reducible exact nv_max2 | with_reducible exact gv_name | with_reducible exact gv_nil | with_reducible exact mv_nil | with_reducible exact ov_addI | ((fail_if_success with_reducible exact DD.pl_non); with_reducible exact plT2) | ((fail_if_success with_reducible exact DD.pl_non); with_reducible exact plL_ints _) | ((fail_if_success with_reducible exact DD.pl_non); with_reducible exact plT_ints _) | ((fail_if_success with_reducible exact DD.pl_non); with_reducible exact pl_int) | ((fail_if_success with_reducible exact DD.pl_non); with_reducible exact pl_part) | ((fail_if_success with_reducible exact DD.pl_non); with_reducible exact pl_money) | ((fail_if_success with_reducible exact DD.pl_non); with_reducible exact pl_same) | ((fail_if_success with_reducible exact DD.pl_non); with_reducible exact pl_two) | ((with_reducible apply iv_zsL) <;> rfl) | ((with_reducible apply iv_zsT) <;> rfl) | ((with_reducible apply iv_zvLL) <;> rfl) | ((with_reducible apply iv_zvTT) <;> rfl) | ((with_reducible apply iv_zvLT) <;> rfl) | ((with_reducible apply iv_zvTL) <;> rfl) | ((with_reducible apply av_stTv); rfl) | ((with_reducible apply av_stLv); rfl) | ((with_reducible apply av_stLo); rfl) | ((with_reducible apply ev_slv); rfl) | ((with_reducible apply ev_ixv); rfl) | ((with_reducible apply ev_ixvo); rfl) | ((with_reducible apply ev_ixvb); rfl; rfl) | ((with_reducible apply iv_itT); (with_reducible apply ev_v); rfl) | ((with_reducible apply iv_itT); (with_reducible apply ev_vo); rfl) | ((with_reducible apply iv_itL); (with_reducible apply ev_v); rfl) | ((with_reducible apply iv_itL); (with_reducible apply ev_vo); rfl) | ((with_reducible apply iv_enumT); (with_reducible apply ev_v); rfl) | ((with_reducible apply iv_enumT); (with_reducible apply ev_vo); rfl) | ((with_reducible apply iv_enumL); (with_reducible apply ev_v); rfl) | ((with_reducible apply iv_enumL); (with_reducible apply ev_vo); rfl) | with_reducible apply ev_bin | with_reducible apply ev_c1 | with_reducible apply ev_cn | with_reducible apply ev_tup | with_reducible apply ev_lst | with_reducible apply ev_andV | with_reducible apply ev_orV | with_reducible apply ev_notV | with_reducible apply ev_chain | with_reducible apply ev_call1 | with_reducible apply ev_call2 | with_reducible apply ev_call3 | with_reducible apply ev_call4 | with_reducible apply ev_lc | with_reducible apply av_cons | with_reducible apply tv_tst | with_reducible apply tv_and | with_reducible apply tv_or | with_reducible apply tv_not | with_reducible apply pv_some | with_reducible apply ov_ixT | with_reducible apply ov_ixL | with_reducible apply ov_ixR | with_reducible apply iv_itT | with_reducible apply iv_itL | with_reducible apply iv_enumT | with_reducible apply iv_enumL | with_reducible apply iv_zipTT | with_reducible apply iv_rng1 | with_reducible apply iv_rng2 | with_reducible apply gv_tup | with_reducible apply gv_cons | with_reducible apply ls_yes | with_reducible apply lf_of | with_reducible apply ov_addT | with_reducible apply ov_fdiv | with_reducible apply ov_mod | with_reducible apply ov_pow | with_reducible apply uv_sum | with_reducible apply uv_sumR | with_reducible apply uv_sumT | with_reducible apply uv_all | with_reducible apply uv_any | with_reducible apply ov_mul | with_reducible apply ov_eq | with_reducible apply ov_ne | with_reducible apply mv_sh | with_reducible apply mv_ow | with_reducible apply ev_mulL | with_reducible apply ev_lrg1 | with_reducible apply ev_neg | with_reducible apply ov_addL | with_reducible apply ov_mulT | with_reducible apply av_starL | with_reducible apply ov_addI | with_reducible apply iv_rng1 | with_reducible apply uv_lsetT | with_reducible apply uv_lsetL | with_reducible apply ov_inL | with_reducible apply ov_ninL | with_reducible apply uv_sortL | with_reducible apply uv_sortT | with_reducible apply ev_ifE  | walk_at "ddcv" | with_reducible exact atI_0 | with_reducible exact atI_1 | with_reducible exact atI_2 | (show (_ : Prop); with_reducible rfl) | ((with_reducible show (_ : DV) = _); dsimp only [Function.comp]; done) | ((with_reducible show (_ : DV) = _); simp only [Function.comp, Int.natCast_add, Int.natCast_mul]; done) | ((with_reducible show (_ : Pst) = _); rfl) | ((with_reducible show List.length _ = _); rfl) | ((with_reducible show List.length _ ≤ sizeLine); simp only [List.length_cons, List.length_nil, Nat.reduceAdd]; decide) | with_reducible intro _ | ((with_reducible apply noown_ok); rfl))))

theorem est_loop {e : ED} {N b : Nat} {P T : List Int} {K : Nat} (hb : b < 2 ^ 62) (hK : K ≤ 500000) (hT : T.Pairwise (· < ·)) (hTl : T.length ≤ 100)
    (he : ∀ (rs : List Rd) (cnt : Nat) (s6 : Sl) (a c : Nat), hs rs = T → Rok rs → (∀ r ∈ rs, 0 ≤ r.2 ∧ r.2 ≤ 5000) → NoOwn [s6] [0] → a < 2 ^ 1000 → c ≤ K → e.nx ⟨[.bo 0, .sh (nat N), .sh (psD P), .sh (.lst (T.map .int)), .sh (nat cnt), .ow (.lst (rs.map rdD)), s6, .un, .un, .un, .un, .un, .un, .un, .un, .un, .un, .un, .un, .un, .un, .un, .un, .un, .un, .un, .un, .un, .un, .un, .un, .un, .un, .un], [potD a b c]⟩) :
    ∀ (Tn : List Nat) (rs : List Rd) (cnt : Nat) (s6 : Sl) (a c : Nat), hs rs ++ Tn.map (fun (k : Nat) => (k : Int)) = T → Rok rs → (∀ r ∈ rs, 0 ≤ r.2 ∧ r.2 ≤ cnt) → cnt + 500 * Tn.length ≤ 5000 → NoOwn [s6] [0] → a < 2 ^ 1000 → c + 2 * Tn.length ≤ K →
    forD (g_name 6) L__law_are_estimates_right_1 (Tn.map natD) e ⟨[.bo 0, .sh (nat N), .sh (psD P), .sh (.lst (T.map .int)), .sh (nat cnt), .ow (.lst (rs.map rdD)), s6, .un, .un, .un, .un, .un, .un, .un, .un, .un, .un, .un, .un, .un, .un, .un, .un, .un, .un, .un, .un, .un, .un, .un, .un, .un, .un, .un], [potD a b c]⟩ := by
  intro Tn
  induction Tn with
  | nil =>
    intro rs cnt s6 a c h1 h2 h3 h4 h5 h6 h7
    rw [List.map_nil, List.append_nil] at h1
    rw [List.length_nil] at h4 h7
    refine forD_nil (he rs cnt s6 a c h1 h2 (fun r hr => ?_) h5 h6 (by omega))
    have := h3 r hr
    omega
  | cons k Tn ih =>
    intro rs cnt s6 a c h1 h2 h3 h4 h5 ha h7
    rw [List.length_cons] at h4 h7
    have hlt : ∀ r ∈ rs, r.1 < k := fun r hr => by
      rw [← h1, List.pairwise_append] at hT
      have := hT.2.2 (r.1 : Int) (List.mem_map.mpr ⟨r, hr, rfl⟩) (k : Int) (by simp)
      omega
    have hrl : rs.length ≤ 1000 := by
      have : (hs rs).length ≤ T.length := by rw [← h1, List.length_append]; omega
      unfold hs at this
      rw [List.length_map] at this
      omega
    refine forD_cons (gv_use gv_name ?_)
    unfold L__law_are_estimates_right_1
    dsimp only [List.length_cons, List.length_nil, Nat.reduceSub, Nat.reduceAdd, List.replicate, List.cons_append, List.nil_append, List.append_nil, Pst.put, List.set_cons_zero, List.set_cons_succ, Pst.upL, Pst.own, List.getElem?_cons_zero, List.getElem?_cons_succ]
    refine s_seq (s_set (s_bin ?_))
    apply EV.use
    · walk_at "ddev"
    refine tkOf (us := [3, 500]) ?_ (by decide) (by decide) (by decide) ha hb (by omega) fun x u a1 c1 hu hx ha1 hc1 => ?_
    · refine ev_as (d := .lst [.int 3, .int 500]) ?_ rfl
      walk_at "ddev"
    have hx2 : x < 500 := by
      rcases List.mem_cons.mp hu with rfl | hu
      · omega
      · rw [List.mem_singleton] at hu; subst hu; exact hx
    refine ov_add _ ?_
    rw [← Int.natCast_add]
    dsimp only [List.length_cons, List.length_nil, Nat.reduceSub, Nat.reduceAdd, List.replicate, List.cons_append, List.nil_append, List.append_nil, Pst.put, List.set_cons_zero, List.set_cons_succ, Pst.upL, Pst.own, List.getElem?_cons_zero, List.getElem?_cons_succ]
    refine s_expr ?_
    apply EV.use
    · apply ev_app
      · rfl
      · walk_at "ddev"
      · rw [List.length_map]; exact Nat.lt_of_le_of_lt hrl (by decide)
    dsimp only [List.length_cons, List.length_nil, Nat.reduceSub, Nat.reduceAdd, List.replicate, List.cons_append, List.nil_append, List.append_nil, Pst.put, List.set_cons_zero, List.set_cons_succ, Pst.upL, Pst.own, List.getElem?_cons_zero, List.getElem?_cons_succ]
    have := ih (rs ++ [(k, ((cnt + x : Nat) : Int))]) (cnt + x) (.sh (natD k)) a1 c1 (by
        rw [← h1]
        unfold hs
        rw [List.map_append, List.append_assoc]; rfl) (by
        unfold Rok
        rw [List.pairwise_append]
        refine ⟨h2, by simp, fun r hr q hq => ?_⟩
        rw [List.mem_singleton] at hq
        subst hq
        have := h3 r hr
        exact ⟨hlt r hr, by show r.2 ≤ ((cnt + x : Nat) : Int); omega⟩) (fun r hr => by
        rcases List.mem_append.mp hr with hr | hr
        · have := h3 r hr
          omega
        · rw [List.mem_singleton] at hr
          subst hr
          exact ⟨by show 0 ≤ ((cnt + x : Nat) : Int); omega, Int.le_refl _⟩) (by omega) (noown_ok rfl) ha1 (by omega)
    rw [List.map_append] at this
    exact this
end Dr
set_option maxHeartbeats 0
namespace Dr
open PySem PySem.Spec PyProof.Rows L2 DD M72
-- List.length_cons, List.length_nil, Nat.reduceSub, Nat.reduceAdd, List.replicate, List.cons_append, List.nil_append, List.append_nil, Pst.put, List.set_cons_zero, List.set_cons_succ, Pst.upL, Pst.own, List.getElem?_cons_zero, List.getElem?_cons_succODEF
-- @GUARD
local macro_rules | `(tactic| walk_at "ddcv") => `(tactic| fail)
local macro_rules | `(tactic| walk_at "ddev") => `(tactic| (repeat' (first | with_reducible apply DD.ev_tupLC | (show (_ : Prop); with_reducible assumption) | ((with_reducible apply ev_v) <;> rfl) | ((with_reducible apply ev_vo) <;> rfl) | ((with_reducible apply ev_rd) <;> rfl) | ((with_reducible apply ev_rdo) <;> rfl) | ((with_reducible apply ev_take) <;> rfl) | ((with_reducible apply ev_rdb) <;> rfl) | with_reducible exact ev_c | with_reducible exact av_nil | with_reducible exact pv_none | with_reducible exact ov_add | with_reducible exact ov_sub | with_reducible exact ov_lt | with_reducible exact ov_le | with_reducible exact ov_gt | with_reducible exact ov_ge | with_reducible exact ov_eqi | with_reducible exact ov_nei | with_reducible exact ov_isN | with_reducible exact ov_isntN | with_reducible exact ov_isB | with_reducible exact ov_isntB | with_reducible exact uv_lenL | with_reducible exact uv_lenT | with_reducible exact uv_lenR | with_reducible exact uv_int | with_reducible exact uv_intB | with_reducible exact uv_abs | with_reducible exact uv_tupL | with_reducible exact uv_tupT | with_reducible exact uv_lstL | with_reducible exact uv_lstT | with_reducible exact uv_isi rfl | with_reducible exact nv_min2 | with_reducible exact nv_max2 | with_reducible exact gv_name | with_reducible exact gv_nil | with_reducible exact mv_nil | with_reducible exact ov_addI | ((fail_if_success with_reducible exact DD.pl_non); with_reducible exact plT2) | ((fail_if_success with_reducible exact DD.pl_non); with_reducible exact plL_ints _) | ((fail_if_success with_reducible exact DD.pl_non); with_reducible exact plT_ints _) | ((fail_if_success with_reducible exact DD.pl_non); with_reducible exact pl_int) | ((fail_if_success with_reducible exact DD.pl_non); with_reducible exact pl_part) | ((fail_if_success with_reducible exact DD.pl_non); with_reducible exact pl_money) | ((fail_if_success with_reducible exact DD.pl_non); with_reducible exact pl_same) | ((fail_if_success with_reducible exact DD.pl_non); with_reducible exact pl_two) | ((with_reducible apply iv_zsL) <;> rfl) | ((with_reducible apply iv_zsT) <;> rfl) | ((with_reducible apply iv_zvLL) <;> rfl) | ((with_reducible apply iv_zvTT) <;> rfl) | ((with_reducible apply iv_zvLT) <;> rfl) | ((with_reducible apply iv_zvTL) <;> rfl) | ((with_reducible apply av_stTv); rfl) | ((with_reducible apply av_stLv); rfl) | ((with_reducible apply av_stLo); rfl) | ((with_reducible apply ev_slv); rfl) | ((with_reducible apply ev_ixv); rfl) | ((with_reducible apply ev_ixvo); rfl) | ((with_reducible apply ev_ixvb); rfl; rfl) | ((with_reducible apply iv_itT); (with_reducible apply ev_v); rfl) | ((with_reducible apply iv_itT); (with_reducible apply ev_vo); rfl) | ((with_reducible apply iv_itL); (with_reducible apply ev_v); rfl) | ((with_reducible apply iv_itL); (with_reducible apply ev_vo); rfl) | ((with_reducible apply iv_enumT); (with_reducible apply ev_v); rfl) | ((with_reducible apply iv_enumT); (with_reducible apply ev_vo); rfl) | ((with_reducible apply iv_enumL); (with_reducible apply ev_v); rfl) | ((with_reducible apply iv_enumL); (with_reducible apply ev_vo); rfl) | with_reducible apply ev_bin | with_reducible apply ev_c1 | with_reducible apply ev_cn | with_reducible apply ev_tup | with_reducible apply ev_lst | with_reducible apply ev_andV | with_reducible apply ev_orV | with_reducible apply ev_notV | with_reducible apply ev_chain | with_reducible apply ev_call1 | with_reducible apply ev_call2 | with_reducible apply ev_call3 | with_reducible apply ev_call4 | with_reducible apply ev_lc | with_reducible apply av_cons | with_reducible apply tv_tst | with_reducible apply tv_and | with_reducible apply tv_or | with_reducible apply tv_not | with_reducible apply pv_some | with_reducible apply ov_ixT | with_reducible apply ov_ixL | with_reducible apply ov_ixR | with_reducible apply iv_itT | with_reducible apply iv_itL | with_reducible apply iv_enumT | with_reducible apply iv_enumL | with_reducible apply iv_zipTT | with_reducible apply iv_rng1 | with_reducible apply iv_rng2 | with_reducible apply gv_tup | with_reducible apply gv_cons | with_reducible apply ls_yes | with_reducible apply lf_of | with_reducible apply ov_addT | with_reducible apply ov_fdiv | with_reducible apply ov_mod | with_reducible apply ov_pow | with_reducible apply uv_sum | with_reducible apply uv_sumR | with_reducible apply uv_sumT | with_reducible apply uv_all | with_reducible apply uv_any | with_reducible apply ov_mul | with_reducible apply ov_eq | with_reducible apply ov_ne | with_reducible apply mv_sh | with_reducible apply mv_ow | with_reducible apply ev_mulL | with_reducible apply ev_lrg1 | with_reducible apply ev_neg | with_reducible apply ov_addL | with_reducible apply ov_mulT | with_reducible apply av_starL | with_reducible apply ov_addI | with_reducible apply iv_rng1 | with_reducible apply uv_lsetT | with_reducible apply uv_lsetL | with_reducible apply ov_inL | with_reducible apply ov_ninL | with_reducible apply uv_sortL | with_reducible apply uv_sortT | with_reducible apply ev_ifE  | walk_at "ddcv" | with_reducible exact atI_0 | with_reducible exact atI_1 | with_reducible exact atI_2 | (show (_ : Prop); with_reducible rfl) | ((with_reducible show (_ : DV) = _); dsimp only [Function.comp]; done) | ((with_reducible show (_ : DV) = _); simp only [Function.comp, Int.natCast_add, Int.natCast_mul]; done) | ((with_reducible show (_ : Pst) = _); rfl) | ((with_reducible show List.length _ = _); rfl) | ((with_reducible show List.length _ ≤ sizeLine); simp only [List.length_cons, List.length_nil, Nat.reduceAdd]; decide) | with_reducible intro _ | ((with_reducible apply noown_ok); rfl))))

theorem draw_prof {N b : Nat} (hb : b < 2 ^ 62) (K : Nat) (hK : K ≤ 500000) {κ : List DV → List DV → Prop} (he : ∀ (P : List Int) a c, P.length = N → (∀ w ∈ P, 0 ≤ w ∧ w ≤ 50) → a < 2 ^ 1000 → c ≤ K → κ (P.map .int) [potD a b c]) (hN : N ≤ 60) :
    ∀ (m : Nat) (lo : Int) (Q : List Int) (a c : Nat), Q.length + m = N → (∀ w ∈ Q, 0 ≤ w ∧ w ≤ 50) → a < 2 ^ 1000 → c + 2 * m ≤ K →
    lcD (g_name 6) t_yes (t_c1 o_int (t_callB 2 [] c__law_take 0 (t_cons (t_callB 2 [] c__law_of 0 (t_cons (t_lst (t_cons (t_c (.int 1)) (t_cons (t_c (.int 4)) (t_cons (t_c (.int 50)) t_nil)))) t_nil)) t_nil))) [6] [.bo 0, .sh (nat N), .un, .un, .un, .un, .un, .un, .un, .un, .un, .un, .un, .un, .un, .un, .un, .un, .un, .un, .un, .un, .un, .un, .un, .un, .un, .un, .un, .un, .un, .un, .un, .un] (rangeD lo 1 m) [potD a b c] (Q.map .int) κ := by
  intro m
  induction m with
  | zero => intro lo Q a c h1 h2 h3 h4; exact he Q a c (by omega) h2 h3 (by omega)
  | succ m ih =>
    intro lo Q a c h1 h2 ha h4
    show g_name 6 (.int lo) _ _
    refine gv_use gv_name ?_
    unfold t_yes
    dsimp only [wipeE, List.length_cons, List.length_nil, Nat.reduceSub, Nat.reduceAdd, List.replicate, List.cons_append, List.nil_append, List.append_nil, Pst.put, List.set_cons_zero, List.set_cons_succ, Pst.upL, Pst.own, List.getElem?_cons_zero, List.getElem?_cons_succ]
    rw [if_pos rfl]
    refine tkOf (us := [1, 4, 50]) ?_ (by decide) (by decide) (by decide) ha hb (by omega) fun x u a1 c1 hu hx ha1 hc1 => ?_
    · refine ev_as (d := .lst [.int 1, .int 4, .int 50]) ?_ rfl
      walk_at "ddev"
    have hx2 : x < 50 := by
      rcases List.mem_cons.mp hu with rfl | hu
      · omega
      · rcases List.mem_cons.mp hu with rfl | hu
        · omega
        · rw [List.mem_singleton] at hu; subst hu; exact hx
    refine ⟨rfl, by rw [List.length_map]; exact Nat.lt_of_lt_of_le (show Q.length < 100 by omega) (by decide), ?_⟩
    have := ih (lo + 1) (Q ++ [(x : Int)]) a1 c1 (by rw [List.length_append]; show Q.length + 1 + m = N; omega) (fun w hw => by
      rcases List.mem_append.mp hw with hw | hw
      · exact h2 w hw
      · rw [List.mem_singleton] at hw; subst hw; omega) ha1 (by omega)
    rw [List.map_append] at this
    exact this
theorem draw_ticks {N b : Nat} {P : List Int} (hb : b < 2 ^ 62) (K : Nat) (hK : K ≤ 500000) {κ : List DV → List DV → Prop} (hN : N ≤ 60) (he : ∀ (L : List Int) a c, L.length = 6 → (∀ w ∈ L, 0 ≤ w ∧ w ≤ N) → a < 2 ^ 1000 → c ≤ K → κ (L.map .int) [potD a b c]) :
    ∀ (m : Nat) (lo : Int) (Q : List Int) (a c : Nat), Q.length + m = 6 → (∀ w ∈ Q, 0 ≤ w ∧ w ≤ N) → a < 2 ^ 1000 → c + m ≤ K →
    lcD (g_name 28) t_yes (t_c1 o_int (t_callB 2 [] c__law_take 0 (t_cons (t_bin o_add (t_v 1) (t_c (.int 1))) t_nil))) [28] [.bo 0, .sh (nat N), .sh (psD P), .un, .un, .un, .un, .un, .un, .un, .un, .un, .un, .un, .un, .un, .un, .un, .un, .un, .un, .un, .un, .un, .un, .un, .un, .un, .un, .un, .un, .un, .un, .un] (rangeD lo 1 m) [potD a b c] (Q.map .int) κ := by
  intro m
  induction m with
  | zero => intro lo Q a c h1 h2 h3 h4; exact he Q a c (by omega) h2 h3 (by omega)
  | succ m ih =>
    intro lo Q a c h1 h2 ha h4
    show g_name 28 (.int lo) _ _
    refine gv_use gv_name ?_
    unfold t_yes
    dsimp only [wipeE, List.length_cons, List.length_nil, Nat.reduceSub, Nat.reduceAdd, List.replicate, List.cons_append, List.nil_append, List.append_nil, Pst.put, List.set_cons_zero, List.set_cons_succ, Pst.upL, Pst.own, List.getElem?_cons_zero, List.getElem?_cons_succ]
    rw [if_pos rfl]
    refine tkI (u := N + 1) ?_ ha hb (by omega) (by omega) (by omega) fun x a1 c1 hx ha1 hc1 => ?_
    · refine ev_as (d := .int ((N : Int) + 1)) ?_ rfl
      walk_at "ddev"
    refine ⟨rfl, by rw [List.length_map]; exact Nat.lt_of_lt_of_le (show Q.length < 100 by omega) (by decide), ?_⟩
    have := ih (lo + 1) (Q ++ [(x : Int)]) a1 c1 (by rw [List.length_append]; show Q.length + 1 + m = 6; omega) (fun w hw => by
      rcases List.mem_append.mp hw with hw | hw
      · exact h2 w hw
      · rw [List.mem_singleton] at hw; subst hw; omega) ha1 (by omega)
    rw [List.map_append] at this
    exact this
end Dr
set_option maxHeartbeats 0
namespace Dr
open PySem PySem.Spec PyProof.Rows L2 DD M72
-- List.length_cons, List.length_nil, Nat.reduceSub, Nat.reduceAdd, List.replicate, List.cons_append, List.nil_append, List.append_nil, Pst.put, List.set_cons_zero, List.set_cons_succ, Pst.upL, Pst.own, List.getElem?_cons_zero, List.getElem?_cons_succODEF
-- @GUARD
local macro_rules | `(tactic| walk_at "ddcv") => `(tactic| fail)
local macro_rules | `(tactic| walk_at "ddev") => `(tactic| (repeat' (first | with_reducible apply DD.ev_tupLC | (show (_ : Prop); with_reducible assumption) | ((with_reducible apply ev_v) <;> rfl) | ((with_reducible apply ev_vo) <;> rfl) | ((with_reducible apply ev_rd) <;> rfl) | ((with_reducible apply ev_rdo) <;> rfl) | ((with_reducible apply ev_take) <;> rfl) | ((with_reducible apply ev_rdb) <;> rfl) | with_reducible exact ev_c | with_reducible exact av_nil | with_reducible exact pv_none | with_reducible exact ov_add | with_reducible exact ov_sub | with_reducible exact ov_lt | with_reducible exact ov_le | with_reducible exact ov_gt | with_reducible exact ov_ge | with_reducible exact ov_eqi | with_reducible exact ov_nei | with_reducible exact ov_isN | with_reducible exact ov_isntN | with_reducible exact ov_isB | with_reducible exact ov_isntB | with_reducible exact uv_lenL | with_reducible exact uv_lenT | with_reducible exact uv_lenR | with_reducible exact uv_int | with_reducible exact uv_intB | with_reducible exact uv_abs | with_reducible exact uv_tupL | with_reducible exact uv_tupT | with_reducible exact uv_lstL | with_reducible exact uv_lstT | with_reducible exact uv_isi rfl | with_reducible exact nv_min2 | with_reducible exact nv_max2 | with_reducible exact gv_name | with_reducible exact gv_nil | with_reducible exact mv_nil | with_reducible exact ov_addI | ((fail_if_success with_reducible exact DD.pl_non); with_reducible exact plT2) | ((fail_if_success with_reducible exact DD.pl_non); with_reducible exact plL_ints _) | ((fail_if_success with_reducible exact DD.pl_non); with_reducible exact plT_ints _) | ((fail_if_success with_reducible exact DD.pl_non); with_reducible exact pl_int) | ((fail_if_success with_reducible exact DD.pl_non); with_reducible exact pl_part) | ((fail_if_success with_reducible exact DD.pl_non); with_reducible exact pl_money) | ((fail_if_success with_reducible exact DD.pl_non); with_reducible exact pl_same) | ((fail_if_success with_reducible exact DD.pl_non); with_reducible exact pl_two) | ((with_reducible apply iv_zsL) <;> rfl) | ((with_reducible apply iv_zsT) <;> rfl) | ((with_reducible apply iv_zvLL) <;> rfl) | ((with_reducible apply iv_zvTT) <;> rfl) | ((with_reducible apply iv_zvLT) <;> rfl) | ((with_reducible apply iv_zvTL) <;> rfl) | ((with_reducible apply av_stTv); rfl) | ((with_reducible apply av_stLv); rfl) | ((with_reducible apply av_stLo); rfl) | ((with_reducible apply ev_slv); rfl) | ((with_reducible apply ev_ixv); rfl) | ((with_reducible apply ev_ixvo); rfl) | ((with_reducible apply ev_ixvb); rfl; rfl) | ((with_reducible apply iv_itT); (with_reducible apply ev_v); rfl) | ((with_reducible apply iv_itT); (with_reducible apply ev_vo); rfl) | ((with_reducible apply iv_itL); (with_reducible apply ev_v); rfl) | ((with_reducible apply iv_itL); (with_reducible apply ev_vo); rfl) | ((with_reducible apply iv_enumT); (with_reducible apply ev_v); rfl) | ((with_reducible apply iv_enumT); (with_reducible apply ev_vo); rfl) | ((with_reducible apply iv_enumL); (with_reducible apply ev_v); rfl) | ((with_reducible apply iv_enumL); (with_reducible apply ev_vo); rfl) | with_reducible apply ev_bin | with_reducible apply ev_c1 | with_reducible apply ev_cn | with_reducible apply ev_tup | with_reducible apply ev_lst | with_reducible apply ev_andV | with_reducible apply ev_orV | with_reducible apply ev_notV | with_reducible apply ev_chain | with_reducible apply ev_call1 | with_reducible apply ev_call2 | with_reducible apply ev_call3 | with_reducible apply ev_call4 | with_reducible apply ev_lc | with_reducible apply av_cons | with_reducible apply tv_tst | with_reducible apply tv_and | with_reducible apply tv_or | with_reducible apply tv_not | with_reducible apply pv_some | with_reducible apply ov_ixT | with_reducible apply ov_ixL | with_reducible apply ov_ixR | with_reducible apply iv_itT | with_reducible apply iv_itL | with_reducible apply iv_enumT | with_reducible apply iv_enumL | with_reducible apply iv_zipTT | with_reducible apply iv_rng1 | with_reducible apply iv_rng2 | with_reducible apply gv_tup | with_reducible apply gv_cons | with_reducible apply ls_yes | with_reducible apply lf_of | with_reducible apply ov_addT | with_reducible apply ov_fdiv | with_reducible apply ov_mod | with_reducible apply ov_pow | with_reducible apply uv_sum | with_reducible apply uv_sumR | with_reducible apply uv_sumT | with_reducible apply uv_all | with_reducible apply uv_any | with_reducible apply ov_mul | with_reducible apply ov_eq | with_reducible apply ov_ne | with_reducible apply mv_sh | with_reducible apply mv_ow | with_reducible apply ev_mulL | with_reducible apply ev_lrg1 | with_reducible apply ev_neg | with_reducible apply ov_addL | with_reducible apply ov_mulT | with_reducible apply av_starL | with_reducible apply ov_addI | with_reducible apply iv_rng1 | with_reducible apply uv_lsetT | with_reducible apply uv_lsetL | with_reducible apply ov_inL | with_reducible apply ov_ninL | with_reducible apply uv_sortL | with_reducible apply uv_sortT | with_reducible apply ev_ifE  | walk_at "ddcv" | with_reducible exact atI_0 | with_reducible exact atI_1 | with_reducible exact atI_2 | (show (_ : Prop); with_reducible rfl) | ((with_reducible show (_ : DV) = _); dsimp only [Function.comp]; done) | ((with_reducible show (_ : DV) = _); simp only [Function.comp, Int.natCast_add, Int.natCast_mul]; done) | ((with_reducible show (_ : Pst) = _); rfl) | ((with_reducible show List.length _ = _); rfl) | ((with_reducible show List.length _ ≤ sizeLine); simp only [List.length_cons, List.length_nil, Nat.reduceAdd]; decide) | with_reducible intro _ | ((with_reducible apply noown_ok); rfl))))

theorem hs_len (rs : List Rd) : (hs rs).length = rs.length := by unfold hs; rw [List.length_map]
theorem dv_estimates {a b c : Nat} {Xd : XB} {R : DV → List DV → Prop} (ha : a < 2 ^ 1000) (hb : b < 2 ^ 62) (hc : c ≤ 400000) (h : ∀ a' c', a' < 2 ^ 1000 → c' ≤ c + 200 → R (.bl true) [potD a' b c']) : c__law_are_estimates_right [.bo 0] [potD a b c] Xd R := by
  refine dv_body fun e hr hx => ?_
  unfold t__law_are_estimates_right
  dsimp only [List.length_cons, List.length_nil, Nat.reduceSub, Nat.reduceAdd, List.replicate, List.cons_append, List.nil_append, List.append_nil, Pst.put, List.set_cons_zero, List.set_cons_succ, Pst.upL, Pst.own, List.getElem?_cons_zero, List.getElem?_cons_succ]
  refine s_seq (s_set (s_bin ?_))
  apply EV.use
  · exact ev_c
  refine tkI (u := 59) ev_c ha hb (by omega) (by decide) (by decide) fun x a1 c1 hx1 ha1 hc1 => ?_
  obtain ⟨N, hN⟩ : ∃ N : Nat, N = 2 + x := ⟨_, rfl⟩
  have hN1 : 2 ≤ N := by omega
  have hN2 : N ≤ 60 := by omega
  have e2 : (2 : Int) + (x : Int) = (N : Int) := by omega
  refine ov_add _ ?_
  rw [e2]
  dsimp only [List.length_cons, List.length_nil, Nat.reduceSub, Nat.reduceAdd, List.replicate, List.cons_append, List.nil_append, List.append_nil, Pst.put, List.set_cons_zero, List.set_cons_succ, Pst.upL, Pst.own, List.getElem?_cons_zero, List.getElem?_cons_succ]
  refine s_seq (s_set (s_c1 (s_lc (s_rng1 (s_cons ?_)))))
  apply EV.use
  · walk_at "ddev"
  refine s_nil ⟨⟨by omega, by omega⟩, noown_ok rfl, ?_⟩
  have eN : ((N : Nat) : Int).toNat = N := by omega
  rw [eN]
  refine draw_prof (N := N) hb (c + 130) (by omega) (fun P a2 c2 hPl hPb ha2 hc2 => ?_) hN2 N 0 [] a1 c1 (by show 0 + N = N; omega) (fun w hw => by cases hw) ha1 (by omega)
  refine uv_tupL _ ?_
  dsimp only [List.length_cons, List.length_nil, Nat.reduceSub, Nat.reduceAdd, List.replicate, List.cons_append, List.nil_append, List.append_nil, Pst.put, List.set_cons_zero, List.set_cons_succ, Pst.upL, Pst.own, List.getElem?_cons_zero, List.getElem?_cons_succ]
  have hP : Prof N P := ⟨hPl, hN1, hN2, fun w hw => by have := hPb w hw; omega⟩
  refine s_seq (s_set (s_c1 (s_bin ?_)))
  apply EV.use
  · walk_at "ddev"
  refine s_lc (s_rng1 (s_cons ?_))
  apply EV.use
  · exact ev_c
  refine s_nil ⟨⟨by decide, by decide⟩, noown_ok rfl, ?_⟩
  refine draw_ticks (P := P) hb (c + 140) (by omega) hN2 (fun L a3 c3 hL hLb ha3 hc3 => ?_) 6 0 [] a2 c2 rfl (fun w hw => by cases hw) ha2 (by omega)
  refine ov_addL (by rw [List.length_map, hL]; show (2 + 6 : Nat) ≤ sizeLine; decide) _ ?_
  refine uv_sset (is := 0 :: (N : Int) :: L) rfl (by rw [List.length_cons, List.length_cons, hL]; decide) _ ?_
  dsimp only [List.length_cons, List.length_nil, Nat.reduceSub, Nat.reduceAdd, List.replicate, List.cons_append, List.nil_append, List.append_nil, Pst.put, List.set_cons_zero, List.set_cons_succ, Pst.upL, Pst.own, List.getElem?_cons_zero, List.getElem?_cons_succ]
  obtain ⟨T, hTe⟩ : ∃ T, T = sdd (0 :: (N : Int) :: L) := ⟨_, rfl⟩
  rw [← hTe]
  have hT : T.Pairwise (· < ·) := by rw [hTe]; exact sdd_pw _
  have hTl : T.length ≤ 8 := by
    rw [hTe]
    have := sdd_len_le (0 :: (N : Int) :: L)
    rw [List.length_cons, List.length_cons, hL] at this
    omega
  have hTm : ∀ k, k ∈ T ↔ k = 0 ∨ k = (N : Int) ∨ k ∈ L := fun k => by rw [hTe, mem_sdd, List.mem_cons, List.mem_cons]
  have hTb : ∀ k ∈ T, 0 ≤ k ∧ k ≤ N := fun k hk => by
    rcases (hTm k).mp hk with z | z | z
    · omega
    · omega
    · exact hLb k z
  obtain ⟨Tn, hTn⟩ : ∃ Tn : List Nat, Tn.map (fun (k : Nat) => (k : Int)) = T := by
    refine ⟨T.map Int.toNat, ?_⟩
    rw [List.map_map]
    refine (List.map_congr_left fun k hk => ?_).trans (List.map_id _)
    have := (hTb k hk).1
    show ((k.toNat : Nat) : Int) = k
    omega
  have hTnl : Tn.length ≤ 8 := by rw [← hTn, List.length_map] at hTl; exact hTl
  clear hTe
  refine s_seq (s_par ?_)
  apply MV.use
  · walk_at "ddev"
  refine ⟨rfl, ?_⟩
  dsimp only [putM, List.length_cons, List.length_nil, Nat.reduceSub, Nat.reduceAdd, List.replicate, List.cons_append, List.nil_append, List.append_nil, Pst.put, List.set_cons_zero, List.set_cons_succ, Pst.upL, Pst.own, List.getElem?_cons_zero, List.getElem?_cons_succ]
  refine s_seq (s_for ?_)
  apply iv_use
  · walk_at "ddev"
  have em : T.map DV.int = Tn.map natD := by rw [← hTn, List.map_map]; rfl
  have key := est_loop (e := { nx := fun p' => TL_law_are_estimates_right_5 e p', rt := e.rt, bk := e.bk, ct := e.ct, ex := e.ex, ro := e.ro }) (N := N) (P := P) (T := T) (K := c + 160) hb (by omega) hT (by omega) (fun rs cnt s6 a4 c4 h1 h2 h3 h6 ha4 hc4 => ?_) Tn [] 0 .un a3 c3 hTn (List.Pairwise.nil) (fun r hr => by cases hr) (by omega) (noown_ok rfl) ha3 (by omega)
  · rw [← em] at key
    exact key
  · have hrl : rs.length ≤ 8 := by rw [← hs_len, h1]; exact hTl
    have hmm : ∀ k : Nat, (k : Int) ∈ T → ∃ v, (k, v) ∈ rs := fun k hk => by
      rw [← h1] at hk
      obtain ⟨r, hr, e⟩ := List.mem_map.mp hk
      have e : (r.1 : Int) = (k : Int) := e
      refine ⟨r.2, ?_⟩
      have : r = (k, r.2) := Prod.ext (by show r.1 = k; omega) rfl
      rw [← this]; exact hr
    have hrv : RV N rs := ⟨h2, hmm 0 ((hTm _).mpr (.inl rfl)), hmm N ((hTm _).mpr (.inr (.inl rfl))), fun r hr => by
      have k1 := hTb (r.1 : Int) (by rw [← h1]; exact List.mem_map.mpr ⟨r, hr, rfl⟩)
      have k2 := h3 r hr
      omega⟩
    dsimp only
    rw [← h1]
    exact est_A2 hP (fun w hw => (hPb w hw).2) ⟨hrv, by omega⟩ h6 (by omega) ha4 hb (by omega) fun a' c' q h5 h7 h8 => hr _ _ (by rw [h8]; exact h a' c' h5 (by omega))
end Dr
set_option maxHeartbeats 0
namespace Dr
open PySem PySem.Spec PyProof.Rows L2 DD M72
-- List.length_cons, List.length_nil, Nat.reduceSub, Nat.reduceAdd, List.replicate, List.cons_append, List.nil_append, List.append_nil, Pst.put, List.set_cons_zero, List.set_cons_succ, Pst.upL, Pst.own, List.getElem?_cons_zero, List.getElem?_cons_succODEF
-- @GUARD
local macro_rules | `(tactic| walk_at "ddcv") => `(tactic| fail)
local macro_rules | `(tactic| walk_at "ddev") => `(tactic| (repeat' (first | with_reducible apply DD.ev_tupLC | (show (_ : Prop); with_reducible assumption) | ((with_reducible apply ev_v) <;> rfl) | ((with_reducible apply ev_vo) <;> rfl) | ((with_reducible apply ev_rd) <;> rfl) | ((with_reducible apply ev_rdo) <;> rfl) | ((with_reducible apply ev_take) <;> rfl) | ((with_reducible apply ev_rdb) <;> rfl) | with_reducible exact ev_c | with_reducible exact av_nil | with_reducible exact pv_none | with_reducible exact ov_add | with_reducible exact ov_sub | with_reducible exact ov_lt | with_reducible exact ov_le | with_reducible exact ov_gt | with_reducible exact ov_ge | with_reducible exact ov_eqi | with_reducible exact ov_nei | with_reducible exact ov_isN | with_reducible exact ov_isntN | with_reducible exact ov_isB | with_reducible exact ov_isntB | with_reducible exact uv_lenL | with_reducible exact uv_lenT | with_reducible exact uv_lenR | with_reducible exact uv_int | with_reducible exact uv_intB | with_reducible exact uv_abs | with_reducible exact uv_tupL | with_reducible exact uv_tupT | with_reducible exact uv_lstL | with_reducible exact uv_lstT | with_reducible exact uv_isi rfl | with_reducible exact nv_min2 | with_reducible exact nv_max2 | with_reducible exact gv_name | with_reducible exact gv_nil | with_reducible exact mv_nil | with_reducible exact ov_addI | ((fail_if_success with_reducible exact DD.pl_non); with_reducible exact plT2) | ((fail_if_success with_reducible exact DD.pl_non); with_reducible exact plL_ints _) | ((fail_if_success with_reducible exact DD.pl_non); with_reducible exact plT_ints _) | ((fail_if_success with_reducible exact DD.pl_non); with_reducible exact pl_int) | ((fail_if_success with_reducible exact DD.pl_non); with_reducible exact pl_part) | ((fail_if_success with_reducible exact DD.pl_non); with_reducible exact pl_money) | ((fail_if_success with_reducible exact DD.pl_non); with_reducible exact pl_same) | ((fail_if_success with_reducible exact DD.pl_non); with_reducible exact pl_two) | ((with_reducible apply iv_zsL) <;> rfl) | ((with_reducible apply iv_zsT) <;> rfl) | ((with_reducible apply iv_zvLL) <;> rfl) | ((with_reducible apply iv_zvTT) <;> rfl) | ((with_reducible apply iv_zvLT) <;> rfl) | ((with_reducible apply iv_zvTL) <;> rfl) | ((with_reducible apply av_stTv); rfl) | ((with_reducible apply av_stLv); rfl) | ((with_reducible apply av_stLo); rfl) | ((with_reducible apply ev_slv); rfl) | ((with_reducible apply ev_ixv); rfl) | ((with_reducible apply ev_ixvo); rfl) | ((with_reducible apply ev_ixvb); rfl; rfl) | ((with_reducible apply iv_itT); (with_reducible apply ev_v); rfl) | ((with_reducible apply iv_itT); (with_reducible apply ev_vo); rfl) | ((with_reducible apply iv_itL); (with_reducible apply ev_v); rfl) | ((with_reducible apply iv_itL); (with_reducible apply ev_vo); rfl) | ((with_reducible apply iv_enumT); (with_reducible apply ev_v); rfl) | ((with_reducible apply iv_enumT); (with_reducible apply ev_vo); rfl) | ((with_reducible apply iv_enumL); (with_reducible apply ev_v); rfl) | ((with_reducible apply iv_enumL); (with_reducible apply ev_vo); rfl) | with_reducible apply ev_bin | with_reducible apply ev_c1 | with_reducible apply ev_cn | with_reducible apply ev_tup | with_reducible apply ev_lst | with_reducible apply ev_andV | with_reducible apply ev_orV | with_reducible apply ev_notV | with_reducible apply ev_chain | with_reducible apply ev_call1 | with_reducible apply ev_call2 | with_reducible apply ev_call3 | with_reducible apply ev_call4 | with_reducible apply ev_lc | with_reducible apply av_cons | with_reducible apply tv_tst | with_reducible apply tv_and | with_reducible apply tv_or | with_reducible apply tv_not | with_reducible apply pv_some | with_reducible apply ov_ixT | with_reducible apply ov_ixL | with_reducible apply ov_ixR | with_reducible apply iv_itT | with_reducible apply iv_itL | with_reducible apply iv_enumT | with_reducible apply iv_enumL | with_reducible apply iv_zipTT | with_reducible apply iv_rng1 | with_reducible apply iv_rng2 | with_reducible apply gv_tup | with_reducible apply gv_cons | with_reducible apply ls_yes | with_reducible apply lf_of | with_reducible apply ov_addT | with_reducible apply ov_fdiv | with_reducible apply ov_mod | with_reducible apply ov_pow | with_reducible apply uv_sum | with_reducible apply uv_sumR | with_reducible apply uv_sumT | with_reducible apply uv_all | with_reducible apply uv_any | with_reducible apply ov_mul | with_reducible apply ov_eq | with_reducible apply ov_ne | with_reducible apply mv_sh | with_reducible apply mv_ow | with_reducible apply ev_mulL | with_reducible apply ev_lrg1 | with_reducible apply ev_neg | with_reducible apply ov_addL | with_reducible apply ov_mulT | with_reducible apply av_starL | with_reducible apply ov_addI | with_reducible apply iv_rng1 | with_reducible apply uv_lsetT | with_reducible apply uv_lsetL | with_reducible apply ov_inL | with_reducible apply ov_ninL | with_reducible apply uv_sortL | with_reducible apply uv_sortT | with_reducible apply ev_ifE  | walk_at "ddcv" | with_reducible exact atI_0 | with_reducible exact atI_1 | with_reducible exact atI_2 | (show (_ : Prop); with_reducible rfl) | ((with_reducible show (_ : DV) = _); dsimp only [Function.comp]; done) | ((with_reducible show (_ : DV) = _); simp only [Function.comp, Int.natCast_add, Int.natCast_mul]; done) | ((with_reducible show (_ : Pst) = _); rfl) | ((with_reducible show List.length _ = _); rfl) | ((with_reducible show List.length _ ≤ sizeLine); simp only [List.length_cons, List.length_nil, Nat.reduceAdd]; decide) | with_reducible intro _ | ((with_reducible apply noown_ok); rfl))))

theorem laps {e : ED} {b : Nat} (hb : b < 2 ^ 62) (he : ∀ p, e.nx p) : ∀ (m : Nat) (lo : Int) (s1 : Sl) (a c : Nat), a < 2 ^ 1000 → c + 300 * m ≤ 300000 →
    forD (g_name 1) L__law_right_1 (rangeD lo 1 m) e ⟨[.bo 0, s1], [potD a b c]⟩ := by
  intro m
  induction m with
  | zero => intros; exact forD_z (he _)
  | succ m ih =>
    intro lo s1 a c ha hc
    refine forD_s (gv_use gv_name ?_)
    unfold L__law_right_1
    dsimp only [List.length_cons, List.length_nil, Nat.reduceSub, Nat.reduceAdd, List.replicate, List.cons_append, List.nil_append, List.append_nil, Pst.put, List.set_cons_zero, List.set_cons_succ, Pst.upL, Pst.own, List.getElem?_cons_zero, List.getElem?_cons_succ]
    refine s_ifC ?_
    show t_not _ _ _ _
    show t_tst _ _ _ _
    refine s_tst (s_callB rfl (s_nil (cb_of rfl rfl ?_)))
    refine dv_estimates ha hb (by omega) fun a1 c1 ha1 hc1 => ?_
    dsimp only [List.length_cons, List.length_nil, Nat.reduceSub, Nat.reduceAdd, List.replicate, List.cons_append, List.nil_append, List.append_nil, Pst.put, List.set_cons_zero, List.set_cons_succ, Pst.upL, Pst.own, List.getElem?_cons_zero, List.getElem?_cons_succ]
    rw [if_neg (by decide)]
    show t_not _ _ _ _
    show t_tst _ _ _ _
    refine s_tst (s_callB rfl (s_nil (cb_of rfl rfl ?_)))
    refine dv_discounts ha1 hb (by omega) fun a2 c2 ha2 hc2 => ?_
    dsimp only [List.length_cons, List.length_nil, Nat.reduceSub, Nat.reduceAdd, List.replicate, List.cons_append, List.nil_append, List.append_nil, Pst.put, List.set_cons_zero, List.set_cons_succ, Pst.upL, Pst.own, List.getElem?_cons_zero, List.getElem?_cons_succ]
    rw [if_neg (by decide)]
    refine s_skip ?_
    dsimp only
    exact ih (lo + 1) _ a2 c2 ha2 (by omega)
theorem dv_right {a b : Nat} {Xd : XB} {R : DV → List DV → Prop} (ha : a < 2 ^ 1000) (hb : b < 2 ^ 62) (h : ∀ bor, R (.bl true) bor) : c__law_right [.bo 0] [potD a b 0] Xd R := by
  refine dv_body fun e hr hx => ?_
  unfold t__law_right
  dsimp only [List.length_cons, List.length_nil, Nat.reduceSub, Nat.reduceAdd, List.replicate, List.cons_append, List.nil_append, List.append_nil, Pst.put, List.set_cons_zero, List.set_cons_succ, Pst.upL, Pst.own, List.getElem?_cons_zero, List.getElem?_cons_succ]
  refine s_seq (s_for ?_)
  apply iv_use
  · walk_at "ddev"
    exact ⟨by decide, by decide⟩
  refine laps hb (fun p => ?_) 8 0 .un a 0 ha (by decide)
  dsimp only
  refine s_ret ?_
  apply EV.use
  · exact ev_c
  exact hr _ _ (h _)
theorem dv_cells {ns : List Int} {Xd : XB} {R : DV → List DV → Prop} (hl : ns.length ≤ 1000) (h : ∀ n, n ≤ 3 → R (.lst (rangeD 0 1 n)) []) : c__law_cells [.sh (.rol (ns.map .int)), .sh (.int 3)] [] Xd R := by
  refine dv_body fun e hr hx => ?_
  unfold t__law_cells
  dsimp only [List.length_cons, List.length_nil, Nat.reduceSub, Nat.reduceAdd, List.replicate, List.cons_append, List.nil_append, List.append_nil, Pst.put, List.set_cons_zero, List.set_cons_succ, Pst.upL, Pst.own, List.getElem?_cons_zero, List.getElem?_cons_succ]
  refine s_ret ?_
  apply EV.use
  · walk_at "ddev"
    exact ⟨by decide, by decide, by omega, by omega, by omega⟩
  refine hr _ _ ?_
  exact h _ (by omega)
theorem dv_law {ns : List Int} {Xd : XB} {R : DV → List DV → Prop} (hl : ns.length ≤ 1000) (h : R (.bl true) []) : c_law [.sh (.rol (ns.map .int))] [] Xd R := by
  refine dv_body fun e hr hx => ?_
  unfold t_law
  dsimp only [List.length_cons, List.length_nil, Nat.reduceSub, Nat.reduceAdd, List.replicate, List.cons_append, List.nil_append, List.append_nil, Pst.put, List.set_cons_zero, List.set_cons_succ, Pst.upL, Pst.own, List.getElem?_cons_zero, List.getElem?_cons_succ]
  refine s_ret (s_c1 (s_lc (s_it ?_)))
  apply s_call
  · walk_at "ddev"
  · rfl
  refine dv_cells hl fun n hn => ?_
  refine ⟨noown_ok rfl, ?_⟩
  rw [rangeD_maps]
  refine (lv_map (xs := List.range n) (fun i => .int (0 + (i : Int))) (fun _ => .bl true) (fun i => [.sh (.rol (ns.map .int)), .sh (.int (0 + (i : Int)))]) (fun i hi => ?_) (fun _ _ => rfl) (by rw [List.length_range]; exact Nat.le_trans hn (by decide)) rfl rfl : LV _ _ _ _ _ _ _ _) _ ?_
  · have hi := List.mem_range.mp hi
    intro kf κ' hk
    refine gv_use gv_name ?_
    unfold t_yes
    dsimp only
    rw [if_pos rfl]
    refine s_callT ?_
    apply s_call
    · walk_at "ddev"
    · rfl
    have e0 : (0 : Int) + (i : Int) = (i : Int) := by omega
    rw [e0]
    refine dv_pot (by omega) hl fun a b ha hb => ?_
    refine ⟨rfl, dv_right ha hb fun _ => ?_⟩
    rw [e0] at hk
    exact hk
  · refine ⟨List.replicate n true, ?_, ?_⟩
    · refine List.ext_getElem? fun i => ?_
      rw [List.getElem?_map, List.getElem?_map, List.getElem?_replicate]
      by_cases hi : i < n
      · rw [List.getElem?_range hi, if_pos hi]; rfl
      · rw [List.getElem?_eq_none (by rw [List.length_range]; omega), if_neg hi]; rfl
    · have : (List.replicate n true).all _root_.id = true := by simp
      rw [this]
      exact hr _ _ h
end Dr
set_option maxHeartbeats 0
namespace Dr
open PySem PySem.Spec PyProof.Rows L2 DD
section
variable {P : Program} {w : World} {K : PySem.W.Frag} {mg : Str → Option Value} {base h : Heap}
theorem fn_law {f : Addr} {fd : FuncData} (X : K.In h) (G : h.Ns mainGlobals mg) (c : He.SaysD fa fn K) (F : FunD K "law" "law" (defArgs (top 61)) (defBody (top 61)) (defScope (top 61)) [] [] f fd) : FnOk P w K mg base CX0 9 f fd ["script"] (spD K false 1 c_law) := by
  have nd := (sc_law).nd
  refine fn_ok F sc_law (fun cdv A outer s H E F' bas hr => PSs.nox ?_)
  exact (fss_one (fs_ret (fe_B1 (cd_all rfl) rfl (He.free_ok X G (c.fact 43 (f := .free "all") rfl)) rfl (FO.toR (fo_lc (own := [("at", 1)]) rfl nd (fi_it (fe_call (ok__law_cells X G c) hr (by decide) rfl ps0 (fa_cons (fe_v (pv 0)) (fa_cons fe_int fa_nil)))) (blkOk_by (N := N_law) (sc := (defScope (top 61))) (by decide +kernel)) (fun _ _ _ _ _ _ _ => (fgv_name (by decide) (pg_name (i := 1) nd rfl (.inl rfl) (by first | exact .inl rfl | exact .inr rfl)))) (fun _ _ _ _ _ _ _ => fts_nil) (fun _ _ _ _ _ _ _ => (fe_callT (ok__law_right X G c) hr (by decide) rfl ps0 (fo_call (ok__law_pot X G c) hr (by decide) rfl ps0 (fa_cons (fe_v (pv 0)) (fa_cons (fe_v (pv 1)) fa_nil))))))))))
theorem facts {f : Addr} (X : K.In h) (G : h.Ns mainGlobals mg) (hfa : mg ("law" : Str) = some (.ref f)) (c : He.SaysD fa fn K) :
    ∃ fd : FuncData, (∀ (s : Shared) (v : Value), BindsTo s fd ⟨[v], []⟩ [("script", v)]) ∧ ∀ base : Heap, K.In base → base.Ns mainGlobals mg → FnOk P w K mg base CX0 9 f fd ["script"] (spD K false 1 c_law) := by
  obtain ⟨fd, F⟩ := c.def_ 40 (d := dF 61 "law") rfl
  have e := hfa.symm.trans (He.glo_ok X G (c.fact 40 (f := .glo "law") rfl))
  cases e
  have b := FunD.bindsA (ps := ["script"]) F fun _ _ _ _ _ _ us hl => match us, hl with | [_], _ => rfl
  exact ⟨fd, fun s v => b s [v] rfl, fun base _ _ => fn_law X G c F⟩
theorem law_sp {H : Hp} {a : Addr} {ns : List Int} (hl : ns.length ≤ 63) (hS : SqL K H a (ns.map V.int)) : spD K false 1 c_law [.ref a] H (fun v _ => v = .bl true) fun _ _ _ => False := by
  refine ⟨rfl, fun _ => none, [], H, [.sh (.rol (ns.map .int))], [], fun _ _ => False, fun d b => d = .bl true, ?_, fun _ _ h => h.elim, dv_law (by omega) rfl, fun d b hd v G' H' s r hv => ?_⟩
  · refine ⟨fun _ _ h => (by cases h), Same.refl _, fun _ _ h => (by cases h), rfl, fun i d hi => ?_, fun i d hi => ?_, fun i j d e hij hi => ?_, fun i j hi => ?_, rfl, fun j b d h1 => (by simp at h1), List.nodup_nil⟩
    · cases i with
      | zero =>
        cases hi
        refine ⟨_, rfl, a, _, rfl, hS, ?_⟩
        clear hS hl
        induction ns with
        | nil => exact rfl
        | cons n ns ih => exact ⟨_, _, rfl, rfl, ih⟩
      | succ i => simp at hi
    · cases i with
      | zero => cases hi
      | succ i => simp at hi
    · cases i with
      | zero => cases hi
      | succ i => simp at hi
    · cases i with
      | zero => cases hi
      | succ i => simp at hi
  · subst hd
    exact hv
end
abbrev R : PySem.W.OpenRow := PySem.W.OpenLaw.row PySem.Challenge.rw_paidasused_k72_whole_estimates_and_disco
abbrev hk : PySem.W.Hook := He.hookD 4 fa fn
def ob (s : PySem.W.SharedT) : He.AlD := He.obsDG 4 fa fn (HandSHeadRun.getT s)
theorem ob_eq (s : PySem.W.SharedT) : ob s = hk.obs s.abs := He.obsDG_eq (HandSHeadRun.getT_eq s)
def nm0 : List PySem.Str := ["is_int", "are_ints", "is_told", "is_rising", "is_order", "look_at_profile", "are_counts", "look_at_estimated", "told_gap", "told_counts", "estimated", "uses_by_hours", "estimated_at", "look_at_more", "told_with", "put_right", "off_at", "worst_off", "best_hour", "is_discount", "look_at_discounts", "lowest", "told_off", "told_price"]
def nm1 : List PySem.Str := ["price_of", "told_split", "lowest_price", "highest_price", "is_price", "shows_lowest_price", "shows_highest_price", "does_order_matter", "_law_pot", "_law_take", "_law_of", "_law_cells", "_law_some", "_law_are_estimates_right", "_law_are_discounts_right", "_law_right", "BillError", "BadInt", "BadParts", "BadHours", "BadReadings", "BadShares", "MOST_HOURS", "MOST_WEIGHT"]
def nm2 : List PySem.Str := ["MOST_COUNT", "MOST_READINGS", "MOST_PRICE", "MOST_OFF", "PART", "MONEY", "SAME", "TWO"]
def nm : List PySem.Str := nm0 ++ nm1 ++ nm2
theorem run (w : World) : HandSHeadRun.RunEq R (PySem.W.view R.prog [61]) hk ob 4000 nm w := by
  intro os
  kernel_rfl
end Dr
open PySem PySem.W PySem.Calls PyProof.Rows
theorem PySem.Challenge.cw_paidasused_k72_whole_estimates_and_disco_holds : PySem.Challenge.rw_paidasused_k72_whole_estimates_and_disco.Holds := by
  w_on; o_law
  refine HandSHeadRun.head_any (r := OpenLaw.row PySem.Challenge.rw_paidasused_k72_whole_estimates_and_disco) (q := view (OpenLaw.row PySem.Challenge.rw_paidasused_k72_whole_estimates_and_disco).prog [61]) (H := Dr.hk) (ob := Dr.ob) (M := 4000) (loose := Dr.nm) (d := HandSHeadRun.topDef (OpenLaw.row PySem.Challenge.rw_paidasused_k72_whole_estimates_and_disco).prog 61) (kwd := []) Dr.ob_eq
    (by kernel_rfl) (fun s => by kernel_rfl) Dr.run (by kernel_rfl) (by kernel_rfl) (by kernel_rfl) (by rfl) (by first | assumption | decide +kernel) (by decide +kernel) ⟨rfl, rfl, rfl, rfl, rfl, by decide +kernel⟩ ?hw ?hc
  case hw => w_witness2
  case hc =>
    refine L2.walk_ofE (l := PySem.Challenge.rw_paidasused_k72_whole_estimates_and_disco) (n := 63) (k := 9) (x := "script") (CX := L2.CX0) rfl (by decide) (by kernel_rfl) ⟨rfl, by decide, by decide⟩ ?F (fun _ _ _ _ z => z)
    intro w mg fa h Y G hmg0
    obtain ⟨K, KX, c⟩ := Y
    have hmg : mg ("law" : PySem.Str) = some (.ref fa) := by
      have e : (HandSHeadRun.topDef (OpenLaw.row PySem.Challenge.rw_paidasused_k72_whole_estimates_and_disco).prog 61).name = ("law" : PySem.Str) := by kernel_rfl
      rw [← e]
      exact hmg0
    obtain ⟨fd, hb, hF⟩ := Dr.facts (P := (PySem.Challenge.rw_paidasused_k72_whole_estimates_and_disco).prog) (w := w) KX G hmg c
    exact ⟨K, fd, _, KX, hb, fun H a ns hl _ hS => Dr.law_sp hl hS, hF⟩
