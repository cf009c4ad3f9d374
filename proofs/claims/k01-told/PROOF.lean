import PyProof.Rows.All
import Wide.All
import OpenK.AllK
import Wide.FinOn
import HandS.ForMost
import HandS.Exc
import HandS.TryOnly
import HandS.ExcOwn
import HandS.WordsExc
import HandS.ExcInit
import KE.KDictWalk
import KE.KDictPairs
import HandS.TupAny
import HandS.NoneIn
import HandS.IsInst
import HandS.Walk
import KE.GoesEnum
import KE.KDictKeyed
import HandS.More
import HandS.Text
import HandS.WrittenGet
import HandS.Star
import HandS.OwnEq
import HandS.Property
import HandS.EndBits
import HandS.ExcField
import HandS.ExcIs
import KE.KExcIs
import HandS.TupMul
import HandS.TryMany
import HandS.GenList
import HandS.Defaults
import HandS.DictComp
import KE.KDictCopyH
import OpenK.KOps
import PySem.Challenge.RW_stretchloops_k01_programs_told
set_option Elab.async false
set_option linter.all false
set_option maxRecDepth 100000
set_option maxHeartbeats 1000000
/-! FL: a functional layer: data as trees, denotations as plain functions. -/
namespace FL
open PySem L2

/-- data -/
inductive T where
  | non | bl (b : Bool) | int (i : Int) | str (x : Str)
  | tup (ts : List T) | ktp (ts : List T) | lst (ts : List T) | frl (ts : List T)
  | dk (ks : List Key) (ts : List T)
  | dt (ks : List T) (ts : List T)
  | obj (C : Addr) (ns : List Str) (ts : List T)

/-- a dict as it lies, that nobody changes -/
def rawD (d : Addr) (es : Array DictEntry) (ep : Nat) : HO := .ext fun h => h.DictRaw d es ep ∧ (d == sysModules) = false ∧ es.size ≤ sizeLine
def ER (es : Array DictEntry) (ks vs : List V) : Prop := es.size = ks.length ∧ ks.length = vs.length ∧ ∀ (i : Nat) (hi : i < es.size) (k v : V), ks[i]? = some k → vs[i]? = some v → RelV k es[i].key ∧ RelV v es[i].val
mutual
def Rp (K : PySem.W.Frag) (G : Hp) : T → V → Prop
  | .non, v => v = .non
  | .bl b, v => v = .bl b
  | .int i, v => v = .int i
  | .str x, v => v = .str x
  | .tup ts, v => ∃ a vs, v = .ref a ∧ G a = some (.tup vs) ∧ Rps K G ts vs
  | .ktp ts, v => ∃ a vs, v = .ref a ∧ SqT K G a vs ∧ Rps K G ts vs
  | .lst ts, v => ∃ a vs, v = .ref a ∧ G a = some (.lst vs) ∧ Rps K G ts vs
  | .frl ts, v => ∃ a vs, v = .ref a ∧ SqL K G a vs ∧ Rps K G ts vs
  | .dk ks ts, v => ∃ a vs, v = .ref a ∧ G a = some (.dK (ks.zip vs)) ∧ ks.length = vs.length ∧ Rps K G ts vs
  | .dt ks ts, v => ∃ a es ep vks vs, v = .ref a ∧ G a = some (rawD a es ep) ∧ ER es vks vs ∧ Rps K G ks vks ∧ Rps K G ts vs
  | .obj C ns ts, v => ∃ a dx vs, v = .ref a ∧ G a = some (.ins C dx (ns.zip vs)) ∧ ns.length = vs.length ∧ Rps K G ts vs
def Rps (K : PySem.W.Frag) (G : Hp) : List T → List V → Prop
  | [], vs => vs = []
  | t :: ts, vs => ∃ v ws, vs = v :: ws ∧ Rp K G t v ∧ Rps K G ts ws
end

/-- kept -/
def Ex (H H' : Hp) : Prop := ∀ a o, H a = some o → H' a = some o
theorem Ex.refl (H : Hp) : Ex H H := fun _ _ h => h
theorem Ex.trans {H H1 H2 : Hp} (a : Ex H H1) (b : Ex H1 H2) : Ex H H2 := fun x o h => b x o (a x o h)
theorem Ex.new {H : Hp} {p : Addr} {o : HO} (h : H p = none) : Ex H (upd H p o) := fun a u e => by
  rw [upd_ne (ne_of_none e h)]; exact e
theorem Ex.mut {H H' : Hp} {p : Addr} {o : HO} (e : Ex H H') (h : H p = none) : Ex H (upd H' p o) := fun a u ha => by
  rw [upd_ne (ne_of_none ha h)]; exact e a u ha
theorem Ex.both {H H' : Hp} {p : Addr} {o : HO} (e : Ex H H') : Ex (upd H p o) (upd H' p o) := fun a u ha => by
  by_cases q : a = p
  · subst q; rw [upd_same] at ha ⊢; exact ha
  · rw [upd_ne q] at ha ⊢; exact e a u ha
theorem Ex.free {H H' : Hp} {p : Addr} (e : Ex H H') (h : H' p = none) : H p = none := by
  cases h1 : H p with
  | none => rfl
  | some o => rw [e p o h1] at h; cases h
theorem Ex.upd_of {G H : Hp} {a : Addr} {o : HO} (e : Ex G H) (h : H a = some o) : Ex (upd G a o) H := fun b u q => by
  by_cases z : b = a
  · subst z; rw [upd_same] at q; cases q; exact h
  · rw [upd_ne z] at q; exact e b u q
theorem Ex.rd {H H' : Hp} {a : Addr} {u : HO} (e : Ex H H') (h : Rd H a u) : Rd H' a u := by
  rcases h with h | ⟨o, h⟩
  · exact Or.inl (e a _ h)
  · exact Or.inr ⟨o, e a _ h⟩
theorem Ex.l {K : PySem.W.Frag} {H H' : Hp} {a : Addr} {xs : List V} (e : Ex H H') (h : SqL K H a xs) : SqL K H' a xs := by
  rcases h with h | h
  · exact Or.inl (e.rd h)
  · exact Or.inr h
theorem Ex.t {K : PySem.W.Frag} {H H' : Hp} {a : Addr} {xs : List V} (e : Ex H H') (h : SqT K H a xs) : SqT K H' a xs := by
  rcases h with h | h
  · exact Or.inl (e.rd h)
  · exact Or.inr h

mutual
theorem Rp.mono {K : PySem.W.Frag} {G G' : Hp} (e : Ex G G') : ∀ {t : T} {v : V}, Rp K G t v → Rp K G' t v
  | .non, _, h => h
  | .bl _, _, h => h
  | .int _, _, h => h
  | .str _, _, h => h
  | .tup ts, v, h => by
    simp only [Rp] at h ⊢
    obtain ⟨a, vs, q1, q2, q3⟩ := h
    exact ⟨a, vs, q1, e _ _ q2, Rps.mono e q3⟩
  | .ktp ts, v, h => by
    simp only [Rp] at h ⊢
    obtain ⟨a, vs, q1, q2, q3⟩ := h
    exact ⟨a, vs, q1, e.t q2, Rps.mono e q3⟩
  | .lst ts, v, h => by
    simp only [Rp] at h ⊢
    obtain ⟨a, vs, q1, q2, q3⟩ := h
    exact ⟨a, vs, q1, e _ _ q2, Rps.mono e q3⟩
  | .frl ts, v, h => by
    simp only [Rp] at h ⊢
    obtain ⟨a, vs, q1, q2, q3⟩ := h
    exact ⟨a, vs, q1, e.l q2, Rps.mono e q3⟩
  | .dk ks ts, v, h => by
    simp only [Rp] at h ⊢
    obtain ⟨a, vs, q1, q2, q3, q4⟩ := h
    exact ⟨a, vs, q1, e _ _ q2, q3, Rps.mono e q4⟩
  | .dt ks ts, v, h => by
    simp only [Rp] at h ⊢
    obtain ⟨a, es, ep, vks, vs, q1, q2, q3, q4, q5⟩ := h
    exact ⟨a, es, ep, vks, vs, q1, e _ _ q2, q3, Rps.mono e q4, Rps.mono e q5⟩
  | .obj C ns ts, v, h => by
    simp only [Rp] at h ⊢
    obtain ⟨a, dx, vs, q1, q2, q3, q4⟩ := h
    exact ⟨a, dx, vs, q1, e _ _ q2, q3, Rps.mono e q4⟩
theorem Rps.mono {K : PySem.W.Frag} {G G' : Hp} (e : Ex G G') : ∀ {ts : List T} {vs : List V}, Rps K G ts vs → Rps K G' ts vs
  | [], _, h => h
  | t :: ts, vs, h => by
    simp only [Rps] at h ⊢
    obtain ⟨v, ws, q1, q2, q3⟩ := h
    exact ⟨v, ws, q1, Rp.mono e q2, Rps.mono e q3⟩
end
theorem Rps.length {K : PySem.W.Frag} {G : Hp} : ∀ {ts : List T} {vs : List V}, Rps K G ts vs → ts.length = vs.length
  | [], _, h => by simp only [Rps] at h; subst h; rfl
  | t :: ts, vs, h => by
    simp only [Rps] at h
    obtain ⟨v, ws, q1, q2, q3⟩ := h
    subst q1
    simp [Rps.length q3]
theorem Rps.append {K : PySem.W.Frag} {G : Hp} : ∀ {ts us : List T} {vs ws : List V}, Rps K G ts vs → Rps K G us ws → Rps K G (ts ++ us) (vs ++ ws)
  | [], _, _, _, h, g => by simp only [Rps] at h; subst h; exact g
  | t :: ts, us, vs, ws, h, g => by
    simp only [Rps] at h
    obtain ⟨v, xs, q1, q2, q3⟩ := h
    subst q1
    show Rps K G (t :: (ts ++ us)) (v :: (xs ++ ws))
    simp only [Rps]
    exact ⟨v, xs ++ ws, rfl, q2, Rps.append q3 g⟩
theorem Rps.get {K : PySem.W.Frag} {G : Hp} : ∀ {ts : List T} {vs : List V} {i : Nat} {t : T}, Rps K G ts vs → ts[i]? = some t → ∃ v, vs[i]? = some v ∧ Rp K G t v
  | [], _, _, _, _, e => by simp at e
  | t :: ts, vs, 0, u, h, e => by
    simp only [Rps] at h
    obtain ⟨v, ws, q1, q2, q3⟩ := h
    subst q1
    simp at e; subst e
    exact ⟨v, by simp, q2⟩
  | t :: ts, vs, i + 1, u, h, e => by
    simp only [Rps] at h
    obtain ⟨v, ws, q1, q2, q3⟩ := h
    subst q1
    obtain ⟨w, e1, e2⟩ := Rps.get (i := i) q3 (by simpa using e)
    exact ⟨w, by simpa using e1, e2⟩
theorem Rps.getV {K : PySem.W.Frag} {G : Hp} : ∀ {ts : List T} {vs : List V} {i : Nat} {v : V}, Rps K G ts vs → vs[i]? = some v → ∃ t, ts[i]? = some t ∧ Rp K G t v
  | [], _, _, _, h, e => by simp only [Rps] at h; subst h; simp at e
  | t :: ts, vs, 0, u, h, e => by
    simp only [Rps] at h
    obtain ⟨v, ws, q1, q2, q3⟩ := h
    subst q1
    simp at e; subst e
    exact ⟨t, by simp, q2⟩
  | t :: ts, vs, i + 1, u, h, e => by
    simp only [Rps] at h
    obtain ⟨v, ws, q1, q2, q3⟩ := h
    subst q1
    obtain ⟨w, e1, e2⟩ := Rps.getV (i := i) q3 (by simpa using e)
    exact ⟨w, by simpa using e1, e2⟩
theorem Rps.set {K : PySem.W.Frag} {G : Hp} {t : T} {v : V} (r : Rp K G t v) : ∀ {ts : List T} {vs : List V} (i : Nat), Rps K G ts vs → Rps K G (ts.set i t) (vs.set i v)
  | [], _, _, h => by simp only [Rps] at h; subst h; simp [Rps]
  | u :: ts, vs, 0, h => by
    simp only [Rps] at h
    obtain ⟨w, ws, q1, q2, q3⟩ := h
    subst q1
    show Rps K G (t :: ts) (v :: ws)
    simp only [Rps]
    exact ⟨v, ws, rfl, r, q3⟩
  | u :: ts, vs, i + 1, h => by
    simp only [Rps] at h
    obtain ⟨w, ws, q1, q2, q3⟩ := h
    subst q1
    show Rps K G (u :: ts.set i t) (w :: ws.set i v)
    simp only [Rps]
    exact ⟨w, _, rfl, q2, Rps.set r i q3⟩
theorem Rps.take {K : PySem.W.Frag} {G : Hp} : ∀ {ts : List T} {vs : List V} (n : Nat), Rps K G ts vs → Rps K G (ts.take n) (vs.take n)
  | _, _, 0, _ => by simp [Rps]
  | [], _, n + 1, h => by simp only [Rps] at h; subst h; simp [Rps]
  | u :: ts, vs, n + 1, h => by
    simp only [Rps] at h
    obtain ⟨w, ws, q1, q2, q3⟩ := h
    subst q1
    show Rps K G (u :: ts.take n) (w :: ws.take n)
    simp only [Rps]
    exact ⟨w, _, rfl, q2, Rps.take n q3⟩
theorem Rps.drop {K : PySem.W.Frag} {G : Hp} : ∀ {ts : List T} {vs : List V} (n : Nat), Rps K G ts vs → Rps K G (ts.drop n) (vs.drop n)
  | _, _, 0, h => h
  | [], _, n + 1, h => by simp only [Rps] at h; subst h; simp [Rps]
  | u :: ts, vs, n + 1, h => by
    simp only [Rps] at h
    obtain ⟨w, ws, q1, q2, q3⟩ := h
    subst q1
    exact Rps.drop n q3
theorem Rps.nil {K : PySem.W.Frag} {G : Hp} : Rps K G [] [] := by simp [Rps]
theorem Rps.cons {K : PySem.W.Frag} {G : Hp} {t : T} {v : V} {ts : List T} {vs : List V} (r : Rp K G t v) (q : Rps K G ts vs) : Rps K G (t :: ts) (v :: vs) := by
  simp only [Rps]; exact ⟨v, vs, rfl, r, q⟩

/-- values of a def under way: data, or an object of its own -/
inductive U where
  | d (t : T) | own (i : Nat)
inductive Ob where
  | frz (t : T) | lst (ts : List T) | dk (ks : List Key) (ts : List T) | obj (C : Addr) (ns : List Str) (us : List U)
structure Sg where
  sl : List (Option U)
  st : List Ob
def RpU (K : PySem.W.Frag) (G : Hp) (α : List Addr) : U → V → Prop
  | .d t, v => Rp K G t v
  | .own i, v => ∃ a, α[i]? = some a ∧ v = .ref a
def RpUs (K : PySem.W.Frag) (G : Hp) (α : List Addr) : List U → List V → Prop
  | [], vs => vs = []
  | t :: ts, vs => ∃ v ws, vs = v :: ws ∧ RpU K G α t v ∧ RpUs K G α ts ws
def ObR (K : PySem.W.Frag) (G : Hp) (α : List Addr) (H : Hp) (a : Addr) : Ob → Prop
  | .frz t => Rp K G t (.ref a)
  | .lst ts => G a = none ∧ ∃ vs, H a = some (.lst vs) ∧ Rps K G ts vs
  | .dk ks ts => G a = none ∧ ∃ vs, H a = some (.dK (ks.zip vs)) ∧ ks.length = vs.length ∧ Rps K G ts vs
  | .obj C ns us => G a = none ∧ ∃ dx vs, H a = some (.ins C dx (ns.zip vs)) ∧ ns.length = vs.length ∧ RpUs K G α us vs
/-- the store -/
structure Rh (K : PySem.W.Frag) (B : Hp) (st : List Ob) (G : Hp) (α : List Addr) (H : Hp) : Prop where
  gh : Ex G H
  bh : Ex B H
  len : α.length = st.length
  nd : α.Nodup
  ow : ∀ (i : Nat) (a : Addr) (o : Ob), α[i]? = some a → st[i]? = some o → B a = none ∧ (∃ u, H a = some u) ∧ ObR K G α H a o
structure Rs (K : PySem.W.Frag) (B : Hp) (ρ : Sg) (G : Hp) (α : List Addr) (σ : L2.St) (H : Hp) : Prop extends Rh K B ρ.st G α H where
  sll : ρ.sl.length = σ.length
  sl : ∀ (i : Nat) (u : U), ρ.sl[i]? = some (some u) → ∃ v, σ[i]? = some (some v) ∧ RpU K G α u v
/-- how what is known grows -/
structure Gr (B : Hp) (G : Hp) (α : List Addr) (G' : Hp) (α' : List Addr) : Prop where
  ex : Ex G G'
  al : ∃ β, α' = α ++ β
  fr : ∀ a, G a = none → B a ≠ none → G' a = none
theorem Gr.refl {B G : Hp} {α : List Addr} : Gr B G α G α := ⟨Ex.refl G, ⟨[], by simp⟩, fun _ h _ => h⟩
theorem Gr.trans {B G G1 G2 : Hp} {α α1 α2 : List Addr} (a : Gr B G α G1 α1) (b : Gr B G1 α1 G2 α2) : Gr B G α G2 α2 := by
  obtain ⟨β, e⟩ := a.al
  obtain ⟨γ, e'⟩ := b.al
  exact ⟨a.ex.trans b.ex, ⟨β ++ γ, by rw [e', e, List.append_assoc]⟩, fun x h n => b.fr x (a.fr x h n) n⟩
theorem Gr.get {B G G' : Hp} {α α' : List Addr} (g : Gr B G α G' α') {i : Nat} {a : Addr} (h : α[i]? = some a) : α'[i]? = some a := by
  obtain ⟨β, e⟩ := g.al
  subst e
  rw [List.getElem?_append_left (List.getElem?_eq_some_iff.mp h).1]; exact h
theorem RpU.mono {K : PySem.W.Frag} {B G G' : Hp} {α α' : List Addr} (g : Gr B G α G' α') {u : U} {v : V} (h : RpU K G α u v) : RpU K G' α' u v := by
  cases u with
  | d t => exact Rp.mono g.ex h
  | own i => obtain ⟨a, e, q⟩ := h; exact ⟨a, g.get e, q⟩
theorem RpUs.mono {K : PySem.W.Frag} {B G G' : Hp} {α α' : List Addr} (g : Gr B G α G' α') : ∀ {us : List U} {vs : List V}, RpUs K G α us vs → RpUs K G' α' us vs
  | [], _, h => h
  | u :: us, vs, ⟨v, ws, q1, q2, q3⟩ => ⟨v, ws, q1, q2.mono g, RpUs.mono g q3⟩
theorem RpUs.length {K : PySem.W.Frag} {G : Hp} {α : List Addr} : ∀ {us : List U} {vs : List V}, RpUs K G α us vs → us.length = vs.length
  | [], _, h => by cases h; rfl
  | u :: us, _, ⟨v, ws, q1, q2, q3⟩ => by subst q1; simp [RpUs.length q3]
theorem RpUs.ofRps {K : PySem.W.Frag} {G : Hp} {α : List Addr} : ∀ {ts : List T} {vs : List V}, Rps K G ts vs → RpUs K G α (ts.map .d) vs
  | [], _, h => by simp only [Rps] at h; exact h
  | t :: ts, vs, h => by
    simp only [Rps] at h
    obtain ⟨v, ws, q1, q2, q3⟩ := h
    exact ⟨v, ws, q1, q2, RpUs.ofRps q3⟩
end FL

/-! FL2: states, freezing, readings. -/
namespace FL
open PySem L2

section
variable {K : PySem.W.Frag} {B G G' H H' : Hp} {α α' : List Addr} {σ : L2.St} {ρ : Sg} {st : List Ob} {p : Addr}
theorem ObR.mono {a : Addr} {o : Ob} (g : Gr B G α G' α') (e : G a = none → G' a = none) (hH : H' a = H a) (h : ObR K G α H a o) : ObR K G' α' H' a o := by
  cases o with
  | frz t => exact Rp.mono g.ex h
  | lst ts => obtain ⟨q, vs, q1, q2⟩ := h; exact ⟨e q, vs, by rw [hH]; exact q1, Rps.mono g.ex q2⟩
  | dk ks ts => obtain ⟨q, vs, q1, q2, q3⟩ := h; exact ⟨e q, vs, by rw [hH]; exact q1, q2, Rps.mono g.ex q3⟩
  | obj C ns us => obtain ⟨q, dx, vs, q1, q2, q3⟩ := h; exact ⟨e q, dx, vs, by rw [hH]; exact q1, q2, RpUs.mono g q3⟩
theorem Gr.new {o : HO} (hp : B p = none) (hg : G p = none) : Gr B G α (upd G p o) α := ⟨Ex.new hg, ⟨[], by simp⟩, fun a h n => by
  rw [upd_ne (fun e => n (by rw [e]; exact hp))]; exact h⟩
theorem Gr.own {a : Addr} : Gr B G α G (α ++ [a]) := ⟨Ex.refl G, ⟨[a], rfl⟩, fun _ h _ => h⟩
theorem Rh.at (r : Rh K B st G α H) {i : Nat} {o : Ob} (h : st[i]? = some o) : ∃ a, α[i]? = some a ∧ B a = none ∧ (∃ u, H a = some u) ∧ ObR K G α H a o := by
  have hl : i < α.length := by rw [r.len]; exact (List.getElem?_eq_some_iff.mp h).1
  exact ⟨α[i], List.getElem?_eq_getElem hl, r.ow i _ o (List.getElem?_eq_getElem hl) h⟩
theorem Rh.there (r : Rh K B st G α H) {i : Nat} {a : Addr} (h : α[i]? = some a) : ∃ u, H a = some u := by
  have hl : i < st.length := by rw [← r.len]; exact (List.getElem?_eq_some_iff.mp h).1
  exact (r.ow i a _ h (List.getElem?_eq_getElem hl)).2.1
theorem Rh.nin (r : Rh K B st G α H) (hp : H p = none) : p ∉ α := fun hm => by
  obtain ⟨i, hi, e⟩ := List.getElem_of_mem hm
  obtain ⟨u, q⟩ := r.there (show α[i]? = some p by rw [List.getElem?_eq_getElem hi, e])
  rw [hp] at q; cases q
/-- a new frozen object -/
theorem Rh.newD {o : HO} (r : Rh K B st G α H) (hp : H p = none) : Rh K B st (upd G p o) α (upd H p o) := by
  refine ⟨r.gh.both, r.bh.mut (r.bh.free hp), r.len, r.nd, fun i a ob e1 e2 => ?_⟩
  obtain ⟨q1, ⟨u, q2⟩, q3⟩ := r.ow i a ob e1 e2
  have ne : a ≠ p := ne_of_none q2 hp
  refine ⟨q1, ⟨u, by rw [upd_ne ne]; exact q2⟩, q3.mono (Gr.new (r.bh.free hp) (r.gh.free hp)) (fun z => by rw [upd_ne ne]; exact z) (upd_ne ne)⟩
/-- a new object of one's own -/
theorem Rh.newO {o : HO} {ob : Ob} (r : Rh K B st G α H) (hp : H p = none) (h : ObR K G (α ++ [p]) (upd H p o) p ob) : Rh K B (st ++ [ob]) G (α ++ [p]) (upd H p o) := by
  refine ⟨r.gh.mut (r.gh.free hp), r.bh.mut (r.bh.free hp), by simp [r.len], ?_, fun i a oo e1 e2 => ?_⟩
  · rw [List.nodup_append]
    refine ⟨r.nd, by simp, fun a ha b hb => ?_⟩
    rw [List.mem_singleton] at hb
    rintro rfl
    exact r.nin hp (hb ▸ ha)
  · by_cases hi : i < α.length
    · rw [List.getElem?_append_left hi] at e1
      rw [List.getElem?_append_left (by rw [← r.len]; exact hi)] at e2
      obtain ⟨q1, ⟨u, q2⟩, q3⟩ := r.ow i a oo e1 e2
      have ne : a ≠ p := ne_of_none q2 hp
      exact ⟨q1, ⟨u, by rw [upd_ne ne]; exact q2⟩, q3.mono (B := B) Gr.own (fun z => z) (upd_ne ne)⟩
    · have hi' : i = α.length := by
        have := (List.getElem?_eq_some_iff.mp e1).1
        simp at this; omega
      subst hi'
      have e3 : p = a := by simpa using e1
      have e4 : ob = oo := by
        rw [r.len] at e2
        simpa using e2
      subst e3; subst e4
      exact ⟨r.bh.free hp, ⟨o, upd_same⟩, h⟩
theorem nodup_at {α : List Addr} (h : α.Nodup) {i j : Nat} {a : Addr} (hi : α[i]? = some a) (hj : α[j]? = some a) : i = j := by
  obtain ⟨h1, e1⟩ := List.getElem?_eq_some_iff.mp hi
  obtain ⟨h2, e2⟩ := List.getElem?_eq_some_iff.mp hj
  exact (List.getElem_inj h).mp (e1.trans e2.symm)
/-- an own object changed -/
theorem Rh.upd {o : HO} {ob : Ob} {i : Nat} {a : Addr} (r : Rh K B st G α H) (hi : α[i]? = some a) (hg : G a = none) (h : ObR K G α (upd H a o) a ob) : Rh K B (st.set i ob) G α (upd H a o) := by
  have hl : i < st.length := by rw [← r.len]; exact (List.getElem?_eq_some_iff.mp hi).1
  have hB : B a = none := (r.ow i a _ hi (List.getElem?_eq_getElem hl)).1
  refine ⟨r.gh.mut hg, r.bh.mut hB, by simpa using r.len, r.nd, fun j b oo e1 e2 => ?_⟩
  by_cases hj : j = i
  · subst hj
    rw [hi] at e1; cases e1
    rw [List.getElem?_set_self hl] at e2; cases e2
    exact ⟨hB, ⟨o, upd_same⟩, h⟩
  · rw [List.getElem?_set_ne (Ne.symm hj)] at e2
    obtain ⟨q1, ⟨u, q2⟩, q3⟩ := r.ow j b oo e1 e2
    have ne : b ≠ a := fun z => hj (nodup_at r.nd e1 (z ▸ hi))
    exact ⟨q1, ⟨u, by rw [upd_ne ne]; exact q2⟩, q3.mono (B := B) Gr.refl (fun z => z) (upd_ne ne)⟩
/-- an own object frozen -/
theorem Rh.fz {o : HO} {t : T} {i : Nat} {a : Addr} (r : Rh K B st G α H) (hi : α[i]? = some a) (hg : G a = none) (ho : H a = some o) (h : Rp K (L2.upd G a o) t (.ref a)) : Rh K B (st.set i (.frz t)) (L2.upd G a o) α H ∧ Gr B G α (L2.upd G a o) α := by
  have hl : i < st.length := by rw [← r.len]; exact (List.getElem?_eq_some_iff.mp hi).1
  have hB : B a = none := (r.ow i a _ hi (List.getElem?_eq_getElem hl)).1
  have g : Gr B G α (L2.upd G a o) α := Gr.new hB hg
  refine ⟨⟨r.gh.upd_of ho, r.bh, by simpa using r.len, r.nd, fun j b oo e1 e2 => ?_⟩, g⟩
  by_cases hj : j = i
  · subst hj
    rw [hi] at e1; cases e1
    rw [List.getElem?_set_self hl] at e2; cases e2
    exact ⟨hB, ⟨o, ho⟩, h⟩
  · rw [List.getElem?_set_ne (Ne.symm hj)] at e2
    obtain ⟨q1, ⟨u, q2⟩, q3⟩ := r.ow j b oo e1 e2
    have ne : b ≠ a := fun z => hj (nodup_at r.nd e1 (z ▸ hi))
    exact ⟨q1, ⟨u, q2⟩, q3.mono g (fun z => by rw [upd_ne ne]; exact z) rfl⟩
theorem Rs.mk' {st' : List Ob} (r : Rs K B ρ G α σ H) (g : Gr B G α G' α') (h : Rh K B st' G' α' H') : Rs K B ⟨ρ.sl, st'⟩ G' α' σ H' :=
  { toRh := h, sll := r.sll, sl := fun i u e => let ⟨v, e1, e2⟩ := r.sl i u e; ⟨v, e1, e2.mono g⟩ }

/-! freezing -/
def toDs (f : U → List Ob → Option (T × List Ob)) : List U → List Ob → Option (List T × List Ob)
  | [], st => some ([], st)
  | u :: us, st => match f u st with
    | some (t, st1) => match toDs f us st1 with
      | some (ts, st2) => some (t :: ts, st2)
      | none => none
    | none => none
def toD : Nat → U → List Ob → Option (T × List Ob)
  | _, .d t, st => some (t, st)
  | 0, .own _, _ => none
  | n + 1, .own i, st => match st[i]? with
    | some (.frz t) => some (t, st)
    | some (.lst ts) => some (.lst ts, st.set i (.frz (.lst ts)))
    | some (.dk ks ts) => some (.dk ks ts, st.set i (.frz (.dk ks ts)))
    | some (.obj C ns us) => match toDs (toD n) us st with
      | some (ts, st1) => match st1[i]? with
        | some (.obj C' ns' us') => if C = C' ∧ ns = ns' ∧ us'.length = us.length then some (.obj C ns ts, st1.set i (.frz (.obj C ns ts))) else none
        | _ => none
      | none => none
    | none => none
def ToDok (f : U → List Ob → Option (T × List Ob)) : Prop := ∀ {K : PySem.W.Frag} {B : Hp} {u : U} {v : V} {t : T} {st st' : List Ob} {G : Hp} {α : List Addr} {H : Hp}, Rh K B st G α H → RpU K G α u v → f u st = some (t, st') →
    ∃ G', Gr B G α G' α ∧ Rh K B st' G' α H ∧ Rp K G' t v
theorem toDs_ok {f : U → List Ob → Option (T × List Ob)} (hf : ToDok f) : ∀ {us : List U} {vs : List V} {ts : List T} {st st' : List Ob} {G : Hp}, Rh K B st G α H → RpUs K G α us vs → toDs f us st = some (ts, st') →
    ∃ G', Gr B G α G' α ∧ Rh K B st' G' α H ∧ Rps K G' ts vs
  | [], vs, ts, st, st', G, r, h, e => by
    simp only [toDs, Option.some.injEq, Prod.mk.injEq] at e
    obtain ⟨e1, e2⟩ := e
    subst e1; subst e2
    cases h
    exact ⟨G, Gr.refl, r, Rps.nil⟩
  | u :: us, vs, ts, st, st', G, r, ⟨v, ws, q1, q2, q3⟩, e => by
    simp only [toDs] at e
    cases e1 : f u st with
    | none => rw [e1] at e; cases e
    | some p =>
      obtain ⟨t, st1⟩ := p
      rw [e1] at e
      dsimp only at e
      obtain ⟨G1, g1, r1, p1⟩ := hf r q2 e1
      cases e2 : toDs f us st1 with
      | none => rw [e2] at e; cases e
      | some p =>
        obtain ⟨ts2, st2⟩ := p
        rw [e2] at e
        dsimp only at e
        simp only [Option.some.injEq, Prod.mk.injEq] at e
        obtain ⟨e3, e4⟩ := e
        subst e3; subst e4; subst q1
        obtain ⟨G2, g2, r2, p2⟩ := toDs_ok hf r1 (q3.mono g1) e2
        exact ⟨G2, g1.trans g2, r2, Rps.cons (Rp.mono g2.ex p1) p2⟩
theorem toD_ok : ∀ n, ToDok (toD n)
  | n, K, B, .d t, v, t', st, st', G, α, H, r, h, e => by
    have : toD n (.d t) st = some (t, st) := by cases n <;> rfl
    rw [this] at e
    simp only [Option.some.injEq, Prod.mk.injEq] at e
    obtain ⟨e1, e2⟩ := e
    subst e1; subst e2
    exact ⟨G, Gr.refl, r, h⟩
  | 0, K, B, .own i, v, t', st, st', G, α, H, r, h, e => by cases e
  | n + 1, K, B, .own i, v, t', st, st', G, α, H, r, ⟨a, ha, hv⟩, e => by
    subst hv
    simp only [toD] at e
    cases e1 : st[i]? with
    | none => rw [e1] at e; cases e
    | some o =>
      rw [e1] at e
      obtain ⟨q1, ⟨u, q2⟩, q3⟩ := r.ow i a o ha e1
      cases o with
      | frz t =>
        simp only [Option.some.injEq, Prod.mk.injEq] at e
        obtain ⟨e2, e3⟩ := e
        subst e2; subst e3
        exact ⟨G, Gr.refl, r, q3⟩
      | lst ts =>
        simp only [Option.some.injEq, Prod.mk.injEq] at e
        obtain ⟨e2, e3⟩ := e
        subst e2; subst e3
        obtain ⟨z, vs, z1, z2⟩ := q3
        have hp : Rp K (L2.upd G a (.lst vs)) (.lst ts) (.ref a) := by
          simp only [Rp]; exact ⟨a, vs, rfl, upd_same, Rps.mono (Ex.new z) z2⟩
        obtain ⟨r1, g1⟩ := r.fz ha z z1 hp
        exact ⟨_, g1, r1, hp⟩
      | dk ks ts =>
        simp only [Option.some.injEq, Prod.mk.injEq] at e
        obtain ⟨e2, e3⟩ := e
        subst e2; subst e3
        obtain ⟨z, vs, z1, z2, z3⟩ := q3
        have hp : Rp K (L2.upd G a (.dK (ks.zip vs))) (.dk ks ts) (.ref a) := by
          simp only [Rp]; exact ⟨a, vs, rfl, upd_same, z2, Rps.mono (Ex.new z) z3⟩
        obtain ⟨r1, g1⟩ := r.fz ha z z1 hp
        exact ⟨_, g1, r1, hp⟩
      | obj C ns us =>
        obtain ⟨z, dx, vs, z1, z2, z3⟩ := q3
        dsimp only at e
        cases e2 : toDs (toD n) us st with
        | none => rw [e2] at e; cases e
        | some p =>
          obtain ⟨ts, st1⟩ := p
          rw [e2] at e
          obtain ⟨G1, g1, r1, p1⟩ := toDs_ok (toD_ok n) r z3 e2
          dsimp only at e
          split at e
          · rename_i C' ns' us' e3
            split at e
            · rename_i hc
              obtain ⟨rfl, rfl, hc⟩ := hc
              simp only [Option.some.injEq, Prod.mk.injEq] at e
              obtain ⟨e4, e5⟩ := e
              subst e4; subst e5
              obtain ⟨_, _, y, _⟩ := r1.ow i a _ ha e3
              have hp : Rp K (L2.upd G1 a (.ins C dx (ns.zip vs))) (.obj C ns ts) (.ref a) := by
                simp only [Rp]; exact ⟨a, dx, vs, rfl, upd_same, z2, Rps.mono (Ex.new y) p1⟩
              obtain ⟨r2, g2⟩ := r1.fz ha y z1 hp
              exact ⟨_, g1.trans g2, r2, hp⟩
            · cases e
          · cases e
end
end FL

/-! FL3: denotations, what they ask, and the binds. -/
namespace FL
open PySem L2

/-- an error in the air: its class, its fields -/
structure Xn where
  C : Addr
  fs : List (Str × T)
inductive R (β : Type) where
  | ok (b : β) (ρ : Sg) | ex (x : Xn) (ρ : Sg) | no
inductive F where
  | nx (ρ : Sg) | rt (u : U) (ρ : Sg) | bk (ρ : Sg) | ct (ρ : Sg) | ex (x : Xn) (ρ : Sg) | no
abbrev DE := Sg → R U
abbrev DT := Sg → R Bool
abbrev DA := Sg → R (List U)
abbrev DS := Sg → F
def R.bind {β γ : Type} (r : R β) (k : β → Sg → R γ) : R γ := match r with
  | .ok b ρ => k b ρ | .ex x ρ => .ex x ρ | .no => .no
def R.thn {β : Type} (r : R β) (k : β → Sg → F) : F := match r with
  | .ok b ρ => k b ρ | .ex x ρ => .ex x ρ | .no => .no
@[simp] theorem R.bind_ok {β γ : Type} {b : β} {ρ : Sg} {k : β → Sg → R γ} : (R.ok b ρ).bind k = k b ρ := rfl
@[simp] theorem R.bind_ex {β γ : Type} {x : Xn} {ρ : Sg} {k : β → Sg → R γ} : (R.ex x ρ).bind k = .ex x ρ := rfl
@[simp] theorem R.bind_no {β γ : Type} {k : β → Sg → R γ} : (R.no).bind k = .no := rfl
@[simp] theorem R.thn_ok {β : Type} {b : β} {ρ : Sg} {k : β → Sg → F} : (R.ok b ρ).thn k = k b ρ := rfl
@[simp] theorem R.thn_ex {β : Type} {x : Xn} {ρ : Sg} {k : β → Sg → F} : (R.ex x ρ).thn k = .ex x ρ := rfl
@[simp] theorem R.thn_no {β : Type} {k : β → Sg → F} : (R.no).thn k = .no := rfl
def F.thn (f : F) (k : Sg → F) : F := match f with
  | .nx ρ => k ρ | f => f
@[simp] theorem F.thn_nx {ρ : Sg} {k : Sg → F} : (F.nx ρ).thn k = k ρ := rfl
@[simp] theorem F.thn_rt {u : U} {ρ : Sg} {k : Sg → F} : (F.rt u ρ).thn k = .rt u ρ := rfl
@[simp] theorem F.thn_bk {ρ : Sg} {k : Sg → F} : (F.bk ρ).thn k = .bk ρ := rfl
@[simp] theorem F.thn_ct {ρ : Sg} {k : Sg → F} : (F.ct ρ).thn k = .ct ρ := rfl
@[simp] theorem F.thn_ex {x : Xn} {ρ : Sg} {k : Sg → F} : (F.ex x ρ).thn k = .ex x ρ := rfl
@[simp] theorem F.thn_no {k : Sg → F} : (F.no).thn k = .no := rfl

/-- the error's own dict -/
def Xd (K : PySem.W.Frag) (G H : Hp) (d : Option Addr) (fs : List (Str × T)) : Prop :=
  (fs = [] ∧ d = none) ∨ ∃ (dd : Addr) (vs : List V), d = some dd ∧ G dd = some (.xd ((fs.map (·.1)).zip vs)) ∧ fs.length = vs.length ∧ Rps K G (fs.map (·.2)) vs
/-- what is wanted of an error -/
def xw (K : PySem.W.Frag) (W : WX) (B G : Hp) (α : List Addr) (x : Xn) (ρ : Sg) : Prop :=
  ∀ σ' H' G' α' d, Gr B G α G' α' → Rs K B ρ G' α' σ' H' → Xd K G' H' d x.fs → W (.ref x.C) d σ' H'
def okP (K : PySem.W.Frag) (W : WX) (B G : Hp) (α : List Addr) (σ : L2.St) {β : Type} (r : R β) (P : β → Sg → Hp → List Addr → Hp → Prop) : Prop := match r with
  | .ok b ρ => ∀ G' α' H', Gr B G α G' α' → Rs K B ρ G' α' σ H' → P b ρ G' α' H'
  | .ex x ρ => xw K W B G α x ρ
  | .no => False
def okF (K : PySem.W.Frag) (W : WX) (B G : Hp) (α : List Addr) (f : F) (D : Ends) : Prop := match f with
  | .nx ρ => ∀ G' α' σ' H', Gr B G α G' α' → Rs K B ρ G' α' σ' H' → D.nx σ' H'
  | .rt u ρ => ∀ G' α' σ' H' v, Gr B G α G' α' → Rs K B ρ G' α' σ' H' → RpU K G' α' u v → D.rt v H'
  | .bk ρ => ∀ G' α' σ' H', Gr B G α G' α' → Rs K B ρ G' α' σ' H' → D.bk σ' H'
  | .ct ρ => ∀ G' α' σ' H', Gr B G α G' α' → Rs K B ρ G' α' σ' H' → D.ct σ' H'
  | .ex x ρ => xw K W B G α x ρ
  | .no => False
theorem xw.shift {K : PySem.W.Frag} {W : WX} {B G G1 : Hp} {α α1 : List Addr} {x : Xn} {ρ : Sg} (g : Gr B G α G1 α1) (h : xw K W B G α x ρ) : xw K W B G1 α1 x ρ :=
  fun σ' H' G' α' d g' => h σ' H' G' α' d (g.trans g')
theorem okP.shift {K : PySem.W.Frag} {W : WX} {B G G1 : Hp} {α α1 : List Addr} {σ : L2.St} {β : Type} {r : R β} {P : β → Sg → Hp → List Addr → Hp → Prop} (g : Gr B G α G1 α1) (h : okP K W B G α σ r P) : okP K W B G1 α1 σ r P := by
  cases r with
  | ok b ρ => exact fun G' α' H' g' => h G' α' H' (g.trans g')
  | ex x ρ => exact xw.shift g h
  | no => exact h
theorem okF.shift {K : PySem.W.Frag} {W : WX} {B G G1 : Hp} {α α1 : List Addr} {f : F} {D : Ends} (g : Gr B G α G1 α1) (h : okF K W B G α f D) : okF K W B G1 α1 f D := by
  cases f with
  | nx ρ => exact fun G' α' σ' H' g' => h G' α' σ' H' (g.trans g')
  | rt u ρ => exact fun G' α' σ' H' v g' => h G' α' σ' H' v (g.trans g')
  | bk ρ => exact fun G' α' σ' H' g' => h G' α' σ' H' (g.trans g')
  | ct ρ => exact fun G' α' σ' H' g' => h G' α' σ' H' (g.trans g')
  | ex x ρ => exact xw.shift g h
  | no => exact h
def tE (K : PySem.W.Frag) (W : WX) (m : DE) : TE := fun σ H Q => ∃ B ρ G α, Rs K B ρ G α σ H ∧ okP K W B G α σ (m ρ) fun u _ G' α' H' => ∀ v, RpU K G' α' u v → Q v H'
def tT (K : PySem.W.Frag) (W : WX) (m : DT) : TT := fun σ H Q => ∃ B ρ G α, Rs K B ρ G α σ H ∧ okP K W B G α σ (m ρ) fun b _ _ _ H' => Q b H'
def tA (K : PySem.W.Frag) (W : WX) (m : DA) : TA := fun σ H Q => ∃ B ρ G α, Rs K B ρ G α σ H ∧ okP K W B G α σ (m ρ) fun us _ G' α' H' => ∀ vs, RpUs K G' α' us vs → Q vs H'
def tS (K : PySem.W.Frag) (W : WX) (m : DS) : TS := fun D σ H => ∃ B ρ G α, Rs K B ρ G α σ H ∧ okF K W B G α (m ρ) D

abbrev SE (X : Cx) (W : WX) (e : Expr) (m : DE) : Prop := PE X e (tE X.K W m)
abbrev ST (X : Cx) (W : WX) (e : Expr) (m : DT) : Prop := PT X e (tT X.K W m)
abbrev SA (X : Cx) (W : WX) (es : List Expr) (m : DA) : Prop := PA X es (tA X.K W m)
abbrev SS (X : Cx) (W : WX) (s : Stmt) (m : DS) : Prop := PS X s (tS X.K W m)
abbrev SSs (X : Cx) (W : WX) (s : List Stmt) (m : DS) : Prop := PSs X s (tS X.K W m)

theorem pe_weak {X : Cx} {e : Expr} {t t' : TE} (h : PE X e t) (w : ∀ σ H Q, t' σ H Q → t σ H Q) : PE X e t' := ⟨fun pins s σ H Q I q => h.run pins s σ H Q I (w σ H Q q)⟩
theorem pt_weak {X : Cx} {e : Expr} {t t' : TT} (h : PT X e t) (w : ∀ σ H Q, t' σ H Q → t σ H Q) : PT X e t' := ⟨fun pins s σ H Q I q => h.run pins s σ H Q I (w σ H Q q)⟩
theorem pw_weak {X : Cx} {e : Expr} {t t' : TT} (h : PW X e t) (w : ∀ σ H Q, t' σ H Q → t σ H Q) : PW X e t' := ⟨fun wh pins s σ H Q I q => h.run wh pins s σ H Q I (w σ H Q q)⟩
theorem pa_weak {X : Cx} {e : List Expr} {t t' : TA} (h : PA X e t) (w : ∀ σ H Q, t' σ H Q → t σ H Q) : PA X e t' := ⟨fun p pins s σ H Q I q => h.run p pins s σ H Q I (w σ H Q q)⟩
theorem ps_weak {X : Cx} {e : Stmt} {t t' : TS} (h : PS X e t) (w : ∀ D σ H, t' D σ H → t D σ H) : PS X e t' := ⟨fun pins s σ H D I q => h.run pins s σ H D I (w D σ H q)⟩
theorem pss_weak {X : Cx} {e : List Stmt} {t t' : TS} (h : PSs X e t) (w : ∀ D σ H, t' D σ H → t D σ H) : PSs X e t' := ⟨fun pins s σ H D I q => h.run pins s σ H D I (w D σ H q)⟩

section
variable {K : PySem.W.Frag} {W : WX} {B G H : Hp} {α : List Addr} {σ : L2.St} {ρ : Sg} {β : Type} {P : β → Sg → Hp → List Addr → Hp → Prop} {D : Ends}
theorem bE {m : DE} {k : U → Sg → R β} {Q : VK} (r : Rs K B ρ G α σ H) (h : okP K W B G α σ ((m ρ).bind k) P)
    (hk : ∀ u ρ1 v H1 G1 α1, Gr B G α G1 α1 → Rs K B ρ1 G1 α1 σ H1 → RpU K G1 α1 u v → okP K W B G1 α1 σ (k u ρ1) P → Q v H1) : tE K W m σ H Q := by
  refine ⟨B, ρ, G, α, r, ?_⟩
  cases e : m ρ with
  | ok u ρ1 => rw [e] at h; exact fun G1 α1 H1 g r1 v p => hk u ρ1 v H1 G1 α1 g r1 p (okP.shift g h)
  | ex x ρ1 => rw [e] at h; exact h
  | no => rw [e] at h; exact h
theorem bT {m : DT} {k : Bool → Sg → R β} {Q : Bool → Hp → Prop} (r : Rs K B ρ G α σ H) (h : okP K W B G α σ ((m ρ).bind k) P)
    (hk : ∀ b ρ1 H1 G1 α1, Gr B G α G1 α1 → Rs K B ρ1 G1 α1 σ H1 → okP K W B G1 α1 σ (k b ρ1) P → Q b H1) : tT K W m σ H Q := by
  refine ⟨B, ρ, G, α, r, ?_⟩
  cases e : m ρ with
  | ok u ρ1 => rw [e] at h; exact fun G1 α1 H1 g r1 => hk u ρ1 H1 G1 α1 g r1 (okP.shift g h)
  | ex x ρ1 => rw [e] at h; exact h
  | no => rw [e] at h; exact h
theorem bA {m : DA} {k : List U → Sg → R β} {Q : List V → Hp → Prop} (r : Rs K B ρ G α σ H) (h : okP K W B G α σ ((m ρ).bind k) P)
    (hk : ∀ us ρ1 vs H1 G1 α1, Gr B G α G1 α1 → Rs K B ρ1 G1 α1 σ H1 → RpUs K G1 α1 us vs → okP K W B G1 α1 σ (k us ρ1) P → Q vs H1) : tA K W m σ H Q := by
  refine ⟨B, ρ, G, α, r, ?_⟩
  cases e : m ρ with
  | ok u ρ1 => rw [e] at h; exact fun G1 α1 H1 g r1 v p => hk u ρ1 v H1 G1 α1 g r1 p (okP.shift g h)
  | ex x ρ1 => rw [e] at h; exact h
  | no => rw [e] at h; exact h
theorem sE {m : DE} {k : U → Sg → F} {Q : VK} (r : Rs K B ρ G α σ H) (h : okF K W B G α ((m ρ).thn k) D)
    (hk : ∀ u ρ1 v H1 G1 α1, Gr B G α G1 α1 → Rs K B ρ1 G1 α1 σ H1 → RpU K G1 α1 u v → okF K W B G1 α1 (k u ρ1) D → Q v H1) : tE K W m σ H Q := by
  refine ⟨B, ρ, G, α, r, ?_⟩
  cases e : m ρ with
  | ok u ρ1 => rw [e] at h; exact fun G1 α1 H1 g r1 v p => hk u ρ1 v H1 G1 α1 g r1 p (okF.shift g h)
  | ex x ρ1 => rw [e] at h; exact h
  | no => rw [e] at h; exact h
theorem sT {m : DT} {k : Bool → Sg → F} {Q : Bool → Hp → Prop} (r : Rs K B ρ G α σ H) (h : okF K W B G α ((m ρ).thn k) D)
    (hk : ∀ b ρ1 H1 G1 α1, Gr B G α G1 α1 → Rs K B ρ1 G1 α1 σ H1 → okF K W B G1 α1 (k b ρ1) D → Q b H1) : tT K W m σ H Q := by
  refine ⟨B, ρ, G, α, r, ?_⟩
  cases e : m ρ with
  | ok u ρ1 => rw [e] at h; exact fun G1 α1 H1 g r1 => hk u ρ1 H1 G1 α1 g r1 (okF.shift g h)
  | ex x ρ1 => rw [e] at h; exact h
  | no => rw [e] at h; exact h
theorem sA {m : DA} {k : List U → Sg → F} {Q : List V → Hp → Prop} (r : Rs K B ρ G α σ H) (h : okF K W B G α ((m ρ).thn k) D)
    (hk : ∀ us ρ1 vs H1 G1 α1, Gr B G α G1 α1 → Rs K B ρ1 G1 α1 σ H1 → RpUs K G1 α1 us vs → okF K W B G1 α1 (k us ρ1) D → Q vs H1) : tA K W m σ H Q := by
  refine ⟨B, ρ, G, α, r, ?_⟩
  cases e : m ρ with
  | ok u ρ1 => rw [e] at h; exact fun G1 α1 H1 g r1 v p => hk u ρ1 v H1 G1 α1 g r1 p (okF.shift g h)
  | ex x ρ1 => rw [e] at h; exact h
  | no => rw [e] at h; exact h
theorem bS {m : DS} {k : Sg → F} {D' : Ends} (r : Rs K B ρ G α σ H) (h : okF K W B G α ((m ρ).thn k) D) (e1 : D'.rt = D.rt) (e2 : D'.bk = D.bk) (e3 : D'.ct = D.ct)
    (hk : ∀ ρ1 σ1 H1 G1 α1, Gr B G α G1 α1 → Rs K B ρ1 G1 α1 σ1 H1 → okF K W B G1 α1 (k ρ1) D → D'.nx σ1 H1) : tS K W m D' σ H := by
  refine ⟨B, ρ, G, α, r, ?_⟩
  cases e : m ρ with
  | nx ρ1 => rw [e] at h; exact fun G1 α1 σ1 H1 g r1 => hk ρ1 σ1 H1 G1 α1 g r1 (okF.shift g h)
  | rt u ρ1 => rw [e] at h; show ∀ G' α' σ' H' v, _ → _ → _ → D'.rt v H'; rw [e1]; exact h
  | bk ρ1 => rw [e] at h; show ∀ G' α' σ' H', _ → _ → D'.bk σ' H'; rw [e2]; exact h
  | ct ρ1 => rw [e] at h; show ∀ G' α' σ' H', _ → _ → D'.ct σ' H'; rw [e3]; exact h
  | ex x ρ1 => rw [e] at h; exact h
  | no => rw [e] at h; exact h
end

/-! ### the first rules -/
section
variable {X : Cx} {W : WX} {e a b c : Expr} {ma mb mc : DE} {ta tb : DT} {pos : Pos}
def mVar (i : Nat) : DE := fun ρ => match ρ.sl[i]? with
  | some (some u) => .ok u ρ
  | _ => .no
theorem fe_var {x : Str} (i : Nat) (hN : X.N[i]? = some x := by rfl) (hv : Vis X.env.scope x := by first | exact Or.inl rfl | exact Or.inr (Or.inl rfl) | exact Or.inr (Or.inr rfl)) (hd : (x == ("__debug__" : Str)) = false := by decide)
    (hcd : (x == ("__classdict__" : Str)) = false := by decide) : SE X W (.Name x pos) (mVar i) := pe_weak (pe_var hN hv hd hcd) fun σ H Q ⟨B, ρ, G, α, r, h⟩ => by
  unfold mVar at h
  split at h
  · rename_i u e
    obtain ⟨v, e1, e2⟩ := r.sl i u e
    exact ⟨v, e1, h G α H Gr.refl r v e2⟩
  · exact h.elim
def mC (t : T) : DE := fun ρ => .ok (.d t) ρ
theorem tE_C {K : PySem.W.Frag} {t : T} {v : V} (hv : ∀ G, Rp K G t v) (σ : L2.St) (H : Hp) (Q : VK) (h : tE K W (mC t) σ H Q) : tC v σ H Q := by
  obtain ⟨B, ρ, G, α, r, h⟩ := h
  exact h G α H Gr.refl r v (hv G)
theorem fe_int {i : Int} {j} : SE X W (.Constant (.int i) j pos) (mC (.int i)) := pe_weak pe_int (tE_C fun _ => by simp [Rp])
theorem fe_bl {i : Bool} {j} : SE X W (.Constant (.bool i) j pos) (mC (.bl i)) := pe_weak pe_bl (tE_C fun _ => by simp [Rp])
theorem fe_non {j} : SE X W (.Constant .none j pos) (mC .non) := pe_weak pe_non (tE_C fun _ => by simp [Rp])
theorem fe_str {i : Str} {j} : SE X W (.Constant (.str i) j pos) (mC (.str i)) := pe_weak pe_str (tE_C fun _ => by simp [Rp])

/-! tests -/
def mTest (m : DE) : DT := fun ρ => (m ρ).bind fun u ρ1 => match u with
  | .d (.bl b) => .ok b ρ1
  | _ => .no
theorem tTest_of {K : PySem.W.Frag} {m : DE} {σ : L2.St} {H : Hp} {Q : Bool → Hp → Prop} (h : tT K W (mTest m) σ H Q) : tE K W m σ H fun x H' => ∃ k, x = .bl k ∧ Q k H' := by
  obtain ⟨B, ρ, G, α, r, h⟩ := h
  refine bE r h fun u ρ1 v H1 G1 α1 g r1 p h1 => ?_
  split at h1
  · rename_i b
    have : v = .bl b := by simpa [RpU, Rp] using p
    exact ⟨b, this, h1 G1 α1 H1 Gr.refl r1⟩
  · exact h1.elim
theorem ft_val (h : SE X W e ma) (he : ∀ whole, isTrue e X.env whole = (do let v ← whole; standAt e.pos; holding [v] (truthy v)) := by intro _; rfl) : ST X W e (mTest ma) :=
  pt_weak (pt_val h he) fun σ H Q h => tTest_of h
def mNotT (m : DT) : DT := fun ρ => (m ρ).bind fun b ρ1 => .ok (!b) ρ1
theorem ft_not (h : ST X W a ta) : ST X W (.UnaryOp .Not a pos) (mNotT ta) := pt_weak (pt_not h) fun σ H Q ⟨B, ρ, G, α, r, h⟩ =>
  bT r h fun b ρ1 H1 G1 α1 g r1 h1 => h1 G1 α1 H1 Gr.refl r1
def mAndT (m n : DT) : DT := fun ρ => (m ρ).bind fun b ρ1 => if b = true then n ρ1 else .ok false ρ1
def mOrT (m n : DT) : DT := fun ρ => (m ρ).bind fun b ρ1 => if b = true then .ok true ρ1 else n ρ1
structure SW (X : Cx) (W : WX) (e : Expr) (m : DT) : Prop where
  w : PW X e (tT X.K W m)
theorem SW.pt {m : DT} (h : SW X W e m) : ST X W e m := PW.pt h.w
theorem fw_and1 (h : ST X W a ta) : SW X W (.BoolOp .And [a] pos) ta := ⟨pw_and1 h⟩
theorem fw_or1 (h : ST X W a ta) : SW X W (.BoolOp .Or [a] pos) ta := ⟨pw_or1 h⟩
theorem fw_and {rest : List Expr} (h : ST X W a ta) (g : SW X W (.BoolOp .And (b :: rest) pos) tb) : SW X W (.BoolOp .And (a :: b :: rest) pos) (mAndT ta tb) := ⟨pw_weak (pw_and h g.w) fun σ H Q ⟨B, ρ, G, α, r, h⟩ =>
  bT r h fun b ρ1 H1 G1 α1 g r1 h1 => by
    cases b with
    | true => exact ⟨B, ρ1, G1, α1, r1, h1⟩
    | false => exact h1 G1 α1 H1 Gr.refl r1⟩
theorem fw_or {rest : List Expr} (h : ST X W a ta) (g : SW X W (.BoolOp .Or (b :: rest) pos) tb) : SW X W (.BoolOp .Or (a :: b :: rest) pos) (mOrT ta tb) := ⟨pw_weak (pw_or h g.w) fun σ H Q ⟨B, ρ, G, α, r, h⟩ =>
  bT r h fun b ρ1 H1 G1 α1 g r1 h1 => by
    cases b with
    | true => exact h1 G1 α1 H1 Gr.refl r1
    | false => exact ⟨B, ρ1, G1, α1, r1, h1⟩⟩
/-- values that are truths -/
def mBl (m : DT) : DE := fun ρ => (m ρ).bind fun b ρ1 => .ok (.d (.bl b)) ρ1
def mBAnd (m n : DE) : DE := fun ρ => (m ρ).bind fun u ρ1 => match u with
  | .d (.bl b) => if b = true then n ρ1 else .ok (.d (.bl false)) ρ1
  | _ => .no
def mBOr (m n : DE) : DE := fun ρ => (m ρ).bind fun u ρ1 => match u with
  | .d (.bl b) => if b = true then .ok (.d (.bl true)) ρ1 else n ρ1
  | _ => .no
def mBNot (m : DE) : DE := fun ρ => (m ρ).bind fun u ρ1 => match u with
  | .d (.bl b) => .ok (.d (.bl (!b))) ρ1
  | _ => .no
theorem fe_one {op} (h : SE X W a ma) : SE X W (.BoolOp op [a] pos) ma := pe_one h
theorem fe_and {rest : List Expr} (h : SE X W a ma) (g : SE X W (.BoolOp .And (b :: rest) pos) mb) : SE X W (.BoolOp .And (a :: b :: rest) pos) (mBAnd ma mb) := pe_weak (pe_and h g) fun σ H Q ⟨B, ρ, G, α, r, h⟩ =>
  bE r h fun u ρ1 v H1 G1 α1 g r1 p h1 => by
    split at h1
    · rename_i b
      have e : v = .bl b := by simpa [RpU, Rp] using p
      refine ⟨b, e, ?_⟩
      cases b with
      | true => exact ⟨B, ρ1, G1, α1, r1, h1⟩
      | false => exact h1 G1 α1 H1 Gr.refl r1 _ (by simp [RpU, Rp])
    · exact h1.elim
theorem fe_or {rest : List Expr} (h : SE X W a ma) (g : SE X W (.BoolOp .Or (b :: rest) pos) mb) : SE X W (.BoolOp .Or (a :: b :: rest) pos) (mBOr ma mb) := pe_weak (pe_or h g) fun σ H Q ⟨B, ρ, G, α, r, h⟩ =>
  bE r h fun u ρ1 v H1 G1 α1 g r1 p h1 => by
    split at h1
    · rename_i b
      have e : v = .bl b := by simpa [RpU, Rp] using p
      refine ⟨b, e, ?_⟩
      cases b with
      | true => exact h1 G1 α1 H1 Gr.refl r1 _ (by simp [RpU, Rp])
      | false => exact ⟨B, ρ1, G1, α1, r1, h1⟩
    · exact h1.elim
theorem fe_not (h : SE X W a ma) : SE X W (.UnaryOp .Not a pos) (mBNot ma) := pe_weak (pe_not h) fun σ H Q ⟨B, ρ, G, α, r, h⟩ =>
  bE r h fun u ρ1 v H1 G1 α1 g r1 p h1 => by
    split at h1
    · rename_i b
      have e : v = .bl b := by simpa [RpU, Rp] using p
      exact ⟨b, e, h1 G1 α1 H1 Gr.refl r1 _ (by simp [RpU, Rp])⟩
    · exact h1.elim
def mIf (t : DT) (m n : DE) : DE := fun ρ => (t ρ).bind fun b ρ1 => if b = true then m ρ1 else n ρ1
theorem fe_if (hc : ST X W c ta) (h : SE X W a ma) (g : SE X W b mb) : SE X W (.IfExp c a b pos) (mIf ta ma mb) := pe_weak (pe_ifExp hc h g) fun σ H Q ⟨B, ρ, G, α, r, h⟩ =>
  bT r h fun b ρ1 H1 G1 α1 g r1 h1 => by
    cases b with
    | true => exact ⟨B, ρ1, G1, α1, r1, h1⟩
    | false => exact ⟨B, ρ1, G1, α1, r1, h1⟩

/-! statements -/
def mNx : DS := fun ρ => .nx ρ
def mSeq (m n : DS) : DS := fun ρ => (m ρ).thn n
theorem fss_nil : SSs X W [] mNx := pss_weak pss_nil fun D σ H ⟨B, ρ, G, α, r, h⟩ => h G α σ H Gr.refl r
theorem fss_cons {st : Stmt} {rest : List Stmt} {m n : DS} (h : SS X W st m) (g : SSs X W rest n) : SSs X W (st :: rest) (mSeq m n) := pss_weak (pss_cons h g) fun D σ H ⟨B, ρ, G, α, r, h⟩ =>
  bS r h rfl rfl rfl fun ρ1 σ1 H1 G1 α1 g r1 h1 => ⟨B, ρ1, G1, α1, r1, h1⟩
theorem fss_one {st : Stmt} {m : DS} (h : SS X W st m) : SSs X W [st] m := pss_one h
theorem fs_pass : SS X W (.Pass pos) mNx := ps_weak ps_pass fun D σ H ⟨B, ρ, G, α, r, h⟩ => h G α σ H Gr.refl r
def mBk : DS := fun ρ => .bk ρ
theorem fs_break : SS X W (.Break pos) mBk := ps_weak ps_break fun D σ H ⟨B, ρ, G, α, r, h⟩ => h G α σ H Gr.refl r
def mIfS (t : DT) (m n : DS) : DS := fun ρ => (t ρ).thn fun b ρ1 => if b = true then m ρ1 else n ρ1
theorem fs_if {c : Expr} {s1 s2 : List Stmt} {m n : DS} (hc : ST X W c ta) (h : SSs X W s1 m) (g : SSs X W s2 n) : SS X W (.If c s1 s2 pos) (mIfS ta m n) := ps_weak (ps_if hc h g) fun D σ H ⟨B, ρ, G, α, r, h⟩ =>
  sT r h fun b ρ1 H1 G1 α1 g r1 h1 => by
    cases b with
    | true => exact ⟨B, ρ1, G1, α1, r1, h1⟩
    | false => exact ⟨B, ρ1, G1, α1, r1, h1⟩
def mRet (m : DE) : DS := fun ρ => (m ρ).thn fun u ρ1 => .rt u ρ1
theorem fs_ret (h : SE X W e ma) : SS X W (.Return (some e) pos) (mRet ma) := ps_weak (ps_ret h) fun D σ H ⟨B, ρ, G, α, r, h⟩ =>
  sE r h fun u ρ1 v H1 G1 α1 g r1 p h1 => h1 G1 α1 σ H1 v Gr.refl r1 p
def mRetN : DS := fun ρ => .rt (.d .non) ρ
theorem fs_retN : SS X W (.Return none pos) mRetN := ps_weak ps_retN fun D σ H ⟨B, ρ, G, α, r, h⟩ => h G α σ H .non Gr.refl r (by simp [RpU, Rp])
def mDrop (m : DE) : DS := fun ρ => (m ρ).thn fun _ ρ1 => .nx ρ1
theorem fs_expr (h : SE X W e ma) (hs : swapsWith e none pos.line X.env = pure false := by rfl) : SS X W (.Expr e pos) (mDrop ma) := ps_weak (ps_expr h hs) fun D σ H ⟨B, ρ, G, α, r, h⟩ =>
  sE r h fun u ρ1 v H1 G1 α1 g r1 p h1 => h1 G1 α1 σ H1 Gr.refl r1
end
end FL

/-! FL4: operations on values. -/
namespace FL
open PySem L2

def Rp1 (K : PySem.W.Frag) (G H : Hp) : T → V → Prop
  | .lst ts, v => ∃ a vs, v = .ref a ∧ H a = some (.lst vs) ∧ Rps K G ts vs
  | .dk ks ts, v => ∃ a vs, v = .ref a ∧ H a = some (.dK (ks.zip vs)) ∧ ks.length = vs.length ∧ Rps K G ts vs
  | t, v => Rp K G t v
theorem Rp1.of {K : PySem.W.Frag} {G H : Hp} {t : T} {v : V} (e : Ex G H) (h : Rp K G t v) : Rp1 K G H t v := by
  cases t with
  | lst ts => simp only [Rp] at h; obtain ⟨a, vs, q1, q2, q3⟩ := h; exact ⟨a, vs, q1, e _ _ q2, q3⟩
  | dk ks ts => simp only [Rp] at h; obtain ⟨a, vs, q1, q2, q3, q4⟩ := h; exact ⟨a, vs, q1, e _ _ q2, q3, q4⟩
  | _ => exact h
theorem Rp1.full {K : PySem.W.Frag} {G H : Hp} {t : T} {v : V} (e : Ex G H) (h : Rp1 K G H t v) : Rp K H t v := by
  cases t with
  | lst ts => obtain ⟨a, vs, q1, q2, q3⟩ := h; simp only [Rp]; exact ⟨a, vs, q1, q2, Rps.mono e q3⟩
  | dk ks ts => obtain ⟨a, vs, q1, q2, q3, q4⟩ := h; simp only [Rp]; exact ⟨a, vs, q1, q2, q3, Rps.mono e q4⟩
  | _ => exact Rp.mono e h
theorem Rp1.tup {K : PySem.W.Frag} {G H : Hp} {ts : List T} {v : V} (h : Rp1 K G H (.tup ts) v) : ∃ a vs, v = .ref a ∧ G a = some (.tup vs) ∧ Rps K G ts vs := by
  have h : Rp K G (.tup ts) v := h
  simpa only [Rp] using h
theorem Rp1.ktp {K : PySem.W.Frag} {G H : Hp} {ts : List T} {v : V} (h : Rp1 K G H (.ktp ts) v) : ∃ a vs, v = .ref a ∧ SqT K G a vs ∧ Rps K G ts vs := by
  have h : Rp K G (.ktp ts) v := h
  simpa only [Rp] using h

/-- what is read of a value, nothing being frozen -/
def pk (st : List Ob) : U → Option T
  | .d t => some t
  | .own i => match st[i]? with
    | some (.frz t) => some t
    | some (.lst ts) => some (.lst ts)
    | some (.dk ks ts) => some (.dk ks ts)
    | _ => none
theorem pk_ok {K : PySem.W.Frag} {B G H : Hp} {st : List Ob} {α : List Addr} {u : U} {v : V} {t : T} (r : Rh K B st G α H) (h : RpU K G α u v) (e : pk st u = some t) : Rp1 K G H t v := by
  cases u with
  | d t' => simp only [pk, Option.some.injEq] at e; subst e; exact Rp1.of r.gh h
  | own i =>
    obtain ⟨a, ha, hv⟩ := h
    subst hv
    simp only [pk] at e
    cases e1 : st[i]? with
    | none => rw [e1] at e; cases e
    | some o =>
      rw [e1] at e
      obtain ⟨q1, q2, q3⟩ := r.ow i a o ha e1
      cases o with
      | frz t' => simp only [Option.some.injEq] at e; subst e; exact Rp1.of r.gh q3
      | lst ts => simp only [Option.some.injEq] at e; subst e; obtain ⟨z, vs, z1, z2⟩ := q3; exact ⟨a, vs, rfl, z1, z2⟩
      | dk ks ts => simp only [Option.some.injEq] at e; subst e; obtain ⟨z, vs, z1, z2, z3⟩ := q3; exact ⟨a, vs, rfl, z1, z2, z3⟩
      | obj C ns us => cases e

inductive O where
  | d (t : T) | l (ts : List T) | k (ks : List Key) (ts : List T)
def mO (o : Option O) (ρ : Sg) : R U := match o with
  | some (.d t) => .ok (.d t) ρ
  | some (.l ts) => .ok (.own ρ.st.length) ⟨ρ.sl, ρ.st ++ [.lst ts]⟩
  | some (.k ks ts) => .ok (.own ρ.st.length) ⟨ρ.sl, ρ.st ++ [.dk ks ts]⟩
  | none => .no
@[simp] theorem mO_d {t : T} {ρ : Sg} : mO (some (.d t)) ρ = .ok (.d t) ρ := rfl
@[simp] theorem mO_l {ts : List T} {ρ : Sg} : mO (some (.l ts)) ρ = .ok (.own ρ.st.length) ⟨ρ.sl, ρ.st ++ [.lst ts]⟩ := rfl
@[simp] theorem mO_n {ρ : Sg} : mO none ρ = .no := rfl
abbrev EndP (K : PySem.W.Frag) (Q : VK) : U → Sg → Hp → List Addr → Hp → Prop := fun u _ G' α' H' => ∀ v, RpU K G' α' u v → Q v H'
section
variable {K : PySem.W.Frag} {W : WX} {B G H : Hp} {α : List Addr} {σ : L2.St} {ρ : Sg} {Q : VK}
theorem fin_d {t : T} {v : V} (r : Rs K B ρ G α σ H) (h : okP K W B G α σ (mO (some (.d t)) ρ) (EndP K Q)) (hv : Rp K G t v) : Q v H := h G α H Gr.refl r v hv
theorem Rs.newD {p : Addr} {o : HO} (r : Rs K B ρ G α σ H) (hp : H p = none) : Rs K B ρ (L2.upd G p o) α σ (L2.upd H p o) ∧ Gr B G α (L2.upd G p o) α := by
  have g : Gr B G α (L2.upd G p o) α := Gr.new (r.bh.free hp) (r.gh.free hp)
  exact ⟨Rs.mk' r g (r.toRh.newD hp), g⟩
theorem fin_tup {ts : List T} {vs : List V} {p : Addr} (r : Rs K B ρ G α σ H) (h : okP K W B G α σ (mO (some (.d (.tup ts))) ρ) (EndP K Q)) (hv : Rps K G ts vs) (hp : H p = none) : Q (.ref p) (upd H p (.tup vs)) := by
  obtain ⟨r1, g⟩ := r.newD (o := .tup vs) hp
  refine h _ α _ g r1 _ ?_
  show Rp K _ (.tup ts) _
  simp only [Rp]
  exact ⟨p, vs, rfl, upd_same, Rps.mono g.ex hv⟩
theorem Rs.newL {ts : List T} {vs : List V} {p : Addr} (r : Rs K B ρ G α σ H) (hv : Rps K G ts vs) (hp : H p = none) : Rs K B ⟨ρ.sl, ρ.st ++ [.lst ts]⟩ G (α ++ [p]) σ (upd H p (.lst vs)) ∧ Gr B G α G (α ++ [p]) :=
  ⟨Rs.mk' r Gr.own (r.toRh.newO hp ⟨r.gh.free hp, vs, upd_same, hv⟩), Gr.own⟩
theorem Rs.newK {ks : List Key} {ts : List T} {vs : List V} {p : Addr} (r : Rs K B ρ G α σ H) (hl : ks.length = vs.length) (hv : Rps K G ts vs) (hp : H p = none) : Rs K B ⟨ρ.sl, ρ.st ++ [.dk ks ts]⟩ G (α ++ [p]) σ (upd H p (.dK (ks.zip vs))) ∧ Gr B G α G (α ++ [p]) :=
  ⟨Rs.mk' r Gr.own (r.toRh.newO hp ⟨r.gh.free hp, vs, upd_same, hl, hv⟩), Gr.own⟩
theorem own_last (r : Rh K B ρ.st G α H) {p : Addr} : RpU K G (α ++ [p]) (.own ρ.st.length) (.ref p) := ⟨p, by rw [← r.len]; simp, rfl⟩
theorem fin_lst {ts : List T} {vs : List V} {p : Addr} (r : Rs K B ρ G α σ H) (h : okP K W B G α σ (mO (some (.l ts)) ρ) (EndP K Q)) (hv : Rps K G ts vs) (hp : H p = none) : Q (.ref p) (upd H p (.lst vs)) := by
  obtain ⟨r1, g⟩ := r.newL hv hp
  exact h _ _ _ g r1 _ (own_last r.toRh)
end

/-- a two-place operation on data -/
def OpK (K : PySem.W.Frag) (r : R2) (f : T → T → Option O) : Prop := ∀ (W : WX) (B : Hp) (ρ : Sg) (G : Hp) (α : List Addr) (σ : L2.St) (H : Hp) (Q : VK) (x y : T) (v w : V),
  Rs K B ρ G α σ H → Rp1 K G H x v → Rp1 K G H y w → okP K W B G α σ (mO (f x y) ρ) (EndP K Q) → r v w H Q
def mOp (f : T → T → Option O) (ma mb : DE) : DE := fun ρ => (ma ρ).bind fun u ρ1 => (mb ρ1).bind fun w ρ2 => match pk ρ2.st u, pk ρ2.st w with
  | some x, some y => mO (f x y) ρ2
  | _, _ => .no
theorem tOp_of {K : PySem.W.Frag} {W : WX} {r : R2} {f : T → T → Option O} {ma mb : DE} (hr : OpK K r f) (σ : L2.St) (H : Hp) (Q : VK) (h : tE K W (mOp f ma mb) σ H Q) : tOp r (tE K W ma) (tE K W mb) σ H Q := by
  obtain ⟨B, ρ, G, α, rs, h⟩ := h
  refine bE rs h fun u ρ1 v H1 G1 α1 g1 r1 p1 h1 => ?_
  refine bE r1 h1 fun w ρ2 v2 H2 G2 α2 g2 r2 p2 h2 => ?_
  split at h2
  · rename_i x y e1 e2
    exact hr W B ρ2 G2 α2 σ H2 Q x y v v2 r2 (pk_ok r2.toRh (p1.mono g2) e1) (pk_ok r2.toRh p2 e2) h2
  · exact h2.elim
theorem OpK.or {K : PySem.W.Frag} {r r' : R2} {f f' : T → T → Option O} (h : OpK K r f) (h' : OpK K r' f') : OpK K (fun x y H Q => r x y H Q ∨ r' x y H Q) (fun x y => (f x y).or (f' x y)) := by
  intro W B ρ G α σ H Q x y v w rs p1 p2 q
  cases e : f x y with
  | some o => simp only [e, Option.some_or] at q; exact .inl (h W B ρ G α σ H Q x y v w rs p1 p2 (by rw [e]; exact q))
  | none => simp only [e, Option.none_or] at q; exact .inr (h' W B ρ G α σ H Q x y v w rs p1 p2 q)
/-- scalars -/
theorem opk_I {K : PySem.W.Frag} {C : Int → Int → Prop} [hC : ∀ i j, Decidable (C i j)] {g : Int → Int → V} {t : Int → Int → T} (ht : ∀ i j (G : Hp), Rp K G (t i j) (g i j)) :
    OpK K (rI C g) (fun x y => match x, y with | .int i, .int j => if C i j then some (.d (t i j)) else none | _, _ => none) := by
  intro W B ρ G α σ H Q x y v w rs p1 p2 q
  dsimp only at q
  split at q
  · rename_i i j
    split at q
    · rename_i hc
      refine ⟨i, j, ?_, ?_, hc, fin_d rs q (ht i j G)⟩
      · simpa [Rp1, Rp] using p1
      · simpa [Rp1, Rp] using p2
    · exact q.elim
  · exact q.elim
theorem opk_I0 {K : PySem.W.Frag} {g : Int → Int → V} {t : Int → Int → T} (ht : ∀ i j (G : Hp), Rp K G (t i j) (g i j)) :
    OpK K (rI0 g) (fun x y => match x, y with | .int i, .int j => some (.d (t i j)) | _, _ => none) := by
  intro W B ρ G α σ H Q x y v w rs p1 p2 q
  dsimp only at q
  split at q
  · rename_i i j
    refine ⟨i, j, ?_, ?_, fin_d rs q (ht i j G)⟩
    · simpa [Rp1, Rp] using p1
    · simpa [Rp1, Rp] using p2
  · exact q.elim
/-- + -/
def addF (x y : T) : Option O := match x, y with
  | .int i, .int j => some (.d (.int (i + j)))
  | .str a, .str b => if a.length + b.length ≤ sizeLine then some (.d (.str (a ++ b))) else none
  | .tup xs, .tup ys => if xs.length + ys.length ≤ sizeLine then some (.d (.tup (xs ++ ys))) else none
  | .ktp xs, .tup ys => if xs ≠ [] ∧ ys ≠ [] ∧ xs.length + ys.length ≤ sizeLine then some (.d (.tup (xs ++ ys))) else none
  | .ktp xs, .ktp ys => if xs ≠ [] ∧ ys ≠ [] ∧ xs.length + ys.length ≤ sizeLine then some (.d (.tup (xs ++ ys))) else none
  | .lst xs, .lst ys => if xs.length + ys.length ≤ sizeLine then some (.l (xs ++ ys)) else none
  | _, _ => none
def rAddV (K : PySem.W.Frag) : R2 := fun x y H Q => rI0 (fun i j => .int (i + j)) x y H Q ∨ (∃ i j, x = .str i ∧ y = .str j ∧ i.length + j.length ≤ sizeLine ∧ Q (.str (i ++ j)) H) ∨ rCatA K x y H Q ∨ rCat x y H Q
theorem addV_op {X : Cx} : OpR X (binaryOp .Add) (rAddV X.K) := op_add.or (op_add_str.or (op_catA.or op_cat))
theorem addV_ok {K : PySem.W.Frag} : OpK K (rAddV K) addF := by
  intro W B ρ G α σ H Q x y v w rs p1 p2 q
  unfold addF at q
  split at q
  · rename_i i j
    refine .inl ⟨i, j, by simpa [Rp1, Rp] using p1, by simpa [Rp1, Rp] using p2, fin_d rs q (by simp [Rp])⟩
  · rename_i i j
    split at q
    · rename_i hz
      refine .inr (.inl ⟨i, j, by simpa [Rp1, Rp] using p1, by simpa [Rp1, Rp] using p2, hz, fin_d rs q (by simp [Rp])⟩)
    · exact q.elim
  · rename_i xs ys
    split at q
    · rename_i hz
      have p1' := p1; have p2' := p2
      obtain ⟨a, vs, rfl, q2, q3⟩ := p1.tup
      obtain ⟨b, ws, rfl, z2, z3⟩ := p2.tup
      refine .inr (.inr (.inl ⟨a, b, vs, ws, rfl, rfl, SqT.of (rs.gh _ _ q2), SqT.of (rs.gh _ _ z2), by rw [← q3.length, ← z3.length]; exact hz, fun e => ?_, fun _ e => ?_, fun _ _ p hp => fin_tup rs q (q3.append z3) hp⟩))
      · subst e
        have : xs = [] := List.length_eq_zero_iff.mp q3.length
        subst this
        exact fin_d rs q p2'
      · subst e
        have : ys = [] := List.length_eq_zero_iff.mp z3.length
        subst this
        rw [List.append_nil] at q
        exact fin_d rs q p1'
    · exact q.elim
  · rename_i xs ys
    split at q
    · rename_i hz
      obtain ⟨hx, hy, hz⟩ := hz
      obtain ⟨a, vs, rfl, q2, q3⟩ := p1.ktp
      obtain ⟨b, ws, rfl, z2, z3⟩ := p2.tup
      refine .inr (.inr (.inl ⟨a, b, vs, ws, rfl, rfl, rs.gh.t q2, SqT.of (rs.gh _ _ z2), by rw [← q3.length, ← z3.length]; exact hz, fun e => ?_, fun _ e => ?_, fun _ _ p hp => fin_tup rs q (q3.append z3) hp⟩))
      · subst e; exact absurd (List.length_eq_zero_iff.mp q3.length) hx
      · subst e; exact absurd (List.length_eq_zero_iff.mp z3.length) hy
    · exact q.elim
  · rename_i xs ys
    split at q
    · rename_i hz
      obtain ⟨hx, hy, hz⟩ := hz
      obtain ⟨a, vs, rfl, q2, q3⟩ := p1.ktp
      obtain ⟨b, ws, rfl, z2, z3⟩ := p2.ktp
      refine .inr (.inr (.inl ⟨a, b, vs, ws, rfl, rfl, rs.gh.t q2, rs.gh.t z2, by rw [← q3.length, ← z3.length]; exact hz, fun e => ?_, fun _ e => ?_, fun _ _ p hp => fin_tup rs q (q3.append z3) hp⟩))
      · subst e; exact absurd (List.length_eq_zero_iff.mp q3.length) hx
      · subst e; exact absurd (List.length_eq_zero_iff.mp z3.length) hy
    · exact q.elim
  · rename_i xs ys
    split at q
    · rename_i hz
      obtain ⟨a, vs, rfl, q2, q3⟩ := p1
      obtain ⟨b, ws, rfl, z2, z3⟩ := p2
      exact .inr (.inr (.inr ⟨a, b, vs, ws, rfl, rfl, q2, z2, by rw [← q3.length, ← z3.length]; exact hz, fun p hp => fin_lst rs q (q3.append z3) hp⟩))
    · exact q.elim
  · exact q.elim
end FL

/-! FL5: arguments, displays, operators, built-ins. -/
namespace FL
open PySem L2

section
variable {X : Cx} {W : WX} {e a b c : Expr} {es : List Expr} {ma mb mc : DE} {da : DA} {pos : Pos} {K : PySem.W.Frag}
def aNil : DA := fun ρ => .ok [] ρ
def aCons (m : DE) (n : DA) : DA := fun ρ => (m ρ).bind fun u ρ1 => (n ρ1).bind fun us ρ2 => .ok (u :: us) ρ2
theorem fa_nil : SA X W [] aNil := pa_weak pa_nil fun σ H Q ⟨B, ρ, G, α, r, h⟩ => h G α H Gr.refl r [] rfl
theorem fa_cons (h : SE X W e ma) (g : SA X W es da) (hs : starEach (e :: es) X.env = (false, eval e X.env) :: starEach es X.env := by rfl) : SA X W (e :: es) (aCons ma da) := pa_weak (pa_cons h g hs) fun σ H Q ⟨B, ρ, G, α, r, h⟩ =>
  bE r h fun u ρ1 v H1 G1 α1 g1 r1 p1 h1 => bA r1 h1 fun us ρ2 vs H2 G2 α2 g2 r2 p2 h2 => h2 G2 α2 H2 Gr.refl r2 _ ⟨v, vs, rfl, p1.mono g2, p2⟩

/-! displays -/
def mTup (da : DA) : DE := fun ρ => (da ρ).bind fun us ρ1 => match toDs (toD 4) us ρ1.st with
  | some (ts, st) => if ts.length ≤ sizeLine then .ok (.d (.tup ts)) ⟨ρ1.sl, st⟩ else .no
  | none => .no
def mLst (da : DA) : DE := fun ρ => (da ρ).bind fun us ρ1 => match toDs (toD 4) us ρ1.st with
  | some (ts, st) => if ts.length ≤ sizeLine then .ok (.own st.length) ⟨ρ1.sl, st ++ [.lst ts]⟩ else .no
  | none => .no
theorem toDs_len {f : U → List Ob → Option (T × List Ob)} : ∀ {us : List U} {ts : List T} {st st' : List Ob}, toDs f us st = some (ts, st') → ts.length = us.length
  | [], ts, st, st', e => by simp only [toDs, Option.some.injEq, Prod.mk.injEq] at e; rw [← e.1]; rfl
  | u :: us, ts, st, st', e => by
    simp only [toDs] at e
    cases e1 : f u st with
    | none => rw [e1] at e; cases e
    | some p =>
      obtain ⟨t, st1⟩ := p
      rw [e1] at e; dsimp only at e
      cases e2 : toDs f us st1 with
      | none => rw [e2] at e; cases e
      | some p =>
        obtain ⟨ts2, st2⟩ := p
        rw [e2] at e; dsimp only at e
        simp only [Option.some.injEq, Prod.mk.injEq] at e
        rw [← e.1, List.length_cons, List.length_cons, toDs_len e2]
theorem fe_tup {x1} (h : SA X W es da) : SE X W (.Tuple es x1 pos) (mTup da) := pe_weak (pe_tup h) fun σ H Q ⟨B, ρ, G, α, r, h⟩ =>
  bA r h fun us ρ1 vs H1 G1 α1 g1 r1 p1 h1 => by
    split at h1
    · rename_i ts st e1
      obtain ⟨G2, g2, r2, p2⟩ := toDs_ok (toD_ok 4) r1.toRh p1 e1
      split at h1
      · rename_i hz
        refine ⟨by rw [← p2.length]; exact hz, fun p hp => ?_⟩
        have r2' : Rs X.K B ⟨ρ1.sl, st⟩ G2 α1 σ H1 := Rs.mk' r1 g2 r2
        exact fin_tup (ts := ts) r2' (okP.shift g2 h1) p2 hp
      · exact h1.elim
    · exact h1.elim
theorem fe_lst (h : SA X W es da) : SE X W (.List es pos) (mLst da) := pe_weak (pe_lst h) fun σ H Q ⟨B, ρ, G, α, r, h⟩ =>
  bA r h fun us ρ1 vs H1 G1 α1 g1 r1 p1 h1 => by
    split at h1
    · rename_i ts st e1
      obtain ⟨G2, g2, r2, p2⟩ := toDs_ok (toD_ok 4) r1.toRh p1 e1
      split at h1
      · rename_i hz
        refine ⟨by rw [← p2.length]; exact hz, fun p hp => ?_⟩
        have r2' : Rs X.K B ⟨ρ1.sl, st⟩ G2 α1 σ H1 := Rs.mk' r1 g2 r2
        exact fin_lst (ts := ts) r2' (okP.shift g2 h1) p2 hp
      · exact h1.elim
    · exact h1.elim

/-! operators -/
theorem fe_bin {op : Operator} {r : R2} {f : T → T → Option O} (ho : OpR X (binaryOp op) r) (hf : OpK X.K r f) (h : SE X W a ma) (g : SE X W b mb) : SE X W (.BinOp a op b pos) (mOp f ma mb) := pe_weak (pe_op ho h g) (tOp_of hf)
theorem fe_cmp {op : CmpOp} {r : R2} {f : T → T → Option O} (ho : OpR X (compareOp op) r) (hf : OpK X.K r f) (h : SE X W a ma) (g : SE X W b mb) (hm : behindInMarks op b = false := by first | exact nobehind _ (by decide) (by decide) | rfl) : SE X W (.Compare a [op] [b] pos) (mOp f ma mb) := pe_weak (pe_cmpR ho h g hm) (tOp_of hf)
def mTOp (f : T → T → Option O) (ma mb : DE) : DT := mTest (mOp f ma mb)
theorem ft_cmp {op : CmpOp} {r : R2} {f : T → T → Option O} (ho : OpR X (compareOp op) r) (hf : OpK X.K r f) (h : SE X W a ma) (g : SE X W b mb) (hm : behindInMarks op b = false := by first | exact nobehind _ (by decide) (by decide) | rfl) : ST X W (.Compare a [op] [b] pos) (mTOp f ma mb) :=
  pt_weak (pt_cmpR ho h g hm) fun σ H Q h => tOp_of hf σ H _ (tTest_of h)
theorem fe_ix {r : R2} {f : T → T → Option O} (ho : IxR X r) (hf : OpK X.K r f) (h : SE X W a ma) (g : SE X W b mb) (hs : PlainIx b := by exact fun _ _ => rfl) : SE X W (.Subscript a b pos) (mOp f ma mb) := pe_weak (pe_ix ho h g hs) (tOp_of hf)

abbrev addE : DE → DE → DE := mOp addF
theorem fe_add (h : SE X W a ma) (g : SE X W b mb) : SE X W (.BinOp a .Add b pos) (mOp addF ma mb) := fe_bin addV_op addV_ok h g
def subF (x y : T) : Option O := match x, y with | .int i, .int j => some (.d (.int (i - j))) | _, _ => none
theorem fe_sub (h : SE X W a ma) (g : SE X W b mb) : SE X W (.BinOp a .Sub b pos) (mOp subF ma mb) := fe_bin op_sub (opk_I0 (t := fun i j => .int (i - j)) fun _ _ _ => by simp [Rp]) h g
instance : ∀ i j, Decidable (CMul i j) := fun i j => by unfold CMul; infer_instance
instance : ∀ i j, Decidable (CDivN i j) := fun i j => by unfold CDivN; infer_instance
instance : ∀ i j, Decidable (CPow i j) := fun i j => by unfold CPow; infer_instance
def mulF (x y : T) : Option O := match x, y with | .int i, .int j => if CMul i j then some (.d (.int (i * j))) else none | _, _ => none
theorem fe_mul (h : SE X W a ma) (g : SE X W b mb) : SE X W (.BinOp a .Mult b pos) (mOp mulF ma mb) := fe_bin op_mul (opk_I (t := fun i j => .int (i * j)) fun _ _ _ => by simp [Rp]) h g
def divF (x y : T) : Option O := match x, y with | .int i, .int j => if CDivN i j then some (.d (.int (i.fdiv j))) else none | _, _ => none
theorem fe_div (h : SE X W a ma) (g : SE X W b mb) : SE X W (.BinOp a .FloorDiv b pos) (mOp divF ma mb) := fe_bin op_fdivN (opk_I (t := fun i j => .int (i.fdiv j)) fun _ _ _ => by simp [Rp]) h g
def modF (x y : T) : Option O := match x, y with | .int i, .int j => if j ≠ 0 then some (.d (.int (i.fmod j))) else none | _, _ => none
theorem fe_mod (h : SE X W a ma) (g : SE X W b mb) : SE X W (.BinOp a .Mod b pos) (mOp modF ma mb) := fe_bin op_modN (opk_I (C := fun _ j => j ≠ 0) (t := fun i j => .int (i.fmod j)) fun _ _ _ => by simp [Rp]) h g
def powF (x y : T) : Option O := match x, y with | .int i, .int j => if CPow i j then some (.d (.int (i ^ j.toNat))) else none | _, _ => none
theorem fe_pow (h : SE X W a ma) (g : SE X W b mb) : SE X W (.BinOp a .Pow b pos) (mOp powF ma mb) := fe_bin op_pow (opk_I (t := fun i j => .int (i ^ j.toNat)) fun _ _ _ => by simp [Rp]) h g
def iiF (p : Int → Int → Bool) (x y : T) : Option O := match x, y with | .int i, .int j => some (.d (.bl (p i j))) | _, _ => none
theorem ii_ok {p : Int → Int → Bool} : OpK K (rI0 fun i j => .bl (p i j)) (iiF p) := opk_I0 (t := fun i j => .bl (p i j)) fun _ _ _ => by simp [Rp]
abbrev ltF := iiF fun i j => decide (i < j)
abbrev leF := iiF fun i j => decide (i ≤ j)
abbrev gtF := iiF fun i j => decide (j < i)
abbrev geF := iiF fun i j => decide (j ≤ i)
theorem fe_lt (h : SE X W a ma) (g : SE X W b mb) : SE X W (.Compare a [.Lt] [b] pos) (mOp ltF ma mb) := fe_cmp op_lt ii_ok h g
theorem fe_le (h : SE X W a ma) (g : SE X W b mb) : SE X W (.Compare a [.LtE] [b] pos) (mOp leF ma mb) := fe_cmp op_le ii_ok h g
theorem fe_gt (h : SE X W a ma) (g : SE X W b mb) : SE X W (.Compare a [.Gt] [b] pos) (mOp gtF ma mb) := fe_cmp op_gt ii_ok h g
theorem fe_ge (h : SE X W a ma) (g : SE X W b mb) : SE X W (.Compare a [.GtE] [b] pos) (mOp geF ma mb) := fe_cmp op_ge ii_ok h g
theorem ft_lt (h : SE X W a ma) (g : SE X W b mb) : ST X W (.Compare a [.Lt] [b] pos) (mTOp ltF ma mb) := ft_cmp op_lt ii_ok h g
theorem ft_le (h : SE X W a ma) (g : SE X W b mb) : ST X W (.Compare a [.LtE] [b] pos) (mTOp leF ma mb) := ft_cmp op_le ii_ok h g
theorem ft_gt (h : SE X W a ma) (g : SE X W b mb) : ST X W (.Compare a [.Gt] [b] pos) (mTOp gtF ma mb) := ft_cmp op_gt ii_ok h g
theorem ft_ge (h : SE X W a ma) (g : SE X W b mb) : ST X W (.Compare a [.GtE] [b] pos) (mTOp geF ma mb) := ft_cmp op_ge ii_ok h g
/-- is None -/
def isN (t : T) : Bool := match t with | .non => true | _ => false
def isF (x y : T) : Option O := match y with | .non => some (.d (.bl (isN x))) | _ => none
def isNotF (x y : T) : Option O := match y with | .non => some (.d (.bl (!isN x))) | _ => none
theorem Rp1.isN {G H : Hp} {t : T} {v : V} (h : Rp1 K G H t v) : decide (v = .non) = isN t := by
  cases t with
  | non => have : v = .non := by simpa [Rp1, Rp] using h
           subst this; rfl
  | bl b => have : v = .bl b := by simpa [Rp1, Rp] using h
            subst this; rfl
  | int b => have : v = .int b := by simpa [Rp1, Rp] using h
             subst this; rfl
  | str b => have : v = .str b := by simpa [Rp1, Rp] using h
             subst this; rfl
  | tup ts => obtain ⟨a, vs, rfl, _⟩ := h.tup; rfl
  | ktp ts => obtain ⟨a, vs, rfl, _⟩ := h.ktp; rfl
  | lst ts => obtain ⟨a, vs, rfl, _⟩ := h; rfl
  | frl ts => have h : Rp K G (.frl ts) v := h
              simp only [Rp] at h; obtain ⟨a, vs, rfl, _⟩ := h; rfl
  | dk ks ts => obtain ⟨a, vs, rfl, _⟩ := h; rfl
  | dt ks ts => have h : Rp K G (.dt ks ts) v := h
                simp only [Rp] at h; obtain ⟨a, es, ep, vks, vs, rfl, _⟩ := h; rfl
  | obj C ns ts => have h : Rp K G (.obj C ns ts) v := h
                   simp only [Rp] at h; obtain ⟨a, dx, vs, rfl, _⟩ := h; rfl
theorem is_ok : OpK K (fun x y H Q => y = .non ∧ Q (.bl (decide (x = .non))) H) isF := by
  intro W B ρ G α σ H Q x y v w rs p1 p2 q
  unfold isF at q
  split at q
  · refine ⟨by simpa [Rp1, Rp] using p2, ?_⟩
    rw [p1.isN]
    exact fin_d rs q (by simp [Rp])
  · exact q.elim
theorem isNot_ok : OpK K (fun x y H Q => y = .non ∧ Q (.bl (!decide (x = .non))) H) isNotF := by
  intro W B ρ G α σ H Q x y v w rs p1 p2 q
  unfold isNotF at q
  split at q
  · refine ⟨by simpa [Rp1, Rp] using p2, ?_⟩
    rw [p1.isN]
    exact fin_d rs q (by simp [Rp])
  · exact q.elim
theorem fe_is (h : SE X W a ma) (g : SE X W b mb) : SE X W (.Compare a [.Is] [b] pos) (mOp isF ma mb) := fe_cmp op_isN is_ok h g
theorem fe_isnot (h : SE X W a ma) (g : SE X W b mb) : SE X W (.Compare a [.IsNot] [b] pos) (mOp isNotF ma mb) := fe_cmp op_notN isNot_ok h g
theorem ft_is (h : SE X W a ma) (g : SE X W b mb) : ST X W (.Compare a [.Is] [b] pos) (mTOp isF ma mb) := ft_cmp op_isN is_ok h g
theorem ft_isnot (h : SE X W a ma) (g : SE X W b mb) : ST X W (.Compare a [.IsNot] [b] pos) (mTOp isNotF ma mb) := ft_cmp op_notN isNot_ok h g

/-! == of data -/
mutual
def T.py : T → Option PyData
  | .non => some .none
  | .bl b => some (.bool b)
  | .int i => some (.int i)
  | .str x => some (.str x)
  | .tup ts => (T.pys ts).map .tuple
  | .ktp ts => (T.pys ts).map .tuple
  | .lst ts => (T.pys ts).map .list
  | .frl ts => (T.pys ts).map .list
  | _ => none
def T.pys : List T → Option (List PyData)
  | [] => some []
  | t :: ts => match T.py t, T.pys ts with
    | some d, some ds => some (d :: ds)
    | _, _ => none
end
mutual
theorem dp_of {H : Hp} : ∀ {t : T} {v : V} {d : PyData}, Rp K H t v → t.py = some d → Dp K H v d
  | .non, v, d, h, e => by simp only [Rp] at h; simp only [T.py, Option.some.injEq] at e; subst h; subst e; exact .non
  | .bl b, v, d, h, e => by simp only [Rp] at h; simp only [T.py, Option.some.injEq] at e; subst h; subst e; exact .bl b
  | .int b, v, d, h, e => by simp only [Rp] at h; simp only [T.py, Option.some.injEq] at e; subst h; subst e; exact .int b
  | .str b, v, d, h, e => by simp only [Rp] at h; simp only [T.py, Option.some.injEq] at e; subst h; subst e; exact .str b
  | .tup ts, v, d, h, e => by
    simp only [Rp] at h; obtain ⟨a, vs, rfl, q2, q3⟩ := h
    simp only [T.py, Option.map_eq_some_iff] at e; obtain ⟨ds, e1, rfl⟩ := e
    exact .tup (SqT.of q2) (dps_of q3 e1)
  | .ktp ts, v, d, h, e => by
    simp only [Rp] at h; obtain ⟨a, vs, rfl, q2, q3⟩ := h
    simp only [T.py, Option.map_eq_some_iff] at e; obtain ⟨ds, e1, rfl⟩ := e
    exact .tup q2 (dps_of q3 e1)
  | .lst ts, v, d, h, e => by
    simp only [Rp] at h; obtain ⟨a, vs, rfl, q2, q3⟩ := h
    simp only [T.py, Option.map_eq_some_iff] at e; obtain ⟨ds, e1, rfl⟩ := e
    exact .lst (SqL.of q2) (dps_of q3 e1)
  | .frl ts, v, d, h, e => by
    simp only [Rp] at h; obtain ⟨a, vs, rfl, q2, q3⟩ := h
    simp only [T.py, Option.map_eq_some_iff] at e; obtain ⟨ds, e1, rfl⟩ := e
    exact .lst q2 (dps_of q3 e1)
  | .dk _ _, v, d, h, e => by simp [T.py] at e
  | .dt _ _, v, d, h, e => by simp [T.py] at e
  | .obj _ _ _, v, d, h, e => by simp [T.py] at e
theorem dps_of {H : Hp} : ∀ {ts : List T} {vs : List V} {ds : List PyData}, Rps K H ts vs → T.pys ts = some ds → DpAll K H vs ds
  | [], vs, ds, h, e => by simp only [Rps] at h; simp only [T.pys, Option.some.injEq] at e; subst h; subst e; exact .nil
  | t :: ts, vs, ds, h, e => by
    simp only [Rps] at h; obtain ⟨v, ws, rfl, q2, q3⟩ := h
    simp only [T.pys] at e
    split at e
    · rename_i d ds' e1 e2
      simp only [Option.some.injEq] at e; subst e
      exact .cons (dp_of q2 e1) (dps_of q3 e2)
    · cases e
end
/-- scalars compare as they are -/
def scT : T → T → Option Bool
  | .non, .non => some true | .non, .int _ => some false | .int _, .non => some false | .non, .bl _ => some false | .bl _, .non => some false | .non, .str _ => some false | .str _, .non => some false
  | .int i, .int j => some (decide (i = j)) | .bl i, .bl j => some (decide (i = j)) | .str i, .str j => some (decide (i = j))
  | .int _, .str _ => some false | .str _, .int _ => some false | .bl _, .str _ => some false | .str _, .bl _ => some false
  | _, _ => none
theorem scT_ok {G H : Hp} {x y : T} {v w : V} {b : Bool} (h : Rp1 K G H x v) (g : Rp1 K G H y w) (e : scT x y = some b) : scal v w = true ∧ decide (v = w) = b := by
  cases x <;> cases y <;> first
    | (simp only [scT, reduceCtorEq] at e; done)
    | (simp only [scT, Option.some.injEq] at e
       subst e
       simp only [Rp1, Rp] at h g
       subst h; subst g
       exact ⟨rfl, by simp⟩)
def eqB (x y : T) : Option Bool := match scT x y with
  | some b => some b
  | none => match x.py, y.py with
    | some d, some e => if SeqAt.shaped d = true ∧ SeqAt.shaped e = true then some (PyData.eqv d e) else none
    | _, _ => none
def eqF (x y : T) : Option O := (eqB x y).map fun b => .d (.bl b)
def neF (x y : T) : Option O := (eqB x y).map fun b => .d (.bl (!b))
def rEqA (K : PySem.W.Frag) : R2 := fun x y H Q => rEq x y H Q ∨ rEqD K x y H Q
def rNeA (K : PySem.W.Frag) : R2 := fun x y H Q => rNe x y H Q ∨ rNeD K x y H Q
theorem eqA_ok : OpK K (rEqA K) eqF := by
  intro W B ρ G α σ H Q x y v w rs p1 p2 q
  unfold eqF eqB at q
  cases e : scT x y with
  | some b =>
    rw [e] at q
    obtain ⟨h1, h2⟩ := scT_ok p1 p2 e
    exact .inl ⟨h1, by rw [h2]; exact fin_d rs q (by simp [Rp])⟩
  | none =>
    rw [e] at q
    dsimp only at q
    split at q
    · rename_i d d' e1 e2
      split at q
      · rename_i hs
        exact .inr ⟨d, d', dp_of (p1.full rs.gh) e1, dp_of (p2.full rs.gh) e2, hs.1, hs.2, fin_d rs q (by simp [Rp])⟩
      · exact q.elim
    · exact q.elim
theorem neA_ok : OpK K (rNeA K) neF := by
  intro W B ρ G α σ H Q x y v w rs p1 p2 q
  unfold neF eqB at q
  cases e : scT x y with
  | some b =>
    rw [e] at q
    obtain ⟨h1, h2⟩ := scT_ok p1 p2 e
    exact .inl ⟨h1, by rw [h2]; exact fin_d rs q (by simp [Rp])⟩
  | none =>
    rw [e] at q
    dsimp only at q
    split at q
    · rename_i d d' e1 e2
      split at q
      · rename_i hs
        exact .inr ⟨d, d', dp_of (p1.full rs.gh) e1, dp_of (p2.full rs.gh) e2, hs.1, hs.2, fin_d rs q (by simp [Rp])⟩
      · exact q.elim
    · exact q.elim
theorem fe_eq (hu : X.A.units + 64 < cLine) (h : SE X W a ma) (g : SE X W b mb) : SE X W (.Compare a [.Eq] [b] pos) (mOp eqF ma mb) := fe_cmp (op_eq.or (op_eqD hu)) eqA_ok h g
theorem fe_ne (hu : X.A.units + 64 < cLine) (h : SE X W a ma) (g : SE X W b mb) : SE X W (.Compare a [.NotEq] [b] pos) (mOp neF ma mb) := fe_cmp (op_ne.or (op_neD hu)) neA_ok h g
theorem ft_eq (hu : X.A.units + 64 < cLine) (h : SE X W a ma) (g : SE X W b mb) : ST X W (.Compare a [.Eq] [b] pos) (mTOp eqF ma mb) := ft_cmp (op_eq.or (op_eqD hu)) eqA_ok h g
theorem ft_ne (hu : X.A.units + 64 < cLine) (h : SE X W a ma) (g : SE X W b mb) : ST X W (.Compare a [.NotEq] [b] pos) (mTOp neF ma mb) := ft_cmp (op_ne.or (op_neD hu)) neA_ok h g
end
end FL

/-! FL6: in, subscripts, slices, built-in calls, list methods. -/
namespace FL
open PySem L2

section
variable {X : Cx} {W : WX} {e a b c : Expr} {es : List Expr} {ma mb mc : DE} {da : DA} {pos : Pos} {K : PySem.W.Frag}
/-- flat data as values -/
def fv : T → Option V
  | .non => some .non | .bl b => some (.bl b) | .int i => some (.int i) | .str x => some (.str x) | _ => none
def fvs : List T → Option (List V)
  | [] => some []
  | t :: ts => match fv t, fvs ts with
    | some v, some vs => some (v :: vs)
    | _, _ => none
theorem fv_ok {G : Hp} {t : T} {v w : V} (h : Rp K G t v) (e : fv t = some w) : v = w ∧ flatV w = true := by
  cases t <;> simp only [fv, reduceCtorEq, Option.some.injEq] at e <;> (subst e; simp only [Rp] at h; subst h; exact ⟨rfl, rfl⟩)
theorem fvs_ok {G : Hp} : ∀ {ts : List T} {vs ws : List V}, Rps K G ts vs → fvs ts = some ws → vs = ws ∧ ws.all flatV = true
  | [], vs, ws, h, e => by simp only [fvs, Option.some.injEq] at e; simp only [Rps] at h; subst h; subst e; exact ⟨rfl, rfl⟩
  | t :: ts, vs, ws, h, e => by
    simp only [Rps] at h; obtain ⟨v, us, rfl, q2, q3⟩ := h
    simp only [fvs] at e
    split at e
    · rename_i v' vs' e1 e2
      simp only [Option.some.injEq] at e; subst e
      obtain ⟨h1, h2⟩ := fv_ok q2 e1
      obtain ⟨h3, h4⟩ := fvs_ok q3 e2
      subst h1; subst h3
      exact ⟨rfl, by rw [List.all_cons, h2, h4]; rfl⟩
    · cases e
/-- the items of a list or tuple -/
def itm : T → Option (List T)
  | .tup ts => some ts | .ktp ts => some ts | .lst ts => some ts | .frl ts => some ts | _ => none
theorem itm_ok {G H : Hp} {t : T} {v : V} {ts : List T} (g : Ex G H) (h : Rp1 K G H t v) (e : itm t = some ts) : ∃ a vs, v = .ref a ∧ (SqL K H a vs ∨ SqT K H a vs) ∧ Rps K G ts vs := by
  cases t <;> simp only [itm, reduceCtorEq, Option.some.injEq] at e <;> subst e
  · obtain ⟨a, vs, rfl, h1, h2⟩ := h.tup; exact ⟨a, vs, rfl, .inr (SqT.of (g _ _ h1)), h2⟩
  · obtain ⟨a, vs, rfl, h1, h2⟩ := h.ktp; exact ⟨a, vs, rfl, .inr (g.t h1), h2⟩
  · obtain ⟨a, vs, rfl, h1, h2⟩ := h; exact ⟨a, vs, rfl, .inl (SqL.of h1), h2⟩
  · rename_i ts
    have h : Rp K G (.frl ts) v := h
    simp only [Rp] at h; obtain ⟨a, vs, rfl, h1, h2⟩ := h; exact ⟨a, vs, rfl, .inl (g.l h1), h2⟩
def inF (neg : Bool) (x y : T) : Option O := match fv x, (itm y).bind fvs with
  | some v, some ws => some (.d (.bl (if neg then !inV v ws else inV v ws)))
  | _, _ => none
theorem in_ok {neg : Bool} : OpK K (rIn K neg) (inF neg) := by
  intro W B ρ G α σ H Q x y v w rs p1 p2 q
  unfold inF at q
  split at q
  · rename_i v' ws e1 e2
    obtain ⟨ts, e3, e4⟩ := Option.bind_eq_some_iff.mp e2
    obtain ⟨a, vs, rfl, h1, h2⟩ := itm_ok rs.gh p2 e3
    obtain ⟨h3, h4⟩ := fvs_ok h2 e4
    subst h3
    obtain ⟨h5, h6⟩ := fv_ok (p1.full rs.gh) e1
    subst h5
    exact ⟨a, vs, rfl, h1, h6, h4, fin_d rs q (by simp [Rp])⟩
  · exact q.elim
theorem fe_in (h : SE X W a ma) (g : SE X W b mb) (hm : behindInMarks .In b = false := by rfl) : SE X W (.Compare a [.In] [b] pos) (mOp (inF false) ma mb) := fe_cmp op_in_seq in_ok h g hm
theorem fe_notin (h : SE X W a ma) (g : SE X W b mb) (hm : behindInMarks .NotIn b = false := by rfl) : SE X W (.Compare a [.NotIn] [b] pos) (mOp (inF true) ma mb) := fe_cmp op_notIn_seq in_ok h g hm
theorem ft_in (h : SE X W a ma) (g : SE X W b mb) (hm : behindInMarks .In b = false := by rfl) : ST X W (.Compare a [.In] [b] pos) (mTOp (inF false) ma mb) := ft_cmp op_in_seq in_ok h g hm
theorem ft_notin (h : SE X W a ma) (g : SE X W b mb) (hm : behindInMarks .NotIn b = false := by rfl) : ST X W (.Compare a [.NotIn] [b] pos) (mTOp (inF true) ma mb) := ft_cmp op_notIn_seq in_ok h g hm

/-! subscripts -/
def ixF (x y : T) : Option O := match y with
  | .int i => match x with
    | .str z => if z.length ≤ sizeLine then (atI z.cps.toList i).map fun c => .d (.str ⟨#[c]⟩) else none
    | x => (itm x).bind fun ts => (atI ts i).map .d
  | _ => none
theorem atI_rp {G : Hp} {ts : List T} {vs : List V} {i : Int} {t : T} (h : Rps K G ts vs) (e : atI ts i = some t) : ∃ v, atI vs i = some v ∧ Rp K G t v := by
  unfold atI at e ⊢
  rw [← h.length]
  obtain ⟨j, e1, e2⟩ := Option.bind_eq_some_iff.mp e
  obtain ⟨v, e3, e4⟩ := h.get e2
  exact ⟨v, by rw [e1]; exact e3, e4⟩
theorem ix_ok : OpK K (rIx K) ixF := by
  intro W B ρ G α σ H Q x y v w rs p1 p2 q
  unfold ixF at q
  split at q
  · rename_i i
    have hw : w = .int i := by simpa [Rp1, Rp] using p2
    subst hw
    split at q
    · rename_i z
      split at q
      · rename_i hz
        have hv : v = .str z := by simpa [Rp1, Rp] using p1
        subst hv
        cases e : atI z.cps.toList i with
        | none => rw [e] at q; exact q.elim
        | some c => rw [e] at q; exact .inr (.inr ⟨z, i, c, rfl, rfl, hz, e, fin_d rs q (by simp [Rp])⟩)
      · exact q.elim
    · cases e : itm x with
      | none => rw [e] at q; exact q.elim
      | some ts =>
        rw [e] at q
        obtain ⟨a, vs, rfl, h1, h2⟩ := itm_ok rs.gh p1 e
        cases e1 : atI ts i with
        | none => rw [Option.bind_some, e1] at q; exact q.elim
        | some t =>
          rw [Option.bind_some, e1] at q
          obtain ⟨u, h3, h4⟩ := atI_rp h2 e1
          rcases h1 with h1 | h1
          · exact .inl ⟨a, vs, i, u, rfl, rfl, h1, h3, fin_d rs q h4⟩
          · exact .inr (.inl ⟨a, vs, i, u, rfl, rfl, h1, h3, fin_d rs q h4⟩)
  · exact q.elim
theorem fe_idx (h : SE X W a ma) (g : SE X W b mb) (hs : PlainIx b := by exact fun _ _ => rfl) : SE X W (.Subscript a b pos) (mOp ixF ma mb) := fe_ix ix_seq ix_ok h g hs

/-! slices -/
abbrev DO := Sg → R (Option Int)
def tO (K : PySem.W.Frag) (W : WX) (m : DO) : TO := fun σ H Q => ∃ B ρ G α, Rs K B ρ G α σ H ∧ okP K W B G α σ (m ρ) fun o _ _ _ H' => Q o H'
def mPN : DO := fun ρ => .ok none ρ
def mPS (m : DE) : DO := fun ρ => (m ρ).bind fun u ρ1 => match u with
  | .d (.int i) => .ok (some i) ρ1
  | _ => .no
abbrev SO (X : Cx) (W : WX) (e : Option Expr) (m : DO) : Prop := PO X e (tO X.K W m)
theorem po_weak {e : Option Expr} {t t' : TO} (h : PO X e t) (w : ∀ σ H Q, t' σ H Q → t σ H Q) : PO X e t' := ⟨fun pins s σ H Q I q => h.run pins s σ H Q I (w σ H Q q)⟩
theorem fo_none : SO X W none mPN := po_weak po_none fun σ H Q ⟨B, ρ, G, α, r, h⟩ => h G α H Gr.refl r
theorem fo_some (h : SE X W a ma) : SO X W (some a) (mPS ma) := po_weak (po_some h) fun σ H Q ⟨B, ρ, G, α, r, h⟩ => bE r h fun u ρ1 v H1 G1 α1 g1 r1 p1 h1 => by
  split at h1
  · rename_i i
    exact ⟨i, by simpa [RpU, Rp] using p1, h1 G1 α1 H1 Gr.refl r1⟩
  · exact h1.elim
theorem bO {W : WX} {B G H : Hp} {α : List Addr} {σ : L2.St} {ρ : Sg} {β : Type} {P : β → Sg → Hp → List Addr → Hp → Prop} {m : DO} {k : Option Int → Sg → R β} {Q : Option Int → Hp → Prop} (r : Rs K B ρ G α σ H) (h : okP K W B G α σ ((m ρ).bind k) P)
    (hk : ∀ b ρ1 H1 G1 α1, Gr B G α G1 α1 → Rs K B ρ1 G1 α1 σ H1 → okP K W B G1 α1 σ (k b ρ1) P → Q b H1) : tO K W m σ H Q := by
  refine ⟨B, ρ, G, α, r, ?_⟩
  cases e : m ρ with
  | ok u ρ1 => rw [e] at h; exact fun G1 α1 H1 g r1 => hk u ρ1 H1 G1 α1 g r1 (okP.shift g h)
  | ex x ρ1 => rw [e] at h; exact h
  | no => rw [e] at h; exact h
def cutT (xs : List T) (lo hi : Option Int) : List T := (xs.drop (HT.sIx xs.length 0 lo)).take (HT.sIx xs.length xs.length hi - HT.sIx xs.length 0 lo)
theorem cut_rp {G : Hp} {ts : List T} {vs : List V} (h : Rps K G ts vs) (lo hi : Option Int) : Rps K G (cutT ts lo hi) (cutV vs lo hi) := by
  unfold cutT cutV
  rw [← h.length]
  exact (h.drop _).take _
theorem cut_all {ts : List T} {lo hi : Option Int} (h : HT.sIx ts.length 0 lo = 0 ∧ HT.sIx ts.length ts.length hi = ts.length) : cutT ts lo hi = ts := by
  unfold cutT
  rw [h.1, h.2]; simp
def slF (x : T) (lo hi : Option Int) : Option O := match x with
  | .tup ts => some (.d (.tup (cutT ts lo hi)))
  | .ktp ts => if HT.sIx ts.length 0 lo = 0 ∧ HT.sIx ts.length ts.length hi = ts.length then some (.d (.ktp ts)) else some (.d (.tup (cutT ts lo hi)))
  | .lst ts => some (.l (cutT ts lo hi))
  | .frl ts => some (.l (cutT ts lo hi))
  | .str z => if z.length ≤ sizeLine then some (.d (.str (cutS z lo hi))) else none
  | _ => none
def rSl (K : PySem.W.Frag) : V → Option Int → Option Int → Hp → VK → Prop := fun x lo hi H Q => rSlA K x lo hi H Q ∨ rSlL K x lo hi H Q ∨ rSlS x lo hi H Q
theorem sl_any : SlR X (rSl X.K) := sl_tupA.or (sl_list.or sl_str)
def mSl (m : DE) (l h : DO) : DE := fun ρ => (m ρ).bind fun u ρ1 => (l ρ1).bind fun lo ρ2 => (h ρ2).bind fun hi ρ3 => match pk ρ3.st u with
  | some x => mO (slF x lo hi) ρ3
  | none => .no
theorem sl_ok {W : WX} {B G H : Hp} {α : List Addr} {σ : L2.St} {ρ : Sg} {Q : VK} {x : T} {v : V} {lo hi : Option Int} (rs : Rs K B ρ G α σ H) (p1 : Rp1 K G H x v) (q : okP K W B G α σ (mO (slF x lo hi) ρ) (EndP K Q)) : rSl K v lo hi H Q := by
  unfold slF at q
  split at q
  · rename_i ts
    have p0 := p1
    obtain ⟨a, vs, rfl, h1, h2⟩ := p1.tup
    refine .inl ⟨a, vs, rfl, SqT.of (rs.gh _ _ h1), fun hw => ?_, fun _ p hp => fin_tup rs q (cut_rp h2 lo hi) hp⟩
    rw [cut_all (by rw [h2.length]; exact hw)] at q
    exact fin_d rs q p0
  · rename_i ts
    have p0 := p1
    obtain ⟨a, vs, rfl, h1, h2⟩ := p1.ktp
    refine .inl ⟨a, vs, rfl, rs.gh.t h1, fun hw => ?_, fun hw p hp => ?_⟩
    · rw [if_pos (by rw [h2.length]; exact hw)] at q
      exact fin_d rs q p0
    · rw [if_neg (by rw [h2.length]; exact hw)] at q
      exact fin_tup rs q (cut_rp h2 lo hi) hp
  · obtain ⟨a, vs, rfl, h1, h2⟩ := p1
    exact .inr (.inl ⟨a, vs, rfl, SqL.of h1, fun p hp => fin_lst rs q (cut_rp h2 lo hi) hp⟩)
  · rename_i ts
    have p1 : Rp K G (.frl ts) v := p1
    simp only [Rp] at p1
    obtain ⟨a, vs, rfl, h1, h2⟩ := p1
    exact .inr (.inl ⟨a, vs, rfl, rs.gh.l h1, fun p hp => fin_lst rs q (cut_rp h2 lo hi) hp⟩)
  · rename_i z
    split at q
    · rename_i hz
      have hv : v = .str z := by simpa [Rp1, Rp] using p1
      subst hv
      exact .inr (.inr ⟨z, rfl, hz, fin_d rs q (by simp [Rp])⟩)
    · exact q.elim
  · exact q.elim
theorem fe_slice {lo hi : Option Expr} {ml mh : DO} {p2 : Pos} (h : SE X W a ma) (hl : SO X W lo ml) (hh : SO X W hi mh) : SE X W (.Subscript a (.Slice lo hi none p2) pos) (mSl ma ml mh) := pe_weak (pe_slice sl_any h hl hh) fun σ H Q ⟨B, ρ, G, α, r, h⟩ =>
  bE r h fun u ρ1 v H1 G1 α1 g1 r1 p1 h1 => bO r1 h1 fun lo ρ2 H2 G2 α2 g2 r2 h2 => bO r2 h2 fun hi ρ3 H3 G3 α3 g3 r3 h3 => by
    split at h3
    · rename_i x e
      exact sl_ok r3 (pk_ok r3.toRh (p1.mono (g2.trans g3)) e) h3
    · exact h3.elim

/-! built-in calls on data -/
def pks (st : List Ob) : List U → Option (List T)
  | [] => some []
  | u :: us => match pk st u, pks st us with
    | some t, some ts => some (t :: ts)
    | _, _ => none
def Rp1s (K : PySem.W.Frag) (G H : Hp) : List T → List V → Prop
  | [], vs => vs = []
  | t :: ts, vs => ∃ v ws, vs = v :: ws ∧ Rp1 K G H t v ∧ Rp1s K G H ts ws
theorem pks_ok {B G H : Hp} {st : List Ob} {α : List Addr} (r : Rh K B st G α H) : ∀ {us : List U} {vs : List V} {ts : List T}, RpUs K G α us vs → pks st us = some ts → Rp1s K G H ts vs
  | [], vs, ts, h, e => by simp only [pks, Option.some.injEq] at e; subst e; exact h
  | u :: us, vs, ts, ⟨v, ws, q1, q2, q3⟩, e => by
    simp only [pks] at e
    split at e
    · rename_i t ts' e1 e2
      simp only [Option.some.injEq] at e; subst e
      exact ⟨v, ws, q1, pk_ok r q2 e1, pks_ok r q3 e2⟩
    · cases e
def CaK (K : PySem.W.Frag) (r : List V → Hp → VK → Prop) (f : List T → Option O) : Prop := ∀ (W : WX) (B : Hp) (ρ : Sg) (G : Hp) (α : List Addr) (σ : L2.St) (H : Hp) (Q : VK) (xs : List T) (vs : List V),
  Rs K B ρ G α σ H → Rp1s K G H xs vs → okP K W B G α σ (mO (f xs) ρ) (EndP K Q) → r vs H Q
def mCa (f : List T → Option O) (da : DA) : DE := fun ρ => (da ρ).bind fun us ρ1 => match pks ρ1.st us with
  | some ts => mO (f ts) ρ1
  | none => .no
theorem tCB_of {r : List V → Hp → VK → Prop} {f : List T → Option O} (hr : CaK K r f) (σ : L2.St) (H : Hp) (Q : VK) (h : tE K W (mCa f da) σ H Q) : tCB r (tA K W da) σ H Q := by
  obtain ⟨B, ρ, G, α, rs, h⟩ := h
  refine bA rs h fun us ρ1 vs H1 G1 α1 g1 r1 p1 h1 => ?_
  split at h1
  · rename_i ts e
    exact hr W B ρ1 G1 α1 σ H1 Q ts vs r1 (pks_ok r1.toRh p1 e) h1
  · exact h1.elim
theorem fe_callB {r : List V → Hp → VK → Prop} {f : List T → Option O} {x : Str} {p : Pos} {id : String} (hc : CallR X (.builtin id) r) (hf : CaK X.K r f) (hg : Gl X x) (hm : X.mg x = none) (hv : bootBuiltins x = some (.builtin id)) (ha : SA X W (e :: es) da)
    (hn : x ≠ "__name__" := by decide) (hdb : (x == ("__debug__" : Str)) = false := by decide) (he : starEach (e :: es) X.env = (false, eval e X.env) :: starEach es X.env := by rfl) (hpl : (backTo pos (starEach es X.env)).any (·.1) = false := by rfl) : SE X W (.Call (.Name x p) (e :: es) [] pos) (mCa f da) :=
  pe_weak (pe_callB hc hg hm hv ha hn hdb he hpl) (tCB_of hf)
theorem fe_callTy {r : List V → Hp → VK → Prop} {f : List T → Option O} {x : Str} {p : Pos} {id : String} (hc : CallR X (.type id) r) (hf : CaK X.K r f) (hg : Gl X x) (hm : X.mg x = none) (hv : bootBuiltins x = some (.type id)) (ha : SA X W (e :: es) da)
    (hn : x ≠ "__name__" := by decide) (hdb : (x == ("__debug__" : Str)) = false := by decide) (he : starEach (e :: es) X.env = (false, eval e X.env) :: starEach es X.env := by rfl) (hpl : (backTo pos (starEach es X.env)).any (·.1) = false := by rfl) : SE X W (.Call (.Name x p) (e :: es) [] pos) (mCa f da) :=
  pe_weak (pe_callTy hc hg hm hv ha hn hdb he hpl) (tCB_of hf)
def lenF : List T → Option O
  | [.str z] => if z.length ≤ sizeLine then some (.d (.int z.length)) else none
  | [x] => (itm x).map fun ts => .d (.int ts.length)
  | _ => none
theorem len_ok : CaK K (fun xs H Q => ∃ x n, xs = [x] ∧ LenV K x H n ∧ Q (.int n) H) lenF := by
  intro W B ρ G α σ H Q xs vs rs p q
  unfold lenF at q
  split at q
  · rename_i z
    obtain ⟨v, ws, rfl, q2, rfl⟩ := p
    have hv : v = .str z := by simpa [Rp1, Rp] using q2
    subst hv
    split at q
    · rename_i hz
      exact ⟨_, z.length, rfl, ⟨hz, rfl⟩, fin_d rs q (by simp [Rp])⟩
    · exact q.elim
  · rename_i x hx
    obtain ⟨v, ws, rfl, q2, rfl⟩ := p
    cases e : itm x with
    | none => rw [e] at q; exact q.elim
    | some ts =>
      rw [e] at q
      obtain ⟨a, us, rfl, h1, h2⟩ := itm_ok rs.gh q2 e
      refine ⟨_, ts.length, rfl, ?_, fin_d rs q (by simp [Rp])⟩
      rcases h1 with h1 | h1
      · exact .inl ⟨us, h1, h2.length⟩
      · exact .inr ⟨us, h1, h2.length⟩
  · exact q.elim
theorem fe_len {p : Pos} (hg : Gl X "len") (hm : X.mg "len" = none) (ha : SA X W [e] da) (he : starEach [e] X.env = [(false, eval e X.env)] := by rfl) : SE X W (.Call (.Name "len" p) [e] [] pos) (mCa lenF da) :=
  fe_callB call_len len_ok hg hm PySem.boot_len ha (by decide) (by decide) he rfl
def tupleF : List T → Option O
  | [.tup ts] => some (.d (.tup ts))
  | [.ktp ts] => some (.d (.ktp ts))
  | [.lst ts] => some (.d (.tup ts))
  | [.frl ts] => some (.d (.tup ts))
  | _ => none
theorem tuple_ok : CaK K (fun xs H Q => ∃ p ys, xs = [.ref p] ∧ ((SqL K H p ys ∧ ∀ l, H l = none → Q (.ref l) (upd H l (.tup ys))) ∨ (SqT K H p ys ∧ Q (.ref p) H))) tupleF := by
  intro W B ρ G α σ H Q xs vs rs p q
  unfold tupleF at q
  split at q
  · obtain ⟨v, ws, rfl, q2, rfl⟩ := p
    have q2' := q2
    obtain ⟨a, us, rfl, h1, h2⟩ := q2.tup
    exact ⟨a, us, rfl, .inr ⟨SqT.of (rs.gh _ _ h1), fin_d rs q q2'⟩⟩
  · obtain ⟨v, ws, rfl, q2, rfl⟩ := p
    have q2' := q2
    obtain ⟨a, us, rfl, h1, h2⟩ := q2.ktp
    exact ⟨a, us, rfl, .inr ⟨rs.gh.t h1, fin_d rs q q2'⟩⟩
  · obtain ⟨v, ws, rfl, q2, rfl⟩ := p
    obtain ⟨a, us, rfl, h1, h2⟩ := q2
    exact ⟨a, us, rfl, .inl ⟨SqL.of h1, fun l hl => fin_tup rs q h2 hl⟩⟩
  · rename_i ts
    obtain ⟨v, ws, rfl, q2, rfl⟩ := p
    have q2 : Rp K G (.frl ts) v := q2
    simp only [Rp] at q2
    obtain ⟨a, us, rfl, h1, h2⟩ := q2
    exact ⟨a, us, rfl, .inl ⟨rs.gh.l h1, fun l hl => fin_tup rs q h2 hl⟩⟩
  · exact q.elim
theorem fe_tuple {p : Pos} (hg : Gl X "tuple") (hm : X.mg "tuple" = none) (ha : SA X W [e] da) (he : starEach [e] X.env = [(false, eval e X.env)] := by rfl) : SE X W (.Call (.Name "tuple" p) [e] [] pos) (mCa tupleF da) :=
  fe_callTy call_tuple_of tuple_ok hg hm (by decide +kernel) ha (by decide) (by decide) he rfl
def listF : List T → Option O
  | [x] => (itm x).map .l
  | _ => none
theorem list_ok : CaK K (fun xs H Q => ∃ p ys, xs = [.ref p] ∧ (SqL K H p ys ∨ SqT K H p ys) ∧ ∀ l, H l = none → Q (.ref l) (upd H l (.lst ys))) listF := by
  intro W B ρ G α σ H Q xs vs rs p q
  unfold listF at q
  split at q
  · rename_i x
    obtain ⟨v, ws, rfl, q2, rfl⟩ := p
    cases e : itm x with
    | none => rw [e] at q; exact q.elim
    | some ts =>
      rw [e] at q
      obtain ⟨a, us, rfl, h1, h2⟩ := itm_ok rs.gh q2 e
      exact ⟨a, us, rfl, h1, fun l hl => fin_lst rs q h2 hl⟩
  · exact q.elim
theorem fe_list {p : Pos} (hg : Gl X "list") (hm : X.mg "list" = none) (ha : SA X W [e] da) (he : starEach [e] X.env = [(false, eval e X.env)] := by rfl) : SE X W (.Call (.Name "list" p) [e] [] pos) (mCa listF da) :=
  fe_callTy call_list_of list_ok hg hm (by decide +kernel) ha (by decide) (by decide) he rfl
def intF : List T → Option O
  | [.int i] => some (.d (.int i))
  | [.bl b] => some (.d (.int (if b then 1 else 0)))
  | _ => none
theorem int_ok : CaK K (fun xs H Q => (∃ i, xs = [.int i] ∧ Q (.int i) H) ∨ ∃ k, xs = [.bl k] ∧ Q (.int (if k then 1 else 0)) H) intF := by
  intro W B ρ G α σ H Q xs vs rs p q
  unfold intF at q
  split at q
  · rename_i i
    obtain ⟨v, ws, rfl, q2, rfl⟩ := p
    exact .inl ⟨i, by simpa [Rp1, Rp] using q2, fin_d rs q (by simp [Rp])⟩
  · rename_i i
    obtain ⟨v, ws, rfl, q2, rfl⟩ := p
    exact .inr ⟨i, by simpa [Rp1, Rp] using q2, fin_d rs q (by simp [Rp])⟩
  · exact q.elim
theorem fe_int1 {p : Pos} (hg : Gl X "int") (hm : X.mg "int" = none) (ha : SA X W [e] da) (he : starEach [e] X.env = [(false, eval e X.env)] := by rfl) : SE X W (.Call (.Name "int" p) [e] [] pos) (mCa intF da) :=
  fe_callTy call_int1 int_ok hg hm (by decide +kernel) ha (by decide) (by decide) he rfl
def bls : List T → Option (List Bool)
  | [] => some []
  | .bl b :: ts => (bls ts).map (b :: ·)
  | _ :: _ => none
theorem bls_ok {G : Hp} : ∀ {ts : List T} {vs : List V} {bs : List Bool}, Rps K G ts vs → bls ts = some bs → vs = bs.map V.bl
  | [], vs, bs, h, e => by simp only [bls, Option.some.injEq] at e; subst e; simpa [Rps] using h
  | .bl b :: ts, vs, bs, h, e => by
    simp only [Rps, Rp] at h; obtain ⟨v, us, rfl, rfl, q3⟩ := h
    simp only [bls, Option.map_eq_some_iff] at e
    obtain ⟨bs', e1, rfl⟩ := e
    rw [bls_ok q3 e1]; rfl
  | .non :: ts, vs, bs, h, e => by simp [bls] at e
  | .int _ :: ts, vs, bs, h, e => by simp [bls] at e
  | .str _ :: ts, vs, bs, h, e => by simp [bls] at e
  | .tup _ :: ts, vs, bs, h, e => by simp [bls] at e
  | .ktp _ :: ts, vs, bs, h, e => by simp [bls] at e
  | .lst _ :: ts, vs, bs, h, e => by simp [bls] at e
  | .frl _ :: ts, vs, bs, h, e => by simp [bls] at e
  | .dk _ _ :: ts, vs, bs, h, e => by simp [bls] at e
  | .dt _ _ :: ts, vs, bs, h, e => by simp [bls] at e
  | .obj _ _ _ :: ts, vs, bs, h, e => by simp [bls] at e
def allF (any : Bool) : List T → Option O
  | [.lst ts] => (bls ts).map fun bs => .d (.bl (if any then bs.any id else bs.all id))
  | _ => none
theorem all_ok : CaK K (rAll K) (allF false) := by
  intro W B ρ G α σ H Q xs vs rs p q
  unfold allF at q
  split at q
  · rename_i ts
    obtain ⟨v, ws, rfl, q2, rfl⟩ := p
    obtain ⟨a, us, rfl, h1, h2⟩ := q2
    cases e : bls ts with
    | none => rw [e] at q; exact q.elim
    | some bs =>
      rw [e] at q
      have := bls_ok h2 e
      subst this
      exact ⟨a, bs, rfl, SqL.of h1, fin_d rs q (by simp [Rp])⟩
  · exact q.elim
theorem any_ok : CaK K (rAny K) (allF true) := by
  intro W B ρ G α σ H Q xs vs rs p q
  unfold allF at q
  split at q
  · rename_i ts
    obtain ⟨v, ws, rfl, q2, rfl⟩ := p
    obtain ⟨a, us, rfl, h1, h2⟩ := q2
    cases e : bls ts with
    | none => rw [e] at q; exact q.elim
    | some bs =>
      rw [e] at q
      have := bls_ok h2 e
      subst this
      exact ⟨a, bs, rfl, SqL.of h1, fin_d rs q (by simp [Rp])⟩
  · exact q.elim
end
end FL

/-! FL7: defs and their calls. -/
namespace FL
open PySem L2

/-- what a def computes: from the objects handed on, from the arguments -/
abbrev Fn := List Ob → List U → R U
def okFn (K : PySem.W.Frag) (B G : Hp) (α : List Addr) (r : R U) (Q : VK) (E : XK) : Prop := match r with
  | .ok u ρ => ∀ G' α' H' v, Gr B G α G' α' → Rh K B ρ.st G' α' H' → RpU K G' α' u v → Q v H'
  | .ex x ρ => ∀ G' α' H' d, Gr B G α G' α' → Rh K B ρ.st G' α' H' → Xd K G' H' d x.fs → E (.ref x.C) d H'
  | .no => False
/-- the promise of a def that computes F, of n arguments -/
def spF (K : PySem.W.Frag) (n : Nat) (F : Fn) : Sp := fun vs H Q E => vs.length = n ∧ ∃ B st G α us, Rh K B st G α H ∧ RpUs K G α us vs ∧ okFn K B G α (F st us) Q E
theorem spF_len {K : PySem.W.Frag} {n : Nat} {F : Fn} {ps : List Str} (hn : ps.length = n) (vs : List V) (H : Hp) (Q : VK) (E : XK) (h : spF K n F vs H Q E) : vs.length = ps.length := by rw [hn]; exact h.1
def refU (k : Nat) : U → Bool
  | .d _ => true
  | .own i => decide (i < k)
def refO (k : Nat) : Ob → Bool
  | .obj _ _ us => us.all (refU k)
  | _ => true
/-- the store cut back to what was handed on -/
def cutSt (k : Nat) (st : List Ob) : Option (List Ob) := if (st.take k).all (refO k) = true then some (st.take k) else none
/-- a body run; its value is data -/
def runD (m : DS) (n : Nat) : Fn := fun st us => match m ⟨us.map some ++ List.replicate (n - us.length) none, st⟩ with
  | .nx ρ => match cutSt st.length ρ.st with
    | some st' => .ok (.d .non) ⟨[], st'⟩
    | none => .no
  | .rt u ρ => match toD 4 u ρ.st with
    | some (t, st1) => match cutSt st.length st1 with
      | some st' => .ok (.d t) ⟨[], st'⟩
      | none => .no
    | none => .no
  | .ex x ρ => match cutSt st.length ρ.st with
    | some st' => .ex x ⟨[], st'⟩
    | none => .no
  | _ => .no
section
variable {K : PySem.W.Frag} {B G H : Hp} {α : List Addr} {st : List Ob}
theorem RpUs.cut {k : Nat} : ∀ {us : List U} {vs : List V}, us.all (refU k) = true → RpUs K G α us vs → RpUs K G (α.take k) us vs
  | [], _, _, h => h
  | u :: us, _, e, ⟨v, ws, q1, q2, q3⟩ => by
    rw [List.all_cons, Bool.and_eq_true] at e
    refine ⟨v, ws, q1, ?_, RpUs.cut e.2 q3⟩
    cases u with
    | d t => exact q2
    | own i =>
      obtain ⟨a, h1, h2⟩ := q2
      have hi : i < k := of_decide_eq_true e.1
      exact ⟨a, by rw [List.getElem?_take_of_lt hi]; exact h1, h2⟩
theorem Rh.cut {k : Nat} {st' : List Ob} (r : Rh K B st G α H) (e : cutSt k st = some st') : Rh K B st' G (α.take k) H := by
  unfold cutSt at e
  split at e
  · rename_i hc
    simp only [Option.some.injEq] at e; subst e
    refine ⟨r.gh, r.bh, by simp [r.len], r.nd.sublist (List.take_sublist _ _), fun i a o e1 e2 => ?_⟩
    have hi : i < k := by
      have := (List.getElem?_eq_some_iff.mp e1).1
      simp at this; omega
    rw [List.getElem?_take_of_lt hi] at e1 e2
    obtain ⟨q1, q2, q3⟩ := r.ow i a o e1 e2
    refine ⟨q1, q2, ?_⟩
    have ho : refO k o = true := by
      rw [List.all_eq_true] at hc
      exact hc o (List.mem_of_getElem? (i := i) (by rw [List.getElem?_take_of_lt hi]; exact e2))
    cases o with
    | obj C ns us =>
      obtain ⟨z, dx, vs, z1, z2, z3⟩ := q3
      exact ⟨z, dx, vs, z1, z2, z3.cut ho⟩
    | frz t => exact q3
    | lst t => exact q3
    | dk k t => exact q3
  · cases e
theorem Gr.cut {G' : Hp} {α' : List Addr} (g : Gr B G α G' α') : Gr B G α G' (α'.take α.length) := by
  obtain ⟨β, e⟩ := g.al
  exact ⟨g.ex, ⟨[], by rw [e]; simp⟩, g.fr⟩
end
theorem start_sl {K : PySem.W.Frag} {G : Hp} {α : List Addr} : ∀ {us : List U} {vs : List V}, RpUs K G α us vs → ∀ (n i : Nat) (u : U), (us.map some ++ List.replicate n none)[i]? = some (some u) → ∃ v, (vs.map some ++ List.replicate n none)[i]? = some (some v) ∧ RpU K G α u v
  | [], _, h, n, i, u, e => by
    simp only [List.map_nil, List.nil_append, List.getElem?_replicate] at e
    split at e <;> simp at e
  | w :: us, _, ⟨v, ws, q1, q2, q3⟩, n, 0, u, e => by
    subst q1
    simp at e; subst e
    exact ⟨v, by simp, q2⟩
  | w :: us, _, ⟨v, ws, q1, q2, q3⟩, n, i + 1, u, e => by
    subst q1
    simp only [List.map_cons, List.cons_append, List.getElem?_cons_succ] at e ⊢
    exact start_sl q3 n i u e
theorem body_ok {K : PySem.W.Frag} {N : List Str} {m : DS} {n : Nat} {vs : List V} {H : Hp} {Q : VK} {E : XK} (h : spF K n (runD m N.length) vs H Q E) :
    tS K (fun cls d _ H => E cls d H) m { nx := fun _ H' => Q .non H', rt := Q } (L2.start N vs) H := by
  obtain ⟨_, B, st, G, α, us, rh, ru, ho⟩ := h
  have hl := ru.length
  have hk : st.length = α.length := rh.len.symm
  refine ⟨B, ⟨us.map some ++ List.replicate (N.length - us.length) none, st⟩, G, α, { toRh := rh, sll := ?_, sl := fun i u e => ?_ }, ?_⟩
  · simp [L2.start, hl]
  · unfold L2.start
    rw [← hl]
    exact start_sl ru _ i u e
  · unfold runD at ho
    split at ho
    · rename_i ρ e
      rw [e]
      split at ho
      · rename_i st' e1
        rw [hk] at e1
        exact fun G' α' σ' H' g r => ho G' _ H' .non g.cut (r.toRh.cut e1) (by simp [RpU, Rp])
      · exact ho.elim
    · rename_i u ρ e
      rw [e]
      split at ho
      · rename_i t st1 e0
        split at ho
        · rename_i st' e1
          rw [hk] at e1
          intro G' α' σ' H' v g r p
          obtain ⟨G2, g2, r2, p2⟩ := toD_ok 4 r.toRh p e0
          exact ho G2 _ H' v (g.trans g2).cut (r2.cut e1) p2
        · exact ho.elim
      · exact ho.elim
    · rename_i x ρ e
      rw [e]
      split at ho
      · rename_i st' e1
        rw [hk] at e1
        exact fun σ' H' G' α' d g r xd => ho G' _ H' d g.cut (r.toRh.cut e1) xd
      · exact ho.elim
    · exact ho.elim

/-! ### handing on objects of one's own -/
def adds (acc : List Nat) (i : Nat) : List Nat := if i ∈ acc then acc else acc ++ [i]
def owns : List U → List Nat → List Nat
  | [], acc => acc
  | .own i :: us, acc => owns us (adds acc i)
  | .d _ :: us, acc => owns us acc
def ownsO (a : List Nat) : Option Ob → List Nat
  | some (.obj _ _ us) => owns us a
  | _ => a
/-- with the objects in their fields -/
def reach (st : List Ob) : Nat → List Nat → List Nat
  | 0, acc => acc
  | n + 1, acc => reach st n (acc.foldl (fun a i => ownsO a st[i]?) acc)
def renU (is : List Nat) : U → Option U
  | .d t => some (.d t)
  | .own i => if i ∈ is then some (.own (is.idxOf i)) else none
def renUs (is : List Nat) : List U → Option (List U)
  | [] => some []
  | u :: us => match renU is u, renUs is us with
    | some u, some us => some (u :: us)
    | _, _ => none
def renO (is : List Nat) : Ob → Option Ob
  | .obj C ns us => (renUs is us).map (.obj C ns)
  | o => some o
def handOn (st : List Ob) (is : List Nat) : List Nat → Option (List Ob)
  | [] => some []
  | i :: r => match (st[i]?).bind (renO is), handOn st is r with
    | some o, some os => some (o :: os)
    | _, _ => none
def backU (is : List Nat) : U → Option U
  | .d t => some (.d t)
  | .own j => (is[j]?).map .own
def backUs (is : List Nat) : List U → Option (List U)
  | [] => some []
  | u :: us => match backU is u, backUs is us with
    | some u, some us => some (u :: us)
    | _, _ => none
def backO (is : List Nat) : Ob → Option Ob
  | .obj C ns us => (backUs is us).map (.obj C ns)
  | o => some o
def handBack (is : List Nat) : List Nat → List Ob → List Ob → Option (List Ob)
  | [], _, st => some st
  | i :: r, o :: os, st => match backO is o with
    | some o' => handBack is r os (st.set i o')
    | none => none
  | _ :: _, [], _ => none
/-- the arguments: as objects of one's own (true), or as data -/
def argC : List Bool → List U → List Ob → Option (List U × List Ob)
  | _, [], st => some ([], st)
  | true :: cs, u :: us, st => match argC cs us st with
    | some (us', st') => some (u :: us', st')
    | none => none
  | false :: cs, u :: us, st => match toD 4 u st with
    | some (t, st1) => match argC cs us st1 with
      | some (us', st') => some (.d t :: us', st')
      | none => none
    | none => none
  | [], u :: us, st => match toD 4 u st with
    | some (t, st1) => match argC [] us st1 with
      | some (us', st') => some (.d t :: us', st')
      | none => none
    | none => none
/-- a call whose value is data -/
def callR (F : Fn) (us : List U) (ρ : Sg) : R U :=
  let is := reach ρ.st 3 (owns us [])
  match handOn ρ.st is is, renUs is us with
  | some os, some us' => match F os us' with
    | .ok u ρ' => match toD 4 u ρ'.st with
      | some (t, st') => match handBack is is st' ρ.st with
        | some st'' => .ok (.d t) ⟨ρ.sl, st''⟩
        | none => .no
      | none => .no
    | .ex x ρ' => match handBack is is ρ'.st ρ.st with
      | some st'' => .ex x ⟨ρ.sl, st''⟩
      | none => .no
    | .no => .no
  | _, _ => .no
def mCall (n : Nat) (F : Fn) (cs : List Bool) (da : DA) : DE := fun ρ => (da ρ).bind fun us ρ1 => match argC cs us ρ1.st with
  | some (us', st) => if us'.length = n then callR F us' ⟨ρ1.sl, st⟩ else .no
  | none => .no

section
variable {K : PySem.W.Frag} {B G H : Hp} {α : List Addr} {st : List Ob}
theorem argC_ok : ∀ {cs : List Bool} {us : List U} {vs : List V} {us' : List U} {st st' : List Ob} {G : Hp}, Rh K B st G α H → RpUs K G α us vs → argC cs us st = some (us', st') → ∃ G', Gr B G α G' α ∧ Rh K B st' G' α H ∧ RpUs K G' α us' vs
  | cs, [], vs, us', st, st', G, r, h, e => by
    have e : argC cs [] st = some ([], st) ∨ True := .inr trivial
    rename_i e'
    have : argC cs [] st = some ([], st) := by cases cs with
      | nil => rfl
      | cons c cs => cases c <;> rfl
    rw [this] at e'
    simp only [Option.some.injEq, Prod.mk.injEq] at e'
    obtain ⟨rfl, rfl⟩ := e'
    exact ⟨G, Gr.refl, r, h⟩
  | true :: cs, u :: us, vs, us', st, st', G, r, ⟨v, ws, q1, q2, q3⟩, e => by
    simp only [argC] at e
    cases e1 : argC cs us st with
    | none => rw [e1] at e; cases e
    | some p =>
      obtain ⟨us2, st2⟩ := p
      rw [e1] at e; dsimp only at e
      simp only [Option.some.injEq, Prod.mk.injEq] at e
      obtain ⟨rfl, rfl⟩ := e
      obtain ⟨G', g, r', p'⟩ := argC_ok r q3 e1
      exact ⟨G', g, r', v, ws, q1, q2.mono g, p'⟩
  | false :: cs, u :: us, vs, us', st, st', G, r, ⟨v, ws, q1, q2, q3⟩, e => by
    simp only [argC] at e
    cases e1 : toD 4 u st with
    | none => rw [e1] at e; cases e
    | some p =>
      obtain ⟨t, st1⟩ := p
      rw [e1] at e; dsimp only at e
      obtain ⟨G1, g1, r1, p1⟩ := toD_ok 4 r q2 e1
      cases e2 : argC cs us st1 with
      | none => rw [e2] at e; cases e
      | some p =>
        obtain ⟨us2, st2⟩ := p
        rw [e2] at e; dsimp only at e
        simp only [Option.some.injEq, Prod.mk.injEq] at e
        obtain ⟨rfl, rfl⟩ := e
        obtain ⟨G', g, r', p'⟩ := argC_ok r1 (q3.mono g1) e2
        exact ⟨G', g1.trans g, r', v, ws, q1, Rp.mono g.ex p1, p'⟩
  | [], u :: us, vs, us', st, st', G, r, ⟨v, ws, q1, q2, q3⟩, e => by
    simp only [argC] at e
    cases e1 : toD 4 u st with
    | none => rw [e1] at e; cases e
    | some p =>
      obtain ⟨t, st1⟩ := p
      rw [e1] at e; dsimp only at e
      obtain ⟨G1, g1, r1, p1⟩ := toD_ok 4 r q2 e1
      cases e2 : argC [] us st1 with
      | none => rw [e2] at e; cases e
      | some p =>
        obtain ⟨us2, st2⟩ := p
        rw [e2] at e; dsimp only at e
        simp only [Option.some.injEq, Prod.mk.injEq] at e
        obtain ⟨rfl, rfl⟩ := e
        obtain ⟨G', g, r', p'⟩ := argC_ok r1 (q3.mono g1) e2
        exact ⟨G', g1.trans g, r', v, ws, q1, Rp.mono g.ex p1, p'⟩
/-- the addresses of the objects handed on -/
def adr (α : List Addr) (is : List Nat) : List Addr := is.map fun i => α.getD i 0
theorem adr_get (is : List Nat) (hin : ∀ i ∈ is, i < α.length) {j i : Nat} (h : is[j]? = some i) : (adr α is)[j]? = α[i]? := by
  have hi := hin i (List.mem_of_getElem? h)
  unfold adr
  rw [List.getElem?_map, h, List.getElem?_eq_getElem hi]
  simp [List.getD, List.getElem?_eq_getElem hi]
theorem idx_get {is : List Nat} {i : Nat} (h : i ∈ is) : is[is.idxOf i]? = some i := by
  rw [List.getElem?_eq_getElem (List.idxOf_lt_length_iff.mpr h)]
  simp
theorem renU_ok {is : List Nat} (hin : ∀ i ∈ is, i < α.length) {u u' : U} {v : V} (h : RpU K G α u v) (e : renU is u = some u') : RpU K G (adr α is) u' v := by
  cases u with
  | d t => simp only [renU, Option.some.injEq] at e; subst e; exact h
  | own i =>
    simp only [renU] at e
    split at e
    · rename_i hm
      simp only [Option.some.injEq] at e; subst e
      obtain ⟨a, h1, h2⟩ := h
      exact ⟨a, by rw [adr_get is hin (idx_get hm)]; exact h1, h2⟩
    · cases e
theorem renUs_ok {is : List Nat} (hin : ∀ i ∈ is, i < α.length) : ∀ {us us' : List U} {vs : List V}, RpUs K G α us vs → renUs is us = some us' → RpUs K G (adr α is) us' vs
  | [], us', vs, h, e => by simp only [renUs, Option.some.injEq] at e; subst e; exact h
  | u :: us, us', vs, ⟨v, ws, q1, q2, q3⟩, e => by
    simp only [renUs] at e
    split at e
    · rename_i u1 us1 e1 e2
      simp only [Option.some.injEq] at e; subst e
      exact ⟨v, ws, q1, renU_ok hin q2 e1, renUs_ok hin q3 e2⟩
    · cases e
theorem renO_ok {is : List Nat} (hin : ∀ i ∈ is, i < α.length) {o o' : Ob} {a : Addr} (h : ObR K G α H a o) (e : renO is o = some o') : ObR K G (adr α is) H a o' := by
  cases o with
  | obj C ns us =>
    simp only [renO, Option.map_eq_some_iff] at e
    obtain ⟨us', e1, rfl⟩ := e
    obtain ⟨z, dx, vs, z1, z2, z3⟩ := h
    exact ⟨z, dx, vs, z1, z2, renUs_ok hin z3 e1⟩
  | frz t => simp only [renO, Option.some.injEq] at e; subst e; exact h
  | lst t => simp only [renO, Option.some.injEq] at e; subst e; exact h
  | dk k t => simp only [renO, Option.some.injEq] at e; subst e; exact h
theorem handOn_get {is : List Nat} : ∀ {js : List Nat} {os : List Ob} {j : Nat} {o : Ob}, handOn st is js = some os → os[j]? = some o → ∃ i o0, js[j]? = some i ∧ st[i]? = some o0 ∧ renO is o0 = some o
  | [], os, j, o, e, h => by simp only [handOn, Option.some.injEq] at e; subst e; simp at h
  | i :: r, os, j, o, e, h => by
    simp only [handOn] at e
    split at e
    · rename_i o1 os1 e1 e2
      simp only [Option.some.injEq] at e; subst e
      cases j with
      | zero =>
        simp at h; subst h
        obtain ⟨o0, e3, e4⟩ := Option.bind_eq_some_iff.mp e1
        exact ⟨i, o0, by simp, e3, e4⟩
      | succ j =>
        obtain ⟨i', o0, h1, h2, h3⟩ := handOn_get e2 (by simpa using h)
        exact ⟨i', o0, by simpa using h1, h2, h3⟩
    · cases e
theorem handOn_len {is : List Nat} : ∀ {js : List Nat} {os : List Ob}, handOn st is js = some os → os.length = js.length ∧ ∀ i ∈ js, i < st.length
  | [], os, e => by simp only [handOn, Option.some.injEq] at e; subst e; simp
  | i :: r, os, e => by
    simp only [handOn] at e
    split at e
    · rename_i o1 os1 e1 e2
      simp only [Option.some.injEq] at e; subst e
      obtain ⟨h1, h2⟩ := handOn_len e2
      obtain ⟨o0, e3, _⟩ := Option.bind_eq_some_iff.mp e1
      refine ⟨by simp [h1], fun j hj => ?_⟩
      rcases List.mem_cons.mp hj with rfl | hj
      · exact (List.getElem?_eq_some_iff.mp e3).1
      · exact h2 j hj
    · cases e
theorem nodup_adds {acc : List Nat} {i : Nat} (h : acc.Nodup) : (adds acc i).Nodup := by
  unfold adds
  split
  · exact h
  · rename_i hn
    rw [List.nodup_append]
    exact ⟨h, by simp, fun a ha b hb => by rw [List.mem_singleton] at hb; rintro rfl; exact hn (hb ▸ ha)⟩
theorem nodup_owns : ∀ {us : List U} {acc : List Nat}, acc.Nodup → (owns us acc).Nodup
  | [], _, h => h
  | .own i :: us, _, h => nodup_owns (us := us) (nodup_adds h)
  | .d _ :: us, _, h => nodup_owns (us := us) h
theorem nodup_fold {f : List Nat → Nat → List Nat} (hf : ∀ a i, a.Nodup → (f a i).Nodup) : ∀ (l acc : List Nat), acc.Nodup → (l.foldl f acc).Nodup
  | [], _, h => h
  | i :: l, _, h => nodup_fold hf l _ (hf _ i h)
theorem nodup_reach : ∀ {n : Nat} {acc : List Nat}, acc.Nodup → (reach st n acc).Nodup
  | 0, _, h => h
  | n + 1, acc, h => by
    unfold reach
    exact nodup_reach (nodup_fold (fun a i ha => by unfold ownsO; split <;> first | exact nodup_owns ha | exact ha) acc acc h)
theorem nodup_map_on {β γ : Type} {f : β → γ} : ∀ {l : List β}, (∀ x ∈ l, ∀ y ∈ l, f x = f y → x = y) → l.Nodup → (l.map f).Nodup
  | [], _, _ => by simp
  | x :: l, hf, h => by
    rw [List.map_cons, List.nodup_cons]
    rw [List.nodup_cons] at h
    refine ⟨fun hm => ?_, nodup_map_on (fun a ha b hb => hf a (List.mem_cons_of_mem _ ha) b (List.mem_cons_of_mem _ hb)) h.2⟩
    obtain ⟨y, hy, e⟩ := List.mem_map.mp hm
    have := hf y (List.mem_cons_of_mem _ hy) x List.mem_cons_self e
    subst this
    exact h.1 hy
/-- the wall for the callee -/
def wall (H : Hp) (α : List Addr) (is : List Nat) : Hp := fun a => if a ∈ adr α is then none else H a
theorem wall_in {is : List Nat} {a : Addr} (h : a ∈ adr α is) : wall H α is a = none := if_pos h
theorem wall_out {is : List Nat} {a : Addr} (h : a ∉ adr α is) : wall H α is a = H a := if_neg h
theorem Rh.handOn {is : List Nat} {os : List Ob} (r : Rh K B st G α H) (hn : is.Nodup) (e : FL.handOn st is is = some os) : Rh K (wall H α is) os G (adr α is) H := by
  obtain ⟨h1, h2⟩ := handOn_len e
  have hin : ∀ i ∈ is, i < α.length := fun i hi => by rw [r.len]; exact h2 i hi
  refine ⟨r.gh, fun a o ha => ?_, by simp [adr, h1], ?_, fun j a o e1 e2 => ?_⟩
  · by_cases hm : a ∈ adr α is
    · rw [wall_in hm] at ha; cases ha
    · rw [wall_out hm] at ha; exact ha
  · unfold adr
    refine nodup_map_on (fun i hi j hj eq => ?_) hn
    have a1 := hin i hi
    have a2 := hin j hj
    simp only [List.getD, List.getElem?_eq_getElem a1, List.getElem?_eq_getElem a2, Option.getD_some] at eq
    exact (List.getElem_inj r.nd).mp eq
  · obtain ⟨i, o0, h3, h4, h5⟩ := handOn_get e e2
    rw [adr_get is hin h3] at e1
    obtain ⟨q1, q2, q3⟩ := r.ow i a o0 e1 h4
    refine ⟨wall_in ?_, q2, renO_ok hin q3 h5⟩
    exact List.mem_of_getElem? (i := j) (by rw [adr_get is hin h3]; exact e1)
end
end FL

/-! FL8: behind a call; the rules for calls; defs. -/
namespace FL
open PySem L2 PyProof.Rows

section
variable {K : PySem.W.Frag} {B G G' H H' : Hp} {α α' : List Addr} {st st' st'' : List Ob} {is : List Nat}
theorem handBack_get : ∀ {js : List Nat} {os st st'' : List Ob}, js.Nodup → handBack is js os st = some st'' → st''.length = st.length ∧ (∀ i, i ∉ js → st''[i]? = st[i]?) ∧
    (∀ (j i : Nat), js[j]? = some i → i < st.length → ∃ o o', os[j]? = some o ∧ backO is o = some o' ∧ st''[i]? = some o')
  | [], os, st, st'', _, e => by
    have : st = st'' := by cases os <;> simpa [handBack] using e
    subst this
    exact ⟨rfl, fun _ _ => rfl, fun j i h => by simp at h⟩
  | i :: r, [], st, st'', _, e => by simp [handBack] at e
  | i :: r, o :: os, st, st'', hn, e => by
    simp only [handBack] at e
    split at e
    · rename_i o' e1
      rw [List.nodup_cons] at hn
      obtain ⟨h1, h2, h3⟩ := handBack_get hn.2 e
      rw [List.length_set] at h1
      refine ⟨h1, fun k hk => ?_, fun j k hj hl => ?_⟩
      · rw [List.mem_cons, not_or] at hk
        rw [h2 k hk.2, List.getElem?_set_ne (Ne.symm hk.1)]
      · cases j with
        | zero =>
          simp at hj; subst hj
          exact ⟨o, o', by simp, e1, by rw [h2 _ hn.1, List.getElem?_set_self hl]⟩
        | succ j =>
          obtain ⟨p, p', h4, h5, h6⟩ := h3 j k (by simpa using hj) (by simpa using hl)
          exact ⟨p, p', by simpa using h4, h5, h6⟩
    · cases e
theorem backU_ok (hin : ∀ i ∈ is, i < α.length) {β : List Addr} (ha : α' = adr α is ++ β) {u u' : U} {v : V} (h : RpU K G α' u v) (e : backU is u = some u') : RpU K G α u' v := by
  cases u with
  | d t => simp only [backU, Option.some.injEq] at e; subst e; exact h
  | own j =>
    simp only [backU, Option.map_eq_some_iff] at e
    obtain ⟨i, e1, rfl⟩ := e
    obtain ⟨a, h1, h2⟩ := h
    have hj : j < is.length := (List.getElem?_eq_some_iff.mp e1).1
    rw [ha, List.getElem?_append_left (by simpa [adr] using hj), adr_get is hin e1] at h1
    exact ⟨a, h1, h2⟩
theorem backUs_ok (hin : ∀ i ∈ is, i < α.length) {β : List Addr} (ha : α' = adr α is ++ β) : ∀ {us us' : List U} {vs : List V}, RpUs K G α' us vs → backUs is us = some us' → RpUs K G α us' vs
  | [], us', vs, h, e => by simp only [backUs, Option.some.injEq] at e; subst e; exact h
  | u :: us, us', vs, ⟨v, ws, q1, q2, q3⟩, e => by
    simp only [backUs] at e
    split at e
    · rename_i u1 us1 e1 e2
      simp only [Option.some.injEq] at e; subst e
      exact ⟨v, ws, q1, backU_ok hin ha q2 e1, backUs_ok hin ha q3 e2⟩
    · cases e
theorem backO_ok (hin : ∀ i ∈ is, i < α.length) {β : List Addr} (ha : α' = adr α is ++ β) {o o' : Ob} {a : Addr} (h : ObR K G α' H a o) (e : backO is o = some o') : ObR K G α H a o' := by
  cases o with
  | obj C ns us =>
    simp only [backO, Option.map_eq_some_iff] at e
    obtain ⟨us', e1, rfl⟩ := e
    obtain ⟨z, dx, vs, z1, z2, z3⟩ := h
    exact ⟨z, dx, vs, z1, z2, backUs_ok hin ha z3 e1⟩
  | frz t => simp only [backO, Option.some.injEq] at e; subst e; exact h
  | lst t => simp only [backO, Option.some.injEq] at e; subst e; exact h
  | dk k t => simp only [backO, Option.some.injEq] at e; subst e; exact h
theorem Rh.back {os : List Ob} (r : Rh K B st G α H) (hn : is.Nodup) (e : FL.handOn st is is = some os) (g : Gr (wall H α is) G (adr α is) G' α') (r' : Rh K (wall H α is) st' G' α' H') (eb : handBack is is st' st = some st'') :
    Gr B G α G' α ∧ Rh K B st'' G' α H' := by
  obtain ⟨h1, h2⟩ := handOn_len e
  have hin : ∀ i ∈ is, i < α.length := fun i hi => by rw [r.len]; exact h2 i hi
  obtain ⟨β, ha⟩ := g.al
  obtain ⟨b1, b2, b3⟩ := handBack_get hn eb
  have hadr : ∀ a, a ∈ adr α is → ∃ (j i : Nat), is[j]? = some i ∧ α[i]? = some a := fun a hm => by
    obtain ⟨j, hj, e1⟩ := List.getElem_of_mem hm
    have hj' : j < is.length := by simpa [adr] using hj
    have e2 : is[j]? = some is[j] := List.getElem?_eq_getElem hj'
    refine ⟨j, is[j], e2, ?_⟩
    rw [← adr_get is hin e2, List.getElem?_eq_getElem hj, e1]
  have bn : ∀ a, a ∈ adr α is → B a = none := fun a hm => by
    obtain ⟨j, i, e1, e2⟩ := hadr a hm
    have hi : i < st.length := by rw [← r.len]; exact (List.getElem?_eq_some_iff.mp e2).1
    exact (r.ow i a _ e2 (List.getElem?_eq_getElem hi)).1
  have fr : ∀ a, G a = none → (∃ u, H a = some u) → a ∉ adr α is → G' a = none := fun a h ⟨u, hu⟩ hm => g.fr a h (by rw [wall_out hm, hu]; simp)
  have gg : Gr B G α G' α := ⟨g.ex, ⟨[], by simp⟩, fun a h hB => by
    cases hb : B a with
    | none => exact absurd hb hB
    | some o => exact fr a h ⟨o, r.bh a o hb⟩ (fun hm => by rw [bn a hm] at hb; cases hb)⟩
  refine ⟨gg, r'.gh, fun a o hb => ?_, by rw [b1]; exact r.len, r.nd, fun i a o e1 e2 => ?_⟩
  · have hm : a ∉ adr α is := fun hm => by rw [bn a hm] at hb; cases hb
    exact r'.bh a o (by rw [wall_out hm]; exact r.bh a o hb)
  · have hi : i < st.length := by rw [← r.len]; exact (List.getElem?_eq_some_iff.mp e1).1
    obtain ⟨q1, q2, q3⟩ := r.ow i a _ e1 (List.getElem?_eq_getElem hi)
    by_cases hm : i ∈ is
    · have hj := idx_get hm
      obtain ⟨o1, o2, c1, c2, c3⟩ := b3 _ _ hj hi
      rw [c3] at e2; cases e2
      have ea : α'[is.idxOf i]? = some a := by
        rw [ha, List.getElem?_append_left (by simpa [adr] using List.idxOf_lt_length_iff.mpr hm), adr_get is hin hj]; exact e1
      obtain ⟨_, d2, d3⟩ := r'.ow _ a o1 ea c1
      exact ⟨q1, d2, backO_ok hin ha d3 c2⟩
    · rw [b2 i hm, List.getElem?_eq_getElem hi] at e2
      cases e2
      have hna : a ∉ adr α is := fun z => by
        obtain ⟨j, i', e3, e4⟩ := hadr a z
        have := nodup_at r.nd e1 e4
        subst this
        exact hm (List.mem_of_getElem? e3)
      obtain ⟨u, hu⟩ := q2
      have hH : H' a = H a := by rw [hu]; exact r'.bh a u (by rw [wall_out hna]; exact hu)
      exact ⟨q1, ⟨u, by rw [hH]; exact hu⟩, q3.mono gg (fun z => fr a z ⟨u, hu⟩ hna) hH⟩
/-- the promise at a call -/
theorem call_ok {W : WX} {σ : L2.St} {ρ : Sg} {us : List U} {vs : List V} {F : Fn} {Q : VK} (r : Rs K B ρ G α σ H) (h : RpUs K G α us vs) (q : okP K W B G α σ (callR F us ρ) (EndP K Q)) : spF K vs.length F vs H Q (WE W σ) := by
  unfold callR at q
  dsimp only at q
  have hn : (reach ρ.st 3 (owns us [])).Nodup := nodup_reach (nodup_owns (by simp))
  generalize reach ρ.st 3 (owns us []) = is at q hn
  split at q
  · rename_i os us' e1 e2
    obtain ⟨l1, l2⟩ := handOn_len e1
    have hin : ∀ i ∈ is, i < α.length := fun i hi => by rw [r.len]; exact l2 i hi
    refine ⟨rfl, wall H α is, os, G, adr α is, us', r.toRh.handOn hn e1, renUs_ok hin h e2, ?_⟩
    cases eF : F os us' with
    | ok u ρ' =>
      rw [eF] at q
      dsimp only at q
      intro G' α' H' v g r' p
      cases e3 : toD 4 u ρ'.st with
      | none => rw [e3] at q; exact q.elim
      | some tp =>
        obtain ⟨t, s1⟩ := tp
        rw [e3] at q; dsimp only at q
        obtain ⟨G2, g2, r2, p2⟩ := toD_ok 4 r' p e3
        cases e4 : handBack is is s1 ρ.st with
        | none => rw [e4] at q; exact q.elim
        | some s2 =>
          rw [e4] at q; dsimp only at q
          obtain ⟨gg, rr⟩ := r.toRh.back hn e1 (g.trans g2) r2 e4
          exact q G2 α H' gg (Rs.mk' r gg rr) v p2
    | ex x ρ' =>
      rw [eF] at q
      dsimp only at q
      intro G' α' H' d g r' xd
      cases e4 : handBack is is ρ'.st ρ.st with
      | none => rw [e4] at q; exact q.elim
      | some s2 =>
        rw [e4] at q; dsimp only at q
        obtain ⟨gg, rr⟩ := r.toRh.back hn e1 g r' e4
        exact q σ H' G' α d gg (Rs.mk' r gg rr) xd
    | no => rw [eF] at q; exact q.elim
  · exact q.elim
end

/-- an error of a callee reaches what is wanted here -/
def Tk (X : Cx) (W : WX) : Prop := ∀ σ, PassesAt (L2.CX X.prog X.w) X σ (WE W σ)
theorem tk_of {X : Cx} {W : WX} (t : Takes X W) : Tk X W := fun σ => passAt t σ
/-- no error leaves -/
abbrev W0 : WX := fun _ _ _ _ => False
theorem tk0 {X : Cx} : Tk X W0 := fun σ pins H s e s' I c => by
  obtain ⟨_, _, _, _, _, _, _, _, _, _, _, _, z⟩ := c
  exact z.elim

/-- a def that computes F, ready to be called by its name -/
structure Dn (P : Program) (w : World) (K : PySem.W.Frag) (mg : Str → Option Value) (base : Heap) (k : Nat) (x : Str) (n : Nat) (F : Fn) : Prop where
  ex : ∃ (f : Addr) (fd : FuncData) (ps : List Str), FnOk P w K mg base (L2.CX P w) k f fd ps (spF K n F) ∧ mg x = some (.ref f) ∧ PySem.W.keepIn K (.ref f) = true ∧ Binds K fd ps []
section
variable {X : Cx} {W : WX} {e : Expr} {es : List Expr} {da : DA} {pos p : Pos} {k j n : Nat} {x : Str} {F : Fn}
theorem tCallS_of {cs : List Bool} {K : PySem.W.Frag} (σ : L2.St) (H : Hp) (Q : VK) (h : tE K W (mCall n F cs da) σ H Q) : tCallS (spF K n F) (WE W) (tA K W da) σ H Q := by
  obtain ⟨B, ρ, G, α, r, h⟩ := h
  refine bA r h fun us ρ1 vs H1 G1 α1 g1 r1 p1 h1 => ?_
  split at h1
  · rename_i us' st e1
    split at h1
    · rename_i hn
      obtain ⟨G2, g2, r2, p2⟩ := argC_ok r1.toRh p1 e1
      have hl : vs.length = n := by rw [← hn, p2.length]
      have r2' : Rs K B ⟨ρ1.sl, st⟩ G2 α1 σ H1 := Rs.mk' r1 g2 r2
      have := call_ok r2' p2 (okP.shift g2 h1)
      rw [hl] at this
      exact this
    · exact h1.elim
  · exact h1.elim
theorem fe_call (tk : Tk X W) (D : Dn X.prog X.w X.K X.mg X.base k x n F) (cs : List Bool) (hr : Room j X.A) (ha : SA X W (e :: es) da) (hk : k ≤ j := by decide) (hg : Gl X x := by rfl)
    (hdb : (x == ("__debug__" : Str)) = false := by decide) (he : starEach (e :: es) X.env = (false, eval e X.env) :: starEach es X.env := by rfl) (hpl : (backTo pos (starEach es X.env)).any (·.1) = false := by rfl)
    : SE X W (.Call (.Name x p) (e :: es) [] pos) (mCall n F cs da) := by
  obtain ⟨f, fd, ps, fo, hm, hkp, hb⟩ := D.ex
  exact pe_weak (pe_callS fo (hr.mono hk) hg hm hkp hb tk ha hdb he hpl) tCallS_of
end

/-- the context of a def's body -/
abbrev XC (P : Program) (w : World) (K : PySem.W.Frag) (mg : Str → Option Value) (base : Heap) (N : List Str) (qual : Str) (sc : Scope) (f : Addr) (cdv : Value) (A : Around) (outer : List Env) (s : Shared) (H : Hp) (E : XK) : Cx :=
  cxOf (L2.CX P w) P w K mg base N qual sc f cdv A outer s H E
abbrev Wd (E : XK) : WX := fun cls d _ H => E cls d H
theorem fn_den {P : Program} {w : World} {K : PySem.W.Frag} {mg : Str → Option Value} {base : Heap} {x qual : Str} {st : Stmt} {f : Addr} {fd : FuncData} {N ps : List Str} {k n : Nat} {m : DS} (Fu : Fun K x qual st f fd) (S : FnScope N ps (defScope st)) (hn : ps.length = n)
    (hb : ∀ (cdv : Value) (A : Around) (outer : List Env) (s : Shared) (H : Hp) (E : XK), Room k (A.deeper (envOfC qual (defScope st) s.heap.objs.size f cdv)) → Tk (XC P w K mg base N qual (defScope st) f cdv A outer s H E) (Wd E) →
      SSs (XC P w K mg base N qual (defScope st) f cdv A outer s H E) (Wd E) (defBody st) m) : FnOk P w K mg base (L2.CX P w) (k + 1) f fd ps (spF K n (runD m N.length)) :=
  Fu.okX S (spF_len hn) fun cdv A outer s H vs Q E hr h => ⟨tS K (Wd E) m, hb cdv A outer s H E hr (tk_of (takes_of rfl rfl rfl rfl)), body_ok h⟩
end FL

/-! FL9: targets, assignments, list methods. -/
namespace FL
open PySem L2

abbrev DG := U → Sg → R Unit
abbrev DGs := List T → Sg → R Unit
def okG (K : PySem.W.Frag) (W : WX) (B G : Hp) (α : List Addr) (r : R Unit) (Q : L2.St → Hp → Prop) : Prop := match r with
  | .ok _ ρ => ∀ G' α' σ' H', Gr B G α G' α' → Rs K B ρ G' α' σ' H' → Q σ' H'
  | .ex x ρ => xw K W B G α x ρ
  | .no => False
theorem okG.shift {K : PySem.W.Frag} {W : WX} {B G G1 : Hp} {α α1 : List Addr} {r : R Unit} {Q : L2.St → Hp → Prop} (g : Gr B G α G1 α1) (h : okG K W B G α r Q) : okG K W B G1 α1 r Q := by
  cases r with
  | ok b ρ => exact fun G' α' σ' H' g' => h G' α' σ' H' (g.trans g')
  | ex x ρ => exact xw.shift g h
  | no => exact h
def tG (K : PySem.W.Frag) (W : WX) (m : DG) : TG := fun v σ H Q => ∃ B ρ G α u, Rs K B ρ G α σ H ∧ RpU K G α u v ∧ okG K W B G α (m u ρ) Q
def tGs (K : PySem.W.Frag) (W : WX) (m : DGs) : TGs := fun vs σ H Q => ∃ B ρ G α ts, Rs K B ρ G α σ H ∧ Rps K G ts vs ∧ okG K W B G α (m ts ρ) Q
abbrev SG (X : Cx) (W : WX) (e : Expr) (m : DG) : Prop := PG X e (tG X.K W m)
abbrev SGs (X : Cx) (W : WX) (es : List Expr) (m : DGs) : Prop := PGs X es (tGs X.K W m)
theorem pg_weak {X : Cx} {e : Expr} {t t' : TG} (h : PG X e t) (w : ∀ v σ H Q, t' v σ H Q → t v σ H Q) : PG X e t' := ⟨fun pins s σ H v u Q I r q => h.run pins s σ H v u Q I r (w v σ H Q q)⟩
theorem pgs_weak {X : Cx} {e : List Expr} {t t' : TGs} (h : PGs X e t) (w : ∀ v σ H Q, t' v σ H Q → t v σ H Q) : PGs X e t' := ⟨fun pins s σ H v u Q I r q => h.run pins s σ H v u Q I r (w v σ H Q q)⟩
theorem pg_or {X : Cx} {e : Expr} {t t' : TG} (h : PG X e t) (h' : PG X e t') : PG X e (fun v σ H Q => t v σ H Q ∨ t' v σ H Q) := ⟨fun pins s σ H v u Q I r q => by
  rcases q with q | q
  · exact h.run pins s σ H v u Q I r q
  · exact h'.run pins s σ H v u Q I r q⟩
section
variable {X : Cx} {W : WX} {e a b o i v : Expr} {es : List Expr} {ma mb mo mi mv : DE} {da : DA} {g : DG} {gs : DGs} {pos : Pos} {K : PySem.W.Frag}
def gN (i : Nat) : DG := fun u ρ => .ok () ⟨ρ.sl.set i (some u), ρ.st⟩
theorem Rs.store {B G H : Hp} {α : List Addr} {σ : L2.St} {ρ : Sg} {i : Nat} {u : U} {v : V} (r : Rs K B ρ G α σ H) (p : RpU K G α u v) : Rs K B ⟨ρ.sl.set i (some u), ρ.st⟩ G α (σ.set i (some v)) H :=
  { toRh := r.toRh, sll := by simpa using r.sll, sl := fun j w e => by
      by_cases hj : i = j
      · subst hj
        have hl : i < ρ.sl.length := by
          have := (List.getElem?_eq_some_iff.mp e).1
          simpa using this
        rw [List.getElem?_set_self hl] at e; cases e
        exact ⟨v, by rw [List.getElem?_set_self (by rw [← r.sll]; exact hl)], p⟩
      · rw [List.getElem?_set_ne hj] at e
        obtain ⟨w', e1, e2⟩ := r.sl j w e
        exact ⟨w', by rw [List.getElem?_set_ne hj]; exact e1, e2⟩ }
theorem fg_name {x : Str} (i : Nat) (hN : X.N.Nodup) (hi : X.N[i]? = some x := by rfl) (hx : Loc X.env.scope x := by first | exact Or.inl rfl | exact Or.inr rfl) (hf : X.fn x = true ∨ X.env.scope.names.lookup x = some .local := by first | exact .inl rfl | exact .inr rfl) : SG X W (.Name x pos) (gN i) :=
  pg_weak (pg_name hN hi hx hf) fun v σ H Q ⟨B, ρ, G, α, u, r, p, h⟩ => h G α _ H Gr.refl (r.store p)
def gsNil : DGs := fun ts ρ => match ts with | [] => .ok () ρ | _ => .no
def gsCons (g : DG) (gs : DGs) : DGs := fun ts ρ => match ts with
  | t :: ts => (g (.d t) ρ).bind fun _ ρ1 => gs ts ρ1
  | [] => .no
theorem fgs_nil : SGs X W [] gsNil := pgs_weak pgs_nil fun vs σ H Q ⟨B, ρ, G, α, ts, r, p, h⟩ => by
  unfold gsNil at h
  split at h
  · simp only [Rps] at p
    exact ⟨p, h G α σ H Gr.refl r⟩
  · exact h.elim
theorem fgs_cons (h1 : SG X W e g) (h2 : SGs X W es gs) (hs : (assignEach (e :: es) X.env).map (·.2) = assign e X.env :: (assignEach es X.env).map (·.2) := by rfl) : SGs X W (e :: es) (gsCons g gs) :=
  pgs_weak (pgs_cons h1 h2 hs) fun vs σ H Q ⟨B, ρ, G, α, ts, r, p, h⟩ => by
    unfold gsCons at h
    split at h
    · rename_i t ts
      simp only [Rps] at p
      obtain ⟨v, ws, rfl, p1, p2⟩ := p
      refine ⟨v, ws, rfl, B, ρ, G, α, .d t, r, p1, ?_⟩
      cases e1 : g (.d t) ρ with
      | ok _ ρ1 => rw [e1] at h; exact fun G1 α1 σ1 H1 g1 r1 => ⟨B, ρ1, G1, α1, ts, r1, Rps.mono g1.ex p2, okG.shift g1 h⟩
      | ex x ρ1 => rw [e1] at h; exact h
      | no => rw [e1] at h; exact h
    · exact h.elim
def gT (n : Nat) (gs : DGs) : DG := fun u ρ => match (pk ρ.st u).bind itm with
  | some ts => if ts.length = n then gs ts ρ else .no
  | none => .no
theorem fg_tup {k : Nat} {n : Nat} (hc : X.calm = true) (h : SGs X W es gs) (hn : (assignEach es X.env).length = n := by rfl) (hst : (assignEach es X.env).findIdx? (·.1) = none := by rfl) : SG X W (.Tuple es k pos) (gT n gs) :=
  pg_weak (pg_or (pg_tup hc h hn hst) (pg_unl hc h hn hst)) fun v σ H Q ⟨B, ρ, G, α, u, r, p, h⟩ => by
    unfold gT at h
    split at h
    · rename_i ts e1
      split at h
      · rename_i hl
        obtain ⟨t, e2, e3⟩ := Option.bind_eq_some_iff.mp e1
        obtain ⟨a, vs, rfl, h1, h2⟩ := itm_ok r.gh (pk_ok r.toRh p e2) e3
        have hz : vs.length = n := by rw [← h2.length]; exact hl
        rcases h1 with h1 | h1
        · exact .inr ⟨a, vs, rfl, h1, hz, B, ρ, G, α, ts, r, h2, h⟩
        · exact .inl ⟨a, vs, rfl, h1, hz, B, ρ, G, α, ts, r, h2, h⟩
      · exact h.elim
    · exact h.elim
/-- xs[i] = .. of a list of one's own -/
def gIx (mo mi : DE) : DG := fun u ρ => (mo ρ).bind fun o ρ1 => (mi ρ1).bind fun i ρ2 => match o, i with
  | .own j, .d (.int k) => match toD 4 u ρ2.st with
    | some (t, st) => match st[j]? with
      | some (.lst ts) => match ixN ts.length k with
        | some n => .ok () ⟨ρ2.sl, st.set j (.lst (ts.set n t))⟩
        | none => .no
      | _ => .no
    | none => .no
  | _, _ => .no
theorem bEG {K : PySem.W.Frag} {W : WX} {B G H : Hp} {α : List Addr} {σ : L2.St} {ρ : Sg} {m : DE} {k : U → Sg → R Unit} {Q : VK} {P : L2.St → Hp → Prop} (r : Rs K B ρ G α σ H) (h : okG K W B G α ((m ρ).bind k) P)
    (hk : ∀ u ρ1 v H1 G1 α1, Gr B G α G1 α1 → Rs K B ρ1 G1 α1 σ H1 → RpU K G1 α1 u v → okG K W B G1 α1 (k u ρ1) P → Q v H1) : tE K W m σ H Q := by
  refine ⟨B, ρ, G, α, r, ?_⟩
  cases e : m ρ with
  | ok u ρ1 => rw [e] at h; exact fun G1 α1 H1 g r1 v p => hk u ρ1 v H1 G1 α1 g r1 p (okG.shift g h)
  | ex x ρ1 => rw [e] at h; exact h
  | no => rw [e] at h; exact h
theorem fg_ix (ho : SE X W o mo) (hi : SE X W i mi) (ha : ∀ v, assign (.Subscript o i pos) X.env v = (do
      let ov ← holding [v] (eval o X.env)
      let iv ← holding [v, ov] (eval i X.env)
      standAt pos
      holding [v, ov, iv] (setItem ov iv v)
      release [v, ov, iv] []) := by intro _; rfl) : SG X W (.Subscript o i pos) (gIx mo mi) :=
  pg_weak (pg_sub ho hi set_list ha) fun v σ H Q ⟨B, ρ, G, α, u, r, p, h⟩ => by
    refine bEG r h fun o ρ1 ov H1 G1 α1 g1 r1 p1 h1 => bEG r1 h1 fun i ρ2 iv H2 G2 α2 g2 r2 p2 h2 => ?_
    split at h2
    · rename_i j k
      split at h2
      · rename_i t st e1
        obtain ⟨G3, g3, r3, p3⟩ := toD_ok 4 r2.toRh (p.mono (g1.trans g2)) e1
        split at h2
        · rename_i ts e2
          split at h2
          · rename_i n e3
            obtain ⟨a, ha1, rfl⟩ := (p1.mono (g2.trans g3))
            have hi : iv = .int k := by simpa [RpU, Rp] using p2
            subst hi
            obtain ⟨_, _, hz, vs, hv1, hv2⟩ := r3.ow j a _ ha1 e2
            refine ⟨a, vs, k, n, rfl, rfl, hv1, by rw [← hv2.length]; exact e3, ?_⟩
            have r4 := r3.upd (o := .lst (vs.set n v)) (ob := .lst (ts.set n t)) ha1 hz ⟨hz, _, upd_same, Rps.set p3 n hv2⟩
            exact h2 G3 α2 σ _ g3 (Rs.mk' r2 g3 r4)
          · exact h2.elim
        · exact h2.elim
      · exact h2.elim
    · exact h2.elim

/-! assignments -/
def mAsg (m : DE) (g : DG) : DS := fun ρ => (m ρ).thn fun u ρ1 => match g u ρ1 with
  | .ok _ ρ2 => .nx ρ2
  | .ex x ρ2 => .ex x ρ2
  | .no => .no
theorem fs_asg {tg : Expr} (he : SE X W e ma) (hg : SG X W tg g) (hs : swapsWithSole [tg] e pos.line X.env = pure false := by rfl) (hw : swappedStores [tg] e X.env = pure none := by rfl)
    (h1 : (assignEach [tg] X.env).map (·.2) = [assign tg X.env] := by rfl) : SS X W (.Assign [tg] e pos) (mAsg ma g) := ps_weak (ps_asg he hg hs hw h1) fun D σ H ⟨B, ρ, G, α, r, h⟩ =>
  sE r h fun u ρ1 v H1 G1 α1 g1 r1 p1 h1 => ⟨B, ρ1, G1, α1, u, r1, p1, by
    cases e1 : g u ρ1 with
    | ok _ ρ2 => rw [e1] at h1; exact fun G' α' σ' H' g' r' => h1 G' α' σ' H' g' r'
    | ex x ρ2 => rw [e1] at h1; exact h1
    | no => rw [e1] at h1; exact h1⟩
def mSet (i : Nat) (m : DE) : DS := fun ρ => (m ρ).thn fun u ρ1 => .nx ⟨ρ1.sl.set i (some u), ρ1.st⟩
theorem fs_set {x : Str} {pos' : Pos} (i : Nat) (hN : X.N.Nodup) (he : SE X W e ma) (hi : X.N[i]? = some x := by rfl) (hx : Loc X.env.scope x := by first | exact Or.inl rfl | exact Or.inr rfl) (hs : swapsWith e (some (.Name x pos')) pos.line X.env = pure false := by rfl)
    (hf : X.fn x = true ∨ X.env.scope.names.lookup x = some .local := by first | exact .inl rfl | exact .inr rfl) : SS X W (.Assign [.Name x pos'] e pos) (mSet i ma) := ps_weak (ps_set hN hi hx he hs hf) fun D σ H ⟨B, ρ, G, α, r, h⟩ =>
  sE r h fun u ρ1 v H1 G1 α1 g1 r1 p1 h1 => h1 G1 α1 _ H1 Gr.refl (r1.store p1)
def mPar (i j : Nat) (da : DA) : DS := fun ρ => (da ρ).thn fun us ρ1 => match us with
  | [u, w] => .nx ⟨(ρ1.sl.set i (some u)).set j (some w), ρ1.st⟩
  | _ => .no
theorem fs_par {x y : Str} {px py pt : Pos} {kt k2 pt2} (i j : Nat) (hc : X.calm = true) (hN : X.N.Nodup) (ha : SA X W [a, b] da) (hi : X.N[i]? = some x := by rfl) (hj : X.N[j]? = some y := by rfl) (hij : i ≠ j := by decide)
    (hx : X.env.scope.names.lookup x = some .local := by rfl) (hy : X.env.scope.names.lookup y = some .local := by rfl)
    (hw : swappedStores [.Tuple [.Name x px, .Name y py] kt pt] (.Tuple [a, b] k2 pt2) X.env = pure (some [x, y]) := by rfl)
    (hs : swapsWithSole [.Tuple [.Name x px, .Name y py] kt pt] (.Tuple [a, b] k2 pt2) pos.line X.env = pure false := by rfl) :
    SS X W (.Assign [.Tuple [.Name x px, .Name y py] kt pt] (.Tuple [a, b] k2 pt2) pos) (mPar i j da) := ps_weak (ps_par hc hN hi hj hij hx hy ha hw hs) fun D σ H ⟨B, ρ, G, α, r, h⟩ =>
  sA r h fun us ρ1 vs H1 G1 α1 g1 r1 p1 h1 => by
    split at h1
    · obtain ⟨v1, w1, rfl, q1, v2, w2, rfl, q2, rfl⟩ := p1
      exact ⟨v1, v2, rfl, h1 G1 α1 _ H1 Gr.refl ((r1.store q1).store q2)⟩
    · exact h1.elim

/-! list methods -/
theorem tyV_own {B G H : Hp} {α : List Addr} {st : List Ob} {j : Nat} {v : V} {ts : List T} (r : Rh K B st G α H) (p : RpU K G α (.own j) v) (e : st[j]? = some (.lst ts)) : ∃ a vs, v = .ref a ∧ α[j]? = some a ∧ G a = none ∧ H a = some (.lst vs) ∧ Rps K G ts vs := by
  obtain ⟨a, h1, rfl⟩ := p
  obtain ⟨_, _, z, vs, z1, z2⟩ := r.ow j a _ h1 e
  exact ⟨a, vs, rfl, h1, z, z1, z2⟩
def isL (st : List Ob) : U → Bool
  | .own j => match st[j]? with
    | some (.lst _) => true
    | _ => false
  | .d (.lst _) => true
  | _ => false
theorem isL_ok {B G H : Hp} {α : List Addr} {st : List Ob} {u : U} {v : V} (r : Rh K B st G α H) (p : RpU K G α u v) (e : isL st u = true) : tyV K "list" v H := by
  unfold isL at e
  split at e
  · rename_i j
    split at e
    · rename_i ts e1
      obtain ⟨a, vs, rfl, _, _, h, _⟩ := tyV_own r p e1
      exact .inl ⟨rfl, vs, SqL.of h⟩
    · cases e
  · have p : Rp K G (.lst _) v := p
    simp only [Rp] at p
    obtain ⟨a, vs, rfl, h, _⟩ := p
    exact .inl ⟨rfl, vs, SqL.of (r.gh _ _ h)⟩
  · cases e
def mApp (mo me : DE) : DE := fun ρ => (mo ρ).bind fun o ρ1 => if isL ρ1.st o = true then (me ρ1).bind fun u ρ2 => match o with
  | .own j => match toD 4 u ρ2.st with
    | some (t, st) => match st[j]? with
      | some (.lst ts) => if ts.length < sizeLine then .ok (.d .non) ⟨ρ2.sl, st.set j (.lst (ts ++ [t]))⟩ else .no
      | _ => .no
    | none => .no
  | _ => .no else .no
theorem fe_app {apos : Pos} (ho : SE X W o mo) (ha : SE X W e me) (hbase : attributeBase o "append" X.env (eval o X.env) = eval o X.env := by rfl)
    (hfew : ((backTo pos (starEach [e] X.env)).all (fun x => !x.1) && (backToKw pos (keywordEach [] X.env)).all (fun x => x.1.isSome)
      && decide ([e].length + ([] : List Keyword).length + (if ([] : List Keyword).isEmpty then 0 else 1) < 30)) = true := by rfl)
    (hline : (apos.endLine == pos.line) = true := by rfl) (hs : starEach [e] X.env = (false, eval e X.env) :: starEach [] X.env := by rfl) : SE X W (.Call (.Attribute o "append" apos) [e] [] pos) (mApp mo me) :=
  pe_weak (pe_bm PySem.F.plainAttrs_list PySem.F.slot_list_append PySem.F.type_list_append mt_append ho (pa_cons ha pa_nil hs) hbase hfew hline hs rfl) fun σ H Q ⟨B, ρ, G, α, r, h⟩ => by
    refine bE r h fun o ρ1 ov H1 G1 α1 g1 r1 p1 h1 => ?_
    split at h1
    · rename_i hl
      refine ⟨isL_ok r1.toRh p1 hl, ?_⟩
      refine bE r1 h1 fun u ρ2 v H2 G2 α2 g2 r2 p2 h2 => ?_
      show rAppend ov [v] H2 Q
      split at h2
      · rename_i j
        split at h2
        · rename_i t st e1
          obtain ⟨G3, g3, r3, p3⟩ := toD_ok 4 r2.toRh p2 e1
          split at h2
          · rename_i ts e2
            split at h2
            · rename_i hz
              obtain ⟨a, vs, rfl, ha1, hz1, hv1, hv2⟩ := tyV_own r3 (p1.mono (g2.trans g3)) e2
              refine ⟨a, vs, v, rfl, rfl, hv1, by rw [← hv2.length]; exact hz, ?_⟩
              have r4 := r3.upd (o := .lst (vs ++ [v])) (ob := .lst (ts ++ [t])) ha1 hz1 ⟨hz1, _, upd_same, hv2.append (Rps.cons p3 Rps.nil)⟩
              exact h2 G3 α2 _ g3 (Rs.mk' r2 g3 r4) .non (by simp [RpU, Rp])
            · exact h2.elim
          · exact h2.elim
        · exact h2.elim
      · exact h2.elim
    · exact h1.elim
def mExt (mo me : DE) : DE := fun ρ => (mo ρ).bind fun o ρ1 => if isL ρ1.st o = true then (me ρ1).bind fun u ρ2 => match o with
  | .own j => match pk ρ2.st u, ρ2.st[j]? with
    | some (.lst us), some (.lst ts) => if ts.length + us.length ≤ sizeLine then .ok (.d .non) ⟨ρ2.sl, ρ2.st.set j (.lst (ts ++ us))⟩ else .no
    | _, _ => .no
  | _ => .no else .no
theorem fe_ext {apos : Pos} (ho : SE X W o mo) (ha : SE X W e me) (hbase : attributeBase o "extend" X.env (eval o X.env) = eval o X.env := by rfl)
    (hfew : ((backTo pos (starEach [e] X.env)).all (fun x => !x.1) && (backToKw pos (keywordEach [] X.env)).all (fun x => x.1.isSome)
      && decide ([e].length + ([] : List Keyword).length + (if ([] : List Keyword).isEmpty then 0 else 1) < 30)) = true := by rfl)
    (hline : (apos.endLine == pos.line) = true := by rfl) (hs : starEach [e] X.env = (false, eval e X.env) :: starEach [] X.env := by rfl) : SE X W (.Call (.Attribute o "extend" apos) [e] [] pos) (mExt mo me) :=
  pe_weak (pe_bm PySem.F.plainAttrs_list PySem.F.slot_list_extend PySem.F.type_list_extend mt_extend ho (pa_cons ha pa_nil hs) hbase hfew hline hs rfl) fun σ H Q ⟨B, ρ, G, α, r, h⟩ => by
    refine bE r h fun o ρ1 ov H1 G1 α1 g1 r1 p1 h1 => ?_
    split at h1
    · rename_i hl
      refine ⟨isL_ok r1.toRh p1 hl, ?_⟩
      refine bE r1 h1 fun u ρ2 v H2 G2 α2 g2 r2 p2 h2 => ?_
      show rExtend ov [v] H2 Q
      split at h2
      · rename_i j
        split at h2
        · rename_i us ts e1 e2
          split at h2
          · rename_i hz
            obtain ⟨b, ws, rfl, hw1, hw2⟩ := pk_ok r2.toRh p2 e1
            obtain ⟨a, vs, rfl, ha1, hz1, hv1, hv2⟩ := tyV_own r2.toRh (p1.mono g2) e2
            refine ⟨a, b, vs, ws, rfl, rfl, hv1, hw1, by rw [← hv2.length, ← hw2.length]; exact hz, ?_⟩
            have r4 := r2.toRh.upd (o := .lst (vs ++ ws)) (ob := .lst (ts ++ us)) ha1 hz1 ⟨hz1, _, upd_same, hv2.append hw2⟩
            exact h2 G2 α2 _ Gr.refl (Rs.mk' r2 Gr.refl r4) .non (by simp [RpU, Rp])
          · exact h2.elim
        · exact h2.elim
      · exact h2.elim
    · exact h1.elim
end
end FL

/-! FL10: what is walked; for; list comprehensions. -/
namespace FL
open PySem L2 PyProof.Rows

/-- what a walk gives at a turn: a datum that stands, or a new tuple -/
def Yt (K : PySem.W.Frag) (G : Hp) (ts : List T) : Nat → Hp → V → Hp → Prop := fun i H v H' => ∃ t, ts[i]? = some t ∧
  ((H' = H ∧ Rp K G t v) ∨ ∃ p us vs, t = .tup us ∧ v = .ref p ∧ H p = none ∧ H' = upd H p (.tup vs) ∧ Rps K G us vs)
abbrev WT (K : PySem.W.Frag) (G : Hp) (J : It) (ts : List T) : Prop := Walk J ts.length (fun H => Ex G H) (Yt K G ts)
abbrev DI := Sg → R (List T)
def tI (K : PySem.W.Frag) (W : WX) (m : DI) : TI := fun σ H Q => ∃ B ρ G α, Rs K B ρ G α σ H ∧ okP K W B G α σ (m ρ) fun ts _ G' _ H' => ∀ J, WT K G' J ts → Q J H'
abbrev SI (X : Cx) (W : WX) (tg e : Expr) (m : DI) : Prop := PI X tg e (tI X.K W m)
theorem pi_weak {X : Cx} {tg e : Expr} {t t' : TI} (h : PI X tg e t) (w : ∀ σ H Q, t' σ H Q → t σ H Q) : PI X tg e t' := ⟨fun pins s σ H Q I q => h.run pins s σ H Q I (w σ H Q q)⟩
section
variable {K : PySem.W.Frag} {G : Hp} {a : Addr} {vs : List V} {ts : List T}
theorem wt_list (h : SqL K G a vs) (r : Rps K G ts vs) : WT K G (Itl K a) ts := by
  have e := r.length
  have w := (walk_list (K := K) (a := a) (xs := vs)).mono (G' := fun H => Ex G H) (Y' := Yt K G ts) (fun H g => g.l h) (fun i H x H' hi g y => by
    obtain ⟨t, e1, e2⟩ := r.getV y.2
    exact ⟨t, e1, .inl ⟨y.1, e2⟩⟩)
  rw [← e] at w; exact w
theorem wt_tup (h : SqT K G a vs) (r : Rps K G ts vs) : WT K G (Itt K a) ts := by
  have e := r.length
  have w := (walk_tup (K := K) (a := a) (xs := vs)).mono (G' := fun H => Ex G H) (Y' := Yt K G ts) (fun H g => g.t h) (fun i H x H' hi g y => by
    obtain ⟨t, e1, e2⟩ := r.getV y.2
    exact ⟨t, e1, .inl ⟨y.1, e2⟩⟩)
  rw [← e] at w; exact w
def iota (lo : Int) : Nat → List T
  | 0 => []
  | n + 1 => .int lo :: iota (lo + 1) n
theorem iota_len : ∀ {lo : Int} {n : Nat}, (iota lo n).length = n
  | _, 0 => rfl
  | lo, n + 1 => by simp [iota, iota_len (lo := lo + 1)]
theorem iota_get : ∀ {lo : Int} {n i : Nat}, i < n → (iota lo n)[i]? = some (.int (lo + i))
  | lo, 0, i, h => by omega
  | lo, n + 1, 0, h => by simp [iota]
  | lo, n + 1, i + 1, h => by
    have e : lo + 1 + (i : Int) = lo + ((i + 1 : Nat) : Int) := by omega
    rw [iota, List.getElem?_cons_succ, iota_get (lo := lo + 1) (n := n) (i := i) (by omega), e]
theorem wt_range {lo : Int} {n : Nat} : WT K G (Itr lo n) (iota lo n) := by
  have w := (walk_range (lo := lo) (n := n)).mono (G' := fun H => Ex G H) (Y' := Yt K G (iota lo n)) (fun H g => trivial) (fun i H x H' hi g y => by
    obtain ⟨e1, e2⟩ := y
    exact ⟨_, iota_get hi, .inl ⟨e1, by subst e2; simp [Rp]⟩⟩)
  have e := iota_len (lo := lo) (n := n)
  have e' : WT K G (Itr lo n) (iota lo n) = Walk (Itr lo n) n (fun H => Ex G H) (Yt K G (iota lo n)) := by unfold WT; rw [e]
  rw [e']; exact w
end
/-- a list or a tuple -/
def iAny (K : PySem.W.Frag) (tl : TE) : TI := fun σ H R => tl σ H fun x H1 => ∃ a, x = .ref a ∧ (((∃ xs, SqL K H1 a xs) ∧ R (Itl K a) H1) ∨ ((∃ xs, SqT K H1 a xs) ∧ R (Itt K a) H1))
theorem pi_any {X : Cx} {tg l : Expr} {tl : TE} (hl : PE X l tl) : PI X tg l (iAny X.K tl) := by
  refine ⟨fun pins s σ H R I h => ?_⟩
  refine thn (hl.run pins s σ H _ I h) fun v s1 ⟨x, H1, I1, r1, q1⟩ => ?_
  obtain ⟨a, e, q⟩ := q1
  subst e
  cases r1
  rcases q with ⟨⟨xs, hq⟩, q⟩ | ⟨⟨xs, hq⟩, q⟩
  · obtain ⟨its, rv, p, hz⟩ := I1.list hq
    refine wpAny_pyIter_list p.isList ?_
    refine ⟨s1.heap.objs.size, [s1.heap.objs.size], _, _, H1, rfl, I1.kept (t' := s1.toks) fun b o e => Heap.get?_push_of_some _ e, turn_list a _, ⟨_, Heap.get?_push_size _ rfl, rfl, rfl⟩, fun b hb => ?_, q⟩
    have e : b = s1.heap.objs.size := by simpa using hb
    subst e
    exact I1.fpOk (Nat.le_refl _) (I1.hok.fresh (Nat.le_refl _))
  · obtain ⟨its, rv, p, hz⟩ := I1.tuple hq
    refine wpAny_pyIter_tuple (show s1.heap.IsTuple a its.toArray from p) ?_
    refine ⟨s1.heap.objs.size, [s1.heap.objs.size], _, _, H1, rfl, I1.kept (t' := s1.toks) fun b o e => Heap.get?_push_of_some _ e, turn_tuple a _, ⟨_, Heap.get?_push_size _ rfl, rfl, rfl⟩, fun b hb => ?_, q⟩
    have e : b = s1.heap.objs.size := by simpa using hb
    subst e
    exact I1.fpOk (Nat.le_refl _) (I1.hok.fresh (Nat.le_refl _))

section
variable {X : Cx} {W : WX} {e tg : Expr} {ma : DE} {da : DA} {pos p : Pos}
/-- what is walked stays as it is: it is frozen -/
def iSeq (m : DE) : DI := fun ρ => (m ρ).bind fun u ρ1 => match toD 4 u ρ1.st with
  | some (t, st) => match itm t with
    | some ts => .ok ts ⟨ρ1.sl, st⟩
    | none => .no
  | none => .no
theorem fi_seq (h : SE X W e ma) : SI X W tg e (iSeq ma) := pi_weak (pi_any h) fun σ H Q ⟨B, ρ, G, α, r, h⟩ => by
  refine bE r h fun u ρ1 v H1 G1 α1 g1 r1 p1 h1 => ?_
  split at h1
  · rename_i t st e1
    obtain ⟨G2, g2, r2, p2⟩ := toD_ok 4 r1.toRh p1 e1
    have r2' : Rs X.K B ⟨ρ1.sl, st⟩ G2 α1 σ H1 := Rs.mk' r1 g2 r2
    split at h1
    · rename_i ts e2
      obtain ⟨a, vs, rfl, q1, q2⟩ := itm_ok (Ex.refl G2) (Rp1.of (Ex.refl G2) p2) e2
      refine ⟨a, rfl, ?_⟩
      rcases q1 with q1 | q1
      · exact .inl ⟨⟨vs, r2.gh.l q1⟩, h1 G2 α1 H1 g2 r2' _ (wt_list q1 q2)⟩
      · exact .inr ⟨⟨vs, r2.gh.t q1⟩, h1 G2 α1 H1 g2 r2' _ (wt_tup q1 q2)⟩
    · exact h1.elim
  · exact h1.elim
def iR1 (da : DA) : DI := fun ρ => (da ρ).bind fun us ρ1 => match us with
  | [.d (.int j)] => if -(2 ^ 62) ≤ j ∧ j < 2 ^ 62 then .ok (iota 0 j.toNat) ρ1 else .no
  | _ => .no
theorem fi_range1 (hg : Gl X "range") (hm : X.mg "range" = none) (ha : SA X W [e] da) (hs : starEach [e] X.env = [(false, eval e X.env)] := by rfl) : SI X W tg (.Call (.Name "range" p) [e] [] pos) (iR1 da) := pi_weak (pi_range1 hg hm ha hs) fun σ H Q ⟨B, ρ, G, α, r, h⟩ => by
  refine bA r h fun us ρ1 vs H1 G1 α1 g1 r1 p1 h1 => ?_
  split at h1
  · rename_i j
    obtain ⟨v, ws, rfl, q1, rfl⟩ := p1
    have hv : v = .int j := by simpa [RpU, Rp] using q1
    subst hv
    split at h1
    · rename_i hz
      exact ⟨j, rfl, hz.1, hz.2, h1 G1 α1 H1 Gr.refl r1 _ wt_range⟩
    · exact h1.elim
  · exact h1.elim
def iR2 (da : DA) : DI := fun ρ => (da ρ).bind fun us ρ1 => match us with
  | [.d (.int i), .d (.int j)] => if -(2 ^ 62) ≤ i ∧ i < 2 ^ 62 ∧ -(2 ^ 62) ≤ j ∧ j < 2 ^ 62 then .ok (iota i (j - i).toNat) ρ1 else .no
  | _ => .no
theorem fi_range2 {e2 : Expr} (hg : Gl X "range") (hm : X.mg "range" = none) (ha : SA X W [e, e2] da) (hs : starEach [e, e2] X.env = [(false, eval e X.env), (false, eval e2 X.env)] := by rfl) (hs2 : starEach [e2] X.env = [(false, eval e2 X.env)] := by rfl) :
    SI X W tg (.Call (.Name "range" p) [e, e2] [] pos) (iR2 da) := pi_weak (pi_range2 hg hm ha hs hs2) fun σ H Q ⟨B, ρ, G, α, r, h⟩ => by
  refine bA r h fun us ρ1 vs H1 G1 α1 g1 r1 p1 h1 => ?_
  split at h1
  · rename_i i j
    obtain ⟨v, ws, rfl, q1, w, _, rfl, q2, rfl⟩ := p1
    have hv : v = .int i := by simpa [RpU, Rp] using q1
    have hw : w = .int j := by simpa [RpU, Rp] using q2
    subst hv; subst hw
    split at h1
    · rename_i hz
      exact ⟨i, j, rfl, hz, h1 G1 α1 H1 Gr.refl r1 _ wt_range⟩
    · exact h1.elim
  · exact h1.elim
end

/-- what a context asks besides -/
structure Ct (X : Cx) (W : WX) : Prop where
  tk : Tk X W
  hp : PassesOwn (model X.prog X.w) X.A X.env X.xe
  ts : Takes X W
def forL (g : DG) (b : DS) : List T → Sg → F
  | [], ρ => .nx ρ
  | t :: ts, ρ => match g (.d t) ρ with
    | .ok _ ρ1 => match b ρ1 with
      | .nx ρ2 => forL g b ts ρ2
      | .ct ρ2 => forL g b ts ρ2
      | .bk ρ2 => .nx ρ2
      | .rt u ρ2 => .rt u ρ2
      | .ex x ρ2 => .ex x ρ2
      | .no => .no
    | .ex x ρ1 => .ex x ρ1
    | .no => .no
def mFor (i : DI) (g : DG) (b : DS) : DS := fun ρ => (i ρ).thn fun ts ρ1 => forL g b ts ρ1
theorem drop_at {β : Type} {l : List β} {i : Nat} {x : β} (h : l[i]? = some x) : l.drop i = x :: l.drop (i + 1) := by
  obtain ⟨h1, h2⟩ := List.getElem?_eq_some_iff.mp h
  rw [List.drop_eq_getElem_cons h1, h2]
section
variable {X : Cx} {W : WX} {e tg iter : Expr} {body : List Stmt} {mi : DI} {g : DG} {b : DS} {pos : Pos}
theorem item_ok {K : PySem.W.Frag} {B G G0 H H' : Hp} {α : List Addr} {σ : L2.St} {ρ : Sg} {ts : List T} {i : Nat} {v : V} (r : Rs K B ρ G α σ H) (g : Ex G0 G) (y : Yt K G0 ts i H v H') :
    ∃ t G', ts[i]? = some t ∧ Gr B G α G' α ∧ Rs K B ρ G' α σ H' ∧ Rp K G' t v := by
  obtain ⟨t, e, y⟩ := y
  rcases y with ⟨rfl, p⟩ | ⟨p, us, vs, rfl, rfl, hp, rfl, q⟩
  · exact ⟨t, G, e, Gr.refl, r, Rp.mono g p⟩
  · obtain ⟨r1, g1⟩ := r.newD (o := .tup vs) hp
    refine ⟨_, _, e, g1, r1, ?_⟩
    simp only [Rp]
    exact ⟨p, vs, rfl, upd_same, Rps.mono (g.trans g1.ex) q⟩
theorem fs_for (hc : X.calm = true) (ct : Ct X W) (hi : SI X W tg iter mi) (hg : SG X W tg g) (hb : SSs X W body b) (hs : ∀ x, foldedSetIterable iter X.env x = pure x := by intro _; rfl) : SS X W (.For tg iter body [] pos) (mFor mi g b) :=
  ps_weak (ps_for ct.hp hc hi hg hb hs) fun D σ H ⟨B, ρ, G, α, r, h⟩ => by
    show tI X.K W mi σ H _
    refine ⟨B, ρ, G, α, r, ?_⟩
    unfold mFor at h
    cases e : mi ρ with
    | ex x ρ1 => rw [e] at h; exact h
    | no => rw [e] at h; exact h
    | ok ts ρ1 =>
      rw [e] at h
      intro G1 α1 H1 g1 r1 J wt
      refine for_it wt (fun i σ' H' => ∃ ρ' G' α', Gr B G1 α1 G' α' ∧ Rs X.K B ρ' G' α' σ' H' ∧ okF X.K W B G' α' (forL g b (ts.drop i) ρ') D) ?_ ?_ ?_ ?_
      · exact ⟨ρ1, G1, α1, Gr.refl, r1, okF.shift g1 h⟩
      · rintro i σ' H' _ ⟨ρ', G', α', g', r', _⟩
        exact g'.ex.trans r'.gh
      · rintro i x σ' H' H'' hi ⟨ρ', G', α', g', r', ho⟩ y
        obtain ⟨t, G2, e1, g2, r2, p2⟩ := item_ok r' g'.ex y
        rw [drop_at e1] at ho
        have ho := okF.shift g2 ho
        refine ⟨B, ρ', G2, α', .d t, r2, p2, ?_⟩
        unfold forL at ho
        cases eg : g (.d t) ρ' with
        | ex x ρ3 => rw [eg] at ho; exact ho
        | no => rw [eg] at ho; exact ho
        | ok _ ρ3 =>
          rw [eg] at ho
          dsimp only at ho
          intro G3 α3 σ3 H3 g3 r3
          refine ⟨B, ρ3, G3, α3, r3, ?_⟩
          have ho := okF.shift g3 ho
          have gg := (g'.trans g2).trans g3
          cases eb : b ρ3 with
          | nx ρ4 => rw [eb] at ho; exact fun G4 α4 σ4 H4 g4 r4 => ⟨ρ4, G4, α4, gg.trans g4, r4, okF.shift g4 ho⟩
          | ct ρ4 => rw [eb] at ho; exact fun G4 α4 σ4 H4 g4 r4 => ⟨ρ4, G4, α4, gg.trans g4, r4, okF.shift g4 ho⟩
          | bk ρ4 => rw [eb] at ho; exact ho
          | rt u ρ4 => rw [eb] at ho; exact ho
          | ex x ρ4 => rw [eb] at ho; exact ho
          | no => rw [eb] at ho; exact ho
      · rintro σ' H' ⟨ρ', G', α', g', r', ho⟩
        rw [List.drop_length] at ho
        exact ho G' α' σ' H' Gr.refl r'
end
end FL

/-! FL11: list comprehensions. -/
namespace FL
open PySem L2 PyProof.Rows

section
variable {K : PySem.W.Frag} {B G G' H H' : Hp} {α α' : List Addr} {σ : L2.St} {ρ : Sg} {st : List Ob} {p : Addr}
theorem Rh.other {o : HO} (r : Rh K B st G α H) (hB : B p = none) (hG : G p = none) (ha : p ∉ α) : Rh K B st G α (L2.upd H p o) := by
  refine ⟨r.gh.mut hG, r.bh.mut hB, r.len, r.nd, fun i a ob e1 e2 => ?_⟩
  obtain ⟨q1, ⟨u, q2⟩, q3⟩ := r.ow i a ob e1 e2
  have ne : a ≠ p := fun z => ha (z ▸ List.mem_of_getElem? e1)
  exact ⟨q1, ⟨u, by rw [upd_ne ne]; exact q2⟩, q3.mono (B := B) Gr.refl (fun z => z) (upd_ne ne)⟩
theorem Rh.adopt {o : HO} {ob : Ob} (r : Rh K B st G α H) (hB : B p = none) (ha : p ∉ α) (ho : H p = some o) (h : ObR K G (α ++ [p]) H p ob) : Rh K B (st ++ [ob]) G (α ++ [p]) H := by
  refine ⟨r.gh, r.bh, by simp [r.len], ?_, fun i a oo e1 e2 => ?_⟩
  · rw [List.nodup_append]
    refine ⟨r.nd, by simp, fun a ha' b hb => ?_⟩
    rw [List.mem_singleton] at hb
    rintro rfl
    exact ha (hb ▸ ha')
  · by_cases hi : i < α.length
    · rw [List.getElem?_append_left hi] at e1
      rw [List.getElem?_append_left (by rw [← r.len]; exact hi)] at e2
      obtain ⟨q1, q2, q3⟩ := r.ow i a oo e1 e2
      exact ⟨q1, q2, q3.mono (B := B) Gr.own (fun z => z) rfl⟩
    · have hi' : i = α.length := by
        have := (List.getElem?_eq_some_iff.mp e1).1
        simp at this; omega
      subst hi'
      have e3 : p = a := by simpa using e1
      have e4 : ob = oo := by
        rw [r.len] at e2
        simpa using e2
      subst e3; subst e4
      exact ⟨hB, ⟨o, ho⟩, h⟩
/-- a wall more -/
theorem Rs.wall {o : HO} (r : Rs K B ρ G α σ H) (hp : H p = some o) (ha : p ∉ α) : Rs K (L2.upd B p o) ρ G α σ H := by
  have ow : ∀ (i : Nat) (a : Addr) (ob : Ob), α[i]? = some a → ρ.st[i]? = some ob → L2.upd B p o a = none ∧ (∃ u, H a = some u) ∧ ObR K G α H a ob := fun i a ob e1 e2 => by
    obtain ⟨q1, q2, q3⟩ := r.ow i a ob e1 e2
    have ne : a ≠ p := fun z => ha (z ▸ List.mem_of_getElem? e1)
    exact ⟨by rw [upd_ne ne]; exact q1, q2, q3⟩
  exact { gh := r.gh, bh := r.bh.upd_of hp, len := r.len, nd := r.nd, sll := r.sll, sl := r.sl, ow := ow }
theorem Rs.unwall {o : HO} (hB : B p = none) (r : Rs K (L2.upd B p o) ρ G α σ H) : Rs K B ρ G α σ H ∧ p ∉ α ∧ H p = some o := by
  have hn : p ∉ α := fun hm => by
    obtain ⟨i, hi, e⟩ := List.getElem_of_mem hm
    have hl : i < ρ.st.length := by rw [← r.len]; exact hi
    have := (r.ow i p _ (by rw [List.getElem?_eq_getElem hi, e]) (List.getElem?_eq_getElem hl)).1
    rw [upd_same] at this; cases this
  have ow : ∀ (i : Nat) (a : Addr) (ob : Ob), α[i]? = some a → ρ.st[i]? = some ob → B a = none ∧ (∃ u, H a = some u) ∧ ObR K G α H a ob := fun i a ob e1 e2 => by
    obtain ⟨q1, q2, q3⟩ := r.ow i a ob e1 e2
    have ne : a ≠ p := fun z => hn (z ▸ List.mem_of_getElem? e1)
    exact ⟨by rw [upd_ne ne] at q1; exact q1, q2, q3⟩
  exact ⟨{ gh := r.gh, bh := (Ex.new hB).trans r.bh, len := r.len, nd := r.nd, sll := r.sll, sl := r.sl, ow := ow }, hn, r.bh _ _ upd_same⟩
theorem Gr.unwall {o : HO} (hB : B p = none) (g : Gr (L2.upd B p o) G α G' α') : Gr B G α G' α' ∧ (G p = none → G' p = none) :=
  ⟨⟨g.ex, g.al, fun a h n => g.fr a h (by
    by_cases z : a = p
    · subst z; exact absurd hB n
    · rw [upd_ne z]; exact n)⟩, fun h => g.fr p h (by rw [upd_same]; simp)⟩
end

/-- the slots of a block's own names forgotten -/
def wipeL (sl : List (Option U)) : List Nat → List (Option U)
  | [] => sl
  | v :: vs => (wipeL sl vs).set v none
theorem wipeL_len {sl : List (Option U)} : ∀ {vs : List Nat}, (wipeL sl vs).length = sl.length
  | [] => rfl
  | v :: vs => by unfold wipeL; rw [List.length_set, wipeL_len]
theorem wipeL_some {sl : List (Option U)} {i : Nat} {u : U} : ∀ {vs : List Nat}, (wipeL sl vs)[i]? = some (some u) → sl[i]? = some (some u) ∧ i ∉ vs
  | [], h => ⟨h, by simp⟩
  | v :: vs, h => by
    unfold wipeL at h
    by_cases hi : v = i
    · subst hi
      by_cases hv : v < (wipeL sl vs).length
      · rw [List.getElem?_set_self hv] at h; cases h
      · rw [List.getElem?_eq_none (by simpa using hv)] at h; cases h
    · rw [List.getElem?_set_ne hi] at h
      obtain ⟨h1, h2⟩ := wipeL_some h
      exact ⟨h1, by rw [List.mem_cons, not_or]; exact ⟨Ne.symm hi, h2⟩⟩
theorem wipe_out {σ : L2.St} {i : Nat} : ∀ {vs : List Nat}, i ∉ vs → (wipe σ vs)[i]? = σ[i]?
  | [], _ => rfl
  | v :: vs, h => by
    rw [List.mem_cons, not_or] at h
    unfold wipe
    rw [List.getElem?_set_ne (Ne.symm h.1), wipe_out h.2]
theorem wipe_set {σ : L2.St} {i : Nat} {x : Option V} : ∀ {vs : List Nat}, i ∈ vs → wipe (σ.set i x) vs = wipe σ vs
  | v :: vs, h => by
    unfold wipe
    by_cases hv : v = i
    · subst hv
      by_cases hm : v ∈ vs
      · rw [wipe_set hm]
      · clear h
        induction vs generalizing σ with
        | nil => unfold wipe; rw [List.set_set]
        | cons w vs ih =>
          rw [List.mem_cons, not_or] at hm
          unfold wipe
          rw [List.set_comm _ _ (Ne.symm hm.1), ih hm.2, List.set_comm _ _ (Ne.symm hm.1)]
    · rcases List.mem_cons.mp h with rfl | h
      · exact absurd rfl hv
      · rw [wipe_set h]
theorem Rs.wipe {K : PySem.W.Frag} {B G H : Hp} {α : List Addr} {σ : L2.St} {sl : List (Option U)} {st : List Ob} (r : Rs K B ⟨sl, st⟩ G α σ H) (vs : List Nat) : Rs K B ⟨wipeL sl vs, st⟩ G α (L2.wipe σ vs) H :=
  { toRh := r.toRh, sll := by show (wipeL sl vs).length = _; rw [wipeL_len, wipe_length]; exact r.sll, sl := fun i u e => by
      obtain ⟨h1, h2⟩ := wipeL_some e
      obtain ⟨v, h3, h4⟩ := r.sl i u h1
      exact ⟨v, by rw [wipe_out h2]; exact h3, h4⟩ }
theorem wipe_wipe (σ : L2.St) : ∀ vs : List Nat, L2.wipe (L2.wipe σ vs) vs = L2.wipe σ vs := fun vs => by
  have key : ∀ ws : List Nat, (∀ i ∈ ws, i ∈ vs) → L2.wipe (L2.wipe σ ws) vs = L2.wipe σ vs := by
    intro ws
    induction ws with
    | nil => intro _; rfl
    | cons w ws ih =>
      intro h
      show L2.wipe ((L2.wipe σ ws).set w none) vs = _
      rw [wipe_set (h w List.mem_cons_self), ih fun i hi => h i (List.mem_cons_of_mem _ hi)]
  exact key vs fun _ h => h
/-- a target that stores the block's own names alone -/
def tGv (K : PySem.W.Frag) (vs : List Nat) (m : DG) : TG := fun v σ H Q => ∃ B ρ G α u, Rs K B ρ G α σ H ∧ RpU K G α u v ∧ okG K W0 B G α (m u ρ) fun σ' H' => L2.wipe σ' vs = L2.wipe σ vs → Q σ' H'
def tGvs (K : PySem.W.Frag) (vs : List Nat) (m : DGs) : TGs := fun ws σ H Q => ∃ B ρ G α ts, Rs K B ρ G α σ H ∧ Rps K G ts ws ∧ okG K W0 B G α (m ts ρ) fun σ' H' => L2.wipe σ' vs = L2.wipe σ vs → Q σ' H'
section
variable {X : Cx} {W : WX} {e a b o i v : Expr} {es : List Expr} {g : DG} {gs : DGs} {pos : Pos} {vs : List Nat}
theorem fgv_name {x : Str} (i : Nat) (hN : X.N.Nodup) (hv : i ∈ vs := by decide) (hi : X.N[i]? = some x := by rfl) (hx : Loc X.env.scope x := by first | exact Or.inl rfl | exact Or.inr rfl) (hf : X.fn x = true ∨ X.env.scope.names.lookup x = some .local := by first | exact .inl rfl | exact .inr rfl) : PG X (.Name x pos) (tGv X.K vs (gN i)) :=
  pg_weak (pg_name hN hi hx hf) fun v σ H Q ⟨B, ρ, G, α, u, r, p, h⟩ => h G α _ H Gr.refl (r.store p) (wipe_set hv)
theorem fgvs_nil : PGs X [] (tGvs X.K vs gsNil) := pgs_weak pgs_nil fun ws σ H Q ⟨B, ρ, G, α, ts, r, p, h⟩ => by
  unfold gsNil at h
  split at h
  · simp only [Rps] at p
    exact ⟨p, h G α σ H Gr.refl r rfl⟩
  · exact h.elim
theorem fgvs_cons (h1 : PG X e (tGv X.K vs g)) (h2 : PGs X es (tGvs X.K vs gs)) (hs : (assignEach (e :: es) X.env).map (·.2) = assign e X.env :: (assignEach es X.env).map (·.2) := by rfl) : PGs X (e :: es) (tGvs X.K vs (gsCons g gs)) :=
  pgs_weak (pgs_cons h1 h2 hs) fun ws σ H Q ⟨B, ρ, G, α, ts, r, p, h⟩ => by
    unfold gsCons at h
    split at h
    · rename_i t ts
      simp only [Rps] at p
      obtain ⟨v, ws, rfl, p1, p2⟩ := p
      refine ⟨v, ws, rfl, B, ρ, G, α, .d t, r, p1, ?_⟩
      cases e1 : g (.d t) ρ with
      | ok _ ρ1 =>
        rw [e1] at h
        intro G1 α1 σ1 H1 g1 r1 w1
        refine ⟨B, ρ1, G1, α1, ts, r1, Rps.mono g1.ex p2, ?_⟩
        have h := okG.shift g1 (Q := fun σ' H' => L2.wipe σ' vs = L2.wipe σ vs → Q σ' H') (r := gs ts ρ1) (W := W0) h
        rw [w1]; exact h
      | ex x ρ1 => rw [e1] at h; exact h
      | no => rw [e1] at h; exact h
    · exact h.elim
theorem fgv_tup {k : Nat} {n : Nat} (hc : X.calm = true) (h : PGs X es (tGvs X.K vs gs)) (hn : (assignEach es X.env).length = n := by rfl) (hst : (assignEach es X.env).findIdx? (·.1) = none := by rfl) : PG X (.Tuple es k pos) (tGv X.K vs (gT n gs)) :=
  pg_weak (pg_or (pg_tup hc h hn hst) (pg_unl hc h hn hst)) fun v σ H Q ⟨B, ρ, G, α, u, r, p, h⟩ => by
    unfold gT at h
    split at h
    · rename_i ts e1
      split at h
      · rename_i hl
        obtain ⟨t, e2, e3⟩ := Option.bind_eq_some_iff.mp e1
        obtain ⟨a, ws, rfl, h1, h2⟩ := itm_ok r.gh (pk_ok r.toRh p e2) e3
        have hz : ws.length = n := by rw [← h2.length]; exact hl
        rcases h1 with h1 | h1
        · exact .inr ⟨a, ws, rfl, h1, hz, B, ρ, G, α, ts, r, h2, h⟩
        · exact .inl ⟨a, ws, rfl, h1, hz, B, ρ, G, α, ts, r, h2, h⟩
      · exact h.elim
    · exact h.elim
end

def mYes : DT := fun ρ => .ok true ρ
abbrev SQ (X : Cx) (W : WX) (ifs : List Expr) (m : DT) : Prop := PTs X ifs (tT X.K W m)
theorem fq_nil {X : Cx} {W : WX} : SQ X W [] mYes := ⟨fun pins s σ H Q I ⟨B, ρ, G, α, r, h⟩ => pts_nil.run pins s σ H Q I (h G α H Gr.refl r)⟩
theorem fq_one {X : Cx} {W : WX} {c : Expr} {m : DT} (h : ST X W c m) : SQ X W [c] m := pts_one h
/-- the items that a comprehension makes -/
def lcL (g : DG) (t : DT) (e : DE) (vs : List Nat) (sl : List (Option U)) : List T → List T → List Ob → R (List T)
  | [], acc, st => .ok acc ⟨sl, st⟩
  | x :: xs, acc, st => match g (.d x) ⟨wipeL sl vs, st⟩ with
    | .ok _ ρ1 => match t ρ1 with
      | .ok true ρ2 => match e ρ2 with
        | .ok u ρ3 => match toD 4 u ρ3.st with
          | some (y, st') => if acc.length < sizeLine then lcL g t e vs sl xs (acc ++ [y]) st' else .no
          | none => .no
        | _ => .no
      | .ok false ρ2 => lcL g t e vs sl xs acc ρ2.st
      | _ => .no
    | _ => .no
def mLc (i : DI) (g : DG) (t : DT) (e : DE) (vs : List Nat) : DE := fun ρ => (i ρ).bind fun ts ρ1 => (lcL g t e vs ρ1.sl ts [] ρ1.st).bind fun acc ρ2 => .ok (.own ρ2.st.length) ⟨ρ2.sl, ρ2.st ++ [.lst acc]⟩
theorem tLc_of {K : PySem.W.Frag} {W : WX} {mi : DI} {g : DG} {t : DT} {e : DE} {vs : List Nat} {σ : L2.St} {H : Hp} {Q : VK} (h : tE K W (mLc mi g t e vs) σ H Q) : tLc (tI K W mi) (tGv K vs g) (tT K W0 t) (tE K W0 e) vs σ H Q := by
  obtain ⟨B, ρ, G, α, r, h⟩ := h
  unfold mLc at h
  refine ⟨B, ρ, G, α, r, ?_⟩
  cases e0 : mi ρ with
  | ex x ρ1 => rw [e0] at h; exact h
  | no => rw [e0] at h; exact h
  | ok ts ρ1 =>
    rw [e0] at h
    intro G1 α1 H1 g1 r1 J wt D hD
    have hBD := r1.bh.free hD
    refine lc_it wt (fun i H' => ∃ acc ws st' G' α', Gr B G1 α1 G' α' ∧ Rs K B ⟨ρ1.sl, st'⟩ G' α' σ H' ∧ H' D = some (.lst ws) ∧ Rps K G' acc ws ∧ D ∉ α' ∧ G' D = none ∧
      okP K W B G' α' σ ((lcL g t e vs ρ1.sl (ts.drop i) acc st').bind fun acc ρ2 => .ok (.own ρ2.st.length) ⟨ρ2.sl, ρ2.st ++ [.lst acc]⟩) (EndP K Q)) ?_ ?_ ?_ ?_
    · have hn := r1.toRh.nin hD
      exact ⟨[], [], ρ1.st, G1, α1, Gr.refl, { toRh := r1.toRh.other hBD (r1.gh.free hD) hn, sll := r1.sll, sl := r1.sl }, upd_same, Rps.nil, hn, r1.gh.free hD, okP.shift g1 h⟩
    · rintro i H' _ ⟨acc, ws, st', G', α', g', r', _⟩
      exact g'.ex.trans r'.gh
    · rintro i x H' H'' hi ⟨acc, ws, st', G', α', g', r', hDw, hacc, hDn, hGD, ho⟩ y
      obtain ⟨tt, G2, e1, g2, r2, p2⟩ := item_ok (r'.wall hDw hDn) g'.ex y
      rw [drop_at e1] at ho
      unfold lcL at ho
      refine ⟨upd B D (.lst ws), ⟨wipeL ρ1.sl vs, st'⟩, G2, α', .d tt, r2.wipe vs, p2, ?_⟩
      cases eg : g (.d tt) ⟨wipeL ρ1.sl vs, st'⟩ with
      | ex x ρ3 => rw [eg] at ho; exact ho.elim
      | no => rw [eg] at ho; exact ho.elim
      | ok _ ρ3 =>
        rw [eg] at ho
        dsimp only at ho
        intro G3 α3 σ3 H3 g3 r3 hw3
        have hw : L2.wipe (L2.wipe σ vs) vs = L2.wipe σ vs := wipe_wipe σ vs
        refine ⟨hw3.trans hw, upd B D (.lst ws), ρ3, G3, α3, r3, ?_⟩
        have back : ∀ {ρ4 : Sg} {G4 : Hp} {α4 : List Addr} {H4 : Hp} {σ4 : L2.St}, Gr (upd B D (.lst ws)) G3 α3 G4 α4 → Rs K (upd B D (.lst ws)) ρ4 G4 α4 σ4 H4 →
            Gr B G1 α1 G4 α4 ∧ Gr B G' α' G4 α4 ∧ Rs K B ⟨ρ1.sl, ρ4.st⟩ G4 α4 σ H4 ∧ H4 D = some (.lst ws) ∧ D ∉ α4 ∧ G4 D = none ∧ Rps K G4 acc ws := fun {ρ4 G4 α4 H4 σ4} g4 r4 => by
          obtain ⟨ga, gb⟩ := Gr.unwall hBD ((g2.trans g3).trans g4)
          obtain ⟨ra, rb, rc⟩ := Rs.unwall hBD r4
          exact ⟨g'.trans ga, ga, { toRh := ra.toRh, sll := r'.sll, sl := fun i u e => let ⟨v, h1, h2⟩ := r'.sl i u e; ⟨v, h1, h2.mono ga⟩ }, rc, rb, gb hGD, Rps.mono ga.ex hacc⟩
        cases et : t ρ3 with
        | ex x ρ4 => rw [et] at ho; exact ho.elim
        | no => rw [et] at ho; exact ho.elim
        | ok b ρ4 =>
          rw [et] at ho
          intro G4 α4 H4 g4 r4
          cases b with
          | false =>
            dsimp only at ho
            obtain ⟨q1, q2, q3, q4, q5, q6, q7⟩ := back g4 r4
            exact ⟨acc, ws, ρ4.st, G4, α4, q1, q3, q4, q7, q5, q6, okP.shift q2 ho⟩
          | true =>
            dsimp only at ho
            show tE K W0 e σ3 H4 _
            refine ⟨upd B D (.lst ws), ρ4, G4, α4, r4, ?_⟩
            cases ee : e ρ4 with
            | ex x ρ5 => rw [ee] at ho; exact ho.elim
            | no => rw [ee] at ho; exact ho.elim
            | ok u ρ5 =>
              rw [ee] at ho
              dsimp only at ho
              intro G5 α5 H5 g5 r5 v p5
              cases ed : toD 4 u ρ5.st with
              | none => rw [ed] at ho; exact ho.elim
              | some ys =>
                obtain ⟨yy, st6⟩ := ys
                rw [ed] at ho
                dsimp only at ho
                split at ho
                · rename_i hz
                  obtain ⟨G6, g6, r6, p6⟩ := toD_ok 4 r5.toRh p5 ed
                  have r6' : Rs K (upd B D (.lst ws)) ⟨ρ5.sl, st6⟩ G6 α5 σ3 H5 := Rs.mk' r5 g6 r6
                  obtain ⟨q1, q2, q3, q4, q5, q6, q7⟩ := back ((g4.trans g5).trans g6) r6'
                  refine ⟨ws, q4, by rw [← q7.length]; exact hz, acc ++ [yy], ws ++ [v], st6, G6, α5, q1, { toRh := q3.toRh.other hBD q6 q5, sll := q3.sll, sl := q3.sl }, upd_same, q7.append (Rps.cons p6 Rps.nil), q5, q6, okP.shift q2 ho⟩
                · exact ho.elim
    · rintro H' ⟨acc, ws, st', G', α', g', r', hDw, hacc, hDn, hGD, ho⟩
      rw [List.drop_length] at ho
      have r2 := r'.toRh.adopt (ob := .lst acc) hBD hDn hDw ⟨hGD, ws, hDw, hacc⟩
      exact ho G' (α' ++ [D]) H' Gr.own (Rs.mk' r' Gr.own r2) _ (own_last r'.toRh)
section
variable {X : Cx} {W : WX} {elt tg iter : Expr} {ifs : List Expr} {scope : Scope} {own : List (Str × Nat)} {pos : Pos} {mi : DI} {g : DG} {t : DT} {m : DE}
theorem fe_lc (own : List (Str × Nat)) (hc : X.calm = true) (hN : X.N.Nodup) (hi : SI X W tg iter mi) (ok : BlkOk X.N X.env.scope scope own)
    (hg : ∀ (s : Shared) (H : Hp) (C : Addr) (cl : List (Str × Addr)) (fp : List Addr), PG (X.blk s H scope (compEnvC scope cl C X.env) fp) tg (tGv X.K (own.map (·.2)) g)) (ht : ∀ (s : Shared) (H : Hp) (C : Addr) (cl : List (Str × Addr)) (fp : List Addr), SQ (X.blk s H scope (compEnvC scope cl C X.env) fp) W0 ifs t)
    (he : ∀ (s : Shared) (H : Hp) (C : Addr) (cl : List (Str × Addr)) (fp : List Addr), SE (X.blk s H scope (compEnvC scope cl C X.env) fp) W0 elt m) (hs : ∀ x, foldedSetIterable iter X.env x = pure x := by intro _; rfl) :
    SE X W (.ListComp elt [⟨tg, iter, ifs, 0⟩] scope pos) (mLc mi g t m (own.map (·.2))) := pe_weak (pe_lc hc hN hi ok hg ht he hs) fun _ _ _ h => tLc_of h
theorem fs_setLc {y : Str} {py spos : Pos} (i : Nat) (own : List (Str × Nat)) (hc : X.calm = true) (hN : X.N.Nodup) (hsw : swapsWith (.ListComp elt [⟨tg, iter, ifs, 0⟩] scope pos) (some (.Name y py)) spos.line X.env = pure true) (hi : SI X W tg iter mi) (ok : BlkOk X.N X.env.scope scope own)
    (hg : ∀ (s : Shared) (H : Hp) (C : Addr) (cl : List (Str × Addr)) (fp : List Addr), PG (X.blk s H scope (compEnvC scope cl C X.env) fp) tg (tGv X.K (own.map (·.2)) g)) (ht : ∀ (s : Shared) (H : Hp) (C : Addr) (cl : List (Str × Addr)) (fp : List Addr), SQ (X.blk s H scope (compEnvC scope cl C X.env) fp) W0 ifs t)
    (he : ∀ (s : Shared) (H : Hp) (C : Addr) (cl : List (Str × Addr)) (fp : List Addr), SE (X.blk s H scope (compEnvC scope cl C X.env) fp) W0 elt m) (hy : X.N[i]? = some y := by rfl) (hyl : X.env.scope.names.lookup y = some .local := by rfl) (hs : ∀ x, foldedSetIterable iter X.env x = pure x := by intro _; rfl) :
    SS X W (.Assign [.Name y py] (.ListComp elt [⟨tg, iter, ifs, 0⟩] scope pos) spos) (mSet i (mLc mi g t m (own.map (·.2)))) := ps_weak (ps_setLc hc hN hy hyl hsw hi ok hg ht he hs) fun D σ H ⟨B, ρ, G, α, r, h⟩ => by
  show tLc (tI X.K W mi) (tGv X.K (own.map (·.2)) g) (tT X.K W0 t) (tE X.K W0 m) (own.map (·.2)) σ H fun x H1 => gName i x σ H1 D.nx
  refine tLc_of (W := W) (e := m) (t := t) ?_
  exact sE r h fun u ρ1 v H1 G1 α1 g1 r1 p1 h1 => h1 G1 α1 _ H1 Gr.refl (r1.store p1)
end
end FL

/-! FL12: enumerate of a list or a tuple. -/
namespace FL
open PySem L2 PyProof.Rows

set_option maxHeartbeats 1000000 in
theorem meets_enum1 {v : Value} {o : Obj} {H : Heap → Prop} (B : Begins v o H) :
    Meets (Builtin.«enumerate.__new__» ⟨[.type "enumerate", v], []⟩) (fun _ R s => H s.heap ∧
      R (.ok (.ret (.ref (s.heap.push o).objs.size))) { s with heap := (s.heap.push o).push { cls := .type "enumerate", data := .fields #[.none, .bool false, .ref s.heap.objs.size, rawInt 0, .none, .none] } }) :=
  .of_wp fun prog w A R s h => by
    obtain ⟨hp, g, d, tk, os⟩ := s; obtain ⟨h1, h⟩ := h
    have hsub := sub_enumerate
    have q1 : ∀ {A' : Around} {E : Value → Shared → Prop} {Q : Value → Shared → Prop}, Q (.ref hp.objs.size) ⟨hp.push o, g, d, tk, os⟩ → wpAny (model prog w) A' (pyIter v) Q E ⟨hp, g, d, tk, os⟩ :=
      fun q => B.iter prog w _ _ ⟨hp, g, d, tk, os⟩ _ h1 q
    wp_walk using q1
    refine wpAny_stack_any fun st => wpAny_pure ?_
    split
    · rename_i c _ _ _ _ _
      cases (c == Value.type "enumerate")
      · wp_walk using q1
        exact ⟨_, rfl, h⟩
      · wp_walk using q1
        exact ⟨_, rfl, h⟩
    · wp_walk using q1
      exact ⟨_, rfl, h⟩
theorem call_enum1 {prog : Program} {w : World} {A : Around} {E : Value → Shared → Prop} {s : Shared} {v : Value} {o : Obj} {H : Heap → Prop} {Q : Value → Shared → Prop} (B : Begins v o H) (h1 : H s.heap)
    (h : ∀ h', IsEnum h' (s.heap.objs.size + 1) s.heap.objs.size 0 .none → h'.get? s.heap.objs.size = some o → h'.objs.size = s.heap.objs.size + 2 →
      (∀ b o, s.heap.get? b = some o → h'.get? b = some o) → Q (.ref (s.heap.objs.size + 1)) { s with heap := h' }) :
    wpAny (model prog w) A (call (.type "enumerate") [v]) Q E s := by
  refine callType_new F.called_enumerate (by decide) (F.typeCall_enumerate_1 _) (F.newCall_enumerate_1 _) (fun obj => F.args_object_init_2 obj _) F.entry_enumerate_new
    (meets_enum1 B) ⟨h1, ?_⟩
  have hz : (s.heap.push o).objs.size = s.heap.objs.size + 1 := Heap.size_push ..
  show _ ∧ _
  rw [hz]
  have he : IsEnum ((s.heap.push o).push { cls := .type "enumerate", data := .fields #[.none, .bool false, .ref s.heap.objs.size, rawInt 0, .none, .none] }) (s.heap.objs.size + 1) s.heap.objs.size 0 .none := by
    have := Heap.get?_push_size (s.heap.push o) (o := { cls := .type "enumerate", data := .fields #[.none, .bool false, .ref s.heap.objs.size, rawInt 0, .none, .none] }) rfl
    rw [hz] at this; exact this
  refine ⟨⟨_, he, rfl⟩, h _ he (Heap.get?_push_of_some _ (Heap.get?_push_size _ B.free)) (by rw [Heap.size_push, hz]) fun b o x => Heap.get?_push_of_some _ (Heap.get?_push_of_some _ x)⟩

/-- the tuple at a as it stands at each turn -/
def Itet (K : PySem.W.Frag) (a : Addr) : It :=
  ⟨fun i H => ∃ (xs : List V) (x : V), SqT K H a xs ∧ xs[i]? = some x, fun i H v H' => ∃ T x, v = .ref T ∧ H T = none ∧ H' = upd H T (.tup [.int (i : Nat), x]) ∧ ∀ xs, SqT K H a xs → xs[i]? = some x, fun i H => ∃ xs : List V, SqT K H a xs ∧ xs.length = i⟩
theorem turn_enumT {P : Program} {w : World} {K : PySem.W.Frag} {elts : List Expr} {kk : Nat} {tpos : Pos} (a e it : Addr) (hne : a ≠ it) (hae : a ≠ e) :
    Turn P w K (.Tuple elts kk tpos) (Itet K a) [e, it] e (fun i h => (∃ old, IsEnum h e it ((i : Nat) : Int) old) ∧ h.IsTupleIter it a i ∧ e ≠ it) where
  mem := by simp
  obj := fun i h st b hb => by
    obtain ⟨⟨old, he⟩, ⟨o, ho, hc, hd⟩, _⟩ := st
    have e' : b = e ∨ b = it := by simpa using hb
    rcases e' with z | z
    · rw [z]; exact ⟨_, he, fun v q => nomatch q⟩
    · rw [z]; exact ⟨o, ho, fun v q => by rw [hd] at q; cases q⟩
  keep := fun i h h' st k => let ⟨⟨old, he⟩, hi, hne⟩ := st; ⟨⟨old, k e (by simp) _ he⟩, hi.at fun o q => k it (by simp) o q, hne⟩
  item := by
    intro X hP hw hK hc i pins s σ H E I hf st hg
    subst hP hw hK
    obtain ⟨⟨old, he⟩, hit, hne'⟩ := st
    obtain ⟨xs, x, hq, hx⟩ := hg
    obtain ⟨its, rv, p, hz⟩ := I.tuple hq
    obtain ⟨u, hu, ru⟩ := rv.get hx
    have hel : e < s.heap.objs.size := Heap.lt_size he
    have hil : it < s.heap.objs.size := by obtain ⟨_, q, _⟩ := hit; exact Heap.lt_size q
    have hlt : i < its.toArray.size := by
      have := (List.getElem?_eq_some_iff.mp hu).1
      simpa using this
    have D : Draws X.prog X.w X.A.in1 it [it, a] its.toArray.size (fun i v => its.toArray[i]? = some v) (fun i h => h.IsTupleIter it a i ∧ h.IsTuple a its.toArray) := Draws.tuple (show X.A.in1.handled = none from I.ok.hd hc) it a hne its.toArray
    refine wpAny_pyNext_enum_itemD D he ⟨hit, p⟩ hlt hne' (by simp [hne', Ne.symm hae]) fun x' h' tk hP ho hst hT hsz hk => ?_
    have hx' : x' = u := by
      have h1 : its.toArray[i]? = some u := by simpa using hu
      rw [h1] at hP; exact (Option.some.inj hP).symm
    subst hx'
    refine ⟨_, rfl, wpAny_letOwnedTupleGo_enum (s := { s with heap := h', toks := tk + 1 }) ho fun h'' he' sb => ?_⟩
    have hT2 : h''.get? s.heap.objs.size = some { cls := .type "tuple", data := .seq #[.int i tk, x'] } := (sb.2 _ (Nat.ne_of_gt hel)).trans hT
    have new : ObjOk X.prog X.w (upd H s.heap.objs.size (.tup [.int (i : Nat), x])) h'' s.heap.objs.size (.tup [.int (i : Nat), x]) :=
      ⟨by show 2 ≤ sizeLine; decide, [.int i tk, x'], .cons ⟨_, rfl⟩ (.cons ru .nil), ⟨_, hT2, rfl, _, rfl⟩⟩
    have I1 : Inv X pins σ (upd H s.heap.objs.size (.tup [.int (i : Nat), x])) { s with heap := h'', toks := tk + 1 } :=
      I.turnedNew (ch := [e, it]) (fun b ob hb q => (sb.2 b (fun z => hb (by simp [z]))).trans (hk b ob (fun z => hb (by simp [z])) (fun z => hb (by simp [z])) q)) hf (Nat.le_refl _) new
    refine ⟨.ref s.heap.objs.size, _, I1, rfl, ⟨_, x, rfl, I.hok.fresh (Nat.le_refl _), rfl, fun ys hy => by rw [I.tuple_inj hy hq]; exact hx⟩, ⟨⟨x', ?_⟩, hst.1.at fun o q => (sb.2 it (Ne.symm hne')).trans q, hne'⟩, fun b hb => ?_⟩
    · have e1 : ((i + 1 : Nat) : Int) = (i : Int) + 1 := by omega
      rw [e1]; exact he'
    · have hb' : b < s.heap.objs.size := by
        have e' : b = e ∨ b = it := by simpa using hb
        rcases e' with z | z
        · rw [z]; exact hel
        · rw [z]; exact hil
      rw [upd_ne (Nat.ne_of_lt hb')]
      exact (hf b hb).1
  done := by
    intro X hP hw hK hc i pins s σ H E I hf st hg
    subst hP hw hK
    obtain ⟨⟨old, he⟩, hit, hne'⟩ := st
    obtain ⟨xs, hq, hx⟩ := hg
    obtain ⟨its, rv, p, hz⟩ := I.tuple hq
    obtain ⟨f0, f1, f2, f3, f4, f5⟩ := hf it (by simp)
    have hl := rv.length
    have D : Draws X.prog X.w X.A.in1 it [it, a] its.toArray.size (fun i v => its.toArray[i]? = some v) (fun i h => h.IsTupleIter it a i ∧ h.IsTuple a its.toArray) := Draws.tuple (show X.A.in1.handled = none from I.ok.hd hc) it a hne its.toArray
    have hi : i = its.toArray.size := by rw [← hx, hl]; simp
    exact wpAny_pyNext_enum_endD D he (by rw [← hi]; exact ⟨hit, p⟩) fun h' eb => ⟨rfl, I.turned (t' := s.toks) (fun b o hb q => eb b o hb q) f0 f1 f3 f4 f5⟩
  self := fun A i s Q E st h => let ⟨⟨_, he⟩, _⟩ := st; wpAny_pyIter_enum he h
/-- enumerate of a list or a tuple -/
def iEnumA (K : PySem.W.Frag) (ta : TA) : TI := fun σ H R => ta σ H fun vs H1 => ∃ a, vs = [.ref a] ∧ (((∃ xs, SqL K H1 a xs) ∧ R (Ite K a) H1) ∨ ((∃ xs, SqT K H1 a xs) ∧ R (Itet K a) H1))
theorem pi_enumA {X : Cx} {e : Expr} {ta : TA} {p pos tpos : Pos} {elts : List Expr} {kk : Nat} (hg : Gl X "enumerate") (hm : X.mg "enumerate" = none) (ha : PA X [e] ta) (hs : starEach [e] X.env = [(false, eval e X.env)] := by rfl) :
    PI X (.Tuple elts kk tpos) (.Call (.Name "enumerate" p) [e] [] pos) (iEnumA X.K ta) := by
  refine ⟨fun pins s σ H R I h => ?_⟩
  refine Call_ (ld_blt I hg hm boot_enumerate (PyProof.Rows.callWith_type1 (thn (ha.run pos pins s σ H _ I h) fun us s1 ⟨vs, H1, I1, r1, q1⟩ => ?_) hs rfl))
  obtain ⟨a, ex, q⟩ := q1
  subst ex
  cases r1 with
  | cons r rr =>
    cases rr
    cases r
    have fpo : ∀ b ∈ [s1.heap.objs.size + 1, s1.heap.objs.size], FpOk X pins H1 b := fun b hb => by
      have e' : b = s1.heap.objs.size + 1 ∨ b = s1.heap.objs.size := by simpa using hb
      have hle : s1.heap.objs.size ≤ b := by
        rcases e' with z | z
        · rw [z]; exact Nat.le_add_right _ _
        · rw [z]; exact Nat.le_refl _
      exact I1.fpOk hle (I1.hok.fresh hle)
    rcases q with ⟨⟨xs, hq⟩, q⟩ | ⟨⟨xs, hq⟩, q⟩
    · obtain ⟨its, rv, p', hz⟩ := I1.list hq
      refine call_enumerate_list p'.isList fun h' he hit hsz hk => wpAny_pyIter_enum he ?_
      have I2 : Inv X pins σ H1 { s1 with heap := h' } := I1.kept (t' := s1.toks) hk
      exact ⟨s1.heap.objs.size + 1, [s1.heap.objs.size + 1, s1.heap.objs.size], _, _, H1, rfl, I2, turn_enum a (s1.heap.objs.size + 1) s1.heap.objs.size, ⟨⟨.none, he⟩, hit, Nat.succ_ne_self _⟩, fpo, q⟩
    · obtain ⟨its, rv, p', hz⟩ := I1.tuple hq
      have hlt : a < s1.heap.objs.size := p'.lt
      refine call_enum1 (begins_tuple a its.toArray) (show s1.heap.IsTuple a its.toArray from p') fun h' he hit hsz hk => wpAny_pyIter_enum he ?_
      have I2 : Inv X pins σ H1 { s1 with heap := h' } := I1.kept (t' := s1.toks) hk
      exact ⟨s1.heap.objs.size + 1, [s1.heap.objs.size + 1, s1.heap.objs.size], _, _, H1, rfl, I2, turn_enumT a (s1.heap.objs.size + 1) s1.heap.objs.size (Nat.ne_of_lt hlt) (Nat.ne_of_lt (Nat.lt_succ_of_lt hlt)), ⟨⟨.none, he⟩, ⟨_, hit, rfl, rfl⟩, Nat.succ_ne_self _⟩, fpo, q⟩
def enumT (n : Int) : List T → List T
  | [] => []
  | t :: ts => .tup [.int n, t] :: enumT (n + 1) ts
theorem enumT_len : ∀ {n : Int} {ts : List T}, (enumT n ts).length = ts.length
  | _, [] => rfl
  | n, t :: ts => by simp [enumT, enumT_len (n := n + 1)]
theorem enumT_get : ∀ {n : Int} {ts : List T} {i : Nat} {t : T}, ts[i]? = some t → (enumT n ts)[i]? = some (.tup [.int (n + i), t])
  | n, [], i, t, h => by simp at h
  | n, u :: ts, 0, t, h => by simp at h; subst h; simp [enumT]
  | n, u :: ts, i + 1, t, h => by
    have e : n + 1 + (i : Int) = n + ((i + 1 : Nat) : Int) := by omega
    rw [enumT, List.getElem?_cons_succ, enumT_get (n := n + 1) (by simpa using h), e]
section
variable {K : PySem.W.Frag} {G : Hp} {a : Addr} {vs : List V} {ts : List T}
theorem wt_enumL (h : SqL K G a vs) (r : Rps K G ts vs) : WT K G (Ite K a) (enumT 0 ts) := by
  have e := r.length
  have w : Walk (Ite K a) vs.length (fun H => Ex G H) (Yt K G (enumT 0 ts)) := ⟨fun i H hi g => ⟨vs, vs[i], g.l h, by simp [hi]⟩, fun H g => ⟨vs, g.l h, Nat.le_refl _⟩, fun i H v H' hi g y => by
    obtain ⟨p, x, rfl, hp, rfl, hx⟩ := y
    obtain ⟨t, e1, e2⟩ := r.getV (hx vs (g.l h))
    refine ⟨_, enumT_get e1, .inr ⟨p, _, _, rfl, rfl, hp, rfl, Rps.cons (by simp [Rp]) (Rps.cons e2 Rps.nil)⟩⟩⟩
  unfold WT; rw [enumT_len, e]; exact w
theorem wt_enumT (h : SqT K G a vs) (r : Rps K G ts vs) : WT K G (Itet K a) (enumT 0 ts) := by
  have e := r.length
  have w : Walk (Itet K a) vs.length (fun H => Ex G H) (Yt K G (enumT 0 ts)) := ⟨fun i H hi g => ⟨vs, vs[i], g.t h, by simp [hi]⟩, fun H g => ⟨vs, g.t h, rfl⟩, fun i H v H' hi g y => by
    obtain ⟨p, x, rfl, hp, rfl, hx⟩ := y
    obtain ⟨t, e1, e2⟩ := r.getV (hx vs (g.t h))
    refine ⟨_, enumT_get e1, .inr ⟨p, _, _, rfl, rfl, hp, rfl, Rps.cons (by simp [Rp]) (Rps.cons e2 Rps.nil)⟩⟩⟩
  unfold WT; rw [enumT_len, e]; exact w
end
def iEnumD (da : DA) : DI := fun ρ => (da ρ).bind fun us ρ1 => match us with
  | [u] => match toD 4 u ρ1.st with
    | some (t, st) => match itm t with
      | some ts => .ok (enumT 0 ts) ⟨ρ1.sl, st⟩
      | none => .no
    | none => .no
  | _ => .no
theorem fi_enum {X : Cx} {W : WX} {e : Expr} {da : DA} {p pos tpos : Pos} {elts : List Expr} {kk : Nat} (hg : Gl X "enumerate") (hm : X.mg "enumerate" = none) (ha : SA X W [e] da) (hs : starEach [e] X.env = [(false, eval e X.env)] := by rfl) :
    SI X W (.Tuple elts kk tpos) (.Call (.Name "enumerate" p) [e] [] pos) (iEnumD da) := pi_weak (pi_enumA hg hm ha hs) fun σ H Q ⟨B, ρ, G, α, r, h⟩ => by
  refine bA r h fun us ρ1 vs H1 G1 α1 g1 r1 p1 h1 => ?_
  split at h1
  · rename_i u
    obtain ⟨v, _, rfl, q1, rfl⟩ := p1
    split at h1
    · rename_i t st e1
      obtain ⟨G2, g2, r2, p2⟩ := toD_ok 4 r1.toRh q1 e1
      have r2' : Rs X.K B ⟨ρ1.sl, st⟩ G2 α1 σ H1 := Rs.mk' r1 g2 r2
      split at h1
      · rename_i ts e2
        obtain ⟨a, ws, rfl, q1, q2⟩ := itm_ok (Ex.refl G2) (Rp1.of (Ex.refl G2) p2) e2
        refine ⟨a, rfl, ?_⟩
        rcases q1 with q1 | q1
        · exact .inl ⟨⟨ws, r2.gh.l q1⟩, h1 G2 α1 H1 g2 r2' _ (wt_enumL q1 q2)⟩
        · exact .inr ⟨⟨ws, r2.gh.t q1⟩, h1 G2 α1 H1 g2 r2' _ (wt_enumT q1 q2)⟩
      · exact h1.elim
    · exact h1.elim
  · exact h1.elim
end FL

/-! FL13: dict(pairs), walked by items and values. -/
namespace FL
open PySem L2 PyProof.Rows

mutual
def T.nk : T → Option NestedKey
  | .non => some .none
  | .bl b => some (.num (if b = true then 1 else 0))
  | .int i => some (.num i)
  | .str x => some (.text x)
  | .tup ts => (T.nks ts).map .tup
  | _ => none
def T.nks : List T → Option (List NestedKey)
  | [] => some []
  | t :: ts => match T.nk t, T.nks ts with
    | some k, some ks => some (k :: ks)
    | _, _ => none
end
section
variable {X : Cx} {pins : List (Addr × Obj)} {σ : L2.St} {H : Hp} {s : Shared}
mutual
theorem nk_is (I : Inv X pins σ H s) : ∀ {t : T} {v : V} {u : Value} {k : NestedKey}, Rp X.K H t v → RelV v u → t.nk = some k → NestedIs s.heap k u
  | .non, v, u, k, h, r, e => by
    simp only [Rp] at h; simp only [T.nk, Option.some.injEq] at e; subst h; subst e; cases r; exact .none
  | .bl b, v, u, k, h, r, e => by
    simp only [Rp] at h; simp only [T.nk, Option.some.injEq] at e; subst h; subst e; cases r; exact .bool rfl
  | .int i, v, u, k, h, r, e => by
    simp only [Rp] at h; simp only [T.nk, Option.some.injEq] at e; subst h; subst e; obtain ⟨t, rfl⟩ := r; exact .int _ _
  | .str i, v, u, k, h, r, e => by
    simp only [Rp] at h; simp only [T.nk, Option.some.injEq] at e; subst h; subst e; obtain ⟨t, rfl⟩ := r; exact .text _ _
  | .tup ts, v, u, k, h, r, e => by
    simp only [Rp] at h
    obtain ⟨a, vs, rfl, h1, h2⟩ := h
    simp only [T.nk, Option.map_eq_some_iff] at e
    obtain ⟨ks, e1, rfl⟩ := e
    cases r
    obtain ⟨_, its, rv, o, ho, hc, n, hd⟩ := (show ObjOk X.prog X.w H s.heap a (.tup vs) from I.hok a _ h1)
    exact .tup ho hc hd (by simpa using nks_is I h2 rv e1)
  | .ktp ts, v, u, k, h, r, e => by simp [T.nk] at e
  | .lst ts, v, u, k, h, r, e => by simp [T.nk] at e
  | .frl ts, v, u, k, h, r, e => by simp [T.nk] at e
  | .dk _ _, v, u, k, h, r, e => by simp [T.nk] at e
  | .dt _ _, v, u, k, h, r, e => by simp [T.nk] at e
  | .obj _ _ _, v, u, k, h, r, e => by simp [T.nk] at e
theorem nks_is (I : Inv X pins σ H s) : ∀ {ts : List T} {vs : List V} {us : List Value} {ks : List NestedKey}, Rps X.K H ts vs → Vals vs us → T.nks ts = some ks → NestedAll s.heap ks us
  | [], vs, us, ks, h, r, e => by
    simp only [Rps] at h; simp only [T.nks, Option.some.injEq] at e; subst h; subst e; cases r; exact .nil
  | t :: ts, vs, us, ks, h, r, e => by
    simp only [Rps] at h
    obtain ⟨v, ws, rfl, h1, h2⟩ := h
    simp only [T.nks] at e
    split at e
    · rename_i k ks' e1 e2
      simp only [Option.some.injEq] at e; subst e
      cases r with
      | cons r1 r2 => exact .cons (nk_is I h1 r1 e1) (nks_is I h2 r2 e2)
    · cases e
end
end
/-- pairs of a key, a tuple, and anything -/
def prs : List T → Option (List NestedKey × List T × List T)
  | [] => some ([], [], [])
  | .tup [.tup k, v] :: r => match (T.tup k).nk, prs r with
    | some q, some (qs, ks, vs) => some (q :: qs, .tup k :: ks, v :: vs)
    | _, _ => none
  | _ :: _ => none
/-- dict(xs), xs a list of pairs whose keys are tuples, all different -/
def dictF : List T → Option O
  | [.lst ts] => match prs ts with
    | some (qs, ks, vs) => if qs.Nodup ∧ (∀ q ∈ qs, q.depth ≤ 8) ∧ ts.length ≤ sizeLine then some (.d (.dt ks vs)) else none
    | none => none
  | _ => none
def rDictL (K : PySem.W.Frag) : List V → Hp → VK → Prop := fun xs H Q => ∃ (a : Addr) (ts : List T) (vs : List V) (qs : List NestedKey) (ks vv : List T) (G : Hp), xs = [V.ref a] ∧ H a = some (.lst vs) ∧ Ex G H ∧ Rps K G ts vs ∧ prs ts = some (qs, ks, vv) ∧ qs.Nodup ∧ (∀ q ∈ qs, q.depth ≤ 8) ∧ ts.length ≤ sizeLine ∧
  ∀ (d : Addr) (es : Array DictEntry) (ep : Nat) (kv wv : List V), H d = none → Rps K G ks kv → Rps K G vv wv → ER es kv wv → Q (.ref d) (upd H d (rawD d es ep))
theorem storedAll_nodup : ∀ (ps xs : List (NestedKey × Addr × Value)), (xs ++ ps).map (·.1) |>.Nodup → storedAllH xs ps = xs ++ ps
  | [], xs, _ => by simp [storedAllH]
  | p :: ps, xs, h => by
    have hn : atKey xs p.1 = none := by
      cases e : atKey xs p.1 with
      | none => rfl
      | some q =>
        exfalso
        have hm : p.1 ∈ xs.map (·.1) := by
          have : ∀ l : List (NestedKey × Addr × Value), atKey l p.1 = some q → p.1 ∈ l.map (·.1) := by
            intro l
            induction l with
            | nil => intro z; simp [atKey] at z
            | cons x l ih =>
              intro z
              by_cases hx : x.1 = p.1
              · simp [hx]
              · simp only [atKey] at z
                have := ih (by simpa [atKey, hx] using z)
                simp [this]
          exact this xs e
        rw [List.map_append, List.nodup_append] at h
        exact h.2.2 _ hm _ (by simp) rfl
    show storedAllH (storedH xs p.1 p.2.1 p.2.2) ps = _
    rw [storedH_new hn, storedAll_nodup ps (xs ++ [(p.1, p.2.1, p.2.2)]) (by simpa using h)]
    simp
/-- a pair as it lies -/
structure PrE where
  q : NestedKey
  b : Addr
  c : Addr
  y : V
  u : Value
section
variable {X : Cx} {pins : List (Addr × Obj)} {σ : L2.St} {H G : Hp} {s : Shared}
theorem prs_data (I : Inv X pins σ H s) (g : Ex G H) : ∀ {ts : List T} {vs : List V} {its : List Value} {qs : List NestedKey} {ks vv : List T}, Rps X.K G ts vs → Vals vs its → prs ts = some (qs, ks, vv) → (∀ q ∈ qs, q.depth ≤ 8) →
    ∃ L : List PrE, (∀ e ∈ L, H e.b = some (.tup [.ref e.c, e.y]) ∧ PairAt s.heap e.b (.ref e.c) e.u ∧ RelV e.y e.u ∧ (nestedKind X.prog X.w).is s.heap e.q e.c) ∧ qs = L.map (·.q) ∧ vs = L.map (fun e => V.ref e.b) ∧ its = L.map (fun e => Value.ref e.b) ∧ Rps X.K G ks (L.map fun e => V.ref e.c) ∧ Rps X.K G vv (L.map (·.y))
  | [], vs, its, qs, ks, vv, h, r, e, _ => by
    simp only [prs, Option.some.injEq, Prod.mk.injEq] at e
    obtain ⟨rfl, rfl, rfl⟩ := e
    simp only [Rps] at h; subst h; cases r
    exact ⟨[], by simp, rfl, rfl, rfl, Rps.nil, Rps.nil⟩
  | t :: ts, vs, its, qs, ks, vv, h, r, e, hd => by
    simp only [Rps] at h
    obtain ⟨v, ws, rfl, h1, h2⟩ := h
    unfold prs at e
    split at e
    · cases ‹_ = []›
    · rename_i k w r' heq
      simp only [List.cons.injEq] at heq
      obtain ⟨rfl, rfl⟩ := heq
      split at e
      · rename_i q qs' ks' vs' e1 e2
        simp only [Option.some.injEq, Prod.mk.injEq] at e
        obtain ⟨rfl, rfl, rfl⟩ := e
        cases r with
        | cons r1 r2 =>
          obtain ⟨L, l1, l2, l3, l4, l5, l6⟩ := prs_data I g h2 r2 e2 (fun q hq => hd q (List.mem_cons_of_mem _ hq))
          simp only [Rp] at h1
          obtain ⟨b, us, rfl, h3, h4⟩ := h1
          simp only [Rps] at h4
          obtain ⟨x, _, rfl, h5, y, _, rfl, h6, rfl⟩ := h4
          have h5' := h5
          simp only [Rp] at h5
          obtain ⟨c, cs, rfl, h7, h8⟩ := h5
          have hb := g _ _ h3
          obtain ⟨_, its', rv, o, ho, hc, n, hdt⟩ := (show ObjOk X.prog X.w H s.heap b (.tup [.ref c, y]) from I.hok b _ hb)
          cases r1
          cases rv with
          | cons ra rb =>
            cases rb with
            | cons rb rc =>
              cases rc
              cases ra
              rename_i u
              refine ⟨⟨q, b, c, y, u⟩ :: L, fun e he => ?_, by simp [l2], by simp [l3], by simp [l4], ?_, ?_⟩
              · rcases List.mem_cons.mp he with rfl | he
                · exact ⟨hb, .inl ⟨o, ho, hc, n, hdt⟩, rb, nk_is I (Rp.mono g h5') (show RelV (.ref c) (.ref c) from rfl) e1, hd q (by simp)⟩
                · exact l1 e he
              · exact Rps.cons h5' l5
              · exact Rps.cons h6 l6
      · cases e
    · cases e
theorem dictL_op (hc : X.calm = true) (hu : X.A.units + 64 < cLine) : CallR X (.type "dict") (rDictL X.K) := by
  intro pins s σ H xs us Q I r h
  obtain ⟨a, ts, vs, qs, ks, vv, G, rfl, hl, g, hr, hp, hnd, hdp, hz, q⟩ := h
  obtain ⟨u, rfl, rx⟩ := vals1 r
  cases rx
  obtain ⟨its, rv, ⟨o, n, ho, hc1, hc2, hc3⟩, _⟩ := I.list (SqL.of hl)
  obtain ⟨L, l1, l2, l3, l4, l5, l6⟩ := prs_data I g hr rv hp hdp
  have hlen : L.length = ts.length := by rw [hr.length, l3]; simp
  have P := PairArg.list (prog := X.prog) (w := X.w) a its.toArray (fun j => ((L.map (·.b))[j]?).getD 0) (L.map fun e => (Value.ref e.c, e.u))
  have ok : PlainSeq "list" s.heap a its.toArray ∧ PairItems s.heap its.toArray (fun j => ((L.map (·.b))[j]?).getD 0) (L.map fun e => (Value.ref e.c, e.u)) := by
    refine ⟨⟨o, n, ho, hc1, hc2, hc3⟩, by simp [l4], fun j k v hj => ?_⟩
    rw [List.getElem?_map, Option.map_eq_some_iff] at hj
    obtain ⟨e, he, e2⟩ := hj
    obtain ⟨rfl, rfl⟩ := Prod.mk.inj e2
    obtain ⟨_, h2, _⟩ := l1 e (List.mem_of_getElem? he)
    have eb : ((L.map (·.b))[j]?).getD 0 = e.b := by rw [List.getElem?_map, he]; rfl
    refine ⟨?_, by show PairAt s.heap (((L.map (·.b))[j]?).getD 0) _ _; rw [eb]; exact h2⟩
    show its.toArray[j]? = some (.ref (((L.map (·.b))[j]?).getD 0))
    rw [eb, l4]
    simp [he]
  have hn : (L.map fun e => (Value.ref e.c, e.u)).length ≤ sizeLine := by rw [List.length_map, hlen]; exact hz
  refine call_dict_pairsH (knd := nestedKind X.prog X.w) (ps := L.map fun e => (e.q, e.c, e.u)) P (I.ok.hd hc) (by show X.A.in1.in1.units + 8 < cLine; show X.A.units + 1 + 1 + 8 < cLine; omega) ok ⟨by simp, fun i key v hi => ?_⟩ (fun h' hk x hx => ?_) hn fun h' tk hd hk => ?_
  · have hi : (L.map fun e => (Value.ref e.c, e.u))[i]? = some (key, v) := hi
    rw [List.getElem?_map, Option.map_eq_some_iff] at hi
    obtain ⟨e, he, e2⟩ := hi
    obtain ⟨rfl, rfl⟩ := Prod.mk.inj e2
    exact ⟨e.q, e.c, by simp [he], rfl⟩
  · obtain ⟨e, he, rfl⟩ := List.mem_map.mp hx
    exact nestedKind_stays.stays (fun b ob vs n h1 _ => hk b ob (Nat.ne_of_lt (Heap.lt_size h1)) (by simp) h1) (l1 e he).2.2.2
  · have kept : ∀ b o, s.heap.get? b = some o → h'.get? b = some o := fun b o e => hk b o (by simp) e
    rw [storedAll_nodup _ _ (by simpa [Function.comp_def, l2] using hnd), List.nil_append] at hd
    obtain ⟨es, ep, hraw, hsz, hent⟩ := hd.raw
    rw [List.length_map] at hsz
    have hsys : ((s.heap.objs.size : Addr) == sysModules) = false := by
      cases hb : ((s.heap.objs.size : Addr) == sysModules) with
      | false => rfl
      | true => exact absurd (beq_iff_eq.mp hb) (Ne.symm (Nat.ne_of_lt (Inv.big I)))
    have new : ObjOk X.prog X.w (upd H s.heap.objs.size (rawD s.heap.objs.size es ep)) h' s.heap.objs.size (rawD s.heap.objs.size es ep) := by
      refine ⟨⟨hraw, hsys, by rw [hsz, hlen]; exact hz⟩, ?_, fun h1 h2 p kp => ⟨p.1.at kp, p.2⟩⟩
      obtain ⟨od, hod, _⟩ := hraw
      exact ⟨od, hod⟩
    refine ⟨.ref s.heap.objs.size, _, I.laid (t' := tk) kept (Nat.le_refl _) new, rfl, q _ es ep _ _ (I.hok.fresh (Nat.le_refl _)) l5 l6 ⟨by simp [hsz], by simp, fun i hi k v h1 h2 => ?_⟩⟩
    obtain ⟨y, e1, e2, e3, _⟩ := hent i hi
    rw [List.getElem?_map, Option.map_eq_some_iff] at e1 h1 h2
    obtain ⟨e, he, rfl⟩ := e1
    obtain ⟨e', he', rfl⟩ := h1
    obtain ⟨e'', he'', rfl⟩ := h2
    rw [he] at he' he''
    cases he'; cases he''
    exact ⟨by rw [e2]; rfl, by rw [e3]; exact (l1 e (List.mem_of_getElem? he)).2.2.1⟩
end
end FL

/-! FL14: dicts walked by items, by values. -/
namespace FL
open PySem L2 PyProof.Rows

section
variable {X : Cx} {W : WX} {e : Expr} {da : DA} {p pos : Pos} {K : PySem.W.Frag}
theorem dict_ok : CaK K (rDictL K) dictF := by
  intro W B ρ G α σ H Q xs vs rs p q
  unfold dictF at q
  split at q
  · rename_i ts
    obtain ⟨v, ws, rfl, q2, rfl⟩ := p
    obtain ⟨a, us, rfl, h1, h2⟩ := q2
    split at q
    · rename_i qs ks vv e1
      split at q
      · rename_i hc
        refine ⟨a, ts, us, qs, ks, vv, G, rfl, h1, rs.gh, h2, e1, hc.1, hc.2.1, hc.2.2, fun d es ep kv wv hd r1 r2 er => ?_⟩
        obtain ⟨r3, g⟩ := rs.newD (o := rawD d es ep) hd
        refine q _ α _ g r3 _ ?_
        show Rp K _ (.dt ks vv) _
        simp only [Rp]
        exact ⟨d, es, ep, kv, wv, rfl, upd_same, er, Rps.mono g.ex r1, Rps.mono g.ex r2⟩
      · exact q.elim
    · exact q.elim
  · exact q.elim
theorem fe_dict (hc : X.calm = true) (hu : X.A.units + 64 < cLine) (hg : Gl X "dict") (hm : X.mg "dict" = none) (ha : SA X W [e] da) (he : starEach [e] X.env = [(false, eval e X.env)] := by rfl) : SE X W (.Call (.Name "dict" p) [e] [] pos) (mCa dictF da) :=
  fe_callTy (dictL_op hc hu) dict_ok hg hm (by decide +kernel) ha (by decide) (by decide) he rfl
end

def Itir (d : Addr) (es : Array DictEntry) (ep : Nat) (ks vs : List V) : It :=
  ⟨fun i H => H d = some (rawD d es ep) ∧ i < es.size, fun i H x H' => ∃ p k v, x = .ref p ∧ ks[i]? = some k ∧ vs[i]? = some v ∧ H p = none ∧ H' = upd H p (.tup [k, v]), fun i H => H d = some (rawD d es ep) ∧ es.size ≤ i⟩
def Itvr (d : Addr) (es : Array DictEntry) (ep : Nat) (vs : List V) : It :=
  ⟨fun i H => H d = some (rawD d es ep) ∧ i < es.size, fun i H x H' => H' = H ∧ vs[i]? = some x, fun i H => H d = some (rawD d es ep) ∧ es.size ≤ i⟩
theorem rawD_at {P : Program} {w : World} {H : Hp} {h : Heap} {d : Addr} {es : Array DictEntry} {ep : Nat} (ok : HOk P w H h) (e : H d = some (rawD d es ep)) : h.DictRaw d es ep ∧ (d == sysModules) = false ∧ es.size ≤ sizeLine := (ok d _ e).1
theorem ER.at {es : Array DictEntry} {ks vs : List V} (er : ER es ks vs) {i : Nat} (hi : i < es.size) : ∃ k v, ks[i]? = some k ∧ vs[i]? = some v ∧ RelV k es[i].key ∧ RelV v es[i].val := by
  obtain ⟨h1, h2, h3⟩ := er
  have a1 : i < ks.length := by omega
  have a2 : i < vs.length := by omega
  obtain ⟨q1, q2⟩ := h3 i hi ks[i] vs[i] (List.getElem?_eq_getElem a1) (List.getElem?_eq_getElem a2)
  exact ⟨_, _, List.getElem?_eq_getElem a1, List.getElem?_eq_getElem a2, q1, q2⟩
section
variable {P : Program} {w : World} {K : PySem.W.Frag} {d : Addr} {es : Array DictEntry} {ep : Nat} {ks vs : List V}
theorem turn_itemsR {elts : List Expr} {kk : Nat} {tpos : Pos} (it : Addr) (er : ER es ks vs) :
    Turn P w K (.Tuple elts kk tpos) (Itir d es ep ks vs) [it] it (fun i h => ∃ ok ov, IsItemIter h it d i es.size ep ok ov) where
  mem := by simp
  obj := fun i h st b hb => by
    have e : b = it := by simpa using hb
    subst e
    obtain ⟨ok, ov, e⟩ := st
    exact ⟨_, e, fun v z => by cases z⟩
  keep := fun i h h' st k => let ⟨ok, ov, e⟩ := st; ⟨ok, ov, k it (by simp) _ e⟩
  item := by
    intro X hP hw hK hc i pins s σ H E I hf st hg
    subst hP hw hK
    obtain ⟨hd, hi⟩ := hg
    obtain ⟨hraw, _, _⟩ := rawD_at I.hok hd
    obtain ⟨k, v, hk1, hv1, rk, rv⟩ := er.at hi
    obtain ⟨ok, ov, he⟩ := st
    have hlt : it < s.heap.objs.size := Heap.lt_size he
    refine wpAny_pyNext_items_item_raw he hraw hi fun h' ho hT hz hk => ?_
    refine ⟨_, rfl, wpAny_letOwnedTupleGo_items (s := { s with heap := h' }) ho fun h'' he' sb => ?_⟩
    have hT2 : h''.get? s.heap.objs.size = some { cls := .type "tuple", data := .seq #[es[i].key, es[i].val] } := (sb.2 _ (Nat.ne_of_gt hlt)).trans hT
    have new : ObjOk X.prog X.w (upd H s.heap.objs.size (.tup [k, v])) h'' s.heap.objs.size (.tup [k, v]) :=
      ⟨by show 2 ≤ sizeLine; decide, [es[i].key, es[i].val], .cons rk (.cons rv .nil), ⟨_, hT2, rfl, _, rfl⟩⟩
    have I1 : Inv X pins σ (upd H s.heap.objs.size (.tup [k, v])) { s with heap := h'' } :=
      I.turnedNew (t' := s.toks) (ch := [it]) (fun b ob hb e => (sb.2 b (by simpa using hb)).trans (hk b ob (by simpa using hb) e)) hf (Nat.le_refl _) new
    refine ⟨.ref s.heap.objs.size, _, I1, rfl, ⟨_, k, v, rfl, hk1, hv1, I.hok.fresh (Nat.le_refl _), rfl⟩, ⟨_, _, he'⟩, fun b hb => ?_⟩
    have e : b = it := by simpa using hb
    rw [e, upd_ne (Nat.ne_of_lt hlt)]
    exact (hf it (by simp)).1
  done := by
    intro X hP hw hK hc i pins s σ H E I hf st hg
    subst hP hw hK
    obtain ⟨hd, hi⟩ := hg
    obtain ⟨f0, f1, f2, f3, f4, f5⟩ := hf it (by simp)
    obtain ⟨hraw, _, _⟩ := rawD_at I.hok hd
    obtain ⟨ok, ov, he⟩ := st
    exact wpAny_pyNext_items_end_raw (I.ok.hd hc) he hraw hi fun h' eb => ⟨rfl, I.turned (t' := s.toks) (fun b ob hb e => eb b ob hb e) f0 f1 f3 f4 f5⟩
  self := fun A i s Q E st h => let ⟨_, _, e⟩ := st; wpAny_pyIter_itemiter e h
theorem turn_valsR {tg : Expr} (it : Addr) (er : ER es ks vs) : Turn P w K tg (Itvr d es ep vs) [it] it (fun i h => h.IsValIter it d i es.size ep) where
  mem := by simp
  obj := fun i h st b hb => by
    have e : b = it := by simpa using hb
    subst e
    obtain ⟨oi, e, c, dd⟩ := st
    exact ⟨oi, e, fun v z => by rw [dd] at z; cases z⟩
  keep := fun i h h' st k => st.at fun oi e => k it (by simp) oi e
  item := by
    intro X hP hw hK hc i pins s σ H E I hf st hg
    subst hP hw hK
    obtain ⟨hd, hi⟩ := hg
    obtain ⟨f0, f1, f2, f3, f4, f5⟩ := hf it (by simp)
    obtain ⟨hraw, _, _⟩ := rawD_at I.hok hd
    obtain ⟨k, v, hk1, hv1, rk, rv⟩ := er.at hi
    refine wpAny_pyNext_values_item_raw st hraw hi fun h' st' sb => ?_
    have I1 : Inv X pins σ H { s with heap := h' } := I.turned (t' := s.toks) (fun b ob hb e => (sb.2 b hb).trans e) f0 f1 f3 f4 f5
    obtain ⟨oi, e, c, dd⟩ := id st'
    exact ⟨_, rfl, go_of (s := { s with heap := h' }) e c dd (by decide) ⟨v, H, I1, rv, ⟨rfl, hv1⟩, st', fun b hb => (hf b hb).1⟩⟩
  done := by
    intro X hP hw hK hc i pins s σ H E I hf st hg
    subst hP hw hK
    obtain ⟨hd, hi⟩ := hg
    obtain ⟨f0, f1, f2, f3, f4, f5⟩ := hf it (by simp)
    obtain ⟨hraw, _, _⟩ := rawD_at I.hok hd
    exact wpAny_pyNext_values_end_raw (I.ok.hd hc) st hraw hi fun h' eb => ⟨rfl, I.turned (t' := s.toks) (fun b ob hb e => eb b ob hb e) f0 f1 f3 f4 f5⟩
  self := fun A i s Q E st h => wpAny_pyIter_valiter st h
end
section
variable {X : Cx} {tg e : Expr} {apos cpos : Pos} {td : TE}
def iItR (td : TE) : TI := fun σ H R => td σ H fun x H1 => ∃ d es ep ks vs, x = .ref d ∧ H1 d = some (rawD d es ep) ∧ ER es ks vs ∧ R (Itir d es ep ks vs) H1
def iVaR (td : TE) : TI := fun σ H R => td σ H fun x H1 => ∃ d es ep ks vs, x = .ref d ∧ H1 d = some (rawD d es ep) ∧ ER es ks vs ∧ R (Itvr d es ep vs) H1
theorem pi_itemsR {elts : List Expr} {kk : Nat} {tpos : Pos} (he : PE X e td) (hbase : attributeBase e "items" X.env (eval e X.env) = eval e X.env := by rfl) (hline : (apos.endLine == cpos.line) = true := by rfl) :
    PI X (.Tuple elts kk tpos) (.Call (.Attribute e "items" apos) [] [] cpos) (iItR td) := by
  refine ⟨fun pins s σ H R I h => ?_⟩
  refine wpAny_Call_method (T := "dict") (id := "dict.items") hbase rfl hline F.plainAttrs_dict F.slot_dict_items F.type_dict_items (thn (he.run pins s σ H _ I h) fun u s1 ⟨x, H1, I1, rx, d, es, ep, ks, vs, ex, hd, er, q⟩ => ?_)
  subst ex
  obtain rfl : u = Value.ref d := rx
  obtain ⟨hraw, hs, hz⟩ := rawD_at I1.hok hd
  have I2 : Inv X pins σ H1 { s1 with heap := s1.heap.push { cls := .type "dict_items", data := .fields #[.ref d] } } := I1.kept (t' := s1.toks) fun b ob q => Heap.get?_push_of_some _ q
  refine ⟨hraw.typeIs, ?_, ?_⟩
  · obtain ⟨o, ho, hx, _⟩ := hraw
    exact fun b hb => by cases hb; exact ⟨o, ho, hx.2.1⟩
  have hraw2 : (s1.heap.push { cls := .type "dict_items", data := .fields #[.ref d] }).DictRaw d es ep := hraw.at fun o e => Heap.get?_push_of_some _ e
  have fin : wpAny (model X.prog X.w) X.A (pyIter (.ref s1.heap.objs.size)) (PIE X pins σ (.Tuple elts kk tpos) R) X.xe { s1 with heap := s1.heap.push { cls := .type "dict_items", data := .fields #[.ref d] } } :=
    wpAny_pyIter_items_raw (d := d) ⟨_, Heap.get?_push_size _ rfl, rfl, rfl⟩ hraw2 (pi_one (tk := s1.toks) I2 _ (turn_itemsR _ er) ⟨.none, .none, Heap.get?_push_size _ rfl⟩ q)
  show wpAny _ _ (callWith cpos (.builtin "dict.items") [.ref d] [] []) _ X.xe s1
  exact method_meetsIn F.slot_dict_items F.entry_dict_items rfl (PySem.evalArgs_none ⟨rfl, hraw.typeIs, F.args_dict_items_1 _, _, meets_dict_items_raw d hs, ⟨es, ep, hraw⟩, fin⟩)
theorem pi_valuesR (he : PE X e td) (hbase : attributeBase e "values" X.env (eval e X.env) = eval e X.env := by rfl) (hline : (apos.endLine == cpos.line) = true := by rfl) :
    PI X tg (.Call (.Attribute e "values" apos) [] [] cpos) (iVaR td) := by
  refine ⟨fun pins s σ H R I h => ?_⟩
  refine wpAny_Call_method (T := "dict") (id := "dict.values") hbase rfl hline F.plainAttrs_dict F.slot_dict_values F.type_dict_values (thn (he.run pins s σ H _ I h) fun u s1 ⟨x, H1, I1, rx, d, es, ep, ks, vs, ex, hd, er, q⟩ => ?_)
  subst ex
  obtain rfl : u = Value.ref d := rx
  obtain ⟨hraw, hs, hz⟩ := rawD_at I1.hok hd
  have I2 : Inv X pins σ H1 { s1 with heap := s1.heap.push { cls := .type "dict_values", data := .fields #[.ref d] } } := I1.kept (t' := s1.toks) fun b ob q => Heap.get?_push_of_some _ q
  refine ⟨hraw.typeIs, ?_, ?_⟩
  · obtain ⟨o, ho, hx, _⟩ := hraw
    exact fun b hb => by cases hb; exact ⟨o, ho, hx.2.1⟩
  have hraw2 : (s1.heap.push { cls := .type "dict_values", data := .fields #[.ref d] }).DictRaw d es ep := hraw.at fun o e => Heap.get?_push_of_some _ e
  have fin : wpAny (model X.prog X.w) X.A (pyIter (.ref s1.heap.objs.size)) (PIE X pins σ tg R) X.xe { s1 with heap := s1.heap.push { cls := .type "dict_values", data := .fields #[.ref d] } } :=
    wpAny_pyIter_values_raw (d := d) ⟨_, Heap.get?_push_size _ rfl, rfl, rfl⟩ hraw2 (pi_one (tk := s1.toks) I2 _ (turn_valsR _ er) ⟨_, Heap.get?_push_size _ rfl, rfl, rfl⟩ q)
  show wpAny _ _ (callWith cpos (.builtin "dict.values") [.ref d] [] []) _ X.xe s1
  exact method_meetsIn F.slot_dict_values F.entry_dict_values rfl (PySem.evalArgs_none ⟨rfl, hraw.typeIs, F.args_dict_values_1 _, _, meets_dict_values_raw d hs, ⟨es, ep, hraw⟩, fin⟩)
end
def pairT : List T → List T → List T
  | k :: ks, v :: vs => .tup [k, v] :: pairT ks vs
  | _, _ => []
theorem pairT_get : ∀ {ks vs : List T} {i : Nat} {k v : T}, ks[i]? = some k → vs[i]? = some v → (pairT ks vs)[i]? = some (.tup [k, v])
  | [], _, i, k, v, h, _ => by simp at h
  | _ :: _, [], i, k, v, _, h => by simp at h
  | a :: ks, b :: vs, 0, k, v, h, g => by simp at h g; subst h; subst g; simp [pairT]
  | a :: ks, b :: vs, i + 1, k, v, h, g => by simpa [pairT] using pairT_get (by simpa using h) (by simpa using g)
theorem pairT_len : ∀ {ks vs : List T}, ks.length = vs.length → (pairT ks vs).length = vs.length
  | [], [], _ => rfl
  | a :: ks, b :: vs, h => by simp [pairT, pairT_len (by simpa using h)]
section
variable {K : PySem.W.Frag} {G : Hp} {d : Addr} {es : Array DictEntry} {ep : Nat} {kv vv : List V} {ks vs : List T}
theorem wt_itemsR (h : G d = some (rawD d es ep)) (er : ER es kv vv) (r1 : Rps K G ks kv) (r2 : Rps K G vs vv) : WT K G (Itir d es ep kv vv) (pairT ks vs) := by
  have l1 := r1.length
  have l2 := r2.length
  have e : (pairT ks vs).length = es.size := by rw [pairT_len (by rw [l1, l2]; exact er.2.1), l2, er.1]; exact er.2.1.symm
  have w : Walk (Itir d es ep kv vv) es.size (fun H => Ex G H) (Yt K G (pairT ks vs)) := ⟨fun i H hi g => ⟨g _ _ h, hi⟩, fun H g => ⟨g _ _ h, Nat.le_refl _⟩, fun i H x H' hi g y => by
    obtain ⟨p, k, v, rfl, e1, e2, hp, rfl⟩ := y
    obtain ⟨k', e3, e4⟩ := r1.getV e1
    obtain ⟨v', e5, e6⟩ := r2.getV e2
    exact ⟨_, pairT_get e3 e5, .inr ⟨p, _, _, rfl, rfl, hp, rfl, Rps.cons e4 (Rps.cons e6 Rps.nil)⟩⟩⟩
  unfold WT; rw [e]; exact w
theorem wt_valuesR (h : G d = some (rawD d es ep)) (er : ER es kv vv) (r2 : Rps K G vs vv) : WT K G (Itvr d es ep vv) vs := by
  have l2 := r2.length
  have e : vs.length = es.size := by rw [l2, er.1]; exact er.2.1.symm
  have w : Walk (Itvr d es ep vv) es.size (fun H => Ex G H) (Yt K G vs) := ⟨fun i H hi g => ⟨g _ _ h, hi⟩, fun H g => ⟨g _ _ h, Nat.le_refl _⟩, fun i H x H' hi g y => by
    obtain ⟨rfl, e1⟩ := y
    obtain ⟨k', e3, e4⟩ := r2.getV e1
    exact ⟨_, e3, .inl ⟨rfl, e4⟩⟩⟩
  unfold WT; rw [e]; exact w
end
def iItD (m : DE) : DI := fun ρ => (m ρ).bind fun u ρ1 => match u with
  | .d (.dt ks vs) => .ok (pairT ks vs) ρ1
  | _ => .no
def iVaD (m : DE) : DI := fun ρ => (m ρ).bind fun u ρ1 => match u with
  | .d (.dt ks vs) => .ok vs ρ1
  | _ => .no
section
variable {X : Cx} {W : WX} {tg e : Expr} {apos cpos : Pos} {ma : DE}
theorem fi_items {elts : List Expr} {kk : Nat} {tpos : Pos} (he : SE X W e ma) (hbase : attributeBase e "items" X.env (eval e X.env) = eval e X.env := by rfl) (hline : (apos.endLine == cpos.line) = true := by rfl) :
    SI X W (.Tuple elts kk tpos) (.Call (.Attribute e "items" apos) [] [] cpos) (iItD ma) := pi_weak (pi_itemsR he hbase hline) fun σ H Q ⟨B, ρ, G, α, r, h⟩ => bE r h fun u ρ1 v H1 G1 α1 g1 r1 p1 h1 => by
  split at h1
  · rename_i ks vs
    have p1 : Rp X.K G1 (.dt ks vs) v := p1
    simp only [Rp] at p1
    obtain ⟨d, es, ep, kv, vv, rfl, q2, q3, q4, q5⟩ := p1
    exact ⟨d, es, ep, kv, vv, rfl, r1.gh _ _ q2, q3, h1 G1 α1 H1 Gr.refl r1 _ (wt_itemsR q2 q3 q4 q5)⟩
  · exact h1.elim
theorem fi_values (he : SE X W e ma) (hbase : attributeBase e "values" X.env (eval e X.env) = eval e X.env := by rfl) (hline : (apos.endLine == cpos.line) = true := by rfl) :
    SI X W tg (.Call (.Attribute e "values" apos) [] [] cpos) (iVaD ma) := pi_weak (pi_valuesR he hbase hline) fun σ H Q ⟨B, ρ, G, α, r, h⟩ => bE r h fun u ρ1 v H1 G1 α1 g1 r1 p1 h1 => by
  split at h1
  · rename_i ks vs
    have p1 : Rp X.K G1 (.dt ks vs) v := p1
    simp only [Rp] at p1
    obtain ⟨d, es, ep, kv, vv, rfl, q2, q3, q4, q5⟩ := p1
    exact ⟨d, es, ep, kv, vv, rfl, r1.gh _ _ q2, q3, h1 G1 α1 H1 Gr.refl r1 _ (wt_valuesR q2 q3 q5)⟩
  · exact h1.elim
end
end FL

/-! FL15: isinstance, constants, dicts with text keys, while, texts. -/
namespace FL
open PySem L2 PyProof.Rows

section
variable {X : Cx} {W : WX} {e a b c i o v : Expr} {es : List Expr} {ma mb mc mi mo mv : DE} {da : DA} {ta : DT} {p p' pos : Pos} {K : PySem.W.Frag}
/-! code that is never reached -/
def mNo : DS := fun _ => .no
theorem fs_never {st : Stmt} : SS X W st mNo := ps_weak ps_never fun D σ H ⟨B, ρ, G, α, r, h⟩ => h
theorem fss_never {st : List Stmt} : SSs X W st mNo := pss_weak pss_never fun D σ H ⟨B, ρ, G, α, r, h⟩ => h
def eNo : DE := fun _ => .no
theorem fe_never : SE X W e eNo := ⟨fun pins s σ H Q I ⟨B, ρ, G, α, r, h⟩ => h.elim⟩

/-! isinstance of a built-in class -/
inductive Kd where
  | non | bl | int | str | tup | lst | dct | obj
def T.kd : T → Kd
  | .non => .non | .bl _ => .bl | .int _ => .int | .str _ => .str | .tup _ => .tup | .ktp _ => .tup | .lst _ => .lst | .frl _ => .lst | .dk _ _ => .dct | .dt _ _ => .dct | .obj _ _ _ => .obj
def Kd.name : Kd → String
  | .non => "NoneType" | .bl => "bool" | .int => "int" | .str => "str" | .tup => "tuple" | .lst => "list" | .dct => "dict" | .obj => "object"
/-- the answer -/
def isiB (n : String) : Kd → Option Bool
  | .obj => none
  | k => kitB k.name n
theorem sq_ty {G H : Hp} {a : Addr} {xs : List V} (g : Ex G H) (h : SqT K G a xs) : TyX K H (.ref a) (.type "tuple") := by
  rcases h with (h | ⟨o, h⟩) | ⟨o, its, n, h, hc, _⟩
  · exact .base (.tup (g _ _ h))
  · exact .fTuple (g _ _ h)
  · exact .kTuple h hc
theorem sl_ty {G H : Hp} {a : Addr} {xs : List V} (g : Ex G H) (h : SqL K G a xs) : TyX K H (.ref a) (.type "list") := by
  rcases h with (h | ⟨o, h⟩) | ⟨o, its, n, h, hc, _⟩
  · exact .base (.lst (g _ _ h))
  · exact .base (.frz (g _ _ h))
  · exact .kList h hc
theorem ty_of {G H : Hp} {t : T} {v : V} (g : Ex G H) (h : Rp1 K G H t v) (hn : t.kd ≠ .obj) (hd : ∀ ks ts, t ≠ .dt ks ts) : TyX K H v (.type t.kd.name) := by
  cases t with
  | non => have : v = .non := by simpa [Rp1, Rp] using h
           subst this; exact .base .non
  | bl b => have : v = .bl b := by simpa [Rp1, Rp] using h
            subst this; exact .base (.bl b)
  | int b => have : v = .int b := by simpa [Rp1, Rp] using h
             subst this; exact .base (.int b)
  | str b => have : v = .str b := by simpa [Rp1, Rp] using h
             subst this; exact .base (.str b)
  | tup ts => obtain ⟨a, vs, rfl, h1, _⟩ := h.tup; exact sq_ty g (SqT.of h1)
  | ktp ts => obtain ⟨a, vs, rfl, h1, _⟩ := h.ktp; exact sq_ty g h1
  | lst ts => obtain ⟨a, vs, rfl, h1, _⟩ := h; exact .base (.lst h1)
  | frl ts => have h : Rp K G (.frl ts) v := h
              simp only [Rp] at h; obtain ⟨a, vs, rfl, h1, _⟩ := h; exact sl_ty g h1
  | dk ks ts => obtain ⟨a, vs, rfl, h1, _⟩ := h; exact .base (.dK h1)
  | dt ks ts => exact absurd rfl (hd ks ts)
  | obj C ns ts => exact absurd rfl hn
def isDt : T → Bool
  | .dt _ _ => true | _ => false
def mIsi (n : String) (m : DE) : DE := fun ρ => (m ρ).bind fun u ρ1 => match pk ρ1.st u with
  | some t => if isDt t = true then .no else match isiB n t.kd with
    | some b => .ok (.d (.bl b)) ρ1
    | none => .no
  | none => .no
theorem fe_isi {x : Str} {n : String} {p2 : Pos} (hg : Gl X "isinstance") (hm : X.mg "isinstance" = none) (hgx : Gl X x) (hmx : X.mg x = none) (hv : bootBuiltins x = some (.type n)) (he : SE X W e ma) (hs : starEach [e, .Name x p2] X.env = (false, eval e X.env) :: starEach [.Name x p2] X.env := by rfl)
    (hnx : x ≠ "__name__" := by decide) (hdx : (x == ("__debug__" : Str)) = false := by decide) : SE X W (.Call (.Name "isinstance" p) [e, .Name x p2] [] pos) (mIsi n ma) :=
  pe_weak (pe_callB call_isi hg hm (by decide +kernel) (pa_cons he (pa_cons (pe_bltn (v := .ty n) hgx hmx hv rfl hnx hdx) pa_nil) hs) (by decide) (by decide) hs rfl) fun σ H Q ⟨B, ρ, G, α, r, h⟩ => by
    refine bE r h fun u ρ1 v H1 G1 α1 g1 r1 p1 h1 => ?_
    split at h1
    · rename_i t e1
      split at h1
      · exact h1.elim
      · rename_i hd
        split at h1
        · rename_i b e2
          have p2 := pk_ok r1.toRh p1 e1
          have hk : t.kd ≠ .obj := fun z => by rw [z] at e2; cases e2
          have hdt : ∀ ks ts, t ≠ .dt ks ts := fun ks ts z => hd (by rw [z]; rfl)
          refine ⟨v, .ty n, _, .type n, b, rfl, .ty n, ty_of r1.gh p2 hk hdt, ?_, h1 G1 α1 H1 Gr.refl r1 _ (by simp [RpU, Rp])⟩
          have e3 : kitB t.kd.name n = some b := by
            revert e2 hk
            cases t.kd <;> intro e2 hk <;> first | exact e2 | exact absurd rfl hk
          exact kit_ty e3
        · exact h1.elim
    · exact h1.elim

/-! constants of the module -/
theorem fe_glob {x : Str} {u : Value} {v : V} {t : T} (hg : Gl X x) (hm : X.mg x = some u) (r : RelV v u) (ht : Rp X.K (fun _ => none) t v) (hd : (x == ("__debug__" : Str)) = false := by decide) : SE X W (.Name x pos) (mC t) :=
  pe_weak (pe_glob hg hm r hd) (tE_C fun G => Rp.mono (fun a o h => by cases h) ht)

/-! while -/
def whileF (t : DT) (b : DS) : Nat → Sg → F
  | 0, _ => .no
  | n + 1, ρ => (t ρ).thn fun c ρ1 => if c = true then match b ρ1 with
      | .nx ρ2 => whileF t b n ρ2
      | .ct ρ2 => whileF t b n ρ2
      | .bk ρ2 => .nx ρ2
      | .rt u ρ2 => .rt u ρ2
      | .ex x ρ2 => .ex x ρ2
      | .no => .no
    else .nx ρ1
def mWhile (n : Nat) (t : DT) (b : DS) : DS := fun ρ => whileF t b n ρ
theorem fs_while {body : List Stmt} {b : DS} (n : Nat) (ct : Ct X W) (hc : ST X W c ta) (hb : SSs X W body b) : SS X W (.While c body [] pos) (mWhile n ta b) := ps_weak (ps_while ct.hp hc hb) fun D σ H ⟨B, ρ, G, α, r, h⟩ => by
  refine ⟨fun m σ' H' => ∃ ρ' G' α', Gr B G α G' α' ∧ Rs X.K B ρ' G' α' σ' H' ∧ okF X.K W B G' α' (whileF ta b m ρ') D, ⟨n, ρ, G, α, Gr.refl, r, h⟩, ?_⟩
  rintro m σ' H' ⟨ρ', G', α', g', r', ho⟩
  cases m with
  | zero => exact ho.elim
  | succ m =>
    refine sT r' ho fun c ρ1 H1 G1 α1 g1 r1 h1 => ?_
    cases c with
    | false => exact h1 G1 α1 σ' H1 Gr.refl r1
    | true =>
      rw [if_pos rfl] at h1 ⊢
      refine ⟨fun σ2 H2 => ∃ ρ2 G2 α2, Gr B G α G2 α2 ∧ Rs X.K B ρ2 G2 α2 σ2 H2 ∧ okF X.K W B G2 α2 (whileF ta b m ρ2) D, fun σ2 H2 q => ⟨m, Nat.lt_succ_self m, q⟩, B, ρ1, G1, α1, r1, ?_⟩
      have gg := g'.trans g1
      cases eb : b ρ1 with
      | nx ρ4 => rw [eb] at h1; exact fun G4 α4 σ4 H4 g4 r4 => ⟨ρ4, G4, α4, gg.trans g4, r4, okF.shift g4 h1⟩
      | ct ρ4 => rw [eb] at h1; exact fun G4 α4 σ4 H4 g4 r4 => ⟨ρ4, G4, α4, gg.trans g4, r4, okF.shift g4 h1⟩
      | bk ρ4 => rw [eb] at h1; exact h1
      | rt u ρ4 => rw [eb] at h1; exact h1
      | ex x ρ4 => rw [eb] at h1; exact h1
      | no => rw [eb] at h1; exact h1
end
end FL

/-! FL16: dicts with text and int keys of one's own; written dicts. -/
namespace FL
open PySem L2 PyProof.Rows

def dkGet : List Key → List T → Key → Option T
  | k :: ks, t :: ts, q => if k = q then some t else dkGet ks ts q
  | _, _, _ => none
def dkPut : List Key → List T → Key → T → List Key × List T
  | k :: ks, t :: ts, q, x => if k = q then (k :: ks, x :: ts) else ((k :: (dkPut ks ts q x).1), t :: (dkPut ks ts q x).2)
  | _, _, q, x => ([q], [x])
section
variable {K : PySem.W.Frag} {G : Hp}
theorem dkGet_ok : ∀ {ks : List Key} {ts : List T} {vs : List V} {q : Key} {t : T}, Rps K G ts vs → dkGet ks ts q = some t → ∃ v, valV (ks.zip vs) q = some v ∧ Rp K G t v
  | [], _, _, _, _, _, e => by simp [dkGet] at e
  | k :: ks, [], _, _, _, _, e => by simp [dkGet] at e
  | k :: ks, u :: ts, vs, q, t, h, e => by
    simp only [Rps] at h
    obtain ⟨v, ws, rfl, h1, h2⟩ := h
    simp only [dkGet] at e
    by_cases hk : k = q
    · rw [if_pos hk] at e; cases e
      exact ⟨v, valV_pos (p := (k, v)) hk, h1⟩
    · rw [if_neg hk] at e
      obtain ⟨w, h3, h4⟩ := dkGet_ok h2 e
      exact ⟨w, by rw [List.zip_cons_cons, valV_neg (p := (k, v)) hk]; exact h3, h4⟩
theorem putK_cons {k q : Key} {v x : V} {r : List (Key × V)} (hn : ∀ p ∈ r, p.1 ≠ k) : putK ((k, v) :: r) q x = if k = q then (k, x) :: r else (k, v) :: putK r q x := by
  unfold putK
  by_cases hk : k = q
  · subst hk
    have h1 : r.map (fun kv => if kv.1 = k then (kv.1, x) else kv) = r := by
      rw [List.map_congr_left (g := id) fun p hp => by rw [if_neg (hn p hp)]; rfl]; simp
    simp [h1]
  · rw [if_neg hk]
    by_cases ha : (r.any fun kv => decide (kv.1 = q)) = true
    · rw [if_pos (by rw [List.any_cons, ha, Bool.or_true]), if_pos ha]
      simp [hk]
    · rw [if_neg (by rw [List.any_cons]; simpa [hk] using ha), if_neg ha]
      rfl
theorem dkPut_keys : ∀ {ks : List Key} {ts : List T} {q : Key} {x : T}, ks.length = ts.length → ∀ k ∈ (dkPut ks ts q x).1, k ∈ ks ∨ k = q
  | [], [], q, x, _, k, h => by simp [dkPut] at h; exact .inr h
  | a :: ks, t :: ts, q, x, hl, k, h => by
    simp only [dkPut] at h
    split at h
    · exact .inl h
    · rcases List.mem_cons.mp h with rfl | h
      · exact .inl List.mem_cons_self
      · rcases dkPut_keys (by simpa using hl) k h with h | h
        · exact .inl (List.mem_cons_of_mem _ h)
        · exact .inr h
theorem dkPut_ok : ∀ {ks : List Key} {ts : List T} {vs : List V} {q : Key} {t : T} {v : V}, ks.Nodup → ks.length = vs.length → Rps K G ts vs → Rp K G t v →
    ∃ vs', putK (ks.zip vs) q v = (dkPut ks ts q t).1.zip vs' ∧ (dkPut ks ts q t).1.length = vs'.length ∧ Rps K G (dkPut ks ts q t).2 vs' ∧ (dkPut ks ts q t).1.length ≤ ks.length + 1
  | [], ts, vs, q, t, v, _, hl, h, hv => by
    have : vs = [] := List.length_eq_zero_iff.mp hl.symm
    subst this
    have ht : ts = [] := List.length_eq_zero_iff.mp h.length
    subst ht
    exact ⟨[v], by simp [putK, dkPut], by simp [dkPut], Rps.cons hv Rps.nil, by simp [dkPut]⟩
  | k :: ks, [], vs, q, t, v, _, hl, h, hv => by
    simp only [Rps] at h; subst h; simp at hl
  | k :: ks, u :: ts, vs, q, t, v, hn, hl, h, hv => by
    simp only [Rps] at h
    obtain ⟨w, ws, rfl, h1, h2⟩ := h
    rw [List.nodup_cons] at hn
    have hne : ∀ p ∈ ks.zip ws, p.1 ≠ k := fun p hp e => by
      have := (List.of_mem_zip (show (p.1, p.2) ∈ ks.zip ws from hp)).1
      rw [e] at this
      exact hn.1 this
    rw [List.zip_cons_cons, putK_cons hne]
    simp only [dkPut]
    by_cases hk : k = q
    · rw [if_pos hk, if_pos hk]
      exact ⟨v :: ws, by simp, by simpa using hl, Rps.cons hv h2, by simp⟩
    · rw [if_neg hk, if_neg hk]
      obtain ⟨vs', e1, e2, e3, e4⟩ := dkPut_ok (q := q) hn.2 (by simpa using hl) h2 hv
      exact ⟨w :: vs', by simp [e1], by simpa using e2, Rps.cons h1 e3, by simpa using e4⟩
end
def keyT : T → Option Key
  | .int i => some (.inl i)
  | .str x => some (.inr x)
  | _ => none
theorem keyT_ok {K : PySem.W.Frag} {G H : Hp} {t : T} {v : V} {q : Key} (h : Rp1 K G H t v) (e : keyT t = some q) : v = kV q := by
  cases t <;> simp only [keyT, reduceCtorEq, Option.some.injEq] at e <;> (subst e; simp only [Rp1, Rp] at h; subst h; rfl)

section
variable {X : Cx} {W : WX} {e a b c i o v : Expr} {es : List Expr} {ma mb mc mi mo mv : DE} {da : DA} {p p' pos : Pos} {K : PySem.W.Frag}
/-! d[k] -/
theorem ix_dict (hu : X.A.units + 1 < cLine) : IxR X (fun x y H Q => ∃ a v, x = V.ref a ∧ DGet H a y (some v) ∧ Q v H) := by
  intro value slice pins s σ H x y v u Q I rx ry h hs
  obtain ⟨a, w, rfl, g, q⟩ := h
  obtain rfl : v = Value.ref a := rx
  exact tail_any (dict_typeIs I g) slot_dict_getitem.lookup (d_getItem hu I g ry fun w' s3 I3 rw' => ⟨w, H, I3, rw', q⟩) hs
def ixDF (x y : T) : Option O := match x with
  | .dk ks ts => (keyT y).bind fun q => (dkGet ks ts q).map .d
  | _ => none
theorem ixD_ok : OpK K (fun x y H Q => ∃ a v, x = V.ref a ∧ DGet H a y (some v) ∧ Q v H) ixDF := by
  intro W B ρ G α σ H Q x y v w rs p1 p2 q
  unfold ixDF at q
  split at q
  · rename_i ks ts
    obtain ⟨a, vs, rfl, h1, h2, h3⟩ := p1
    cases e : keyT y with
    | none => rw [e] at q; exact q.elim
    | some k =>
      rw [e, Option.bind_some] at q
      cases e1 : dkGet ks ts k with
      | none => rw [e1] at q; exact q.elim
      | some t =>
        rw [e1] at q
        have := keyT_ok p2 e
        subst this
        obtain ⟨z, h4, h5⟩ := dkGet_ok h3 e1
        exact ⟨a, z, rfl, by have := DGet.k (k := k) h1; rw [h4] at this; exact this, fin_d rs q h5⟩
  · exact q.elim
def ixAF (x y : T) : Option O := (ixF x y).or (ixDF x y)
theorem fe_ixA (hu : X.A.units + 1 < cLine) (h : SE X W a ma) (g : SE X W b mb) (hs : PlainIx b := by exact fun _ _ => rfl) : SE X W (.Subscript a b pos) (mOp ixAF ma mb) := fe_ix (ix_seq.or (ix_dict hu)) (ix_ok.or ixD_ok) h g hs
/-! a written dict: k in D, D[k] for its own keys -/
structure KTab (K : PySem.W.Frag) (w : World) (a : Addr) (tab : List (Str × Int)) : Prop where
  at_ : ∀ z i, (z, i) ∈ tab → KDct K w a z (.int i)
  low : (a == sysModules) = false
  miss : ∀ z, (∀ p ∈ tab, p.1 ≠ z) → KMiss K w a z
def kIn (tab : List (Str × Int)) (t : T) : Option Bool := match t with
  | .str z => some (tab.any fun p => decide (p.1 = z))
  | _ => none
def mInK (tab : List (Str × Int)) (m : DE) : DE := fun ρ => (m ρ).bind fun u ρ1 => match u with
  | .d t => match kIn tab t with
    | some b => .ok (.d (.bl b)) ρ1
    | none => .no
  | _ => .no
theorem fe_inK {x : Str} {d : Addr} {tab : List (Str × Int)} {p2 : Pos} (kt : KTab X.K X.w d tab) (hg : Gl X x) (hm : X.mg x = some (.ref d)) (he : SE X W e ma) (hdx : (x == ("__debug__" : Str)) = false := by decide) (hb : behindInMarks .In (.Name x p2) = false := by rfl) : SE X W (.Compare e [.In] [.Name x p2] pos) (mInK tab ma) := by
  have op : OpR X (compareOp .In) (fun y z H Q => ∃ (s : Str), y = .str s ∧ z = .ref d ∧ ((∃ i : Int, KDct X.K X.w d s (.int i) ∧ Q (.bl true) H) ∨ (KMiss X.K X.w d s ∧ Q (.bl false) H))) := by
    intro pins s σ H y z v u Q I ry rz h
    obtain ⟨k, rfl, rfl, h⟩ := h
    obtain ⟨t, rfl⟩ := ry
    obtain rfl : u = Value.ref d := rz
    rcases h with ⟨i, ⟨es, n, u0, hl, hk, e, ru⟩, q⟩ | ⟨⟨es, n, hl, hk, _, e⟩, q⟩
    · have hm := PySem.W.mapOf_K (prog := X.prog) (w := X.w) I.kIn hl hk
      refine wpAny_in_of (strKind_is X.prog X.w k t) kt.low hm ?_
      rw [PySem.W.find_K hl e]
      exact ⟨.bl true, H, I.tok _, rfl, q⟩
    · have hm := PySem.W.mapOf_K (prog := X.prog) (w := X.w) I.kIn hl hk
      refine wpAny_in_of (strKind_is X.prog X.w k t) kt.low hm ?_
      rw [PySem.W.find_K hl e]
      exact ⟨.bl false, H, I.tok _, rfl, q⟩
  refine pe_weak (pe_cmpR op he (pe_glob (v := .ref d) hg hm rfl hdx) hb) fun σ H Q ⟨B, ρ, G, α, r, h⟩ => ?_
  refine bE r h fun u ρ1 v H1 G1 α1 g1 r1 p1 h1 => ?_
  split at h1
  · rename_i t
    split at h1
    · rename_i b e1
      unfold kIn at e1
      split at e1
      · rename_i z
        simp only [Option.some.injEq] at e1
        refine ⟨z, by simpa [RpU, Rp] using p1, rfl, ?_⟩
        cases ha : (tab.any fun p => decide (p.1 = z)) with
        | true =>
          rw [ha] at e1; subst e1
          obtain ⟨⟨z', i⟩, hm1, hm2⟩ := List.any_eq_true.mp ha
          have hz : z' = z := of_decide_eq_true hm2
          subst hz
          exact .inl ⟨i, kt.at_ _ _ hm1, h1 G1 α1 H1 Gr.refl r1 _ (by simp [RpU, Rp])⟩
        | false =>
          rw [ha] at e1; subst e1
          refine .inr ⟨kt.miss z fun p hp he => ?_, h1 G1 α1 H1 Gr.refl r1 _ (by simp [RpU, Rp])⟩
          rw [List.any_eq_false] at ha
          exact ha p hp (decide_eq_true he)
      · cases e1
    · exact h1.elim
  · exact h1.elim
theorem ft_inK {x : Str} {d : Addr} {tab : List (Str × Int)} {p2 : Pos} (kt : KTab X.K X.w d tab) (hg : Gl X x) (hm : X.mg x = some (.ref d)) (he : SE X W e ma) (hdx : (x == ("__debug__" : Str)) = false := by decide) (hb : behindInMarks .In (.Name x p2) = false := by rfl) : ST X W (.Compare e [.In] [.Name x p2] pos) (mTest (mInK tab ma)) := by
  have op : OpR X (compareOp .In) (fun y z H Q => ∃ (s : Str), y = .str s ∧ z = .ref d ∧ ((∃ i : Int, KDct X.K X.w d s (.int i) ∧ Q (.bl true) H) ∨ (KMiss X.K X.w d s ∧ Q (.bl false) H))) := by
    intro pins s σ H y z v u Q I ry rz h
    obtain ⟨k, rfl, rfl, h⟩ := h
    obtain ⟨t, rfl⟩ := ry
    obtain rfl : u = Value.ref d := rz
    rcases h with ⟨i, ⟨es, n, u0, hl, hk, e, ru⟩, q⟩ | ⟨⟨es, n, hl, hk, _, e⟩, q⟩
    · have hm := PySem.W.mapOf_K (prog := X.prog) (w := X.w) I.kIn hl hk
      refine wpAny_in_of (strKind_is X.prog X.w k t) kt.low hm ?_
      rw [PySem.W.find_K hl e]
      exact ⟨.bl true, H, I.tok _, rfl, q⟩
    · have hm := PySem.W.mapOf_K (prog := X.prog) (w := X.w) I.kIn hl hk
      refine wpAny_in_of (strKind_is X.prog X.w k t) kt.low hm ?_
      rw [PySem.W.find_K hl e]
      exact ⟨.bl false, H, I.tok _, rfl, q⟩
  refine pt_weak (pt_cmpR op he (pe_glob (v := .ref d) hg hm rfl hdx) hb) fun σ H Q h => ?_
  obtain ⟨B, ρ, G, α, r, h⟩ := tTest_of h
  refine bE r h fun u ρ1 v H1 G1 α1 g1 r1 p1 h1 => ?_
  split at h1
  · rename_i t
    split at h1
    · rename_i b e1
      unfold kIn at e1
      split at e1
      · rename_i z
        simp only [Option.some.injEq] at e1
        refine ⟨z, by simpa [RpU, Rp] using p1, rfl, ?_⟩
        cases ha : (tab.any fun p => decide (p.1 = z)) with
        | true =>
          rw [ha] at e1; subst e1
          obtain ⟨⟨z', i⟩, hm1, hm2⟩ := List.any_eq_true.mp ha
          have hz : z' = z := of_decide_eq_true hm2
          subst hz
          exact .inl ⟨i, kt.at_ _ _ hm1, h1 G1 α1 H1 Gr.refl r1 _ (by simp [RpU, Rp])⟩
        | false =>
          rw [ha] at e1; subst e1
          refine .inr ⟨kt.miss z fun p hp he => ?_, h1 G1 α1 H1 Gr.refl r1 _ (by simp [RpU, Rp])⟩
          rw [List.any_eq_false] at ha
          exact ha p hp (decide_eq_true he)
      · cases e1
    · exact h1.elim
  · exact h1.elim
def kIx (tab : List (Str × Int)) (t : T) : Option Int := match t with
  | .str z => (tab.find? (fun p => decide (p.1 = z))).map (·.2)
  | _ => none
def mIxK (tab : List (Str × Int)) (m : DE) : DE := fun ρ => (m ρ).bind fun u ρ1 => match u with
  | .d t => match kIx tab t with
    | some i => .ok (.d (.int i)) ρ1
    | none => .no
  | _ => .no
theorem fe_ixK {x : Str} {d : Addr} {tab : List (Str × Int)} {p2 : Pos} (kt : KTab X.K X.w d tab) (hg : Gl X x) (hm : X.mg x = some (.ref d)) (he : SE X W e ma) (hdx : (x == ("__debug__" : Str)) = false := by decide) (hs : PlainIx e := by exact fun _ _ => rfl) : SE X W (.Subscript (.Name x p2) e pos) (mIxK tab ma) :=
  pe_weak (pe_ix ix_kdict (pe_glob (v := .ref d) hg hm rfl hdx) he hs) fun σ H Q ⟨B, ρ, G, α, r, h⟩ => by
    refine bE r h fun u ρ1 v H1 G1 α1 g1 r1 p1 h1 => ?_
    split at h1
    · rename_i t
      split at h1
      · rename_i i e1
        unfold kIx at e1
        split at e1
        · rename_i z
          obtain ⟨⟨z', i'⟩, hm1, rfl⟩ := Option.map_eq_some_iff.mp e1
          have hz : z' = z := by simpa using List.find?_some hm1
          subst hz
          exact ⟨d, z', .int i', rfl, by simpa [RpU, Rp] using p1, kt.at_ _ _ (List.mem_of_find?_eq_some hm1), h1 G1 α1 H1 Gr.refl r1 _ (by simp [RpU, Rp])⟩
        · cases e1
      · exact h1.elim
    · exact h1.elim
/-! {k: v, ..}, texts for keys -/
def tPd (K : PySem.W.Frag) (W : WX) (ks : List Str) (da : DA) (σ : L2.St) (H : Hp) (Q : List (V × V) → Hp → Prop) : Prop := ∃ B ρ G α, Rs K B ρ G α σ H ∧ okP K W B G α σ (da ρ) fun us _ G' α' H' => ∀ vs, RpUs K G' α' us vs → Q ((ks.map V.str).zip vs) H'
structure SPs (X : Cx) (W : WX) (pos : Pos) (keys : List (Option Expr)) (values : List Expr) (ks : List Str) (da : DA) : Prop where
  ex : ∃ trs, PPs X pos keys values trs ∧ ∀ σ H Q, tPd X.K W ks da σ H Q → tPairs trs σ H Q
theorem sps_nil : SPs X W pos [] [] [] aNil := ⟨[], pps_nil, fun σ H Q ⟨B, ρ, G, α, r, h⟩ => h G α H Gr.refl r [] rfl⟩
theorem sps_cons {k : Str} {j} {kp : Pos} {keys : List (Option Expr)} {values : List Expr} {ks : List Str} (hv : SE X W v mv) (hr : SPs X W pos keys values ks da) : SPs X W pos (some (.Constant (.str k) j kp) :: keys) (v :: values) (k :: ks) (aCons mv da) := by
  obtain ⟨trs, h1, h2⟩ := hr.ex
  refine ⟨_, pps_cons pe_str hv h1, fun σ H Q ⟨B, ρ, G, α, r, h⟩ => ?_⟩
  show tC (V.str k) σ H _
  show tE X.K W mv σ H _
  refine bE r h fun u ρ1 w H1 G1 α1 g1 r1 p1 h1 => ?_
  refine h2 σ H1 _ ⟨B, ρ1, G1, α1, r1, ?_⟩
  cases e : da ρ1 with
  | ex x ρ2 => rw [e] at h1; exact h1
  | no => rw [e] at h1; exact h1
  | ok us ρ2 =>
    rw [e] at h1
    exact fun G2 α2 H2 g2 r2 vs p2 => h1 G2 α2 H2 g2 r2 _ ⟨w, vs, rfl, p1.mono g2, p2⟩
def mDisp (ks : List Str) (da : DA) : DE := fun ρ => (da ρ).bind fun us ρ1 => match toDs (toD 4) us ρ1.st with
  | some (ts, st) => if ts.length = ks.length ∧ ks.Nodup ∧ ks.length ≤ 15 then .ok (.own st.length) ⟨ρ1.sl, st ++ [.dk (ks.map .inr) ts]⟩ else .no
  | none => .no
theorem mergeK_nodup : ∀ (more kvs : List (Key × V)), ((kvs ++ more).map (·.1)).Nodup → mergeK kvs more = kvs ++ more
  | [], kvs, _ => by simp [mergeK]
  | p :: more, kvs, h => by
    have hn : (kvs.any fun kv => decide (kv.1 = p.1)) = false := by
      rw [List.any_eq_false]
      intro x hx e
      have e : x.1 = p.1 := of_decide_eq_true e
      rw [List.map_append, List.nodup_append] at h
      exact h.2.2 _ (List.mem_map_of_mem hx) p.1 (by simp) e
    show mergeK (putK kvs p.1 p.2) more = _
    have : putK kvs p.1 p.2 = kvs ++ [(p.1, p.2)] := by unfold putK; rw [if_neg (by rw [hn]; simp)]
    rw [this, mergeK_nodup more _ (by simpa using h)]
    simp
theorem fe_disp {keys : List (Option Expr)} {values : List Expr} {ks : List Str} (h : SPs X W pos keys values ks da) (hall : keys.all (·.isSome) = true := by rfl) (hl : keys.length = values.length := by rfl) (h0 : keys ≠ [] := by intro z; cases z)
    (h15 : keys.length ≤ 15 := by decide) : SE X W (.Dict keys values pos) (mDisp ks da) := by
  obtain ⟨trs, h1, h2⟩ := h.ex
  refine pe_weak (pe_disp h1 hall hl h0 h15) fun σ H Q ⟨B, ρ, G, α, r, h⟩ p hp => ?_
  have hB := r.bh.free hp
  have hG := r.gh.free hp
  have hα := r.toRh.nin hp
  have rw1 : Rs X.K B ρ G α σ (upd H p (.dK [])) := { toRh := r.toRh.other hB hG hα, sll := r.sll, sl := r.sl }
  refine h2 σ _ _ ⟨upd B p (.dK []), ρ, G, α, rw1.wall upd_same hα, ?_⟩
  unfold mDisp at h
  cases e : da ρ with
  | ex x ρ1 =>
    rw [e] at h
    intro σ' H' G' α' d g' r' xd
    obtain ⟨ga, _⟩ := Gr.unwall hB g'
    exact h σ' H' G' α' d ga (Rs.unwall hB r').1 xd
  | no => rw [e] at h; exact h
  | ok us ρ1 =>
    rw [e] at h
    intro G1 α1 H1 g1 r1 vs p1
    rw [R.bind_ok] at h
    split at h
    · rename_i ts st e1
      split at h
      · rename_i hc
        obtain ⟨hz, hnd, h15'⟩ := hc
        obtain ⟨G2, g2, r2, p2⟩ := toDs_ok (toD_ok 4) r1.toRh p1 e1
        have r2' : Rs X.K (upd B p (.dK [])) ⟨ρ1.sl, st⟩ G2 α1 σ H1 := Rs.mk' r1 g2 r2
        obtain ⟨ga, gb⟩ := Gr.unwall hB (g1.trans g2)
        obtain ⟨ra, rb, rc⟩ := Rs.unwall hB r2'
        have hlen : ks.length = vs.length := by rw [← hz, p2.length]
        have hkv : ((ks.map (Sum.inr : Str → Key)).zip vs).map (·.1) = ks.map .inr := by rw [List.map_fst_zip]; simp [hlen]
        have hnd2 : (ks.map (Sum.inr : Str → Key)).Nodup := nodup_map_on (fun a _ b _ q => Sum.inr.inj q) hnd
        refine ⟨rc, (ks.map .inr).zip vs, ?_, by simp [List.length_zip]; omega, ?_⟩
        · rw [← List.map_id vs, List.zip_map, List.zip_map, List.map_map]
          simp [Function.comp_def, Prod.map, kV]
        · rw [mergeK_nodup _ [] (by rw [List.nil_append, hkv]; exact hnd2), List.nil_append]
          have r3 := (ra.toRh.other (o := .dK ((ks.map .inr).zip vs)) hB (gb hG) rb).adopt (ob := .dk (ks.map .inr) ts) hB rb upd_same ⟨gb hG, vs, upd_same, by simp [hlen], p2⟩
          have r5 := Rs.mk' (ρ := ⟨ρ1.sl, st⟩) ra Gr.own r3
          exact h G2 (α1 ++ [p]) _ (ga.trans Gr.own) r5 _ (own_last (ρ := ⟨ρ1.sl, st⟩) ra.toRh)
      · exact h.elim
    · exact h.elim
/-! d[k] = v -/
theorem set_dict (hu : X.A.units + 1 < cLine) : PSet X (fun o i v H Q => ∃ a H4, o = V.ref a ∧ DPut H a i v H4 ∧ Q H4) := by
  intro pins s σ H o i v ov iv u Q I ro ri rv h
  obtain ⟨a, H4, rfl, g, q⟩ := h
  obtain rfl : ov = Value.ref a := ro
  exact d_setItem hu I g ri rv fun s4 I4 => ⟨H4, I4, q⟩
def gDix (mo mi : DE) : DG := fun u ρ => (mo ρ).bind fun o ρ1 => (mi ρ1).bind fun i ρ2 => match o, i with
  | .own j, .d k => match toD 4 u ρ2.st, keyT k with
    | some (t, st), some q => match st[j]? with
      | some (.dk ks ts) => if ks.Nodup ∧ ks.length < sizeLine then .ok () ⟨ρ2.sl, st.set j (.dk (dkPut ks ts q t).1 (dkPut ks ts q t).2)⟩ else .no
      | _ => .no
    | _, _ => .no
  | _, _ => .no
theorem fg_dix (hu : X.A.units + 1 < cLine) (ho : SE X W o mo) (hi : SE X W i mi) (ha : ∀ v, assign (.Subscript o i pos) X.env v = (do
      let ov ← holding [v] (eval o X.env)
      let iv ← holding [v, ov] (eval i X.env)
      standAt pos
      holding [v, ov, iv] (setItem ov iv v)
      release [v, ov, iv] []) := by intro _; rfl) : SG X W (.Subscript o i pos) (gDix mo mi) :=
  pg_weak (pg_sub ho hi (set_dict hu) ha) fun v σ H Q ⟨B, ρ, G, α, u, r, p, h⟩ => by
    refine bEG r h fun o ρ1 ov H1 G1 α1 g1 r1 p1 h1 => bEG r1 h1 fun i ρ2 iv H2 G2 α2 g2 r2 p2 h2 => ?_
    split at h2
    · rename_i j k
      split at h2
      · rename_i t st q e1 e1'
        obtain ⟨G3, g3, r3, p3⟩ := toD_ok 4 r2.toRh (p.mono (g1.trans g2)) e1
        split at h2
        · rename_i ks ts e2
          split at h2
          · rename_i hc
            obtain ⟨a, ha1, rfl⟩ := (p1.mono (g2.trans g3))
            have hi := keyT_ok (Rp1.of r2.gh (show Rp X.K G2 k iv from p2)) e1'
            subst hi
            obtain ⟨_, _, hz, vs, hv1, hv2, hv3⟩ := r3.ow j a _ ha1 e2
            obtain ⟨vs', q1, q2, q3, q4⟩ := dkPut_ok (q := q) hc.1 hv2 hv3 p3
            refine ⟨a, _, rfl, DPut.k hv1 (by rw [List.length_zip]; omega), ?_⟩
            rw [q1]
            have r4 := r3.upd (o := .dK ((dkPut ks ts q t).1.zip vs')) (ob := .dk (dkPut ks ts q t).1 (dkPut ks ts q t).2) ha1 hz ⟨hz, _, upd_same, q2, q3⟩
            exact h2 G3 α2 σ _ g3 (Rs.mk' r2 g3 r4)
          · exact h2.elim
        · exact h2.elim
      · exact h2.elim
    · exact h2.elim
end
end FL

/-! FL17: instances of own classes. -/
namespace FL
open PySem L2 PyProof.Rows

/-! calls whose errors are wished for at the caller's slots -/
section
variable {X : Cx} {CX : CXT} {k : Nat} {f C : Addr} {fd : FuncData} {ps : List Str} {sp : Sp} {E : L2.St → XK} {x m : Str} {p pos apos : Pos} {e o : Expr} {es : List Expr} {ta : TE} {t : TA}
def tMakeS (C : Addr) (sp : Sp) (E : L2.St → XK) (t : TA) : TE := fun σ H Q => t σ H fun vs H1 => ∀ x dx, H1 x = none → H1 dx = none → dx ≠ x →
  sp (.ref x :: vs) (upd (upd H1 dx (.own x)) x (.ins C dx [])) (fun v H2 => v = .non ∧ Q (.ref x) H2) (E σ)
theorem run_makeS {pins : List (Addr × Obj)} {σ : L2.St} {H : Hp} {s : Shared} {Q : VK} {us : List Value} {vs : List V} (M : Mk X.K C f) (F : FnOk X.prog X.w X.K X.mg X.base CX k f fd ps sp) (hr : Room (k + 1) X.A) (hb : Binds X.K fd ps [])
    (hx : PassesAt CX X σ (E σ)) (I : Inv X pins σ H s) (r : Vals vs us)
    (h : ∀ x dx, H x = none → H dx = none → dx ≠ x → sp (.ref x :: vs) (upd (upd H dx (.own x)) x (.ins C dx [])) (fun v H2 => v = .non ∧ Q (.ref x) H2) (E σ)) :
    wpAny (model X.prog X.w) X.A (call (.ref C) us) (EP X pins σ Q) X.xe s := by
  have hq := h (s.heap.objs.size + 1) s.heap.objs.size (I.hok.fresh (Nat.le_succ _)) (I.hok.fresh (Nat.le_refl _)) (Nat.ne_of_lt (Nat.lt_succ_self _))
  have I2 := Inv.made (C := C) I
  have r2 : Vals (V.ref (s.heap.objs.size + 1) :: vs) (Value.ref (s.heap.objs.size + 1) :: us) := .cons rfl r
  have hl : (Value.ref (s.heap.objs.size + 1) :: us).length = ps.length := by
    have e := r2.length
    rw [F.len _ _ _ _ hq] at e
    exact e.symm
  have hb' := hb _ (Value.ref (s.heap.objs.size + 1) :: us) I2.kIn (by rw [List.append_nil]; exact hl)
  rw [List.append_nil] at hb'
  refine wpAny_call (make_map (f := f) I.kIn M.makes M.init (beq_iff_eq.mp M.fn) (codeAny_mono (F.run _ X.stack _ _ ⟨Value.ref (s.heap.objs.size + 1) :: us, []⟩ (Value.ref (s.heap.objs.size + 1) :: us) _ _ (E σ) (hr.make C us [])
    (I2.env0.make C us []) hb' r2 hq) fun r s' hq' => ?_))
  cases r with
  | error e => exact hx pins _ _ e s' I2 hq'
  | ok fl =>
    cases fl with
    | ret u =>
      obtain ⟨v, H', I3, rv, ev, q3⟩ := I2.after hq'
      subst ev
      exact ⟨rv, ⟨V.ref (s.heap.objs.size + 1), H', I3, rfl, q3⟩⟩
    | next => exact False.elim hq'
    | brk => exact False.elim hq'
    | cont => exact False.elim hq'
theorem pe_makeS (M : Mk X.K C f) (F : FnOk X.prog X.w X.K X.mg X.base CX k f fd ps sp) (hr : Room (k + 1) X.A) (hg : Gl X x) (hm : X.mg x = some (.ref C)) (hb : Binds X.K fd ps []) (hx : ∀ σ, PassesAt CX X σ (E σ))
    (ha : PA X (e :: es) t) (hdb : (x == ("__debug__" : Str)) = false := by decide) (he : starEach (e :: es) X.env = (false, eval e X.env) :: starEach es X.env := by rfl) (hpl : (backTo pos (starEach es X.env)).any (·.1) = false := by rfl) :
    PE X (.Call (.Name x p) (e :: es) [] pos) (tMakeS C sp E t) := by
  refine ⟨fun pins s σ H Q I h => ?_⟩
  refine wpAny_Call_Name_kw (ld_glob I hg hm ?_ hdb)
  refine PySem.W.callWith_K (h₀ := X.base) I.ok.mod.kin M.kp (thn (ha.run pos pins s σ H _ I h) fun us s1 ⟨vs, H1, I1, r, q⟩ => ⟨I1.kIn, ?_⟩) he hpl
  exact run_makeS M F hr hb (hx σ) I1 r q
def tMethS (C : Addr) (m : Str) (sp : Sp) (E : L2.St → XK) (ta : TE) (t : TA) : TE := fun σ H Q => ta σ H fun x H1 => ∃ a dx fs, x = .ref a ∧ H1 a = some (.ins C dx fs) ∧ fs.lookup m = none ∧
  t σ H1 fun vs H2 => sp (x :: vs) H2 Q (E σ)
theorem pe_methS {pl : Sem Bool} (he : PE X o ta) (c : Cls X.K C) (hm : Meth X.K C m f) (F : FnOk X.prog X.w X.K X.mg X.base CX k f fd ps sp) (hr : Room k X.A) (hb : Binds X.K fd ps []) (hx : ∀ σ, PassesAt CX X σ (E σ)) (ha : PA X (e :: es) t)
    (hst : starEach (e :: es) X.env = (false, eval e X.env) :: starEach es X.env := by rfl) (hpl : (backTo pos (starEach es X.env)).any (·.1) = false := by rfl)
    (ht : eval (.Call (.Attribute o m apos) (e :: es) [] pos) X.env = (do
      let ov ← eval o X.env
      standAt apos.atName
      let (f, first) ← holding [ov] (getMethod ov m pl)
      callWith pos f first (backTo pos (starEach (e :: es) X.env)) (backToKw pos (keywordEach [] X.env))) := by rfl) :
    PE X (.Call (.Attribute o m apos) (e :: es) [] pos) (tMethS C m sp E ta t) := by
  refine ⟨fun pins s σ H Q I h => ?_⟩
  refine PySem.W.methodCall_KW (pl := pl) (thn (he.run pins s σ H _ I h) fun u s1 ⟨x, H1, I1, rx, a, dx, fs, ex, ea, l, q⟩ => ?_) ht
  subst ex
  obtain rfl : u = Value.ref a := rx
  refine getmeth_ok I1 ea c hm l ?_
  refine PySem.W.callWith_K (first := [.ref a]) (h₀ := X.base) I.ok.mod.kin hm.kp (thn (ha.run pos pins s1 σ H1 _ I1 q) fun us s2 ⟨vs, H2, I2, r, q2⟩ => ⟨I2.kIn, ?_⟩) hst hpl
  exact run_fnS (us := .ref a :: us) (vs := .ref a :: vs) F hr hb (hx σ) I2 (.cons rfl r) q2
theorem pe_methS0 {pl : Sem Bool} (he : PE X o ta) (c : Cls X.K C) (hm : Meth X.K C m f) (F : FnOk X.prog X.w X.K X.mg X.base CX k f fd ps sp) (hr : Room k X.A) (hb : Binds X.K fd ps []) (hx : ∀ σ, PassesAt CX X σ (E σ))
    (ht : eval (.Call (.Attribute o m apos) [] [] pos) X.env = (do
      let ov ← eval o X.env
      standAt apos.atName
      let (f, first) ← holding [ov] (getMethod ov m pl)
      callWith pos f first (backTo pos (starEach [] X.env)) (backToKw pos (keywordEach [] X.env))) := by rfl) :
    PE X (.Call (.Attribute o m apos) [] [] pos) (tMethS C m sp E ta tNil) := by
  refine ⟨fun pins s σ H Q I h => ?_⟩
  refine PySem.W.methodCall_KW (pl := pl) (thn (he.run pins s σ H _ I h) fun u s1 ⟨x, H1, I1, rx, a, dx, fs, ex, ea, l, q⟩ => ?_) ht
  subst ex
  obtain rfl : u = Value.ref a := rx
  refine getmeth_ok I1 ea c hm l ?_
  exact PySem.W.callWith_K0 (first := [.ref a]) I1.kIn hm.kp (run_fnS (us := [.ref a]) (vs := [.ref a]) F hr hb (hx σ) I1 (.cons rfl .nil) q)
end

def fAt : List Str → List U → Str → Option U
  | n :: ns, u :: us, f => if n = f then some u else fAt ns us f
  | _, _, _ => none
def fPut : List Str → List U → Str → U → List Str × List U
  | n :: ns, u :: us, f, x => if n = f then (n :: ns, x :: us) else (n :: (fPut ns us f x).1, u :: (fPut ns us f x).2)
  | _, _, f, x => ([f], [x])
section
variable {K : PySem.W.Frag} {G : Hp} {α : List Addr}
theorem lookup_cons' {f g : Str} {v : V} {r : List (Str × V)} : ((g, v) :: r).lookup f = if g = f then some v else r.lookup f := by
  rw [List.lookup_cons]
  by_cases h : g = f
  · subst h; simp
  · have : (f == g) = false := by simpa using (Ne.symm h)
    rw [this, if_neg h]
theorem fAt_ok : ∀ {ns : List Str} {us : List U} {vs : List V} {f : Str} {u : U}, RpUs K G α us vs → fAt ns us f = some u → ∃ v, (ns.zip vs).lookup f = some v ∧ RpU K G α u v
  | [], _, _, _, _, _, e => by simp [fAt] at e
  | n :: ns, [], _, _, _, _, e => by simp [fAt] at e
  | n :: ns, u :: us, _, f, x, ⟨v, ws, q1, q2, q3⟩, e => by
    subst q1
    simp only [fAt] at e
    rw [List.zip_cons_cons, lookup_cons']
    by_cases h : n = f
    · rw [if_pos h] at e ⊢; cases e; exact ⟨v, rfl, q2⟩
    · rw [if_neg h] at e ⊢; exact fAt_ok q3 e
theorem fNone_ok : ∀ {ns : List Str} {vs : List V} {f : Str}, f ∉ ns → (ns.zip vs).lookup f = none
  | [], _, _, _ => rfl
  | n :: ns, [], _, _ => rfl
  | n :: ns, v :: vs, f, h => by
    rw [List.mem_cons, not_or] at h
    rw [List.zip_cons_cons, lookup_cons', if_neg (Ne.symm h.1)]
    exact fNone_ok h.2
theorem fPut_ok : ∀ {ns : List Str} {us : List U} {vs : List V} {f : Str} {u : U} {v : V}, ns.length = vs.length → RpUs K G α us vs → RpU K G α u v →
    ∃ vs', putF f v (ns.zip vs) = (fPut ns us f u).1.zip vs' ∧ (fPut ns us f u).1.length = vs'.length ∧ RpUs K G α (fPut ns us f u).2 vs'
  | [], [], vs, f, u, v, hl, h, hv => by
    cases h
    exact ⟨[v], by simp [putF, fPut], by simp [fPut], v, [], rfl, hv, rfl⟩
  | [], x :: us, vs, f, u, v, hl, ⟨w, ws, q1, q2, q3⟩, hv => by subst q1; simp at hl
  | n :: ns, [], vs, f, u, v, hl, h, hv => by cases h; simp at hl
  | n :: ns, x :: us, vs, f, u, v, hl, ⟨w, ws, q1, q2, q3⟩, hv => by
    subst q1
    rw [List.zip_cons_cons]
    simp only [putF, fPut]
    by_cases h : n = f
    · rw [if_pos h, if_pos h]
      exact ⟨v :: ws, by simp, by simpa using hl, v, ws, rfl, hv, q3⟩
    · rw [if_neg h, if_neg h]
      obtain ⟨vs', e1, e2, e3⟩ := fPut_ok (f := f) (by simpa using hl) q3 hv
      exact ⟨w :: vs', by simp [e1], by simpa using e2, w, vs', rfl, q2, e3⟩
end
/-- an instance of the class at C: its fields -/
def insOf (C : Addr) (st : List Ob) : U → Option (List Str × List U)
  | .d (.obj D ns ts) => if D = C then some (ns, ts.map .d) else none
  | .own j => match st[j]? with
    | some (.obj D ns us) => if D = C then some (ns, us) else none
    | some (.frz (.obj D ns ts)) => if D = C then some (ns, ts.map .d) else none
    | _ => none
  | _ => none
theorem insOf_ok {K : PySem.W.Frag} {B G H : Hp} {α : List Addr} {st : List Ob} {C : Addr} {u : U} {v : V} {ns : List Str} {us : List U} (r : Rh K B st G α H) (p : RpU K G α u v) (e : insOf C st u = some (ns, us)) :
    ∃ a dx vs, v = .ref a ∧ H a = some (.ins C dx (ns.zip vs)) ∧ ns.length = vs.length ∧ RpUs K G α us vs := by
  unfold insOf at e
  split at e
  · rename_i D ns' ts
    split at e
    · rename_i hD
      subst hD
      simp only [Option.some.injEq, Prod.mk.injEq] at e
      obtain ⟨rfl, rfl⟩ := e
      have p : Rp K G (.obj D ns' ts) v := p
      simp only [Rp] at p
      obtain ⟨a, dx, vs, rfl, h1, h2, h3⟩ := p
      exact ⟨a, dx, vs, rfl, r.gh _ _ h1, h2, RpUs.ofRps h3⟩
    · cases e
  · rename_i j
    obtain ⟨a, ha, rfl⟩ := p
    split at e
    · rename_i D ns' us' e1
      split at e
      · rename_i hD
        subst hD
        simp only [Option.some.injEq, Prod.mk.injEq] at e
        obtain ⟨rfl, rfl⟩ := e
        obtain ⟨_, _, z, dx, vs, z1, z2, z3⟩ := r.ow j a _ ha e1
        exact ⟨a, dx, vs, rfl, z1, z2, z3⟩
      · cases e
    · rename_i D ns' ts e1
      split at e
      · rename_i hD
        subst hD
        simp only [Option.some.injEq, Prod.mk.injEq] at e
        obtain ⟨rfl, rfl⟩ := e
        obtain ⟨_, _, z⟩ := r.ow j a _ ha e1
        have z : Rp K G (.obj D ns' ts) (.ref a) := z
        simp only [Rp] at z
        obtain ⟨b, dx, vs, e2, h1, h2, h3⟩ := z
        cases e2
        exact ⟨a, dx, vs, rfl, r.gh _ _ h1, h2, RpUs.ofRps h3⟩
      · cases e
    · cases e
  · cases e
section
variable {X : Cx} {W : WX} {o e : Expr} {es : List Expr} {mo mv : DE} {da : DA} {pos pos' p apos : Pos} {f m x : Str} {C : Addr} {k j n : Nat} {F : Fn}
/-! e.f -/
def mFld (C : Addr) (f : Str) (m : DE) : DE := fun ρ => (m ρ).bind fun u ρ1 => match insOf C ρ1.st u with
  | some (ns, us) => match fAt ns us f with
    | some w => .ok w ρ1
    | none => .no
  | none => .no
theorem fe_fld (c : Cls X.K C) (na : NoAttr X.K C f) (he : SE X W e mo) (hb : attributeBase e f X.env (eval e X.env) = eval e X.env := by rfl) : SE X W (.Attribute e f pos) (mFld C f mo) := pe_weak (pe_fld he hb) fun σ H Q ⟨B, ρ, G, α, r, h⟩ =>
  bE r h fun u ρ1 v H1 G1 α1 g1 r1 p1 h1 => by
    split at h1
    · rename_i ns us e1
      obtain ⟨a, dx, vs, rfl, h2, h3, h4⟩ := insOf_ok r1.toRh p1 e1
      split at h1
      · rename_i w e2
        obtain ⟨y, h5, h6⟩ := fAt_ok h4 e2
        exact ⟨a, C, dx, _, y, rfl, h2, c, na, h5, h1 G1 α1 H1 Gr.refl r1 y h6⟩
      · exact h1.elim
    · exact h1.elim
/-! e.f = v; the value frozen (fz), or as it is -/
def mSetF (fz : Bool) (C : Addr) (f : Str) (mo mv : DE) : DS := fun ρ => (mv ρ).thn fun u ρ1 => (mo ρ1).thn fun o ρ2 => match o with
  | .own j => match (if fz = true then (toD 4 u ρ2.st).map fun q => (U.d q.1, q.2) else some (u, ρ2.st)) with
    | some (w, st) => match st[j]? with
      | some (.obj D ns us) => if D = C ∧ ns.length < 1000 then .nx ⟨ρ2.sl, st.set j (.obj C (fPut ns us f w).1 (fPut ns us f w).2)⟩ else .no
      | _ => .no
    | none => .no
  | _ => .no
theorem fs_setF (fz : Bool) (c : Cls X.K C) (na : NoAttr X.K C f) (ho : SE X W o mo) (hv : SE X W e mv) (hs : swapsWith e (some (.Attribute o f pos')) pos.line X.env = pure false := by rfl) : SS X W (.Assign [.Attribute o f pos'] e pos) (mSetF fz C f mo mv) := ps_weak (ps_fld ho hv hs) fun D σ H ⟨B, ρ, G, α, r, h⟩ => by
  refine sE r h fun u ρ1 v H1 G1 α1 g1 r1 p1 h1 => sE r1 h1 fun o ρ2 ov H2 G2 α2 g2 r2 p2 h2 => ?_
  split at h2
  · rename_i j
    split at h2
    · rename_i w st e1
      have key : ∃ G3, Gr B G2 α2 G3 α2 ∧ Rh X.K B st G3 α2 H2 ∧ RpU X.K G3 α2 w v := by
        cases fz with
        | true =>
          rw [if_pos rfl] at e1
          cases ed : toD 4 u ρ2.st with
          | none => rw [ed] at e1; cases e1
          | some q =>
            obtain ⟨t, st'⟩ := q
            rw [ed] at e1
            simp only [Option.map_some, Option.some.injEq, Prod.mk.injEq] at e1
            obtain ⟨rfl, rfl⟩ := e1
            obtain ⟨G3, g3, r3, p3⟩ := toD_ok 4 r2.toRh (p1.mono g2) ed
            exact ⟨G3, g3, r3, p3⟩
        | false =>
          rw [if_neg (by decide)] at e1
          simp only [Option.some.injEq, Prod.mk.injEq] at e1
          obtain ⟨rfl, rfl⟩ := e1
          exact ⟨G2, Gr.refl, r2.toRh, p1.mono g2⟩
      obtain ⟨G3, g3, r3, p3⟩ := key
      split at h2
      · rename_i D' ns us e2
        split at h2
        · rename_i hc
          obtain ⟨rfl, hl⟩ := hc
          obtain ⟨a, ha1, rfl⟩ := p2
          obtain ⟨_, _, z, dx, vs, z1, z2, z3⟩ := r3.ow j a _ ha1 e2
          obtain ⟨vs', q1, q2, q3⟩ := fPut_ok (f := f) z2 z3 p3
          refine ⟨a, D', dx, _, rfl, z1, c, na, by rw [List.length_zip]; omega, ?_⟩
          rw [q1]
          have r4 := r3.upd (o := .ins D' dx ((fPut ns us f w).1.zip vs')) (ob := .obj D' (fPut ns us f w).1 (fPut ns us f w).2) ha1 z ⟨z, dx, vs', upd_same, q2, q3⟩
          exact h2 G3 α2 σ _ g3 (Rs.mk' r2 g3 r4)
        · exact h2.elim
      · exact h2.elim
    · exact h2.elim
  · exact h2.elim
/-! o.m(..) -/
structure Mn (P : Program) (w : World) (K : PySem.W.Frag) (mg : Str → Option Value) (base : Heap) (k : Nat) (C : Addr) (m : Str) (n : Nat) (F : Fn) : Prop where
  ex : ∃ (f : Addr) (fd : FuncData) (ps : List Str), FnOk P w K mg base (L2.CX P w) k f fd ps (spF K n F) ∧ Cls K C ∧ Meth K C m f ∧ Binds K fd ps []
def mMeth (C : Addr) (m : Str) (n : Nat) (F : Fn) (cs : List Bool) (mo : DE) (da : DA) : DE := fun ρ => (mo ρ).bind fun o ρ1 => match insOf C ρ1.st o with
  | some (ns, _) => if m ∈ ns then .no else (da ρ1).bind fun us ρ2 => match argC cs (o :: us) ρ2.st with
    | some (us', st) => if us'.length = n then callR F us' ⟨ρ2.sl, st⟩ else .no
    | none => .no
  | none => .no
theorem tMethS_of {K : PySem.W.Frag} {cs : List Bool} {σ : L2.St} {H : Hp} {Q : VK} (h : tE K W (mMeth C m n F cs mo da) σ H Q) : tMethS C m (spF K n F) (WE W) (tE K W mo) (tA K W da) σ H Q := by
  obtain ⟨B, ρ, G, α, r, h⟩ := h
  refine bE r h fun o ρ1 ov H1 G1 α1 g1 r1 p1 h1 => ?_
  split at h1
  · rename_i ns us0 e0
    obtain ⟨a, dx, vs0, rfl, z1, z2, z3⟩ := insOf_ok r1.toRh p1 e0
    split at h1
    · exact h1.elim
    · rename_i hm
      refine ⟨a, dx, _, rfl, z1, fNone_ok hm, ?_⟩
      refine bA r1 h1 fun us ρ2 vs H2 G2 α2 g2 r2 p2 h2 => ?_
      split at h2
      · rename_i us' st e1
        split at h2
        · rename_i hn
          obtain ⟨G3, g3, r3, p3⟩ := argC_ok r2.toRh (show RpUs K G2 α2 (o :: us) (.ref a :: vs) from ⟨_, _, rfl, p1.mono g2, p2⟩) e1
          have hl : (V.ref a :: vs).length = n := by rw [← hn, p3.length]
          have r3' : Rs K B ⟨ρ2.sl, st⟩ G3 α2 σ H2 := Rs.mk' r2 g3 r3
          have := call_ok r3' p3 (okP.shift g3 h2)
          rw [hl] at this
          exact this
        · exact h2.elim
      · exact h2.elim
  · exact h1.elim
theorem fe_meth {pl : Sem Bool} (tk : Tk X W) (M : Mn X.prog X.w X.K X.mg X.base k C m n F) (cs : List Bool) (hr : Room j X.A) (ho : SE X W o mo) (ha : SA X W (e :: es) da) (hk : k ≤ j := by decide)
    (hst : starEach (e :: es) X.env = (false, eval e X.env) :: starEach es X.env := by rfl) (hpl : (backTo pos (starEach es X.env)).any (·.1) = false := by rfl)
    (ht : eval (.Call (.Attribute o m apos) (e :: es) [] pos) X.env = (do
      let ov ← eval o X.env
      standAt apos.atName
      let (f, first) ← holding [ov] (getMethod ov m pl)
      callWith pos f first (backTo pos (starEach (e :: es) X.env)) (backToKw pos (keywordEach [] X.env))) := by rfl) : SE X W (.Call (.Attribute o m apos) (e :: es) [] pos) (mMeth C m n F cs mo da) := by
  obtain ⟨f, fd, ps, fo, c, hm, hb⟩ := M.ex
  exact pe_weak (pe_methS (pl := pl) ho c hm fo (hr.mono hk) hb tk ha hst hpl ht) fun _ _ _ h => tMethS_of h
theorem tE_mono {K : PySem.W.Frag} {W : WX} {mo : DE} {σ : L2.St} {H : Hp} {Q Q' : VK} (h : tE K W mo σ H Q) (w : ∀ v H, Q v H → Q' v H) : tE K W mo σ H Q' := by
  obtain ⟨B, ρ, G, α, r, h⟩ := h
  refine ⟨B, ρ, G, α, r, ?_⟩
  cases e : mo ρ with
  | ok u ρ1 => rw [e] at h; exact fun G' α' H' g r' v p => w v H' (h G' α' H' g r' v p)
  | ex x ρ1 => rw [e] at h; exact h
  | no => rw [e] at h; exact h
theorem fe_meth0 {pl : Sem Bool} (tk : Tk X W) (M : Mn X.prog X.w X.K X.mg X.base k C m n F) (cs : List Bool) (hr : Room j X.A) (ho : SE X W o mo) (hk : k ≤ j := by decide)
    (ht : eval (.Call (.Attribute o m apos) [] [] pos) X.env = (do
      let ov ← eval o X.env
      standAt apos.atName
      let (f, first) ← holding [ov] (getMethod ov m pl)
      callWith pos f first (backTo pos (starEach [] X.env)) (backToKw pos (keywordEach [] X.env))) := by rfl) : SE X W (.Call (.Attribute o m apos) [] [] pos) (mMeth C m n F cs mo aNil) := by
  obtain ⟨f, fd, ps, fo, c, hm, hb⟩ := M.ex
  refine pe_weak (pe_methS0 (pl := pl) ho c hm fo (hr.mono hk) hb tk ht) fun σ H Q h => ?_
  refine tE_mono (tMethS_of h) fun v H1 ⟨a, dx, fs, q1, q2, q3, B, ρ, G, α, r, q4⟩ => ⟨a, dx, fs, q1, q2, q3, ?_⟩
  exact q4 G α H1 Gr.refl r [] rfl
end
end FL

/-! FL18: objects made by a callee: constructors, own results. -/
namespace FL
open PySem L2 PyProof.Rows

section
variable {K : PySem.W.Frag} {B G G' H H' : Hp} {α α' : List Addr} {st st' st'' os : List Ob} {is : List Nat}
theorem ObR.data {o : Ob} {a : Addr} (h : refO 0 o = true) (r : ObR K G α H a o) : ObR K G α' H a o := by
  cases o with
  | obj C ns us =>
    obtain ⟨z, dx, vs, z1, z2, z3⟩ := r
    refine ⟨z, dx, vs, z1, z2, ?_⟩
    have h : us.all (refU 0) = true := h
    clear z1 z2
    induction us generalizing vs with
    | nil => exact z3
    | cons u us ih =>
      rw [List.all_cons, Bool.and_eq_true] at h
      obtain ⟨v, ws, q1, q2, q3⟩ := z3
      refine ⟨v, ws, q1, ?_, ih h.2 _ q3 h.2⟩
      cases u with
      | d t => exact q2
      | own i => simp [refU] at h
  | frz t => exact r
  | lst t => exact r
  | dk k t => exact r
/-- behind a call that made an object -/
theorem Rh.backN {ob : Ob} {a : Addr} (r : Rh K B st G α H) (hn : is.Nodup) (e : FL.handOn st is is = some os) (g : Gr (wall H α is) G (adr α is) G' α') (r' : Rh K (wall H α is) st' G' α' H') (eb : handBack is is st' st = some st'')
    (ha : α'[is.length]? = some a) (ho : st'[is.length]? = some ob) (hd : refO 0 ob = true) : Gr B G α G' (α ++ [a]) ∧ Rh K B (st'' ++ [ob]) G' (α ++ [a]) H' := by
  obtain ⟨gg, rr⟩ := r.back hn e g r' eb
  obtain ⟨q1, ⟨u, q2⟩, q3⟩ := r'.ow _ a ob ha ho
  obtain ⟨β, hα⟩ := g.al
  have hna : a ∉ adr α is := fun hm => by
    obtain ⟨i, hi, ei⟩ := List.getElem_of_mem hm
    have hi' : i < is.length := by simpa [adr] using hi
    have := nodup_at r'.nd ha (i := is.length) (j := i) (by rw [hα, List.getElem?_append_left hi, List.getElem?_eq_getElem hi, ei])
    omega
  have hH : H a = none := by
    cases h : H a with
    | none => rfl
    | some o => rw [wall_out hna, h] at q1; cases q1
  have hB : B a = none := r.bh.free hH
  have hα' : a ∉ α := fun hm => by
    obtain ⟨i, hi, ei⟩ := List.getElem_of_mem hm
    obtain ⟨u, hu⟩ := r.there (i := i) (a := a) (by rw [List.getElem?_eq_getElem hi, ei])
    rw [hH] at hu; cases hu
  exact ⟨gg.trans Gr.own, rr.adopt hB hα' q2 (q3.data hd)⟩
end
/-- the value of a call: data, or an object newly made -/
def behind (F : Fn) (is : List Nat) (os : List Ob) (us : List U) (ρ : Sg) : R U := match F os us with
  | .ok (.own j) ρ' => if j = is.length then match ρ'.st[j]? with
    | some ob => if refO 0 ob = true then match handBack is is ρ'.st ρ.st with
      | some s2 => .ok (.own s2.length) ⟨ρ.sl, s2 ++ [ob]⟩
      | none => .no
      else .no
    | none => .no
    else .no
  | .ok (.d t) ρ' => .no
  | .ex x ρ' => match handBack is is ρ'.st ρ.st with
    | some s2 => .ex x ⟨ρ.sl, s2⟩
    | none => .no
  | .no => .no
/-- a call whose value is an object newly made -/
def callN (F : Fn) (us : List U) (ρ : Sg) : R U :=
  let is := reach ρ.st 3 (owns us [])
  match handOn ρ.st is is, renUs is us with
  | some os, some us' => behind F is os us' ρ
  | _, _ => .no
def mCallN (n : Nat) (F : Fn) (cs : List Bool) (da : DA) : DE := fun ρ => (da ρ).bind fun us ρ1 => match argC cs us ρ1.st with
  | some (us', st) => if us'.length = n then callN F us' ⟨ρ1.sl, st⟩ else .no
  | none => .no
/-- C(..): the callee's own object is the last one -/
def newR (C : Addr) (F : Fn) (us : List U) (ρ : Sg) : R U :=
  let is := reach ρ.st 3 (owns us [])
  match handOn ρ.st is is, renUs is us with
  | some os, some us' => behind (fun os us => match F (os ++ [.obj C [] []]) (.own is.length :: us) with
    | .ok (.d .non) ρ' => .ok (.own is.length) ρ'
    | .ok _ _ => .no
    | .ex x ρ' => .ex x ρ'
    | .no => .no) is os us' ρ
  | _, _ => .no
def mNew (C : Addr) (n : Nat) (F : Fn) (cs : List Bool) (da : DA) : DE := fun ρ => (da ρ).bind fun us ρ1 => match argC cs us ρ1.st with
  | some (us', st) => if us'.length + 1 = n then newR C F us' ⟨ρ1.sl, st⟩ else .no
  | none => .no
section
variable {K : PySem.W.Frag} {B G H : Hp} {α : List Addr} {W : WX} {σ : L2.St} {ρ : Sg} {us : List U} {vs : List V} {F : Fn} {Q : VK}
theorem callN_ok (r : Rs K B ρ G α σ H) (h : RpUs K G α us vs) (q : okP K W B G α σ (callN F us ρ) (EndP K Q)) : spF K vs.length F vs H Q (WE W σ) := by
  unfold callN at q
  dsimp only at q
  have hn : (reach ρ.st 3 (owns us [])).Nodup := nodup_reach (nodup_owns (by simp))
  generalize reach ρ.st 3 (owns us []) = is at q hn
  split at q
  · rename_i os us' e1 e2
    obtain ⟨l1, l2⟩ := handOn_len e1
    have hin : ∀ i ∈ is, i < α.length := fun i hi => by rw [r.len]; exact l2 i hi
    refine ⟨rfl, wall H α is, os, G, adr α is, us', r.toRh.handOn hn e1, renUs_ok hin h e2, ?_⟩
    unfold behind at q
    cases eF : F os us' with
    | ok u ρ' =>
      rw [eF] at q
      cases u with
      | d t => exact q.elim
      | own j =>
        dsimp only at q
        split at q
        · rename_i hj
          subst hj
          split at q
          · rename_i ob eo
            split at q
            · rename_i hd
              split at q
              · rename_i s2 e4
                intro G' α' H' v g r' p
                obtain ⟨a, p1, p2⟩ := p
                obtain ⟨gg, rr⟩ := r.toRh.backN hn e1 g r' e4 p1 eo hd
                have hl := rr.len
                simp only [List.length_append, List.length_singleton] at hl
                exact q G' _ H' gg (Rs.mk' r gg rr) v ⟨a, by rw [show s2.length = α.length by omega]; simp, p2⟩
              · exact q.elim
            · exact q.elim
          · exact q.elim
        · exact q.elim
    | ex x ρ' =>
      rw [eF] at q
      dsimp only at q
      intro G' α' H' d g r' xd
      cases e4 : handBack is is ρ'.st ρ.st with
      | none => rw [e4] at q; exact q.elim
      | some s2 =>
        rw [e4] at q; dsimp only at q
        obtain ⟨gg, rr⟩ := r.toRh.back hn e1 g r' e4
        exact q σ H' G' α d gg (Rs.mk' r gg rr) xd
    | no => rw [eF] at q; exact q.elim
  · exact q.elim
theorem newR_ok {C : Addr} (r : Rs K B ρ G α σ H) (h : RpUs K G α us vs) (q : okP K W B G α σ (newR C F us ρ) (EndP K Q)) :
    ∀ x dx, H x = none → H dx = none → dx ≠ x → spF K (vs.length + 1) F (.ref x :: vs) (L2.upd (L2.upd H dx (.own x)) x (.ins C dx [])) (fun v H2 => v = .non ∧ Q (.ref x) H2) (WE W σ) := by
  intro x dx hx hdx hne
  unfold newR at q
  dsimp only at q
  have hn : (reach ρ.st 3 (owns us [])).Nodup := nodup_reach (nodup_owns (by simp))
  generalize reach ρ.st 3 (owns us []) = is at q hn
  split at q
  · rename_i os us' e1 e2
    obtain ⟨l1, l2⟩ := handOn_len e1
    have hin : ∀ i ∈ is, i < α.length := fun i hi => by rw [r.len]; exact l2 i hi
    have r0 := r.toRh.handOn hn e1
    have hA : (adr α is).length = is.length := by simp [adr]
    have nin : ∀ p, H p = none → p ∉ adr α is := fun p hp hm => by
      obtain ⟨i, hi, ei⟩ := List.getElem_of_mem hm
      obtain ⟨u, hu⟩ := r0.there (i := i) (a := p) (by rw [List.getElem?_eq_getElem hi, ei])
      rw [hp] at hu; cases hu
    have r1 : Rh K (wall H α is) os G (adr α is) (L2.upd H dx (.own x)) := r0.other (by rw [wall_out (nin _ hdx)]; exact hdx) (r.gh.free hdx) (nin _ hdx)
    have hx1 : (L2.upd H dx (.own x)) x = none := by rw [upd_ne (Ne.symm hne)]; exact hx
    have r2 := r1.newO (o := .ins C dx []) (ob := .obj C [] []) hx1 ⟨r.gh.free hx, dx, [], by rw [upd_same]; rfl, rfl, rfl⟩
    have p2 := (renUs_ok hin h e2).mono (B := wall H α is) (Gr.own (B := wall H α is) (G := G) (α := adr α is) (a := x))
    refine ⟨rfl, wall H α is, os ++ [.obj C [] []], G, adr α is ++ [x], .own is.length :: us', r2, ⟨_, _, rfl, ⟨x, by rw [← hA]; simp, rfl⟩, p2⟩, ?_⟩
    unfold behind at q
    dsimp only at q
    cases eF : F (os ++ [.obj C [] []]) (.own is.length :: us') with
    | ok u ρ' =>
      rw [eF] at q
      cases u with
      | own j => exact q.elim
      | d t =>
        cases t with
        | non =>
          dsimp only at q
          rw [if_pos rfl] at q
          split at q
          · rename_i ob eo
            split at q
            · rename_i hd
              split at q
              · rename_i s2 e4
                intro G' α' H' v g r' p
                have p : v = V.non := by simpa [RpU, Rp] using p
                subst p
                refine ⟨rfl, ?_⟩
                have g' := Gr.own.trans g
                have ex : α'[is.length]? = some x := g.get (by rw [← hA]; simp)
                obtain ⟨gg, rr⟩ := r.toRh.backN hn e1 g' r' e4 ex eo hd
                have hl := rr.len
                simp only [List.length_append, List.length_singleton] at hl
                exact q G' _ H' gg (Rs.mk' r gg rr) (.ref x) ⟨x, by rw [show s2.length = α.length by omega]; simp, rfl⟩
              · exact q.elim
            · exact q.elim
          · exact q.elim
        | _ => exact q.elim
    | ex x' ρ' =>
      rw [eF] at q
      dsimp only at q
      intro G' α' H' d g r' xd
      cases e4 : handBack is is ρ'.st ρ.st with
      | none => rw [e4] at q; exact q.elim
      | some s2 =>
        rw [e4] at q; dsimp only at q
        obtain ⟨gg, rr⟩ := r.toRh.back hn e1 (Gr.own.trans g) r' e4
        exact q σ H' G' α d gg (Rs.mk' r gg rr) xd
    | no => rw [eF] at q; exact q.elim
  · exact q.elim
end
section
variable {X : Cx} {W : WX} {e : Expr} {es : List Expr} {da : DA} {pos p : Pos} {k j n : Nat} {x : Str} {F : Fn} {C : Addr}
theorem fe_callN (tk : Tk X W) (D : Dn X.prog X.w X.K X.mg X.base k x n F) (cs : List Bool) (hr : Room j X.A) (ha : SA X W (e :: es) da) (hk : k ≤ j := by decide) (hg : Gl X x := by rfl)
    (hdb : (x == ("__debug__" : Str)) = false := by decide) (he : starEach (e :: es) X.env = (false, eval e X.env) :: starEach es X.env := by rfl) (hpl : (backTo pos (starEach es X.env)).any (·.1) = false := by rfl)
    : SE X W (.Call (.Name x p) (e :: es) [] pos) (mCallN n F cs da) := by
  obtain ⟨f, fd, ps, fo, hm, hkp, hb⟩ := D.ex
  exact pe_weak (pe_callS fo (hr.mono hk) hg hm hkp hb tk ha hdb he hpl) fun σ H Q ⟨B, ρ, G, α, r, h⟩ => by
    refine bA r h fun us ρ1 vs H1 G1 α1 g1 r1 p1 h1 => ?_
    split at h1
    · rename_i us' st e1
      split at h1
      · rename_i hn
        obtain ⟨G2, g2, r2, p2⟩ := argC_ok r1.toRh p1 e1
        have hl : vs.length = n := by rw [← hn, p2.length]
        have r2' : Rs X.K B ⟨ρ1.sl, st⟩ G2 α1 σ H1 := Rs.mk' r1 g2 r2
        have := callN_ok r2' p2 (okP.shift g2 h1)
        rw [hl] at this
        exact this
      · exact h1.elim
    · exact h1.elim
/-- a class whose instances are made by F -/
structure Cn (P : Program) (w : World) (K : PySem.W.Frag) (mg : Str → Option Value) (base : Heap) (k : Nat) (x : Str) (C : Addr) (n : Nat) (F : Fn) : Prop where
  ex : ∃ (f : Addr) (fd : FuncData) (ps : List Str), FnOk P w K mg base (L2.CX P w) k f fd ps (spF K n F) ∧ mg x = some (.ref C) ∧ Mk K C f ∧ Binds K fd ps []
theorem fe_new (tk : Tk X W) (D : Cn X.prog X.w X.K X.mg X.base k x C n F) (cs : List Bool) (hr : Room j X.A) (ha : SA X W (e :: es) da) (hk : k + 1 ≤ j := by decide) (hg : Gl X x := by rfl)
    (hdb : (x == ("__debug__" : Str)) = false := by decide) (he : starEach (e :: es) X.env = (false, eval e X.env) :: starEach es X.env := by rfl) (hpl : (backTo pos (starEach es X.env)).any (·.1) = false := by rfl)
    : SE X W (.Call (.Name x p) (e :: es) [] pos) (mNew C n F cs da) := by
  obtain ⟨f, fd, ps, fo, hm, mk, hb⟩ := D.ex
  exact pe_weak (pe_makeS mk fo (hr.mono hk) hg hm hb tk ha hdb he hpl) fun σ H Q ⟨B, ρ, G, α, r, h⟩ => by
    refine bA r h fun us ρ1 vs H1 G1 α1 g1 r1 p1 h1 => ?_
    split at h1
    · rename_i us' st e1
      split at h1
      · rename_i hn
        obtain ⟨G2, g2, r2, p2⟩ := argC_ok r1.toRh p1 e1
        have hl : vs.length + 1 = n := by rw [← hn, p2.length]
        have r2' : Rs X.K B ⟨ρ1.sl, st⟩ G2 α1 σ H1 := Rs.mk' r1 g2 r2
        have := newR_ok (C := C) r2' p2 (okP.shift g2 h1)
        rw [hl] at this
        exact this
      · exact h1.elim
    · exact h1.elim
end

/-- a body run; its value is an object newly made -/
def runN (m : DS) (n : Nat) : Fn := fun st us => match m ⟨us.map some ++ List.replicate (n - us.length) none, st⟩ with
  | .rt (.own j) ρ => match ρ.st[j]? with
    | some ob => if refO 0 ob = true ∧ st.length ≤ j then match cutSt st.length ρ.st with
      | some st' => .ok (.own st.length) ⟨[], st' ++ [ob]⟩
      | none => .no
      else .no
    | none => .no
  | .ex x ρ => match cutSt st.length ρ.st with
    | some st' => .ex x ⟨[], st'⟩
    | none => .no
  | _ => .no
theorem Rh.cutN {K : PySem.W.Frag} {B G H : Hp} {α : List Addr} {st st' : List Ob} {k j : Nat} {a : Addr} {ob : Ob} (r : Rh K B st G α H) (e : cutSt k st = some st') (hj : st[j]? = some ob) (ha : α[j]? = some a) (hk : k ≤ j) (hd : refO 0 ob = true) : Rh K B (st' ++ [ob]) G (α.take k ++ [a]) H := by
  have r1 := r.cut e
  obtain ⟨q1, ⟨u, q2⟩, q3⟩ := r.ow j a ob ha hj
  refine r1.adopt q1 (fun hm => ?_) q2 (q3.data hd)
  obtain ⟨i, hi, ei⟩ := List.getElem_of_mem hm
  have hi2 : i < k := by rw [List.length_take] at hi; omega
  have e3 : α[i]? = some a := by
    have := List.getElem?_eq_getElem hi
    rw [ei, List.getElem?_take_of_lt hi2] at this
    exact this
  have := nodup_at r.nd e3 ha
  omega
theorem bodyN_ok {K : PySem.W.Frag} {N : List Str} {m : DS} {n : Nat} {vs : List V} {H : Hp} {Q : VK} {E : XK} (h : spF K n (runN m N.length) vs H Q E) :
    tS K (fun cls d _ H => E cls d H) m { nx := fun _ H' => Q .non H', rt := Q } (L2.start N vs) H := by
  obtain ⟨_, B, st, G, α, us, rh, ru, ho⟩ := h
  have hl := ru.length
  have hk : st.length = α.length := rh.len.symm
  refine ⟨B, ⟨us.map some ++ List.replicate (N.length - us.length) none, st⟩, G, α, { toRh := rh, sll := ?_, sl := fun i u e => ?_ }, ?_⟩
  · simp [L2.start, hl]
  · unfold L2.start
    rw [← hl]
    exact start_sl ru _ i u e
  · unfold runN at ho
    split at ho
    · rename_i j ρ e
      rw [e]
      split at ho
      · rename_i ob e0
        split at ho
        · rename_i hc
          split at ho
          · rename_i st' e1
            intro G' α' σ' H' v g r p
            obtain ⟨a, p1, p2⟩ := p
            have rN := r.toRh.cutN e1 e0 p1 hc.2 hc.1
            obtain ⟨β, eβ⟩ := g.al
            rw [hk] at rN
            have et : α'.take α.length = α := by rw [eβ]; simp
            refine ho G' _ H' v ⟨g.ex, ⟨[a], ?_⟩, g.fr⟩ rN ⟨a, ?_, p2⟩
            · rw [et]
            · rw [et, hk]; simp
          · exact ho.elim
        · exact ho.elim
      · exact ho.elim
    · rename_i x ρ e
      rw [e]
      split at ho
      · rename_i st' e1
        rw [hk] at e1
        exact fun σ' H' G' α' d g r xd => ho G' _ H' d g.cut (r.toRh.cut e1) xd
      · exact ho.elim
    · exact ho.elim
section
variable {P : Program} {w : World} {K : PySem.W.Frag} {mg : Str → Option Value} {base : Heap} {x qual : Str} {st : Stmt} {f : Addr} {fd : FuncData} {N ps : List Str} {k n : Nat} {m : DS}
/-- a body in its context -/
abbrev Body (P : Program) (w : World) (K : PySem.W.Frag) (mg : Str → Option Value) (base : Heap) (N : List Str) (qual : Str) (f : Addr) (k : Nat) (sc : Scope) (b : List Stmt) (m : DS) : Prop :=
  ∀ (cdv : Value) (A : Around) (outer : List Env) (s : Shared) (H : Hp) (E : XK), Room k (XC P w K mg base N qual sc f cdv A outer s H E).A → Ct (XC P w K mg base N qual sc f cdv A outer s H E) (Wd E) →
      SSs (XC P w K mg base N qual sc f cdv A outer s H E) (Wd E) b m
theorem fn_denC (Fu : Fun K x qual st f fd) (S : FnScope N ps (defScope st)) (hn : ps.length = n) (hb : Body P w K mg base N qual f k (defScope st) (defBody st) m) : FnOk P w K mg base (L2.CX P w) (k + 1) f fd ps (spF K n (runD m N.length)) :=
  Fu.okX S (spF_len hn) fun cdv A outer s H vs Q E hr h => ⟨tS K (Wd E) m, hb cdv A outer s H E hr ⟨tk_of (takes_of rfl rfl rfl rfl), passes_of rfl, takes_of rfl rfl rfl rfl⟩, body_ok h⟩
theorem fn_denN (Fu : Fun K x qual st f fd) (S : FnScope N ps (defScope st)) (hn : ps.length = n) (hb : Body P w K mg base N qual f k (defScope st) (defBody st) m) : FnOk P w K mg base (L2.CX P w) (k + 1) f fd ps (spF K n (runN m N.length)) :=
  Fu.okX S (spF_len hn) fun cdv A outer s H vs Q E hr h => ⟨tS K (Wd E) m, hb cdv A outer s H E hr ⟨tk_of (takes_of rfl rfl rfl rfl), passes_of rfl, takes_of rfl rfl rfl rfl⟩, bodyN_ok h⟩
end
/-- F' tells what F tells, where it tells something -/
def Fle (F' F : Fn) : Prop := ∀ os us, F' os us ≠ .no → F os us = F' os us
theorem spF_le {K : PySem.W.Frag} {n : Nat} {F' F : Fn} (h : Fle F' F) {vs : List V} {H : Hp} {Q : VK} {E : XK} (q : spF K n F' vs H Q E) : spF K n F vs H Q E := by
  obtain ⟨q1, B, st, G, α, us, q2, q3, q4⟩ := q
  refine ⟨q1, B, st, G, α, us, q2, q3, ?_⟩
  rw [h st us (fun e => by rw [e] at q4; exact q4)]
  exact q4
end FL

/-! FL19: spliced items, texts, counters in fields, all and any. -/
namespace FL
open PySem L2 PyProof.Rows StX

section
variable {X : Cx} {W : WX} {e o a b : Expr} {es : List Expr} {me mo ma mb : DE} {da : DA} {p pos apos : Pos}
/-! *e among the items -/
def aStar (m : DE) (da : DA) : DA := fun ρ => (m ρ).bind fun u ρ1 => match toD 4 u ρ1.st with
  | some (t, st) => match itm t with
    | some ts => (da ⟨ρ1.sl, st⟩).bind fun us ρ2 => .ok (ts.map .d ++ us) ρ2
    | none => .no
  | none => .no
theorem RpUs.app {K : PySem.W.Frag} {G : Hp} {α : List Addr} : ∀ {us us' : List U} {vs vs' : List V}, RpUs K G α us vs → RpUs K G α us' vs' → RpUs K G α (us ++ us') (vs ++ vs')
  | [], _, _, _, h, g => by cases h; exact g
  | u :: us, _, _, _, ⟨v, ws, q1, q2, q3⟩, g => by subst q1; exact ⟨v, _, rfl, q2, RpUs.app q3 g⟩
theorem fa_star (h : SE X W e me) (g : SA X W es da) (hs : starEach (.Starred e p :: es) X.env = (true, eval e X.env) :: starEach es X.env := by rfl) : SA X W (.Starred e p :: es) (aStar me da) := pa_weak (pa_star h g hs) fun σ H Q ⟨B, ρ, G, α, r, h⟩ =>
  bE r h fun u ρ1 v H1 G1 α1 g1 r1 p1 h1 => by
    split at h1
    · rename_i t st e1
      obtain ⟨G2, g2, r2, p2⟩ := toD_ok 4 r1.toRh p1 e1
      have r2' : Rs X.K B ⟨ρ1.sl, st⟩ G2 α1 σ H1 := Rs.mk' r1 g2 r2
      split at h1
      · rename_i ts e2
        obtain ⟨a, vs, rfl, q1, q2⟩ := itm_ok r2.gh (Rp1.of r2.gh p2) e2
        refine ⟨a, vs, rfl, q1.symm, ?_⟩
        exact bA r2' (okP.shift g2 h1) fun us ρ2 ws H3 G3 α3 g3 r3 p3 h3 => h3 G3 α3 H3 Gr.refl r3 _ ((RpUs.ofRps (Rps.mono g3.ex q2)).app p3)
      · exact h1.elim
    · exact h1.elim

/-! texts -/
def strsT : List T → Option (List Str)
  | [] => some []
  | .str x :: ts => (strsT ts).map (x :: ·)
  | _ => none
theorem strsT_ok {K : PySem.W.Frag} {G : Hp} : ∀ {ts : List T} {vs : List V} {ys : List Str}, Rps K G ts vs → strsT ts = some ys → vs = ys.map V.str
  | [], vs, ys, h, e => by simp only [strsT, Option.some.injEq] at e; subst e; simpa [Rps] using h
  | t :: ts, vs, ys, h, e => by
    simp only [Rps] at h
    obtain ⟨v, ws, rfl, q2, q3⟩ := h
    cases t with
    | str x =>
      simp only [strsT, Option.map_eq_some_iff] at e
      obtain ⟨zs, e1, rfl⟩ := e
      have hv : v = .str x := by simpa [Rp] using q2
      rw [hv, strsT_ok q3 e1]; rfl
    | _ => simp [strsT] at e
theorem rps_strs {K : PySem.W.Frag} {G : Hp} : ∀ ys : List Str, Rps K G (ys.map T.str) (ys.map V.str)
  | [] => by simp [Rps]
  | y :: ys => by simp only [List.map_cons, Rps]; exact ⟨_, _, rfl, by simp [Rp], rps_strs ys⟩
def joinF (x y : T) : Option O := match x, itm y with
  | .str s, some ts => match strsT ts with
    | some ys => if (ys.map (·.length)).sum + ys.length * s.length ≤ 16777216 then some (.d (.str (Txt.join s ys))) else none
    | none => none
  | _, _ => none
def splitF (x y : T) : Option O := match x, y with
  | .str s, .str d => if (d.length == 0) = false ∧ s.length + 2 ≤ sizeLine then some (.l ((Txt.split s d).map .str)) else none
  | _, _ => none
/-- the receiver is seen to be a text before the argument is read -/
def mOpS (f : T → T → Option O) (ma mb : DE) : DE := fun ρ => (ma ρ).bind fun u ρ1 => match u with
  | .d (.str x) => (mb ρ1).bind fun w ρ2 => match pk ρ2.st w with
    | some y => mO (f (.str x) y) ρ2
    | none => .no
  | _ => .no
theorem tM1_of {K : PySem.W.Frag} {r : V → List V → Hp → VK → Prop} {f : T → T → Option O} (hf : OpK K (fun x y => r x [y]) f) (σ : L2.St) (H : Hp) (Q : VK) (h : tE K W (mOpS f mo me) σ H Q) : tM1 r (tE K W mo) (tE K W me) σ H Q := by
  obtain ⟨B, ρ, G, α, rs, h⟩ := h
  refine bE rs h fun u ρ1 v H1 G1 α1 g1 r1 p1 h1 => ?_
  split at h1
  · rename_i x
    have hv : v = .str x := by simpa [RpU, Rp] using p1
    subst hv
    refine ⟨⟨x, rfl⟩, bE r1 h1 fun w ρ2 v2 H2 G2 α2 g2 r2 p2 h2 => ?_⟩
    split at h2
    · rename_i y e2
      exact hf W B ρ2 G2 α2 σ H2 Q (.str x) y _ v2 r2 (Rp1.of r2.toRh.gh (by simp [Rp])) (pk_ok r2.toRh p2 e2) h2
    · exact h2.elim
  · exact h1.elim
theorem fe_join (ho : SE X W o mo) (he : SE X W e me) (hs : starEach [e] X.env = [(false, eval e X.env)] := by rfl) (hbase : attributeBase o "join" X.env (eval o X.env) = eval o X.env := by rfl) (hline : (apos.endLine == pos.line) = true := by rfl) :
    SE X W (.Call (.Attribute o "join" apos) [e] [] pos) (mOpS joinF mo me) := pe_weak (pe_join ho he hs hbase hline) (tM1_of fun W B ρ G α σ H Q x y v w rs p1 p2 q => by
  unfold joinF at q
  split at q
  · rename_i s ts e1
    obtain ⟨a, vs, rfl, h1, h2⟩ := itm_ok rs.toRh.gh p2 e1
    have hv : v = .str s := by simpa [Rp1, Rp] using p1
    subst hv
    split at q
    · rename_i ys e2
      have := strsT_ok h2 e2
      subst this
      split at q
      · rename_i hz
        exact ⟨s, a, ys, rfl, rfl, h1, hz, fin_d rs q (by simp [Rp])⟩
      · exact q.elim
    · exact q.elim
  · exact q.elim)
theorem fe_split (ho : SE X W o mo) (he : SE X W e me) (hs : starEach [e] X.env = [(false, eval e X.env)] := by rfl) (hbase : attributeBase o "split" X.env (eval o X.env) = eval o X.env := by rfl) (hline : (apos.endLine == pos.line) = true := by rfl) :
    SE X W (.Call (.Attribute o "split" apos) [e] [] pos) (mOpS splitF mo me) := pe_weak (pe_split ho he hs hbase hline) (tM1_of fun W B ρ G α σ H Q x y v w rs p1 p2 q => by
  unfold splitF at q
  split at q
  · rename_i s d
    have hv : v = .str s := by simpa [Rp1, Rp] using p1
    have hw : w = .str d := by simpa [Rp1, Rp] using p2
    subst hv; subst hw
    split at q
    · rename_i hz
      exact ⟨s, d, rfl, rfl, hz.1, hz.2, fun p hp => fin_lst rs q (rps_strs _) hp⟩
    · exact q.elim
  · exact q.elim)
/-! a text some times -/
def rMulS : R2 := fun x y H Q => ∃ (a : Str) (k : Int), x = .str a ∧ y = .int k ∧ -(2 ^ 63 : Int) ≤ k ∧ k ≤ 4096 ∧ a.length ≤ 4096 ∧ Q (.str (Txt.mul a k)) H
theorem op_mulS : OpR X (binaryOp .Mult) rMulS := by
  intro pins s σ H x y v u Q I rx ry h
  obtain ⟨a, k, rfl, rfl, h1, h2, h3, q⟩ := h
  obtain ⟨t, rfl⟩ := rx
  obtain ⟨t', rfl⟩ := ry
  obtain ⟨m1, m2, m3⟩ := mulOk_of (x := a) (n := k) 4096 4096 h3 h2 h1 (by decide) (by decide)
  refine PySem.P.mul_str m1 m2 m3 ?_
  unfold Txt.mul at q
  by_cases k1 : k < 1
  · rw [if_pos k1] at q ⊢
    exact ⟨by decide, ⟨.str _, H, I.tok _, ⟨_, rfl⟩, q⟩⟩
  · rw [if_neg k1] at q ⊢
    by_cases k2 : (k == 1 || a.length == 0) = true
    · rw [if_pos k2] at q ⊢
      exact ⟨.str _, H, I.tok _, ⟨_, rfl⟩, q⟩
    · rw [if_neg k2] at q ⊢
      have k2' : (k == 1 || a.length == 0) = false := by simpa using k2
      refine ⟨?_, ⟨.str _, H, I.tok _, ⟨_, rfl⟩, q⟩⟩
      simp only [Str.length, len_reps, Array.size_empty, Nat.zero_add]
      have h4 : k.toNat ≤ 4096 := by omega
      exact Nat.le_trans (Nat.mul_le_mul h4 h3) (by decide)
def mulSF (x y : T) : Option O := match x, y with
  | .str a, .int k => if -(2 ^ 63 : Int) ≤ k ∧ k ≤ 4096 ∧ a.length ≤ 4096 then some (.d (.str (Txt.mul a k))) else none
  | _, _ => none
theorem fe_mulS (h : SE X W a ma) (g : SE X W b mb) : SE X W (.BinOp a .Mult b pos) (mOp mulSF ma mb) := fe_bin op_mulS (fun W B ρ G α σ H Q x y v w rs p1 p2 q => by
  unfold mulSF at q
  split at q
  · rename_i s d
    have hv : v = .str s := by simpa [Rp1, Rp] using p1
    have hw : w = .int d := by simpa [Rp1, Rp] using p2
    subst hv; subst hw
    split at q
    · rename_i hz
      exact ⟨s, d, rfl, rfl, hz.1, hz.2.1, hz.2.2, fin_d rs q (by simp [Rp])⟩
    · exact q.elim
  · exact q.elim) h g
/-! all, any -/
theorem fe_all (hc : X.calm = true) (hg : Gl X "all") (hm : X.mg "all" = none) (ha : SA X W [e] da) (he : starEach [e] X.env = [(false, eval e X.env)] := by rfl) : SE X W (.Call (.Name "all" p) [e] [] pos) (mCa (allF false) da) :=
  fe_callB (cr_all hc) all_ok hg hm (by decide +kernel) ha (by decide) (by decide) he rfl
theorem fe_any (hc : X.calm = true) (hg : Gl X "any") (hm : X.mg "any" = none) (ha : SA X W [e] da) (he : starEach [e] X.env = [(false, eval e X.env)] := by rfl) : SE X W (.Call (.Name "any" p) [e] [] pos) (mCa (allF true) da) :=
  fe_callB (cr_any hc) any_ok hg hm (by decide +kernel) ha (by decide) (by decide) he rfl
/-! o.f += e, whole numbers; o an object of one's own -/
def mFldAug (C : Addr) (f : Str) (mo me : DE) : DS := fun ρ => (mo ρ).thn fun o ρ1 => match o with
  | .own j => match ρ1.st[j]? with
    | some (.obj D ns us) => if D = C ∧ ns.length < 1000 then match fAt ns us f with
      | some (.d (.int i)) => (me ρ1).thn fun u ρ2 => match u with
        | .d (.int k) => match ρ2.st[j]? with
          | some (.obj D' ns' us') => if D' = C ∧ ns'.length < 1000 then .nx ⟨ρ2.sl, ρ2.st.set j (.obj C (fPut ns' us' f (.d (.int (i + k)))).1 (fPut ns' us' f (.d (.int (i + k)))).2)⟩ else .no
          | _ => .no
        | _ => .no
      | _ => .no
      else .no
    | _ => .no
  | _ => .no
theorem fs_fldaug {C : Addr} {f : Str} {tpos : Pos} (c : Cls X.K C) (na : NoAttr X.K C f) (ho : SE X W o mo) (hv : SE X W e me) : SS X W (.AugAssign (.Attribute o f tpos) .Add e pos) (mFldAug C f mo me) := ps_weak (ps_fldaug ho hv in_add) fun D σ H ⟨B, ρ, G, α, r, h⟩ => by
  refine sE r h fun o ρ1 ov H1 G1 α1 g1 r1 p1 h1 => ?_
  split at h1
  · rename_i j
    split at h1
    · rename_i C' ns us e1
      split at h1
      · rename_i hc
        obtain ⟨rfl, hl⟩ := hc
        split at h1
        · rename_i i e2
          obtain ⟨a, ha, rfl⟩ := p1
          obtain ⟨_, _, z, dx, vs, z1, z2, z3⟩ := r1.ow j a _ ha e1
          obtain ⟨y, h5, h6⟩ := fAt_ok z3 e2
          have hy : y = .int i := by simpa [RpU, Rp] using h6
          subst hy
          refine ⟨a, C', dx, _, _, rfl, z1, c, na, h5, ?_⟩
          refine sE r1 h1 fun u ρ2 uv H2 G2 α2 g2 r2 p2 h2 => ?_
          split at h2
          · rename_i k
            have hu : uv = .int k := by simpa [RpU, Rp] using p2
            subst hu
            split at h2
            · rename_i D' ns' us' e3
              split at h2
              · rename_i hc'
                obtain ⟨rfl, hl'⟩ := hc'
                have ha2 := g2.get ha
                obtain ⟨_, _, z', dx', vs', z1', z2', z3'⟩ := r2.ow j a _ ha2 e3
                obtain ⟨vs2, q1, q2, q3⟩ := fPut_ok (f := f) (u := .d (.int (i + k))) (v := .int (i + k)) z2' z3' (by simp [RpU, Rp])
                refine ⟨i, k, rfl, rfl, dx', _, z1', by rw [List.length_zip]; omega, ?_⟩
                rw [q1]
                have r4 := r2.toRh.upd (o := .ins D' dx' ((fPut ns' us' f (.d (.int (i + k)))).1.zip vs2)) (ob := .obj D' (fPut ns' us' f (.d (.int (i + k)))).1 (fPut ns' us' f (.d (.int (i + k)))).2) ha2 z' ⟨z', dx', vs2, upd_same, q2, q3⟩
                exact h2 G2 α2 σ _ Gr.refl (Rs.mk' r2 Gr.refl r4)
              · exact h2.elim
            · exact h2.elim
          · exact h2.elim
        · exact h1.elim
      · exact h1.elim
    · exact h1.elim
  · exact h1.elim
end
end FL

/-! FL20: comprehensions of two clauses. -/
namespace FL
open PySem L2 PyProof.Rows

theorem in_it {J1 : It} {n1 : Nat} {G1 : Hp → Prop} {Y1 : Nat → Hp → V → Hp → Prop} (w : Walk J1 n1 G1 Y1) {A : V → Hp → (Hp → Prop) → Prop} {H4 : Hp} {Nx : Hp → Prop} (Pv : Nat → Hp → Prop) (h0 : Pv 0 H4) (hG : ∀ i H, i ≤ n1 → Pv i H → G1 H)
    (hs : ∀ i x H H', i < n1 → Pv i H → Y1 i H x H' → A x H' (Pv (i + 1))) (hd : ∀ H, Pv n1 H → Nx H) :
    ∃ W1 : Nat → Nat → Hp → Prop, (∃ m, W1 0 m H4) ∧ ∀ j k H, W1 j k H →
      (J1.stop j H ∧ Nx H) ∨ (J1.go j H ∧ ∃ Nx1 : Hp → Prop, (∀ H', Nx1 H' → ∃ k', k' < k ∧ W1 (j + 1) k' H') ∧ ∀ x H', J1.yld j H x H' → A x H' Nx1) := by
  refine ⟨fun i m H => m = n1 - i ∧ i ≤ n1 ∧ Pv i H, ⟨n1, by simp, Nat.zero_le _, h0⟩, ?_⟩
  rintro i m H ⟨rfl, hi, p⟩
  by_cases hlt : i < n1
  · refine .inr ⟨w.goes i H hlt (hG i H hi p), Pv (i + 1), fun H' p' => ⟨n1 - (i + 1), by omega, rfl, hlt, p'⟩, fun x H' y => hs i x H H' hlt p (w.yields i H x H' hlt (hG i H hi p) y)⟩
  · have e : i = n1 := by omega
    subst e
    exact .inl ⟨w.stops H (hG i H hi p), hd H p⟩

section
variable {K : PySem.W.Frag} {W : WX} {β : Type}
/-- where a comprehension stands that has gone through i items -/
def LcI (K : PySem.W.Frag) (W : WX) (B G1 : Hp) (α1 : List Addr) (σ σo : L2.St) (D : Addr) (sl : List (Option U)) (ts : List T) (f : List T → List T → List Ob → R β) (P : β → Sg → Hp → List Addr → Hp → Prop) (i : Nat) (H' : Hp) : Prop :=
  ∃ acc ws st' G' α', Gr B G1 α1 G' α' ∧ Rs K B ⟨sl, st'⟩ G' α' σ H' ∧ H' D = some (.lst ws) ∧ Rps K G' acc ws ∧ D ∉ α' ∧ G' D = none ∧ okP K W B G' α' σo (f (ts.drop i) acc st') P
/-- beside the comprehension's own list -/
theorem lc_back {B G1 G' G4 : Hp} {α1 α' α4 : List Addr} {σ σ4 : L2.St} {D : Addr} {sl : List (Option U)} {st' : List Ob} {ρ4 : Sg} {H' H4 : Hp} {ws : List V} {acc : List T} (hBD : B D = none) (hGD : G' D = none) (g' : Gr B G1 α1 G' α') (r' : Rs K B ⟨sl, st'⟩ G' α' σ H') (hacc : Rps K G' acc ws)
    (g4 : Gr (L2.upd B D (.lst ws)) G' α' G4 α4) (r4 : Rs K (L2.upd B D (.lst ws)) ρ4 G4 α4 σ4 H4) :
    Gr B G1 α1 G4 α4 ∧ Gr B G' α' G4 α4 ∧ Rs K B ⟨sl, ρ4.st⟩ G4 α4 σ H4 ∧ H4 D = some (.lst ws) ∧ D ∉ α4 ∧ G4 D = none ∧ Rps K G4 acc ws := by
  obtain ⟨ga, gb⟩ := Gr.unwall hBD g4
  obtain ⟨ra, rb, rc⟩ := Rs.unwall hBD r4
  exact ⟨g'.trans ga, ga, { toRh := ra.toRh, sll := r'.sll, sl := fun i u e => let ⟨v, h1, h2⟩ := r'.sl i u e; ⟨v, h1, h2.mono ga⟩ }, rc, rb, gb hGD, Rps.mono ga.ex hacc⟩
theorem lc_step {B G1 : Hp} {α1 : List Addr} {σ σo : L2.St} {D : Addr} {g : DG} {t : DT} {e : DE} {vs : List Nat} {sl : List (Option U)} {ts : List T} {k : List T → Sg → R β} {P : β → Sg → Hp → List Addr → Hp → Prop} {i : Nat} {x : V} {H' H'' : Hp} (hBD : B D = none)
    (h : LcI K W B G1 α1 σ σo D sl ts (fun xs acc st => (lcL g t e vs sl xs acc st).bind k) P i H') (y : Yt K G1 ts i H' x H'') :
    tGv K vs g x (L2.wipe σ vs) H'' fun σ2 H2 => L2.wipe σ2 vs = L2.wipe σ vs ∧ tT K W0 t σ2 H2 fun b H3 => if b = true then tE K W0 e σ2 H3 fun y H4 => ∃ acc, H4 D = some (.lst acc) ∧ acc.length < sizeLine ∧
      LcI K W B G1 α1 σ σo D sl ts (fun xs acc st => (lcL g t e vs sl xs acc st).bind k) P (i + 1) (L2.upd H4 D (.lst (acc ++ [y]))) else LcI K W B G1 α1 σ σo D sl ts (fun xs acc st => (lcL g t e vs sl xs acc st).bind k) P (i + 1) H3 := by
  obtain ⟨acc, ws, st', G', α', g', r', hDw, hacc, hDn, hGD, ho⟩ := h
  obtain ⟨tt, G2, e1, g2, r2, p2⟩ := item_ok (r'.wall hDw hDn) g'.ex y
  dsimp only at ho
  rw [drop_at e1] at ho
  unfold lcL at ho
  refine ⟨L2.upd B D (.lst ws), ⟨wipeL sl vs, st'⟩, G2, α', .d tt, r2.wipe vs, p2, ?_⟩
  cases eg : g (.d tt) ⟨wipeL sl vs, st'⟩ with
  | ex x ρ3 => rw [eg] at ho; exact ho.elim
  | no => rw [eg] at ho; exact ho.elim
  | ok _ ρ3 =>
    rw [eg] at ho
    dsimp only at ho
    intro G3 α3 σ3 H3 g3 r3 hw3
    refine ⟨hw3.trans (wipe_wipe σ vs), L2.upd B D (.lst ws), ρ3, G3, α3, r3, ?_⟩
    cases et : t ρ3 with
    | ex x ρ4 => rw [et] at ho; exact ho.elim
    | no => rw [et] at ho; exact ho.elim
    | ok b ρ4 =>
      rw [et] at ho
      intro G4 α4 H4 g4 r4
      cases b with
      | false =>
        dsimp only at ho
        obtain ⟨q1, q2, q3, q4, q5, q6, q7⟩ := lc_back hBD hGD g' r' hacc ((g2.trans g3).trans g4) r4
        exact ⟨acc, ws, ρ4.st, G4, α4, q1, q3, q4, q7, q5, q6, okP.shift q2 ho⟩
      | true =>
        dsimp only at ho
        show tE K W0 e σ3 H4 _
        refine ⟨L2.upd B D (.lst ws), ρ4, G4, α4, r4, ?_⟩
        cases ee : e ρ4 with
        | ex x ρ5 => rw [ee] at ho; exact ho.elim
        | no => rw [ee] at ho; exact ho.elim
        | ok u ρ5 =>
          rw [ee] at ho
          dsimp only at ho
          intro G5 α5 H5 g5 r5 v p5
          cases ed : toD 4 u ρ5.st with
          | none => rw [ed] at ho; exact ho.elim
          | some ys =>
            obtain ⟨yy, st6⟩ := ys
            rw [ed] at ho
            dsimp only at ho
            split at ho
            · rename_i hz
              obtain ⟨G6, g6, r6, p6⟩ := toD_ok 4 r5.toRh p5 ed
              have r6' : Rs K (L2.upd B D (.lst ws)) ⟨ρ5.sl, st6⟩ G6 α5 σ3 H5 := Rs.mk' r5 g6 r6
              obtain ⟨q1, q2, q3, q4, q5, q6, q7⟩ := lc_back hBD hGD g' r' hacc ((((g2.trans g3).trans g4).trans g5).trans g6) r6'
              refine ⟨ws, q4, by rw [← q7.length]; exact hz, acc ++ [yy], ws ++ [v], st6, G6, α5, q1, { toRh := q3.toRh.other hBD q6 q5, sll := q3.sll, sl := q3.sl }, upd_same, q7.append (Rps.cons p6 Rps.nil), q5, q6, okP.shift q2 ho⟩
            · exact ho.elim
def lcL2 (g : DG) (t : DT) (mi1 : DI) (g1 : DG) (t1 : DT) (e : DE) (vs vs1 : List Nat) (sl : List (Option U)) : List T → List T → List Ob → R (List T)
  | [], acc, st => .ok acc ⟨sl, st⟩
  | x :: xs, acc, st => match g (.d x) ⟨wipeL sl vs, st⟩ with
    | .ok _ ρ1 => match t ρ1 with
      | .ok true ρ2 => match mi1 ρ2 with
        | .ok ts1 ρ3 => (lcL g1 t1 e vs1 ρ3.sl ts1 acc ρ3.st).bind fun acc1 ρ4 => lcL2 g t mi1 g1 t1 e vs vs1 sl xs acc1 ρ4.st
        | _ => .no
      | .ok false ρ2 => lcL2 g t mi1 g1 t1 e vs vs1 sl xs acc ρ2.st
      | _ => .no
    | _ => .no
def mLc2 (i : DI) (g : DG) (t : DT) (mi1 : DI) (g1 : DG) (t1 : DT) (e : DE) (vs vs1 : List Nat) : DE := fun ρ => (i ρ).bind fun ts ρ1 => (lcL2 g t mi1 g1 t1 e vs vs1 ρ1.sl ts [] ρ1.st).bind fun acc ρ2 => .ok (.own ρ2.st.length) ⟨ρ2.sl, ρ2.st ++ [.lst acc]⟩
theorem tLc2_of {mi mi1 : DI} {g g1 : DG} {t t1 : DT} {e : DE} {vs vs1 : List Nat} {σ : L2.St} {H : Hp} {Q : VK} (h : tE K W (mLc2 mi g t mi1 g1 t1 e vs vs1) σ H Q) :
    tLc2 (tI K W mi) (tGv K vs g) (tT K W0 t) (tI K W0 mi1) (tGv K vs1 g1) (tT K W0 t1) (tE K W0 e) vs vs1 σ H Q := by
  obtain ⟨B, ρ, G, α, r, h⟩ := h
  unfold mLc2 at h
  refine ⟨B, ρ, G, α, r, ?_⟩
  cases e0 : mi ρ with
  | ex x ρ1 => rw [e0] at h; exact h
  | no => rw [e0] at h; exact h
  | ok ts ρ1 =>
    rw [e0] at h
    intro G1 α1 H1 gr1 r1 J wt D hD
    have hBD := r1.bh.free hD
    refine in_it wt (LcI K W B G1 α1 σ σ D ρ1.sl ts (fun xs acc st => (lcL2 g t mi1 g1 t1 e vs vs1 ρ1.sl xs acc st).bind fun acc ρ2 => .ok (.own ρ2.st.length) ⟨ρ2.sl, ρ2.st ++ [.lst acc]⟩) (EndP K Q)) ?_ ?_ ?_ ?_
    · have hn := r1.toRh.nin hD
      exact ⟨[], [], ρ1.st, G1, α1, Gr.refl, { toRh := r1.toRh.other hBD (r1.gh.free hD) hn, sll := r1.sll, sl := r1.sl }, upd_same, Rps.nil, hn, r1.gh.free hD, okP.shift gr1 h⟩
    · rintro i H' _ ⟨acc, ws, st', G', α', g', r', _⟩
      exact g'.ex.trans r'.gh
    · rintro i x H' H'' hi ⟨acc, ws, st', G', α', g', r', hDw, hacc, hDn, hGD, ho⟩ y
      obtain ⟨tt, G2, e1, g2, r2, p2⟩ := item_ok (r'.wall hDw hDn) g'.ex y
      dsimp only at ho
      rw [drop_at e1] at ho
      unfold lcL2 at ho
      refine ⟨L2.upd B D (.lst ws), ⟨wipeL ρ1.sl vs, st'⟩, G2, α', .d tt, r2.wipe vs, p2, ?_⟩
      cases eg : g (.d tt) ⟨wipeL ρ1.sl vs, st'⟩ with
      | ex x ρ3 => rw [eg] at ho; exact ho.elim
      | no => rw [eg] at ho; exact ho.elim
      | ok _ ρ3 =>
        rw [eg] at ho
        dsimp only at ho
        intro G3 α3 σ3 H3 g3 r3 hw3
        refine ⟨hw3.trans (wipe_wipe σ vs), L2.upd B D (.lst ws), ρ3, G3, α3, r3, ?_⟩
        cases et : t ρ3 with
        | ex x ρ4 => rw [et] at ho; exact ho.elim
        | no => rw [et] at ho; exact ho.elim
        | ok b ρ4 =>
          rw [et] at ho
          intro G4 α4 H4 g4 r4
          cases b with
          | false =>
            dsimp only at ho
            obtain ⟨q1, q2, q3, q4, q5, q6, q7⟩ := lc_back hBD hGD g' r' hacc ((g2.trans g3).trans g4) r4
            exact ⟨acc, ws, ρ4.st, G4, α4, q1, q3, q4, q7, q5, q6, okP.shift q2 ho⟩
          | true =>
            dsimp only at ho
            show tI K W0 mi1 σ3 H4 _
            refine ⟨L2.upd B D (.lst ws), ρ4, G4, α4, r4, ?_⟩
            cases ei : mi1 ρ4 with
            | ex x ρ5 => rw [ei] at ho; exact ho.elim
            | no => rw [ei] at ho; exact ho.elim
            | ok ts1 ρ5 =>
              rw [ei] at ho
              dsimp only at ho
              intro G5 α5 H5 g5 r5 J1 wt1
              have gAll := ((g2.trans g3).trans g4).trans g5
              obtain ⟨q1, q2, q3, q4, q5, q6, q7⟩ := lc_back hBD hGD g' r' hacc gAll r5
              obtain ⟨r5', _, _⟩ := Rs.unwall hBD r5
              refine in_it (A := fun x H' Nx1 => tGv K vs1 g1 x (L2.wipe σ3 vs1) H' fun σ5 H5 => L2.wipe σ5 vs1 = L2.wipe σ3 vs1 ∧ tT K W0 t1 σ5 H5 fun b H6 => if b = true then tE K W0 e σ5 H6 fun y H7 => ∃ acc, H7 D = some (.lst acc) ∧ acc.length < sizeLine ∧ Nx1 (L2.upd H7 D (.lst (acc ++ [y]))) else Nx1 H6)
                wt1 (LcI K W B G5 α5 σ3 σ D ρ5.sl ts1 (fun xs acc st => (lcL g1 t1 e vs1 ρ5.sl xs acc st).bind fun acc1 ρ6 => (lcL2 g t mi1 g1 t1 e vs vs1 ρ1.sl (ts.drop (i + 1)) acc1 ρ6.st).bind fun acc ρ2 => .ok (.own ρ2.st.length) ⟨ρ2.sl, ρ2.st ++ [.lst acc]⟩) (EndP K Q)) ?_ ?_ ?_ ?_
              · refine ⟨acc, ws, ρ5.st, G5, α5, Gr.refl, r5', q4, q7, q5, q6, ?_⟩
                dsimp only
                rw [List.drop_zero]
                have := okP.shift q2 ho
                cases el : lcL g1 t1 e vs1 ρ5.sl ts1 acc ρ5.st with
                | ok a ρ6 =>
                  rw [el] at this
                  dsimp only [R.bind_ok] at this ⊢
                  cases e7 : lcL2 g t mi1 g1 t1 e vs vs1 ρ1.sl (ts.drop (i + 1)) a ρ6.st with
                  | ok a2 ρ7 => rw [e7] at this; exact this
                  | ex x ρ7 => rw [e7] at this; exact this
                  | no => rw [e7] at this; exact this
                | ex x ρ6 => rw [el] at this; exact this
                | no => rw [el] at this; exact this
              · rintro j H' _ ⟨acc, ws, st', G', α', g', r', _⟩
                exact g'.ex.trans r'.gh
              · rintro j x H' H'' hj hI yy
                exact lc_step hBD hI yy
              · rintro H' ⟨acc6, ws6, st6, G6, α6, g6, r6, hD6, hacc6, hDn6, hGD6, ho6⟩
                dsimp only at ho6
                rw [List.drop_length] at ho6
                refine ⟨acc6, ws6, st6, G6, α6, q1.trans g6, { toRh := r6.toRh, sll := q3.sll, sl := fun i u e => let ⟨v, h1, h2⟩ := q3.sl i u e; ⟨v, h1, h2.mono g6⟩ }, hD6, hacc6, hDn6, hGD6, ?_⟩
                dsimp only
                exact ho6
    · rintro H' ⟨acc, ws, st', G', α', g', r', hDw, hacc, hDn, hGD, ho⟩
      dsimp only at ho
      rw [List.drop_length] at ho
      have r2 := r'.toRh.adopt (ob := .lst acc) hBD hDn hDw ⟨hGD, ws, hDw, hacc⟩
      exact ho G' (α' ++ [D]) H' Gr.own (Rs.mk' r' Gr.own r2) _ (own_last r'.toRh)
end
section
variable {X : Cx} {W : WX} {elt tg iter tg1 iter1 : Expr} {ifs ifs1 : List Expr} {scope : Scope} {own : List (Str × Nat)} {pos : Pos} {mi mi1 : DI} {g g1 : DG} {t t1 : DT} {m : DE}
theorem fe_lc2 (own : List (Str × Nat)) (vs1 : List Nat) (hc : X.calm = true) (hN : X.N.Nodup) (hi : SI X W tg iter mi) (ok : BlkOk X.N X.env.scope scope own) (hv : ∀ i ∈ vs1, i ∈ own.map (·.2))
    (hg : ∀ (s : Shared) (H : Hp) (C : Addr) (cl : List (Str × Addr)) (fp : List Addr), PG (X.blk s H scope (compEnvC scope cl C X.env) fp) tg (tGv X.K (own.map (·.2)) g)) (ht : ∀ (s : Shared) (H : Hp) (C : Addr) (cl : List (Str × Addr)) (fp : List Addr), SQ (X.blk s H scope (compEnvC scope cl C X.env) fp) W0 ifs t)
    (hi1 : ∀ (s : Shared) (H : Hp) (C : Addr) (cl : List (Str × Addr)) (fp : List Addr), SI (X.blk s H scope (compEnvC scope cl C X.env) fp) W0 tg1 iter1 mi1)
    (hg1 : ∀ (s : Shared) (H : Hp) (C : Addr) (cl : List (Str × Addr)) (fp : List Addr), PG (X.blk s H scope (compEnvC scope cl C X.env) fp) tg1 (tGv X.K vs1 g1)) (ht1 : ∀ (s : Shared) (H : Hp) (C : Addr) (cl : List (Str × Addr)) (fp : List Addr), SQ (X.blk s H scope (compEnvC scope cl C X.env) fp) W0 ifs1 t1)
    (he : ∀ (s : Shared) (H : Hp) (C : Addr) (cl : List (Str × Addr)) (fp : List Addr), SE (X.blk s H scope (compEnvC scope cl C X.env) fp) W0 elt m) (hs : ∀ x, foldedSetIterable iter X.env x = pure x := by intro _; rfl) (hs1 : ∀ env x, foldedSetIterable iter1 env x = pure x := by intro _ _; rfl) :
    SE X W (.ListComp elt [⟨tg, iter, ifs, 0⟩, ⟨tg1, iter1, ifs1, 0⟩] scope pos) (mLc2 mi g t mi1 g1 t1 m (own.map (·.2)) vs1) := pe_weak (pe_lc2 hc hN hi ok hv hg ht hi1 hg1 ht1 he hs hs1) fun _ _ _ h => tLc2_of h
end
end FL

/-! FL21: an own ==, properties, own classes in isinstance. -/
namespace FL
open PySem L2 PyProof.Rows

theorem Rs.ext {K : PySem.W.Frag} {B G H H' : Hp} {α : List Addr} {σ : L2.St} {ρ : Sg} (r : Rs K B ρ G α σ H) (e : Ext H H') : Rs K B ρ G α σ H' := by
  have e' : Ex H H' := fun a o h => e a o h
  have ow : ∀ (i : Nat) (a : Addr) (ob : Ob), α[i]? = some a → ρ.st[i]? = some ob → B a = none ∧ (∃ u, H' a = some u) ∧ ObR K G α H' a ob := fun i a ob e1 e2 => by
    obtain ⟨q1, ⟨u, q2⟩, q3⟩ := r.ow i a ob e1 e2
    exact ⟨q1, ⟨u, e' _ _ q2⟩, q3.mono (B := B) Gr.refl (fun z => z) (by rw [e' _ _ q2, q2])⟩
  exact { gh := r.gh.trans e', bh := r.bh.trans e', len := r.len, nd := r.nd, sll := r.sll, sl := r.sl, ow := ow }
theorem passF {P : Program} {w : World} {X : Cx} : Passes (L2.CX P w) X (fun _ _ _ => False) := fun pins σ H s e s' I c => by
  obtain ⟨_, _, _, _, _, _, _, _, _, _, _, _, z⟩ := c
  exact z.elim

section
variable {X : Cx} {W : WX} {a b e : Expr} {ma mb mo : DE} {k j n : Nat} {C : Addr} {F : Fn} {pos : Pos} {f x : Str}
/-- F says yes of two data -/
def eqR (K : PySem.W.Frag) (F : Fn) (a b : Addr) (H : Hp) : Prop := ∃ G tx ty, Ex G H ∧ Rp K G tx (.ref a) ∧ Rp K G ty (.ref b) ∧ F [] [.d tx, .d ty] = .ok (.d (.bl true)) ⟨[], []⟩
theorem spEq_of {K : PySem.W.Frag} {vs : List V} {H : Hp} {Q : VK} {E : XK} (h : spEq (eqR K F) vs H Q E) : spF K 2 F vs H Q E := by
  obtain ⟨a, b, rfl, ⟨G, tx, ty, g, p1, p2, eF⟩, q⟩ := h
  refine ⟨rfl, H, [], G, [], [.d tx, .d ty], ⟨g, Ex.refl H, rfl, by simp, fun i a o e1 e2 => by simp at e1⟩, ⟨_, _, rfl, p1, _, _, rfl, p2, rfl⟩, ?_⟩
  rw [eF]
  intro G' α' H' v g' r' p
  have hv : v = .bl true := by simpa [RpU, Rp] using p
  subst hv
  exact q H' fun a o h => r'.bh a o h
def isObj (C : Addr) : T → Bool
  | .obj D _ _ => decide (D = C)
  | _ => false
/-- a == b, both of the class C, and equal -/
def mEqO (C : Addr) (F : Fn) (ma mb : DE) : DE := fun ρ => (ma ρ).bind fun u ρ1 => (mb ρ1).bind fun w ρ2 => match toD 4 u ρ2.st with
  | some (tx, st1) => match toD 4 w st1 with
    | some (ty, st2) => if isObj C tx = true ∧ isObj C ty = true then match F [] [.d tx, .d ty] with
      | .ok (.d (.bl true)) ⟨[], []⟩ => .ok (.d (.bl true)) ⟨ρ2.sl, st2⟩
      | _ => .no
      else .no
    | none => .no
  | none => .no
theorem rp_isObj {K : PySem.W.Frag} {G : Hp} {t : T} {v : V} (h : isObj C t = true) (p : Rp K G t v) : ∃ a dx fs, v = .ref a ∧ G a = some (.ins C dx fs) := by
  cases t with
  | obj D ns ts =>
    have : D = C := of_decide_eq_true h
    subst this
    simp only [Rp] at p
    obtain ⟨a, dx, vs, rfl, h1, _⟩ := p
    exact ⟨a, dx, _, rfl, h1⟩
  | _ => cases h
theorem fe_eqO (M : Mn X.prog X.w X.K X.mg X.base k C "__eq__" 2 F) (hr : Room j X.A) (ha : SE X W a ma) (hb : SE X W b mb) (hk : k ≤ j := by decide) (hm : behindInMarks .Eq b = false := by first | exact nobehind _ (by decide) (by decide) | rfl) : SE X W (.Compare a [.Eq] [b] pos) (mEqO C F ma mb) := by
  obtain ⟨f, fd, ps, fo, c, mt, bd⟩ := M.ex
  refine pe_weak (pe_cmpR (op_eqG (rcG_ins (fo.imp fun vs H Q E h => spEq_of h) mt.at_ mt.fn bd (passF (P := X.prog) (w := X.w))) (hr.mono hk)) ha hb hm) fun σ H Q ⟨B, ρ, G, α, r, h⟩ => ?_
  refine bE r h fun u ρ1 v H1 G1 α1 g1 r1 p1 h1 => bE r1 h1 fun w ρ2 y H2 G2 α2 g2 r2 p2 h2 => ?_
  split at h2
  · rename_i tx st1 e1
    obtain ⟨G3, g3, r3, p3⟩ := toD_ok 4 r2.toRh (p1.mono g2) e1
    split at h2
    · rename_i ty st2 e2
      obtain ⟨G4, g4, r4, p4⟩ := toD_ok 4 r3 (p2.mono g3) e2
      split at h2
      · rename_i hc
        split at h2
        · rename_i eF
          have p3' := Rp.mono g4.ex p3
          obtain ⟨a1, d1, f1, rfl, q1⟩ := rp_isObj hc.1 p3'
          obtain ⟨a2, d2, f2, rfl, q2⟩ := rp_isObj hc.2 p4
          refine ⟨⟨a1, a2, d1, d2, f1, f2, rfl, rfl, r4.gh _ _ q1, r4.gh _ _ q2, G4, tx, ty, r4.gh, p3', p4, eF⟩, fun H' ex => ?_⟩
          have r4' : Rs X.K B ⟨ρ2.sl, st2⟩ G4 α2 σ H2 := Rs.mk' r2 (g3.trans g4) r4
          exact h2 G4 α2 H' (g3.trans g4) (r4'.ext ex) _ (by simp [RpU, Rp])
        · exact h2.elim
      · exact h2.elim
    · exact h2.elim
  · exact h2.elim
theorem ft_eqO (M : Mn X.prog X.w X.K X.mg X.base k C "__eq__" 2 F) (hr : Room j X.A) (ha : SE X W a ma) (hb : SE X W b mb) (hk : k ≤ j := by decide) (hm : behindInMarks .Eq b = false := by first | exact nobehind _ (by decide) (by decide) | rfl) : ST X W (.Compare a [.Eq] [b] pos) (mTest (mEqO C F ma mb)) := by
  obtain ⟨f, fd, ps, fo, c, mt, bd⟩ := M.ex
  refine pt_weak (pt_cmpR (op_eqG (rcG_ins (fo.imp fun vs H Q E h => spEq_of h) mt.at_ mt.fn bd (passF (P := X.prog) (w := X.w))) (hr.mono hk)) ha hb hm) fun σ H Q h => ?_
  obtain ⟨B, ρ, G, α, r, h⟩ := tTest_of h
  refine bE r h fun u ρ1 v H1 G1 α1 g1 r1 p1 h1 => bE r1 h1 fun w ρ2 y H2 G2 α2 g2 r2 p2 h2 => ?_
  split at h2
  · rename_i tx st1 e1
    obtain ⟨G3, g3, r3, p3⟩ := toD_ok 4 r2.toRh (p1.mono g2) e1
    split at h2
    · rename_i ty st2 e2
      obtain ⟨G4, g4, r4, p4⟩ := toD_ok 4 r3 (p2.mono g3) e2
      split at h2
      · rename_i hc
        split at h2
        · rename_i eF
          have p3' := Rp.mono g4.ex p3
          obtain ⟨a1, d1, f1, rfl, q1⟩ := rp_isObj hc.1 p3'
          obtain ⟨a2, d2, f2, rfl, q2⟩ := rp_isObj hc.2 p4
          refine ⟨⟨a1, a2, d1, d2, f1, f2, rfl, rfl, r4.gh _ _ q1, r4.gh _ _ q2, G4, tx, ty, r4.gh, p3', p4, eF⟩, fun H' ex => ?_⟩
          have r4' : Rs X.K B ⟨ρ2.sl, st2⟩ G4 α2 σ H2 := Rs.mk' r2 (g3.trans g4) r4
          exact h2 G4 α2 H' (g3.trans g4) (r4'.ext ex) _ (by simp [RpU, Rp])
        · exact h2.elim
      · exact h2.elim
    · exact h2.elim
  · exact h2.elim
/-! e.f, a property -/
structure Pn (P : Program) (w : World) (K : PySem.W.Frag) (mg : Str → Option Value) (base : Heap) (k : Nat) (C : Addr) (f : Str) (F : Fn) : Prop where
  ex : ∃ (p g : Addr) (fd : FuncData) (ps : List Str), FnOk P w K mg base (L2.CX P w) k g fd ps (spF K 1 F) ∧ Cls K C ∧ PropOf K C f p g ∧ Binds K fd ps []
def noX {β : Type} (r : R β) : R β := match r with
  | .ok u ρ => .ok u ρ
  | _ => .no
def mProp (C : Addr) (F : Fn) (cs : List Bool) (mo : DE) : DE := fun ρ => (mo ρ).bind fun o ρ1 => match insOf C ρ1.st o with
  | some _ => match argC cs [o] ρ1.st with
    | some (us', st) => noX (callR F us' ⟨ρ1.sl, st⟩)
    | none => .no
  | none => .no
theorem fe_prop (M : Pn X.prog X.w X.K X.mg X.base k C f F) (cs : List Bool) (hr : Room j X.A) (ho : SE X W e mo) (hk : k + 1 ≤ j := by decide) (hab : attributeBase e f X.env (eval e X.env) = eval e X.env := by rfl) : SE X W (.Attribute e f pos) (mProp C F cs mo) := by
  obtain ⟨p, g, fd, ps, fo, c, hp, hb⟩ := M.ex
  refine pe_weak (pe_prop (E := fun _ _ _ => False) ho c hp fo (hr.mono hk) hb .nil passF hab) fun σ H Q ⟨B, ρ, G, α, r, h⟩ => ?_
  refine bE r h fun o ρ1 ov H1 G1 α1 g1 r1 p1 h1 => ?_
  split at h1
  · rename_i q e0
    obtain ⟨ns, us0⟩ := q
    obtain ⟨a, dx, vs0, rfl, z1, z2, z3⟩ := insOf_ok r1.toRh p1 e0
    refine ⟨a, dx, _, rfl, z1, ?_⟩
    split at h1
    · rename_i us' st e1
      obtain ⟨G3, g3, r3, p3⟩ := argC_ok r1.toRh (show RpUs X.K G1 α1 [o] [.ref a] from ⟨_, _, rfl, p1, rfl⟩) e1
      have r3' : Rs X.K B ⟨ρ1.sl, st⟩ G3 α1 σ H1 := Rs.mk' r1 g3 r3
      refine call_ok (W := W0) (F := F) r3' p3 ?_
      have h1 := okP.shift g3 h1
      cases ec : callR F us' ⟨ρ1.sl, st⟩ with
      | ok u ρ2 => rw [ec] at h1; exact h1
      | ex x ρ2 => rw [ec] at h1; exact h1.elim
      | no => rw [ec] at h1; exact h1.elim
    · exact h1.elim
  · exact h1.elim
end
end FL

/-! FL22: what the walks of a law lean on. -/
namespace FL
open PySem L2 PyProof.Rows

theorem huS {A : Around} {k : Nat} (hr : Room k A) : A.units + 1 < cLine := hu_of hr
/-- a constant of the module -/
structure Gk (K : PySem.W.Frag) (mg : Str → Option Value) (x : Str) (t : T) : Prop where
  ex : ∃ (u : Value) (v : V), mg x = some u ∧ RelV v u ∧ Rp K (fun _ => none) t v
/-- a dict of the module, texts to whole numbers -/
structure Gd (K : PySem.W.Frag) (w : World) (mg : Str → Option Value) (x : Str) (tab : List (Str × Int)) : Prop where
  ex : ∃ d : Addr, mg x = some (.ref d) ∧ KTab K w d tab
/-- a class of the module, as isinstance asks for it -/
structure Gc (K : PySem.W.Frag) (mg : Str → Option Value) (x : Str) (C : Addr) : Prop where
  mg_ : mg x = some (.ref C)
  cl : Cls K C
  ha : PySem.W.findIn K (.ref C) "__class__" = some (some (.builtin "object.__class__"))
  hn : PySem.W.specialIn K (.builtin "object.__class__") "__get__" = some (some (.builtin "getset_descriptor.__get__"))
  htk : PySem.W.takesIn K (.builtin "object.__class__") = some true
  hm : PySem.W.mroIn K C (.type "object") = some true
section
variable {X : Cx} {W : WX} {e : Expr} {ma : DE} {x : Str} {pos p p2 : Pos} {C : Addr} {tab : List (Str × Int)} {t : T}
theorem fe_gk (g : Gk X.K X.mg x t) (hg : Gl X x := by rfl) (hd : (x == ("__debug__" : Str)) = false := by decide) : SE X W (.Name x pos) (mC t) := by
  obtain ⟨u, v, h1, h2, h3⟩ := g.ex
  exact fe_glob hg h1 h2 h3 hd
theorem fe_inKd (g : Gd X.K X.w X.mg x tab) (he : SE X W e ma) (hg : Gl X x := by rfl) (hdx : (x == ("__debug__" : Str)) = false := by decide) (hb : behindInMarks .In (.Name x p2) = false := by rfl) : SE X W (.Compare e [.In] [.Name x p2] pos) (mInK tab ma) := by
  obtain ⟨d, h1, h2⟩ := g.ex
  exact fe_inK h2 hg h1 he hdx hb
theorem ft_inKd (g : Gd X.K X.w X.mg x tab) (he : SE X W e ma) (hg : Gl X x := by rfl) (hdx : (x == ("__debug__" : Str)) = false := by decide) (hb : behindInMarks .In (.Name x p2) = false := by rfl) : ST X W (.Compare e [.In] [.Name x p2] pos) (mTest (mInK tab ma)) := by
  obtain ⟨d, h1, h2⟩ := g.ex
  exact ft_inK h2 hg h1 he hdx hb
theorem fe_ixKd (g : Gd X.K X.w X.mg x tab) (he : SE X W e ma) (hg : Gl X x := by rfl) (hdx : (x == ("__debug__" : Str)) = false := by decide) (hs : PlainIx e := by exact fun _ _ => rfl) : SE X W (.Subscript (.Name x p2) e pos) (mIxK tab ma) := by
  obtain ⟨d, h1, h2⟩ := g.ex
  exact fe_ixK h2 hg h1 he hdx hs
def mIsO (C : Addr) (m : DE) : DE := fun ρ => (m ρ).bind fun u ρ1 => match insOf C ρ1.st u with
  | some _ => .ok (.d (.bl true)) ρ1
  | none => .no
theorem fe_isO (g : Gc X.K X.mg x C) (he : SE X W e ma) (hm : X.mg "isinstance" = none) (hg : Gl X "isinstance" := by rfl) (hgx : Gl X x := by rfl) (hs : starEach [e, .Name x p2] X.env = (false, eval e X.env) :: starEach [.Name x p2] X.env := by rfl)
    (hdx : (x == ("__debug__" : Str)) = false := by decide) : SE X W (.Call (.Name "isinstance" p) [e, .Name x p2] [] pos) (mIsO C ma) :=
  pe_weak (pe_callB call_isi hg hm (by decide +kernel) (pa_cons he (pa_cons (pe_glob hgx g.mg_ (v := .ref C) rfl hdx) pa_nil) hs) (by decide) (by decide) hs rfl) fun σ H Q ⟨B, ρ, G, α, r, h⟩ => by
    refine bE r h fun u ρ1 v H1 G1 α1 g1 r1 p1 h1 => ?_
    split at h1
    · rename_i q e1
      obtain ⟨ns, us⟩ := q
      obtain ⟨a, dx, vs, rfl, z1, z2, z3⟩ := insOf_ok r1.toRh p1 e1
      refine ⟨_, _, _, .ref C, true, rfl, .own C, .base (.ins z1 g.cl g.ha g.hn g.htk g.hm), ?_, h1 G1 α1 H1 Gr.refl r1 _ (by simp [RpU, Rp])⟩
      unfold PySem.W.kitOne
      rw [if_pos (by simp)]
    · exact h1.elim
end

/-- a def of the module -/
structure Df (K : PySem.W.Frag) (mg : Str → Option Value) (x : Str) (st : Stmt) (ps : List Str) : Prop where
  ex : ∃ (f : Addr) (fd : FuncData), Fun K x x st f fd ∧ mg x = some (.ref f) ∧ PySem.W.keepIn K (.ref f) = true ∧ Binds K fd ps []
/-- a method -/
structure Dm (K : PySem.W.Frag) (C : Addr) (x qual : Str) (st : Stmt) (ps : List Str) : Prop where
  ex : ∃ (f : Addr) (fd : FuncData), Fun K x qual st f fd ∧ Cls K C ∧ Meth K C x f ∧ Binds K fd ps []
/-- what makes the instances of a class -/
structure Di (K : PySem.W.Frag) (mg : Str → Option Value) (c : Str) (C : Addr) (qual : Str) (st : Stmt) (ps : List Str) : Prop where
  ex : ∃ (f : Addr) (fd : FuncData), Fun K "__init__" qual st f fd ∧ mg c = some (.ref C) ∧ Mk K C f ∧ Binds K fd ps []
/-- a property -/
structure Dp (K : PySem.W.Frag) (C : Addr) (x qual : Str) (st : Stmt) (ps : List Str) : Prop where
  ex : ∃ (p g : Addr) (fd : FuncData), Fun K x qual st g fd ∧ Cls K C ∧ PropOf K C x p g ∧ Binds K fd ps []
def noF : Fn := fun _ _ => .no
section
variable {P : Program} {w : World} {K : PySem.W.Frag} {mg : Str → Option Value} {base : Heap} {x c qual : Str} {st : Stmt} {N ps : List Str} {k k' n : Nat} {m : DS} {C : Addr} {F : Fn}
theorem Df.dn (D : Df K mg x st ps) (S : FnScope N ps (defScope st)) (hn : ps.length = n) (hb : ∀ f, Body P w K mg base N x f k (defScope st) (defBody st) m) : Dn P w K mg base (k + 1) x n (runD m N.length) := by
  obtain ⟨f, fd, h1, h2, h3, h4⟩ := D.ex
  exact ⟨f, fd, ps, fn_denC h1 S hn (hb f), h2, h3, h4⟩
theorem Df.dnN (D : Df K mg x st ps) (S : FnScope N ps (defScope st)) (hn : ps.length = n) (hb : ∀ f, Body P w K mg base N x f k (defScope st) (defBody st) m) : Dn P w K mg base (k + 1) x n (runN m N.length) := by
  obtain ⟨f, fd, h1, h2, h3, h4⟩ := D.ex
  exact ⟨f, fd, ps, fn_denN h1 S hn (hb f), h2, h3, h4⟩
theorem Dm.mn (D : Dm K C x qual st ps) (S : FnScope N ps (defScope st)) (hn : ps.length = n) (hb : ∀ f, Body P w K mg base N qual f k (defScope st) (defBody st) m) : Mn P w K mg base (k + 1) C x n (runD m N.length) := by
  obtain ⟨f, fd, h1, h2, h3, h4⟩ := D.ex
  exact ⟨f, fd, ps, fn_denC h1 S hn (hb f), h2, h3, h4⟩
theorem Di.cn (D : Di K mg c C qual st ps) (S : FnScope N ps (defScope st)) (hn : ps.length = n) (hb : ∀ f, Body P w K mg base N qual f k (defScope st) (defBody st) m) : Cn P w K mg base (k + 1) c C n (runD m N.length) := by
  obtain ⟨f, fd, h1, h2, h3, h4⟩ := D.ex
  exact ⟨f, fd, ps, fn_denC h1 S hn (hb f), h2, h3, h4⟩
theorem Dp.pn (D : Dp K C x qual st ps) (S : FnScope N ps (defScope st)) (hn : ps.length = 1) (hb : ∀ f, Body P w K mg base N qual f k (defScope st) (defBody st) m) : Pn P w K mg base (k + 1) C x (runD m N.length) := by
  obtain ⟨p, f, fd, h1, h2, h3, h4⟩ := D.ex
  exact ⟨p, f, fd, ps, fn_denC h1 S hn (hb f), h2, h3, h4⟩
theorem noFn {f : Addr} {fd : FuncData} (hn : ps.length = n) : FnOk P w K mg base (L2.CX P w) k f fd ps (spF K n noF) :=
  ⟨fun vs H Q E h => by rw [hn]; exact h.1, fun A outer s H args us vs Q E hr he hb hv h => by
    obtain ⟨_, B, st, G, α, us', h1, h2, h3⟩ := h
    exact h3.elim⟩
theorem Df.dn0 (D : Df K mg x st ps) (hn : ps.length = n) : Dn P w K mg base k x n noF := by
  obtain ⟨f, fd, h1, h2, h3, h4⟩ := D.ex
  exact ⟨f, fd, ps, noFn hn, h2, h3, h4⟩
theorem Dm.mn0 (D : Dm K C x qual st ps) (hn : ps.length = n) : Mn P w K mg base k C x n noF := by
  obtain ⟨f, fd, h1, h2, h3, h4⟩ := D.ex
  exact ⟨f, fd, ps, noFn hn, h2, h3, h4⟩
theorem Dn.mono (D : Dn P w K mg base k x n F) (h : k ≤ k') : Dn P w K mg base k' x n F := by
  obtain ⟨f, fd, ps, h1, h2, h3, h4⟩ := D.ex
  exact ⟨f, fd, ps, h1.mono h, h2, h3, h4⟩
theorem Mn.mono (D : Mn P w K mg base k C x n F) (h : k ≤ k') : Mn P w K mg base k' C x n F := by
  obtain ⟨f, fd, ps, h1, h2, h3, h4⟩ := D.ex
  exact ⟨f, fd, ps, h1.mono h, h2, h3, h4⟩
theorem Cn.mono (D : Cn P w K mg base k x C n F) (h : k ≤ k') : Cn P w K mg base k' x C n F := by
  obtain ⟨f, fd, ps, h1, h2, h3, h4⟩ := D.ex
  exact ⟨f, fd, ps, h1.mono h, h2, h3, h4⟩
theorem Pn.mono (D : Pn P w K mg base k C x F) (h : k ≤ k') : Pn P w K mg base k' C x F := by
  obtain ⟨p, f, fd, ps, h1, h2, h3, h4⟩ := D.ex
  exact ⟨p, f, fd, ps, h1.mono h, h2, h3, h4⟩
end
end FL

/-! FL23: the end of a law: from what the head has written to the promise of law. -/
namespace FL
open PySem L2 PyProof.Rows

section
variable {K : PySem.W.Frag} {w : World} {h : Heap} {mg : Str → Option Value} {x c qual : Str} {st : Stmt} {ps : List Str} {f C a p : Addr} {od an : Option Addr} {osl : Array (Option Value)} {oc kV dc pm cd ct : Value}
/-- how the arguments of a def are bound -/
abbrev Bnd (x qual : Str) (st : Stmt) (ps : List Str) : Prop := ∀ (kV doc pm : Value) (an : Option Addr) (cdv ct : Value) (us : List Value), us.length = ps.length → bindArgs (PySem.W.fnOf x qual (defArgs st) (defBody st) (defScope st) .none kV doc pm an cdv ct) ⟨us, []⟩ = pure (ps.zip us)
theorem Df.of (X : K.In h) (G : h.Ns mainGlobals mg) (b : Bnd x x st ps) (e1 : PySem.W.nsIn K mainGlobals x = some (some (.ref f))) (e2 : K.lookup f = some ⟨oc, od, .func (PySem.W.fnOf x x (defArgs st) (defBody st) (defScope st) .none kV dc pm an cd ct), osl⟩)
    (e3 : PySem.W.codeIn K cd x = true) (e4 : PySem.W.keepIn K (.ref f) = true) : Df K mg x st ps :=
  ⟨f, _, fun_mk e2 e3 e4, PySem.W.mg_of X G e1, e4, (fun_mk e2 e3 e4).binds b⟩
theorem Dm.of (cl : Cls K C) (b : Bnd x qual st ps) (e1 : PySem.W.findIn K (.ref C) x = some (some (.ref f))) (e2 : K.lookup f = some ⟨oc, od, .func (PySem.W.fnOf x qual (defArgs st) (defBody st) (defScope st) .none kV dc pm an cd ct), osl⟩)
    (e3 : PySem.W.codeIn K cd qual = true) (e4 : PySem.W.keepIn K (.ref f) = true) (e5 : PySem.W.isFn K (.ref f) = true) : Dm K C x qual st ps :=
  ⟨f, _, fun_mk e2 e3 e4, cl, ⟨e1, e5, e4⟩, (fun_mk e2 e3 e4).binds b⟩
theorem Di.of (X : K.In h) (G : h.Ns mainGlobals mg) (b : Bnd "__init__" qual st ps) (e0 : PySem.W.nsIn K mainGlobals c = some (some (.ref C))) (e1 : PySem.W.findIn K (.ref C) "__init__" = some (some (.ref f))) (e2 : K.lookup f = some ⟨oc, od, .func (PySem.W.fnOf "__init__" qual (defArgs st) (defBody st) (defScope st) .none kV dc pm an cd ct), osl⟩)
    (e3 : PySem.W.codeIn K cd qual = true) (e4 : PySem.W.keepIn K (.ref f) = true) (e5 : PySem.W.isFn K (.ref f) = true) (e6 : PySem.W.makesIn K C = true) (e7 : PySem.W.keepIn K (.ref C) = true) : Di K mg c C qual st ps :=
  ⟨f, _, fun_mk e2 e3 e4, PySem.W.mg_of X G e0, ⟨e6, e1, e5, e7⟩, (fun_mk e2 e3 e4).binds b⟩
theorem Dp.of (cl : Cls K C) (b : Bnd x qual st ps) {rest : List Value} (e0 : PySem.W.findIn K (.ref C) x = some (some (.ref p))) (e1 : PySem.W.specialIn K (.ref p) "__get__" = some (some (.builtin "property.__get__"))) (e2' : PySem.W.takesIn K (.ref p) = some true) (e1' : PySem.W.recIn K p "property" = some (.ref f :: rest))
    (e2 : K.lookup f = some ⟨oc, od, .func (PySem.W.fnOf x qual (defArgs st) (defBody st) (defScope st) .none kV dc pm an cd ct), osl⟩) (e3 : PySem.W.codeIn K cd qual = true) (e4 : PySem.W.keepIn K (.ref f) = true) : Dp K C x qual st ps :=
  ⟨p, f, _, fun_mk e2 e3 e4, cl, ⟨e0, e1, e2', _, e1'⟩, (fun_mk e2 e3 e4).binds b⟩
theorem noAttr_of {C : Addr} {x : Str} (e : PySem.W.findIn K (.ref C) x = some none) : NoAttr K C x := e
theorem Gk.tup {ts : List T} {xs : List V} {its : Array Value} {n : Nat} {o2 : Option Addr} {sl : Array (Option Value)} (X : K.In h) (G : h.Ns mainGlobals mg) (e1 : PySem.W.nsIn K mainGlobals x = some (some (.ref a))) (e2 : K.lookup a = some ⟨.type "tuple", o2, .seq its n, sl⟩)
    (v : Vals xs its.toList) (z : its.size ≤ sizeLine) (r : Rps K (fun _ => none) ts xs) : Gk K mg x (.ktp ts) :=
  ⟨.ref a, .ref a, PySem.W.mg_of X G e1, rfl, by simp only [Rp]; exact ⟨a, xs, rfl, .inr ⟨_, its, n, e2, rfl, rfl, z, v⟩, r⟩⟩
theorem Gk.int {i : Int} {t : Tok} (X : K.In h) (G : h.Ns mainGlobals mg) (e1 : PySem.W.nsIn K mainGlobals x = some (some (.int i t))) : Gk K mg x (.int i) :=
  ⟨_, .int i, PySem.W.mg_of X G e1, ⟨t, rfl⟩, by simp [Rp]⟩
theorem Gk.str {i : Str} {t : Tok} (X : K.In h) (G : h.Ns mainGlobals mg) (e1 : PySem.W.nsIn K mainGlobals x = some (some (.str i t))) : Gk K mg x (.str i) :=
  ⟨_, .str i, PySem.W.mg_of X G e1, ⟨t, rfl⟩, by simp [Rp]⟩
theorem isStrOf_lit {z y : Str} {t : Tok} : Value.isStrOf z (.str y t) = decide (y = z) := by
  show (y == z) = decide (y = z)
  by_cases h : y = z
  · subst h; simp
  · simp [h]
def keysIn (tab : List (Str × Int)) (es : List DictEntry) : Bool := es.all fun e => match e.key with
  | .str x _ => tab.any fun p => decide (p.1 = x)
  | _ => false
theorem miss_in {tab : List (Str × Int)} {es : Array DictEntry} {n : Nat} {a : Addr} {z : Str} (e2 : K.lookup a = some ⟨.type "dict", none, .dict es n, #[]⟩) (hk : keysIn tab es.toList = true) (hz : ∀ p ∈ tab, p.1 ≠ z) : PySem.W.nsIn K a z = some none := by
  unfold keysIn at hk
  rw [List.all_eq_true] at hk
  have h1 : es.toList.find? (·.key.isStr z) = none := by
    rw [List.find?_eq_none]
    intro e he hs
    have := hk e he
    split at this
    · rename_i x t ek
      rw [ek, PySem.W.isStr_of, isStrOf_lit] at hs
      obtain ⟨p, hp, h2⟩ := List.any_eq_true.mp this
      exact hz p hp ((of_decide_eq_true h2).trans (of_decide_eq_true hs))
    · cases this
  have h2 : es.toList.any (·.refKey) = false := by
    rw [List.any_eq_false]
    intro e he hr
    have := hk e he
    split at this
    · rename_i x t ek
      unfold DictEntry.refKey at hr
      rw [ek] at hr
      cases hr
    · cases this
  unfold PySem.W.nsIn
  rw [e2]
  simp only [h1, h2]
  rfl
theorem Gd.of {tab : List (Str × Int)} {es : Array DictEntry} {n : Nat} (X : K.In h) (G : h.Ns mainGlobals mg) (e1 : PySem.W.nsIn K mainGlobals x = some (some (.ref a))) (e2 : K.lookup a = some ⟨.type "dict", none, .dict es n, #[]⟩) (hk : PySem.W.KeysLit w.params es.toList)
    (hl : (a == sysModules) = false) (hat : ∀ z i, (z, i) ∈ tab → ∃ t, PySem.W.nsIn K a z = some (some (.int i t))) (hks : keysIn tab es.toList = true) : Gd K w mg x tab :=
  ⟨a, PySem.W.mg_of X G e1, ⟨fun z i hm => let ⟨t, e⟩ := hat z i hm; ⟨es, n, .int i t, e2, hk, e, ⟨t, rfl⟩⟩, hl, fun z hz => ⟨es, n, e2, hk, hl, miss_in e2 hks hz⟩⟩⟩
end
/-- what is asked of law -/
def spL (K : PySem.W.Frag) : Sp := fun vs H Q _ => ∃ (a : Addr) (ns : List Int), vs = [.ref a] ∧ SqL K H a (ns.map V.int) ∧ ns.length ≤ 63 ∧ (∀ z ∈ ns, Builtin.Int.intBits z ≤ 1048576) ∧ ∀ H', Q (.bl true) H'
theorem rps_ints {K : PySem.W.Frag} {G : Hp} : ∀ ns : List Int, Rps K G (ns.map T.int) (ns.map V.int)
  | [] => by simp [Rps]
  | y :: ys => by simp only [List.map_cons, Rps]; exact ⟨_, _, rfl, by simp [Rp], rps_ints ys⟩
theorem spL_of {K : PySem.W.Frag} {F : Fn} (hF : ∀ ns : List Int, ns.length ≤ 63 → (∀ z ∈ ns, Builtin.Int.intBits z ≤ 1048576) → ∃ ρ, F [] [.d (.frl (ns.map .int))] = .ok (.d (.bl true)) ρ) {vs : List V} {H : Hp} {Q : VK} {E : XK} (h : spL K vs H Q E) : spF K 1 F vs H Q E := by
  obtain ⟨a, ns, rfl, hS, hl, hb, q⟩ := h
  refine ⟨rfl, H, [], H, [], [.d (.frl (ns.map .int))], ⟨Ex.refl H, Ex.refl H, rfl, by simp, fun i a o e1 e2 => by simp at e1⟩, ⟨_, _, rfl, ?_, rfl⟩, ?_⟩
  · show Rp K H (.frl (ns.map .int)) (.ref a)
    simp only [Rp]
    exact ⟨a, _, rfl, hS, rps_ints ns⟩
  · obtain ⟨ρ, e⟩ := hF ns hl hb
    rw [e]
    intro G' α' H' v g' r' p
    have hv : v = .bl true := by simpa [RpU, Rp] using p
    subst hv
    exact q H'
theorem walkL {l : PySem.W.OpenLaw} {k : Nat} {q : Program} {loose : List Str} {XP : (Str → Option Value) → Heap → Prop} {YP : World → Heap → Prop} {d : DefRec} {K : Params → PySem.W.Frag} {x : Str} (hn : l.most = some 63) (hdf : d.params.defaults = []) (hr : Room k callerA)
    (hY : ∀ (w : World) (h : Heap), YP w h → (K w.params).In h)
    (F : ∀ (w : World) (mg : Str → Option Value) (fa : Addr) (h : Heap), (K w.params).In h → h.Ns mainGlobals mg → mg d.name = some (.ref fa) →
      ∃ fd : FuncData, (∀ (s : Shared) (u : Value), BindsTo s fd ⟨[u], []⟩ [(x, u)]) ∧ ∀ base : Heap, (K w.params).In base → base.Ns mainGlobals mg → FnOk l.prog w (K w.params) mg base (L2.CX l.prog w) k fa fd [x] (spL (K w.params))) :
    PySem.W.WalkO q loose XP YP l.row.toRowW d [] (fun f vs => PySem.call f vs) :=
  L2.walk_ofB (n := 63) (k := k) (x := x) (CX := fun w => L2.CX l.prog w) (sp := fun w => spL (K w.params)) hn (by decide) hdf hr hY F (fun _ _ a ns hl hb _ hS => ⟨a, ns, rfl, hS, hl, hb, fun _ => rfl⟩) fun _ _ _ _ _ z => by
    obtain ⟨_, _, _, _, _, _, _, _, _, _, _, _, z⟩ := z
    exact z
end FL

/-! FL24: denotations computed. -/
namespace FL
open PySem L2 PyProof.Rows

section
variable {m n ma mb me : DE} {t t1 t2 : DT} {s1 s2 : DS} {da : DA} {ρ : Sg} {sl : List (Option U)} {st : List Ob} {u : U} {us : List U} {F : Fn} {f : T → T → Option O} {g : List T → Option O}
@[simp] theorem ev_seq : mSeq s1 s2 ρ = (s1 ρ).thn s2 := rfl
@[simp] theorem ev_nx : mNx ρ = .nx ρ := rfl
@[simp] theorem ev_bk : mBk ρ = .bk ρ := rfl
@[simp] theorem ev_ret : mRet m ρ = (m ρ).thn fun u ρ1 => .rt u ρ1 := rfl
@[simp] theorem ev_retN : mRetN ρ = .rt (.d .non) ρ := rfl
@[simp] theorem ev_drop : mDrop m ρ = (m ρ).thn fun _ ρ1 => .nx ρ1 := rfl
@[simp] theorem ev_ifs : mIfS t s1 s2 ρ = (t ρ).thn fun b ρ1 => if b = true then s1 ρ1 else s2 ρ1 := rfl
@[simp] theorem ev_if : mIf t m n ρ = (t ρ).bind fun b ρ1 => if b = true then m ρ1 else n ρ1 := rfl
@[simp] theorem ev_c {x : T} : mC x ρ = .ok (.d x) ρ := rfl
@[simp] theorem ev_notT : mNotT t ρ = (t ρ).bind fun b ρ1 => .ok (!b) ρ1 := rfl
@[simp] theorem ev_andT : mAndT t1 t2 ρ = (t1 ρ).bind fun b ρ1 => if b = true then t2 ρ1 else .ok false ρ1 := rfl
@[simp] theorem ev_orT : mOrT t1 t2 ρ = (t1 ρ).bind fun b ρ1 => if b = true then .ok true ρ1 else t2 ρ1 := rfl
/-- a value seen as a truth -/
def tstK : U → Sg → R Bool
  | .d (.bl b), ρ => .ok b ρ
  | _, _ => .no
@[simp] theorem tstK_b {b : Bool} : tstK (.d (.bl b)) ρ = .ok b ρ := rfl
@[simp] theorem ev_test : mTest m ρ = (m ρ).bind tstK := by
  unfold mTest
  congr 1
  funext u ρ1
  cases u with
  | own i => rfl
  | d t => cases t <;> rfl
@[simp] theorem ev_aNil : aNil ρ = .ok [] ρ := rfl
@[simp] theorem ev_aCons : aCons m da ρ = (m ρ).bind fun u ρ1 => (da ρ1).bind fun us ρ2 => .ok (u :: us) ρ2 := rfl
@[simp] theorem ev_set {i : Nat} : mSet i m ρ = (m ρ).thn fun u ρ1 => .nx ⟨ρ1.sl.set i (some u), ρ1.st⟩ := rfl
/-- two values looked at -/
def opK (f : T → T → Option O) (u w : U) (ρ : Sg) : R U := match pk ρ.st u, pk ρ.st w with
  | some x, some y => mO (f x y) ρ
  | _, _ => .no
@[simp] theorem ev_op : mOp f ma mb ρ = (ma ρ).bind fun u ρ1 => (mb ρ1).bind fun w ρ2 => opK f u w ρ2 := rfl
@[simp] theorem opK_d {x y : T} : opK f (.d x) (.d y) ρ = mO (f x y) ρ := rfl
@[simp] theorem ev_top : mTOp f ma mb ρ = ((ma ρ).bind fun u ρ1 => (mb ρ1).bind fun w ρ2 => opK f u w ρ2).bind tstK := ev_test
def oneK (h : Sg → U → R U) : R U → R U := fun r => r.bind fun u ρ => h ρ u
def isiK (n : String) (u : U) (ρ : Sg) : R U := match pk ρ.st u with
  | some t => if isDt t = true then .no else match isiB n t.kd with
    | some b => .ok (.d (.bl b)) ρ
    | none => .no
  | none => .no
@[simp] theorem ev_isi {n : String} : mIsi n m ρ = (m ρ).bind fun u ρ1 => isiK n u ρ1 := rfl
@[simp] theorem isi_str_str {x : Str} : isiK "str" (.d (.str x)) ρ = .ok (.d (.bl true)) ρ := by
  have : isiB "str" .str = some true := by decide +kernel
  simp [isiK, pk, isDt, T.kd, this]
@[simp] theorem isi_str_tup {x : List T} : isiK "str" (.d (.tup x)) ρ = .ok (.d (.bl false)) ρ := by
  have : isiB "str" .tup = some false := by decide +kernel
  simp [isiK, pk, isDt, T.kd, this]
@[simp] theorem isi_tup_str {x : Str} : isiK "tuple" (.d (.str x)) ρ = .ok (.d (.bl false)) ρ := by
  have : isiB "tuple" .str = some false := by decide +kernel
  simp [isiK, pk, isDt, T.kd, this]
@[simp] theorem isi_tup_tup {x : List T} : isiK "tuple" (.d (.tup x)) ρ = .ok (.d (.bl true)) ρ := by
  have : isiB "tuple" .tup = some true := by decide +kernel
  simp [isiK, pk, isDt, T.kd, this]
def andK (n : DE) (u : U) (ρ : Sg) : R U := match u with
  | .d (.bl b) => if b = true then n ρ else .ok (.d (.bl false)) ρ
  | _ => .no
@[simp] theorem andK_t : andK n (.d (.bl true)) ρ = n ρ := rfl
@[simp] theorem andK_f : andK n (.d (.bl false)) ρ = .ok (.d (.bl false)) ρ := rfl
@[simp] theorem andK_b {b : Bool} : andK n (.d (.bl b)) ρ = if b = true then n ρ else .ok (.d (.bl false)) ρ := rfl
@[simp] theorem ev_and : mBAnd m n ρ = (m ρ).bind fun u ρ1 => andK n u ρ1 := rfl
def orK (n : DE) (u : U) (ρ : Sg) : R U := match u with
  | .d (.bl b) => if b = true then .ok (.d (.bl true)) ρ else n ρ
  | _ => .no
@[simp] theorem orK_b {b : Bool} : orK n (.d (.bl b)) ρ = if b = true then .ok (.d (.bl true)) ρ else n ρ := rfl
@[simp] theorem ev_or : mBOr m n ρ = (m ρ).bind fun u ρ1 => orK n u ρ1 := rfl
def notK : U → Sg → R U
  | .d (.bl b), ρ => .ok (.d (.bl (!b))) ρ
  | _, _ => .no
@[simp] theorem notK_b {b : Bool} : notK (.d (.bl b)) ρ = .ok (.d (.bl (!b))) ρ := rfl
def caK (g : List T → Option O) (us : List U) (ρ : Sg) : R U := match pks ρ.st us with
  | some ts => mO (g ts) ρ
  | none => .no
@[simp] theorem ev_ca : mCa g da ρ = (da ρ).bind fun us ρ1 => caK g us ρ1 := rfl
@[simp] theorem caK_d {x : T} : caK g [.d x] ρ = mO (g [x]) ρ := rfl
@[simp] theorem ev_pN : mPN ρ = .ok none ρ := rfl
def psK : U → Sg → R (Option Int)
  | .d (.int i), ρ => .ok (some i) ρ
  | _, _ => .no
@[simp] theorem psK_i {i : Int} : psK (.d (.int i)) ρ = .ok (some i) ρ := rfl
def slK (lo hi : Option Int) (u : U) (ρ : Sg) : R U := match pk ρ.st u with
  | some x => mO (slF x lo hi) ρ
  | none => .no
@[simp] theorem slK_d {x : T} {lo hi : Option Int} : slK lo hi (.d x) ρ = mO (slF x lo hi) ρ := rfl
@[simp] theorem ev_sl {l h : DO} : mSl m l h ρ = (m ρ).bind fun u ρ1 => (l ρ1).bind fun lo ρ2 => (h ρ2).bind fun hi ρ3 => slK lo hi u ρ3 := rfl
/-- a call, its arguments there -/
def callK (n : Nat) (F : Fn) (cs : List Bool) (us : List U) (ρ : Sg) : R U := match argC cs us ρ.st with
  | some (us', st) => if us'.length = n then callR F us' ⟨ρ.sl, st⟩ else .no
  | none => .no
@[simp] theorem ev_call {n : Nat} {cs : List Bool} : mCall n F cs da ρ = (da ρ).bind fun us ρ1 => callK n F cs us ρ1 := rfl
/-- of data alone -/
theorem argC_data : ∀ (cs : List Bool) (ts : List T) (st : List Ob), argC cs (ts.map .d) st = some (ts.map .d, st)
  | cs, [], st => by cases cs with
    | nil => rfl
    | cons c cs => cases c <;> rfl
  | [], t :: ts, st => by simp [argC, toD, argC_data [] ts]
  | true :: cs, t :: ts, st => by simp [argC, argC_data cs ts]
  | false :: cs, t :: ts, st => by simp [argC, toD, argC_data cs ts]
theorem owns_data : ∀ (ts : List T) (acc : List Nat), owns (ts.map .d) acc = acc
  | [], _ => rfl
  | t :: ts, acc => by simp [owns, owns_data ts]
theorem renUs_data {is : List Nat} : ∀ ts : List T, renUs is (ts.map .d) = some (ts.map .d)
  | [] => rfl
  | t :: ts => by simp [renUs, renU, renUs_data ts]
/-- what a def of data tells -/
def dataF (F : Fn) (ts : List T) : Option T := match F [] (ts.map .d) with
  | .ok (.d t) ⟨_, []⟩ => some t
  | _ => none
theorem callR_data {ts : List T} {t : T} (h : dataF F ts = some t) : callR F (ts.map .d) ρ = .ok (.d t) ρ := by
  unfold dataF at h
  split at h
  · rename_i t' sl e
    simp only [Option.some.injEq] at h; subst h
    have hr : ∀ n, reach ρ.st n [] = [] := fun n => by induction n with
      | zero => rfl
      | succ n ih => simp [reach, ih]
    simp [callR, owns_data, hr, handOn, renUs_data, e, toD, handBack]
  · cases h
theorem callK_data {n : Nat} {cs : List Bool} {us : List U} {ts : List T} {t : T} (h : dataF F ts = some t) (e : us = ts.map .d := by rfl) (hn : ts.length = n := by rfl) : callK n F cs us ρ = .ok (.d t) ρ := by
  subst e
  unfold callK
  rw [argC_data]
  simp [hn, callR_data h]
/-- to show it -/
theorem dataF_of {ts : List T} {t : T} {sl' : List (Option U)} (h : F [] (ts.map .d) = .ok (.d t) ⟨sl', []⟩) : dataF F ts = some t := by
  unfold dataF
  rw [h]
/-- what comes of a body run on data alone -/
def resD : _root_.FL.F → Option T
  | .rt u ρ => (toD 4 u ρ.st).map (·.1)
  | .nx _ => some .non
  | _ => none
@[simp] theorem resD_rt {t : T} : resD (.rt (.d t) ρ) = some t := rfl
@[simp] theorem resD_nx : resD (.nx ρ) = some .non := rfl
theorem dataF_run {s : DS} {N : Nat} {ts : List T} : dataF (runD s N) ts = resD (s ⟨(ts.map .d).map some ++ List.replicate (N - ts.length) none, []⟩) := by
  unfold dataF runD
  rw [List.length_map]
  cases e : s ⟨(ts.map .d).map some ++ List.replicate (N - ts.length) none, []⟩ with
  | nx ρ => simp [resD, cutSt]
  | rt u ρ =>
    simp only [resD]
    cases e2 : toD 4 u ρ.st with
    | none => simp
    | some p => simp [cutSt]
  | bk ρ => rfl
  | ct ρ => rfl
  | ex x ρ => simp [resD, cutSt]
  | no => rfl
@[simp] theorem toD_d {n : Nat} {t : T} : toD n (.d t) st = some (t, st) := by cases n <;> rfl
end
/-! slots -/
theorem ev_var {i : Nat} {u : U} {sl : List (Option U)} {st : List Ob} (h : sl[i]? = some (some u)) : mVar i ⟨sl, st⟩ = .ok u ⟨sl, st⟩ := by simp [mVar, h]
@[simp] theorem ev_var0 {u : U} {sl : List (Option U)} {st : List Ob} : mVar 0 ⟨some u :: sl, st⟩ = .ok u ⟨some u :: sl, st⟩ := rfl
@[simp] theorem ev_var1 {a : Option U} {u : U} {sl : List (Option U)} {st : List Ob} : mVar 1 ⟨a :: some u :: sl, st⟩ = .ok u ⟨a :: some u :: sl, st⟩ := rfl
@[simp] theorem ev_var2 {a b : Option U} {u : U} {sl : List (Option U)} {st : List Ob} : mVar 2 ⟨a :: b :: some u :: sl, st⟩ = .ok u ⟨a :: b :: some u :: sl, st⟩ := rfl
@[simp] theorem ev_var3 {a b c : Option U} {u : U} {sl : List (Option U)} {st : List Ob} : mVar 3 ⟨a :: b :: c :: some u :: sl, st⟩ = .ok u ⟨a :: b :: c :: some u :: sl, st⟩ := rfl
@[simp] theorem ev_var4 {a b c d : Option U} {u : U} {sl : List (Option U)} {st : List Ob} : mVar 4 ⟨a :: b :: c :: d :: some u :: sl, st⟩ = .ok u ⟨a :: b :: c :: d :: some u :: sl, st⟩ := rfl
@[simp] theorem ev_var5 {a b c d e : Option U} {u : U} {sl : List (Option U)} {st : List Ob} : mVar 5 ⟨a :: b :: c :: d :: e :: some u :: sl, st⟩ = .ok u ⟨a :: b :: c :: d :: e :: some u :: sl, st⟩ := rfl
@[simp] theorem ev_var6 {a b c d e f : Option U} {u : U} {sl : List (Option U)} {st : List Ob} : mVar 6 ⟨a :: b :: c :: d :: e :: f :: some u :: sl, st⟩ = .ok u ⟨a :: b :: c :: d :: e :: f :: some u :: sl, st⟩ := rfl
@[simp] theorem ev_var7 {a b c d e f g : Option U} {u : U} {sl : List (Option U)} {st : List Ob} : mVar 7 ⟨a :: b :: c :: d :: e :: f :: g :: some u :: sl, st⟩ = .ok u ⟨a :: b :: c :: d :: e :: f :: g :: some u :: sl, st⟩ := rfl
/-! values -/
theorem in_strs : ∀ ws : List Str, fvs (ws.map .str) = some (ws.map .str)
  | [] => rfl
  | w :: ws => by simp [fvs, fv, in_strs ws]
end FL

/-! FL25: more of computing: walks, comprehensions, sequences. -/
namespace FL
open PySem L2 PyProof.Rows

section
variable {m n ma mb me : DE} {t t1 t2 : DT} {s1 s2 : DS} {da : DA} {ρ : Sg} {sl : List (Option U)} {st : List Ob} {u : U} {us : List U} {F : Fn} {f : T → T → Option O} {g : List T → Option O}
@[simp] theorem ev_not : mBNot m ρ = (m ρ).bind fun u ρ1 => notK u ρ1 := by
  unfold mBNot
  first | rfl | (congr 1; funext u ρ1; cases u with | own i => rfl | d t => cases t <;> rfl)
@[simp] theorem ev_pS : mPS m ρ = (m ρ).bind fun u ρ1 => psK u ρ1 := by
  unfold mPS
  first | rfl | (congr 1; funext u ρ1; cases u with | own i => rfl | d t => cases t <;> rfl)
@[simp] theorem ev_gN {i : Nat} : gN i u ρ = .ok () ⟨ρ.sl.set i (some u), ρ.st⟩ := rfl
def seqK (u : U) (ρ : Sg) : R (List T) := match toD 4 u ρ.st with
  | some (t, st) => match itm t with
    | some ts => .ok ts ⟨ρ.sl, st⟩
    | none => .no
  | none => .no
@[simp] theorem ev_iSeq : iSeq m ρ = (m ρ).bind seqK := rfl
theorem seqK_d {t : T} {ts : List T} (h : itm t = some ts) : seqK (.d t) ρ = .ok ts ρ := by
  simp [seqK, h]
@[simp] theorem seqK_tup {ts : List T} : seqK (.d (.tup ts)) ρ = .ok ts ρ := by simp [seqK, itm]
@[simp] theorem seqK_lst {ts : List T} : seqK (.d (.lst ts)) ρ = .ok ts ρ := by simp [seqK, itm]
@[simp] theorem seqK_ktp {ts : List T} : seqK (.d (.ktp ts)) ρ = .ok ts ρ := by simp [seqK, itm]
@[simp] theorem ev_iEnum : iEnumD da ρ = (da ρ).bind fun us ρ1 => match us with
  | [u] => (seqK u ρ1).bind fun ts ρ2 => .ok (enumT 0 ts) ρ2
  | _ => .no := by
  unfold iEnumD
  congr 1
  funext us ρ1
  cases us with
  | nil => rfl
  | cons u us => cases us with
    | nil =>
      simp only [seqK]
      cases toD 4 u ρ1.st with
      | none => rfl
      | some p =>
        dsimp only
        cases itm p.1 <;> rfl
    | cons v us => rfl
@[simp] theorem ev_for {mi : DI} {gg : DG} {b : DS} : mFor mi gg b ρ = (mi ρ).thn fun ts ρ1 => forL gg b ts ρ1 := rfl
@[simp] theorem ev_lc {mi : DI} {gg : DG} {vs : List Nat} : mLc mi gg t me vs ρ = (mi ρ).bind fun ts ρ1 => (lcL gg t me vs ρ1.sl ts [] ρ1.st).bind fun acc ρ2 => .ok (.own ρ2.st.length) ⟨ρ2.sl, ρ2.st ++ [.lst acc]⟩ := rfl
/-- each item data, the store as it was -/
theorem lc_map {gg : DG} {vs : List Nat} {h : T → T} : ∀ (ts acc : List T), (∀ x ∈ ts, ∃ ρ1 sl2, gg (.d x) ⟨wipeL sl vs, st⟩ = .ok () ρ1 ∧ me ρ1 = .ok (.d (h x)) ⟨sl2, st⟩) → acc.length + ts.length ≤ sizeLine →
    lcL gg mYes me vs sl ts acc st = .ok (acc ++ ts.map h) ⟨sl, st⟩
  | [], acc, _, _ => by simp [lcL]
  | x :: ts, acc, hx, hl => by
    obtain ⟨ρ1, sl2, h1, h2⟩ := hx x List.mem_cons_self
    simp only [List.length_cons] at hl
    have hlt : acc.length < sizeLine := by omega
    simp only [lcL, h1, mYes, h2, toD_d, if_pos hlt]
    rw [lc_map ts (acc ++ [h x]) (fun y hy => hx y (List.mem_cons_of_mem _ hy)) (by simp; omega)]
    simp
/-- a loop whose turns keep something -/
theorem for_ex {gg : DG} {b : DS} (I : List T → Sg → Prop) (h : ∀ x r ρ, I (x :: r) ρ → ∃ ρ1 ρ2, gg (.d x) ρ = .ok () ρ1 ∧ b ρ1 = .nx ρ2 ∧ I r ρ2) : ∀ (ts : List T) (ρ : Sg), I ts ρ → ∃ ρ', forL gg b ts ρ = .nx ρ' ∧ I [] ρ'
  | [], ρ, hi => ⟨ρ, rfl, hi⟩
  | x :: ts, ρ, hi => by
    obtain ⟨ρ1, ρ2, h1, h2, h3⟩ := h x ts ρ hi
    obtain ⟨ρ', h4, h5⟩ := for_ex I h ts ρ2 h3
    exact ⟨ρ', by simp only [forL, h1, h2]; exact h4, h5⟩
/-- displays of data -/
def tupK (us : List U) (ρ : Sg) : R U := match toDs (toD 4) us ρ.st with
  | some (ts, st) => if ts.length ≤ sizeLine then .ok (.d (.tup ts)) ⟨ρ.sl, st⟩ else .no
  | none => .no
def lstK (us : List U) (ρ : Sg) : R U := match toDs (toD 4) us ρ.st with
  | some (ts, st) => if ts.length ≤ sizeLine then .ok (.own st.length) ⟨ρ.sl, st ++ [.lst ts]⟩ else .no
  | none => .no
@[simp] theorem ev_tup : mTup da ρ = (da ρ).bind tupK := rfl
@[simp] theorem ev_lst : mLst da ρ = (da ρ).bind lstK := rfl
theorem toDs_data : ∀ (ts : List T) (st : List Ob), toDs (toD 4) (ts.map .d) st = some (ts, st)
  | [], _ => rfl
  | t :: ts, st => by simp [toDs, toDs_data ts]
@[simp] theorem tupK_0 : tupK [] ρ = .ok (.d (.tup [])) ρ := rfl
@[simp] theorem tupK_1 {a : T} : tupK [.d a] ρ = .ok (.d (.tup [a])) ρ := rfl
@[simp] theorem tupK_2 {a b : T} : tupK [.d a, .d b] ρ = .ok (.d (.tup [a, b])) ρ := rfl
@[simp] theorem tupK_3 {a b c : T} : tupK [.d a, .d b, .d c] ρ = .ok (.d (.tup [a, b, c])) ρ := rfl
@[simp] theorem tupK_4 {a b c d : T} : tupK [.d a, .d b, .d c, .d d] ρ = .ok (.d (.tup [a, b, c, d])) ρ := rfl
@[simp] theorem lstK_0 : lstK [] ρ = .ok (.own ρ.st.length) ⟨ρ.sl, ρ.st ++ [.lst []]⟩ := rfl
@[simp] theorem lstK_1 {a : T} : lstK [.d a] ρ = .ok (.own ρ.st.length) ⟨ρ.sl, ρ.st ++ [.lst [a]]⟩ := rfl
@[simp] theorem lstK_2 {a b : T} : lstK [.d a, .d b] ρ = .ok (.own ρ.st.length) ⟨ρ.sl, ρ.st ++ [.lst [a, b]]⟩ := rfl
@[simp] theorem lstK_3 {a b c : T} : lstK [.d a, .d b, .d c] ρ = .ok (.own ρ.st.length) ⟨ρ.sl, ρ.st ++ [.lst [a, b, c]]⟩ := rfl
@[simp] theorem lstK_4 {a b c d : T} : lstK [.d a, .d b, .d c, .d d] ρ = .ok (.own ρ.st.length) ⟨ρ.sl, ρ.st ++ [.lst [a, b, c, d]]⟩ := rfl
end
/-! calls with data alone -/
section
variable {F : Fn} {cs : List Bool} {ρ : Sg} {a b c d : T}
def callX (n : Nat) (F : Fn) (cs : List Bool) (us : List U) (ρ : Sg) : R U := callK n F cs us ρ
def datK (o : Option T) (r : R U) (ρ : Sg) : R U := match o with
  | some t => .ok (.d t) ρ
  | none => r
@[simp] theorem datK_s {t : T} {r : R U} : datK (some t) r ρ = .ok (.d t) ρ := rfl
theorem callK_any {n : Nat} {ts : List T} (hn : ts.length = n) : callK n F cs (ts.map .d) ρ = datK (dataF F ts) (callX n F cs (ts.map .d) ρ) ρ := by
  cases e : dataF F ts with
  | none => rfl
  | some t => exact callK_data e rfl hn
@[simp] theorem callK_1 : callK 1 F cs [.d a] ρ = datK (dataF F [a]) (callX 1 F cs [.d a] ρ) ρ := callK_any (ts := [a]) rfl
@[simp] theorem callK_2 : callK 2 F cs [.d a, .d b] ρ = datK (dataF F [a, b]) (callX 2 F cs [.d a, .d b] ρ) ρ := callK_any (ts := [a, b]) rfl
@[simp] theorem callK_3 : callK 3 F cs [.d a, .d b, .d c] ρ = datK (dataF F [a, b, c]) (callX 3 F cs [.d a, .d b, .d c] ρ) ρ := callK_any (ts := [a, b, c]) rfl
@[simp] theorem callK_4 : callK 4 F cs [.d a, .d b, .d c, .d d] ρ = datK (dataF F [a, b, c, d]) (callX 4 F cs [.d a, .d b, .d c, .d d] ρ) ρ := callK_any (ts := [a, b, c, d]) rfl
end
/-! slices -/
@[simp] theorem sl_tup1 {a : T} {ts : List T} : slF (.tup (a :: ts)) (some 1) none = some (.d (.tup ts)) := by
  simp [slF, cutT, HT.sIx]
@[simp] theorem sl_tup2 {a b : T} {ts : List T} : slF (.tup (a :: b :: ts)) (some 2) none = some (.d (.tup ts)) := by
  simp [slF, cutT, HT.sIx]
@[simp] theorem sl_lst1 {a : T} {ts : List T} : slF (.lst (a :: ts)) (some 1) none = some (.l ts) := by
  simp [slF, cutT, HT.sIx]
/-! written texts -/
theorem map_inj_on {α β : Type} {g : α → β} (hg : ∀ a b, g a = g b → a = b) : ∀ {l r : List α}, l.map g = r.map g → l = r
  | [], [], _ => rfl
  | [], _ :: _, h => by simp at h
  | _ :: _, [], h => by simp at h
  | a :: l, b :: r, h => by
    simp only [List.map_cons, List.cons.injEq] at h
    rw [hg _ _ h.1, map_inj_on hg h.2]
theorem ofS_inj {a b : String} (h : Str.ofString a = Str.ofString b) : a = b := by
  rw [Str.ofString_eq_toList, Str.ofString_eq_toList] at h
  injection h with h
  injection h with h
  have hc : ∀ x y : Char, x.toNat = y.toNat → x = y := fun x y e => by
    apply Char.ext
    exact UInt32.toNat_inj.mp e
  exact String.toList_inj.mp (map_inj_on hc h)
@[simp] theorem ofS_eq {a b : String} : (Str.ofString a = Str.ofString b) = (a = b) := propext ⟨ofS_inj, fun h => by rw [h]⟩
/-! indices -/
@[simp] theorem ixN_z {n : Nat} : ixN (n + 1) 0 = some 0 := by simp [ixN]
@[simp] theorem atI_0 {α : Type} {a : α} {l : List α} : atI (a :: l) 0 = some a := by simp [atI]
@[simp] theorem atI_1 {α : Type} {a b : α} {l : List α} : atI (a :: b :: l) 1 = some b := by
  have : (1 : Int) < (l.length : Int) + 1 + 1 := by omega
  simp [atI, ixN, this]
@[simp] theorem atI_2 {α : Type} {a b c : α} {l : List α} : atI (a :: b :: c :: l) 2 = some c := by
  have : (2 : Int) < (l.length : Int) + 1 + 1 + 1 := by omega
  simp [atI, ixN, this]
@[simp] theorem atI_3 {α : Type} {a b c d : α} {l : List α} : atI (a :: b :: c :: d :: l) 3 = some d := by
  have : (3 : Int) < (l.length : Int) + 1 + 1 + 1 + 1 := by omega
  simp [atI, ixN, this]
@[simp] theorem ixA_tup {ts : List T} {i : Int} {x : T} (h : atI ts i = some x) : ixAF (.tup ts) (.int i) = some (.d x) := by simp [ixAF, ixF, itm, h]
@[simp] theorem ixA_lst {ts : List T} {i : Int} {x : T} (h : atI ts i = some x) : ixAF (.lst ts) (.int i) = some (.d x) := by simp [ixAF, ixF, itm, h]
@[simp] theorem eq_str {a b : Str} : eqF (.str a) (.str b) = some (.d (.bl (decide (a = b)))) := rfl
@[simp] theorem eq_int {a b : Int} : eqF (.int a) (.int b) = some (.d (.bl (decide (a = b)))) := rfl
@[simp] theorem ne_str {a b : Str} : neF (.str a) (.str b) = some (.d (.bl (!decide (a = b)))) := rfl
@[simp] theorem ne_int {a b : Int} : neF (.int a) (.int b) = some (.d (.bl (!decide (a = b)))) := rfl
@[simp] theorem eqV_str (a b : Str) : eqV (.str a) (.str b) = decide (a = b) := by
  show (a == b) = decide (a = b)
  by_cases h : a = b
  · subst h; simp
  · simp [h]
theorem inV_strs (s : Str) (ws : List Str) : inV (.str s) (ws.map .str) = decide (s ∈ ws) := by
  unfold inV
  induction ws with
  | nil => simp
  | cons w ws ih => rw [List.map_cons, List.any_cons, ih]; simp [eq_comm]
/-- a text among texts -/
theorem in_str {s : Str} {ws : List Str} {w : T} {ng : Bool} (hw : itm w = some (ws.map .str)) : inF ng (.str s) w = some (.d (.bl (if ng = true then !decide (s ∈ ws) else decide (s ∈ ws)))) := by
  simp [inF, fv, hw, in_strs, inV_strs]
end FL

/-! FL26: own errors made and raised. -/
namespace FL
open PySem L2 PyProof.Rows

/-- what __init__(self, y) of an error keeps: one field | none -/
def spX1 (K : PySem.W.Frag) (f : Str) : Sp := fun vs H Q _ => ∃ a C y, vs = [.ref a, y] ∧ OexC K C ∧ PySem.W.findIn K (.ref C) f = some none ∧ H a = some (exo a C none) ∧ ∀ d, H d = none → d ≠ a → Q .non (upd (upd H d (exd d [(f, y)])) a (exo a C (some d)))
/-- S.__init__ of a class S of the module that has none of its own -/
structure Dv (K : PySem.W.Frag) (mg : Str → Option Value) (x : Str) (C : Addr) : Prop where
  mg_ : mg x = some (.ref C)
  sp : PySem.W.specialIn K (.ref C) "__getattribute__" = some (some (.builtin "type.__getattribute__"))
  ty : PySem.W.typeIn K (.ref C) = some (.type "type")
  rd : PySem.W.readsIn K C (.type "type") = true
  fc : PySem.W.findCls K (.ref C) (.type "type") "__init__" = some (.val (.builtin "ValueError.__init__"))
section
variable {X : Cx} {o e : Expr} {es : List Expr} {to te : TE} {ta : TA} {f x : Str} {p p' p1 p2 pos : Pos} {C : Addr}
theorem pe_veinitC {pl : Sem Bool} (V : Dv X.K X.mg x C) (hg : Gl X x) (ha : PA X (e :: es) ta) (hdb : (x == ("__debug__" : Str)) = false := by decide)
    (hc : eval (.Call (.Attribute (.Name x p1) "__init__" p2) (e :: es) [] pos) X.env = (do
      let ov ← eval (.Name x p1) X.env
      standAt p2.atName
      let (f, first) ← holding [ov] (getMethod ov "__init__" pl)
      callWith pos f first (backTo pos (starEach (e :: es) X.env)) (backToKw pos (keywordEach [] X.env))) := by rfl)
    (he : starEach (e :: es) X.env = (false, eval e X.env) :: starEach es X.env := by rfl) (hpl : (backTo pos (starEach es X.env)).any (·.1) = false := by rfl) :
    PE X (.Call (.Attribute (.Name x p1) "__init__" p2) (e :: es) [] pos) (tVeI X.K ta) := by
  refine ⟨fun pins s σ H Q I h => ?_⟩
  refine PySem.W.methodCall_KW (ld_glob I hg V.mg_ ?_ hdb) hc
  obtain ⟨m, fr⟩ := I.fr
  refine PySem.W.method_of_cls fr I.ok.mod.kin V.sp (PySem.W.cls_val fr I.ok.mod.kin V.ty V.rd V.fc (by decide +kernel) ?_)
  show wpAny _ _ (callWith pos (Value.builtin "ValueError.__init__") [] (backTo pos (starEach (e :: es) X.env)) []) _ _ _
  refine PyProof.Rows.callWith_method1 (thn (ha.run pos pins _ σ H _ (I.tok _) h) fun us s1 ⟨vs, H1, I1, r1, a, C, ws, ev, hl, T, ea, q⟩ => ?_) he hpl
  subst ev
  cases r1 with
  | @cons _ u0 _ ur ra rw' =>
    obtain rfl : u0 = Value.ref a := ra
    have hlen : ur.length ≤ sizeLine := by
      rw [← Paired.length rw', sizeLine_eq]
      omega
    exact oinit_ok T I1 ea hlen fun s' J => ⟨.non, H1, J, rfl, q⟩
end
section
variable {P : PySem.Program} {w : World} {K : PySem.W.Frag} {mg : Str → Option Value} {base : Heap} {f x par qual msg : Str} {st : Stmt} {fI C CS : Addr} {fd : FuncData} {k : Nat}
/-- def __init__(self, par): S.__init__(self, msg); self.f = par -/
theorem xinit_ok {p1 p2 p3 p4 p5 p6 p7 p8 p9 p10 : Pos} {j} {pl : Env → Sem Bool} (Fu : Fun K "__init__" qual st fI fd) (S : FnScope ["self", par] ["self", par] (defScope st)) (V : Dv K mg x CS)
    (hb : defBody st = [.Expr (.Call (.Attribute (.Name x p1) "__init__" p2) [.Name "self" p3, .Constant (.str msg) j p4] [] p5) p6, .Assign [.Attribute (.Name "self" p7) f p8] (.Name par p9) p10])
    (hx : (defScope st).names.lookup x = some .globalImplicit) (h1 : (defScope st).names.lookup ("self" : Str) = some .local) (h2 : (defScope st).names.lookup par = some .local) (hdb : (x == ("__debug__" : Str)) = false) (hdp : (par == ("__debug__" : Str)) = false) (hcp : (par == ("__classdict__" : Str)) = false)
    (hc : ∀ env : Env, eval (.Call (.Attribute (.Name x p1) "__init__" p2) [.Name "self" p3, .Constant (.str msg) j p4] [] p5) env = (do
      let ov ← eval (.Name x p1) env
      standAt p2.atName
      let (f, first) ← holding [ov] (getMethod ov "__init__" (pl env))
      callWith p5 f first (backTo p5 (starEach [.Name "self" p3, .Constant (.str msg) j p4] env)) (backToKw p5 (keywordEach [] env)))) :
    FnOk P w K mg base (L2.CX P w) (k + 1) fI fd ["self", par] (spX1 K f) :=
  Fu.okX S (fun vs H Q E h => by obtain ⟨a, C, y, rfl, _⟩ := h; rfl) fun cdv A outer s H vs Q E hr h => by
    rw [hb]
    obtain ⟨a, C, y, rfl, T, hno, e0, hq⟩ := h
    have vS : PE (XC P w K mg base ["self", par] qual (defScope st) fI cdv A outer s H E) (.Name "self" p3) (tVar 0) := pe_var rfl (Or.inl h1) (by decide) (by decide)
    have vS7 : PE (XC P w K mg base ["self", par] qual (defScope st) fI cdv A outer s H E) (.Name "self" p7) (tVar 0) := pe_var rfl (Or.inl h1) (by decide) (by decide)
    have vP : PE (XC P w K mg base ["self", par] qual (defScope st) fI cdv A outer s H E) (.Name par p9) (tVar 1) := pe_var rfl (Or.inl h2) hdp hcp
    have s1 : PS (XC P w K mg base ["self", par] qual (defScope st) fI cdv A outer s H E) (.Expr (.Call (.Attribute (.Name x p1) "__init__" p2) [.Name "self" p3, .Constant (.str msg) j p4] [] p5) p6) _ :=
      ps_expr (pe_veinitC (pl := pl _) V hx (pa_cons vS (pa_cons pe_str pa_nil)) hdb (hc _)) rfl
    have s2 : PS (XC P w K mg base ["self", par] qual (defScope st) fI cdv A outer s H E) (.Assign [.Attribute (.Name "self" p7) f p8] (.Name par p9) p10) _ := ps_ost vS7 vP rfl
    refine ⟨_, pss_cons s1 (pss_one s2), ?_⟩
    refine ⟨.ref a, rfl, a, C, [.str msg], rfl, by simp, T, e0, ?_⟩
    exact ⟨y, rfl, .ref a, rfl, a, C, rfl, T, hno, .inl ⟨e0, fun dx h1 h2 => hq dx h1 h2⟩⟩
/-- an error of the module: its class, its one field -/
structure Dx1 (P : PySem.Program) (w : World) (K : PySem.W.Frag) (mg : Str → Option Value) (base : Heap) (k : Nat) (x : Str) (C : Addr) (f : Str) : Prop where
  ex : ∃ (fI : Addr) (fd : FuncData) (ps : List Str), FnOk P w K mg base (L2.CX P w) k fI fd ps (spX1 K f) ∧ Binds K fd ps [] ∧ PySem.W.findIn K (.ref C) "__init__" = some (some (.ref fI)) ∧ PySem.W.typeIn K (.ref fI) = some (.type "function")
  oc : OexC K C
  mg_ : mg x = some (.ref C)
  no : PySem.W.findIn K (.ref C) f = some none
end
def mRaise1 (C : Addr) (f : Str) (da : DA) : DS := fun ρ => (da ρ).thn fun us ρ1 => match us with
  | [u] => match toD 4 u ρ1.st with
    | some (t, st) => .ex ⟨C, [(f, t)]⟩ ⟨ρ1.sl, st⟩
    | none => .no
  | _ => .no
section
variable {X : Cx} {W : WX} {e : Expr} {da : DA} {x f : Str} {C : Addr} {p pos pos2 : Pos} {k j : Nat}
theorem fs_raise1 (hc : X.calm = true) (ct : Ct X W) (D : Dx1 X.prog X.w X.K X.mg X.base k x C f) (hr : Room j X.A) (ha : SA X W [e] da) (hk : k + 1 ≤ j := by decide) (hg : Gl X x := by rfl)
    (hdb : (x == ("__debug__" : Str)) = false := by decide) (he : starEach [e] X.env = (false, eval e X.env) :: starEach [] X.env := by rfl) (hpl : (backTo pos2 (starEach [] X.env)).any (·.1) = false := by rfl) :
    SS X W (.Raise (some (.Call (.Name x p) [e] [] pos2)) none pos) (mRaise1 C f da) := by
  obtain ⟨fI, fd, ps, F, hb, h1, h2⟩ := D.ex
  refine ps_weak (ps_raise hc ct.ts (pmk_oex (p := p) D.oc h1 h2 F (hr.mono hk) hb .nil passL hg D.mg_ ha hdb he hpl)) fun Dn σ H ⟨B, ρ, G, α, r, h⟩ => ?_
  refine sA r h fun us ρ1 vs H1 G1 α1 g1 r1 p1 h1 => ?_
  split at h1
  · rename_i u
    split at h1
    · rename_i t st e1
      obtain ⟨y, ws, rfl, q1, rfl⟩ := p1
      obtain ⟨G2, g2, r2, q2⟩ := toD_ok 4 r1.toRh q1 e1
      refine ⟨by simp, fun a ha => ?_⟩
      refine ⟨a, C, y, rfl, D.oc, D.no, upd_same, fun d hd hne => ?_⟩
      have hd1 : H1 d = none := by rw [upd_ne hne] at hd; exact hd
      refine ⟨rfl, d, [(f, y)], upd_same, by rw [upd_ne hne]; exact upd_same, hd1, ?_⟩
      have eH : upd (del (upd (upd (upd H1 a (exo a C none)) d (exd d [(f, y)])) a (exo a C (some d))) a) d (.xd [(f, y)]) = upd H1 d (.xd [(f, y)]) := by
        funext b
        by_cases hb : b = d
        · subst hb; rw [upd_same, upd_same]
        · rw [upd_ne hb, upd_ne hb]
          by_cases hba : b = a
          · subst hba; rw [del_same, ha]
          · rw [del_ne hba, upd_ne hba, upd_ne hb, upd_ne hba]
      rw [eH]
      have r3 : Rs X.K B ⟨ρ1.sl, st⟩ G2 α1 σ H1 := Rs.mk' r1 g2 r2
      obtain ⟨r4, g4⟩ := r3.newD (o := .xd [(f, y)]) hd1
      exact h1 σ _ _ α1 (some d) (g2.trans g4) r4 (.inr ⟨d, [y], rfl, upd_same, rfl, Rps.cons (Rp.mono g4.ex q2) Rps.nil⟩)
    · exact h1.elim
  · exact h1.elim
end
end FL

/-! FL27: try: .. except C as e: one statement. -/
namespace FL
open PySem L2 PyProof.Rows

/-- an error class of the module, as an except clause and isinstance ask for it -/
structure Ec (K : PySem.W.Frag) (mg : Str → Option Value) (x : Str) (C : Addr) : Prop where
  mg_ : mg x = some (.ref C)
  ty : PySem.W.typeIn K (.ref C) = some (.type "type")
  xf : XfC K C
  ha : PySem.W.findIn K (.ref C) "__class__" = some (some (.builtin "object.__class__"))
  hn : PySem.W.specialIn K (.builtin "object.__class__") "__get__" = some (some (.builtin "getset_descriptor.__get__"))
  htk : PySem.W.takesIn K (.builtin "object.__class__") = some true
  hm : PySem.W.mroIn K C (.type "object") = some true
/-- D stands below S, or not -/
def Below (K : PySem.W.Frag) (D S : Addr) (b : Bool) : Prop := PySem.W.subIn K (.ref D) (.ref S) = some b
section
variable {K : PySem.W.Frag} {mg : Str → Option Value} {x y : Str} {C D S : Addr} {b : Bool}
theorem Ec.cls (E : Ec K mg x C) : (PySem.W.clsIn K C).isSome = true := by
  obtain ⟨cd, hc, _⟩ := PySem.W.any_some E.xf.hdC
  rw [hc]; rfl
theorem Ec.exm (E : Ec K mg x C) (h : Below K D C b) : PySem.W.exmOne K (.ref D) (.ref C) = some b := PySem.W.exm_ref E.xf.exC E.xf.hdC E.ty h
theorem Ec.kit (E : Ec K mg x S) (h : Below K D S b) : PySem.W.kitCls K (.ref D) (.ref S) = some b := by
  have e := E.exm h
  unfold PySem.W.exmOne at e
  rw [if_pos (by rw [E.xf.exC]; rfl)] at e
  exact e
end
/-- isinstance(e, c), e the error that the suite holds -/
def rIsX (K : PySem.W.Frag) (D a : Addr) (d : Option Addr) : List V → Hp → VK → Prop := fun xs H Q => ∃ (c : V) (cv : Value) (b : Bool), xs = [.ref a, c] ∧ (∀ u, RelV c u → u = cv) ∧ PySem.W.kitOne K (.ref D) cv = some b ∧ (d = none ∨ ∃ dd fs, d = some dd ∧ H dd = some (.xd fs)) ∧ Q (.bl b) H
theorem call_isX {X : Cx} {x : Str} {a D : Addr} {d : Option Addr} {oe : Obj} {pn : List (Addr × Obj)} (C : Ec X.K X.mg x D) (hz : Zc (.ref D) d oe) (hf : ∃ vs, oe.data = .fields vs) : CallR (X.suite a ((a, oe) :: pn)) (.builtin "isinstance") (rIsX X.K D a d) := by
  intro pins s σ H xs us Q I r h
  obtain ⟨c, cv, b, rfl, hcv, e, hd, q⟩ := h
  cases r with
  | cons rx rr =>
    cases rr with
    | cons rt rr =>
      cases rr
      cases rx
      have ec := hcv _ rt
      subst ec
      obtain ⟨hget, _⟩ := I.pin (a, oe) (List.mem_append.mpr (.inl List.mem_cons_self))
      obtain ⟨vs, hv⟩ := hf
      have J : ∃ od, PySem.W.InstAt s.heap a oe D od := by
        rcases hd with rfl | ⟨dd, fs, rfl, ea⟩
        · exact ⟨none, hget, hz.1, by unfold PySem.W.notCls; rw [hv] <;> rfl, by rw [hz.2]; trivial⟩
        · have hx : ObjOk X.prog X.w H s.heap dd (.xd fs) := I.hok dd _ ea
          obtain ⟨mA, hns, hr⟩ := hx
          obtain ⟨od, ho, hl⟩ := lookIn_ns hns
          exact ⟨some od, hget, hz.1, by unfold PySem.W.notCls; rw [hv] <;> rfl, by rw [hz.2]; exact ho⟩
      obtain ⟨od, J⟩ := J
      exact PySem.W.kia_one (PySem.W.kitx_exc C.cls C.xf.ga C.xf.gg C.xf.exC C.ha C.hn C.htk C.hm) I.kIn J e (fun z => nomatch z) fun tk => ⟨.bl b, H, I.kept (t' := tk) fun _ _ z => z, rfl, q⟩

/-! ### expressions of a suite that look at the error -/
def tEh (K : PySem.W.Frag) (i : Nat) (a : Addr) (cls : Value) (d : Option Addr) (x : Xn) (m : DE) : TE := fun σ H Q => cls = .ref x.C ∧ σ[i]? = some (some (.ref a)) ∧
  ∃ B ρ G α, Rs K B ρ G α σ H ∧ Xd K G H d x.fs ∧ okP K W0 B G α σ (m ρ) fun u _ G' α' H' => ∀ v, RpU K G' α' u v → Q v H'
def SEh (X : Cx) (i : Nat) (e : Expr) (m : Xn → DE) : Prop := ∀ (a : Addr) (oe : Obj) (cls : Value) (d : Option Addr) (pn : List (Addr × Obj)) (x : Xn), Zc cls d oe → (∃ vs, oe.data = .fields vs) →
  PE (X.suite a ((a, oe) :: pn)) e (tEh X.K i a cls d x (m x))
theorem Xd.mono {K : PySem.W.Frag} {G G' H H' : Hp} {d : Option Addr} {fs : List (Str × T)} (e : Ex G G') (h : Xd K G H d fs) : Xd K G' H' d fs := by
  rcases h with h | ⟨dd, vs, h1, h2, h3, h4⟩
  · exact .inl h
  · exact .inr ⟨dd, vs, h1, e _ _ h2, h3, Rps.mono e h4⟩
section
variable {X : Cx} {i : Nat} {e e1 e2 c : Expr} {m m1 m2 : Xn → DE} {n f y : Str} {pos p p2 : Pos} {C S : Addr}
theorem h_lift {m : DE} (h : ∀ (a : Addr) (oe : Obj) (pn : List (Addr × Obj)), SE (X.suite a ((a, oe) :: pn)) W0 e m) : SEh X i e (fun _ => m) := fun a oe cls d pn x hz hf =>
  pe_weak (h a oe pn) fun σ H Q ⟨_, _, B, ρ, G, α, r, _, q⟩ => ⟨B, ρ, G, α, r, q⟩
/-- e.f -/
def hFld (C : Addr) (f : Str) : Xn → DE := fun x ρ => if x.C = C then match x.fs.lookup f with
  | some t => .ok (.d t) ρ
  | none => .no
  else .no
theorem lookup_zip {K : PySem.W.Frag} {G : Hp} {f : Str} {t : T} : ∀ {fs : List (Str × T)} {vs : List V}, Rps K G (fs.map (·.2)) vs → fs.lookup f = some t → ∃ v, ((fs.map (·.1)).zip vs).lookup f = some v ∧ Rp K G t v
  | [], vs, _, e => by simp at e
  | (g, u) :: fs, vs, h, e => by
    simp only [List.map_cons, Rps] at h
    obtain ⟨v, ws, rfl, q2, q3⟩ := h
    simp only [List.map_cons, List.zip_cons_cons, List.lookup_cons] at e ⊢
    cases hb : (f == g) with
    | true =>
      rw [hb] at e
      simp only [Option.some.injEq] at e
      subst e
      exact ⟨v, rfl, q2⟩
    | false =>
      rw [hb] at e
      exact lookup_zip q3 e
theorem h_fld (E : Ec X.K X.mg y C) (hno : PySem.W.findIn X.K (.ref C) f = some none) (hN : X.N[i]? = some n := by rfl) (hv : Vis X.env.scope n := by first | exact Or.inl rfl | exact Or.inr (Or.inl rfl) | exact Or.inr (Or.inr rfl)) (hd : (n == ("__debug__" : Str)) = false := by decide)
    (hcd : (n == ("__classdict__" : Str)) = false := by decide) (hb : attributeBase (.Name n p) f X.env (eval (.Name n p) X.env) = eval (.Name n p) X.env := by rfl) : SEh X i (.Attribute (.Name n p) f pos) (hFld C f) := fun a oe cls d pn x hz hf =>
  pe_weak (pe_xf E.xf hno hz hf (pe_var (X := X.suite a ((a, oe) :: pn)) hN hv hd hcd) hb) fun σ H Q ⟨ec, es, B, ρ, G, α, r, xd, q⟩ => by
    unfold hFld at q
    split at q
    · rename_i hC
      split at q
      · rename_i t et
        refine ⟨.ref a, es, rfl, by rw [ec, hC], ?_⟩
        rcases xd with ⟨h1, _⟩ | ⟨dd, vs, h1, h2, h3, h4⟩
        · rw [h1] at et; simp at et
        · obtain ⟨v, q1, q2⟩ := lookup_zip h4 et
          exact ⟨dd, _, v, h1, r.gh _ _ h2, q1, q G α H Gr.refl r v q2⟩
      · exact q.elim
    · exact q.elim
/-- isinstance(e, S) -/
def hIs (C : Addr) (b : Bool) : Xn → DE := fun x ρ => if x.C = C then .ok (.d (.bl b)) ρ else .no
theorem h_isi {b : Bool} {ps : Pos} {z : Str} (E : Ec X.K X.mg y C) (E2 : Ec X.K X.mg z S) (hs : Below X.K C S b) (hm : X.mg "isinstance" = none) (hCS : C ≠ S ∨ b = true) (hN : X.N[i]? = some n := by rfl) (hv : Vis X.env.scope n := by first | exact Or.inl rfl | exact Or.inr (Or.inl rfl) | exact Or.inr (Or.inr rfl)) (hd : (n == ("__debug__" : Str)) = false := by decide)
    (hcd : (n == ("__classdict__" : Str)) = false := by decide) (hdz : (z == ("__debug__" : Str)) = false := by decide) (hg : Gl X "isinstance" := by rfl) (hgz : Gl X z := by rfl) (hst : starEach [.Name n p, .Name z p2] X.env = (false, eval (.Name n p) X.env) :: starEach [.Name z p2] X.env := by rfl) :
    SEh X i (.Call (.Name "isinstance" ps) [.Name n p, .Name z p2] [] pos) (hIs C b) := fun a oe cls d pn x hz hf => by
  by_cases hC : cls = .ref C
  · subst hC
    refine pe_weak (pe_callB (X := X.suite a ((a, oe) :: pn)) (call_isX E hz hf) hg hm (by decide +kernel) (pa_cons (pe_var (X := X.suite a ((a, oe) :: pn)) hN hv hd hcd) (pa_cons (pe_glob (X := X.suite a ((a, oe) :: pn)) hgz E2.mg_ (v := .ref S) rfl hdz) pa_nil) hst) (by decide) (by decide) hst rfl) fun σ H Q ⟨ec, es, B, ρ, G, α, r, xd, q⟩ => ?_
    unfold hIs at q
    split at q
    · refine ⟨.ref a, es, .ref S, .ref S, b, rfl, fun u hu => hu, ?_, ?_, q G α H Gr.refl r _ (by simp [RpU, Rp])⟩
      · unfold PySem.W.kitOne
        split
        · rename_i h
          have h2 : Value.ref C = Value.ref S := beq_iff_eq.mp h
          rcases hCS with h3 | h3
          · exact absurd (Value.ref.inj h2) h3
          · rw [h3]
        · exact E2.kit hs
      · rcases xd with ⟨_, h1⟩ | ⟨dd, vs, h1, h2, _⟩
        · exact .inl h1
        · exact .inr ⟨dd, _, h1, r.gh _ _ h2⟩
    · exact q.elim
  · refine ⟨fun pins s σ H Q I h => ?_⟩
    obtain ⟨ec, es, B, ρ, G, α, r, xd, q⟩ := h
    unfold hIs at q
    split at q
    · rename_i h; exact absurd (by rw [ec, h]) hC
    · exact q.elim
end
end FL

/-! FL28: suites of except clauses; try. -/
namespace FL
open PySem L2 PyProof.Rows

theorem bEh {K : PySem.W.Frag} {B G H : Hp} {α : List Addr} {σ : L2.St} {ρ : Sg} {β : Type} {P : β → Sg → Hp → List Addr → Hp → Prop} {i : Nat} {a : Addr} {cls : Value} {d : Option Addr} {x : Xn} {m : DE} {k : U → Sg → R β} {Q : VK}
    (ec : cls = .ref x.C) (es : σ[i]? = some (some (.ref a))) (r : Rs K B ρ G α σ H) (xd : Xd K G H d x.fs) (h : okP K W0 B G α σ ((m ρ).bind k) P)
    (hk : ∀ u ρ1 v H1 G1 α1, Gr B G α G1 α1 → Rs K B ρ1 G1 α1 σ H1 → Xd K G1 H1 d x.fs → RpU K G1 α1 u v → okP K W0 B G1 α1 σ (k u ρ1) P → Q v H1) : tEh K i a cls d x m σ H Q := by
  refine ⟨ec, es, B, ρ, G, α, r, xd, ?_⟩
  cases e : m ρ with
  | ok u ρ1 => rw [e] at h; exact fun G1 α1 H1 g r1 v p => hk u ρ1 v H1 G1 α1 g r1 (xd.mono g.ex) p (okP.shift g h)
  | ex x ρ1 => rw [e] at h; exact h
  | no => rw [e] at h; exact h
section
variable {X : Cx} {i : Nat} {e e1 e2 c : Expr} {m m1 m2 : Xn → DE} {n f y : Str} {pos p p2 : Pos} {C S : Addr}
theorem h_eq (hu : X.A.units + 64 < cLine) (h1 : SEh X i e1 m1) (h2 : SEh X i e2 m2) (hb2 : behindInMarks .Eq e2 = false := by rfl) : SEh X i (.Compare e1 [.Eq] [e2] pos) (fun x => mOp eqF (m1 x) (m2 x)) := fun a oe cls d pn x hz hf =>
  pe_weak (pe_cmpR (X := X.suite a ((a, oe) :: pn)) (op_eq.or (op_eqD (X := X.suite a ((a, oe) :: pn)) hu)) (h1 a oe cls d pn x hz hf) (h2 a oe cls d pn x hz hf) hb2) fun σ H Q ⟨ec, es, B, ρ, G, α, r, xd, q⟩ =>
    bEh ec es r xd q fun u ρ1 v H1 G1 α1 g1 r1 xd1 p1 q1 => bEh ec es r1 xd1 q1 fun w ρ2 v2 H2 G2 α2 g2 r2 xd2 p2 q2 => by
      split at q2
      · rename_i x y e1 e2
        exact eqA_ok W0 B ρ2 G2 α2 σ H2 Q x y v v2 r2 (pk_ok r2.toRh (p1.mono g2) e1) (pk_ok r2.toRh p2 e2) q2
      · exact q2.elim
theorem h_and1 {op} (h : SEh X i e m) : SEh X i (.BoolOp op [e] pos) m := fun a oe cls d pn x hz hf => pe_one (h a oe cls d pn x hz hf)
theorem h_and {rest : List Expr} (h1 : SEh X i e1 m1) (h2 : SEh X i (.BoolOp .And (e2 :: rest) pos) m2) : SEh X i (.BoolOp .And (e1 :: e2 :: rest) pos) (fun x => mBAnd (m1 x) (m2 x)) := fun a oe cls d pn x hz hf =>
  pe_weak (pe_and (h1 a oe cls d pn x hz hf) (h2 a oe cls d pn x hz hf)) fun σ H Q ⟨ec, es, B, ρ, G, α, r, xd, q⟩ =>
    bEh ec es r xd q fun u ρ1 v H1 G1 α1 g1 r1 xd1 p1 q1 => by
      split at q1
      · rename_i b
        have e : v = .bl b := by simpa [RpU, Rp] using p1
        refine ⟨b, e, ?_⟩
        cases b with
        | true => exact ⟨ec, es, B, ρ1, G1, α1, r1, xd1, q1⟩
        | false => exact q1 G1 α1 H1 Gr.refl r1 _ (by simp [RpU, Rp])
      · exact q1.elim
/-- a if c else b -/
def hIf (mt : Xn → DE) (m1 m2 : Xn → DE) : Xn → DE := fun x ρ => (mt x ρ).bind fun u ρ1 => match u with
  | .d (.bl b) => if b = true then m1 x ρ1 else m2 x ρ1
  | _ => .no
theorem h_if {mt : Xn → DE} (hc : SEh X i c mt) (h1 : SEh X i e1 m1) (h2 : SEh X i e2 m2) (he : ∀ (a : Addr) whole, isTrue c (X.suite a []).env whole = (do let v ← whole; standAt c.pos; holding [v] (truthy v)) := by intro _ _; rfl) : SEh X i (.IfExp c e1 e2 pos) (hIf mt m1 m2) := fun a oe cls d pn x hz hf =>
  pe_weak (pe_ifExp (pt_val (hc a oe cls d pn x hz hf) (he a)) (h1 a oe cls d pn x hz hf) (h2 a oe cls d pn x hz hf)) fun σ H Q ⟨ec, es, B, ρ, G, α, r, xd, q⟩ =>
    bEh ec es r xd q fun u ρ1 v H1 G1 α1 g1 r1 xd1 p1 q1 => by
      split at q1
      · rename_i b
        have e : v = .bl b := by simpa [RpU, Rp] using p1
        refine ⟨b, e, ?_⟩
        cases b with
        | true => exact ⟨ec, es, B, ρ1, G1, α1, r1, xd1, q1⟩
        | false => exact ⟨ec, es, B, ρ1, G1, α1, r1, xd1, q1⟩
      · exact q1.elim

/-! a suite of one statement -/
def tH (K : PySem.W.Frag) (i : Nat) (a : Addr) (cls : Value) (d : Option Addr) (m : Xn → DS) : TS := fun D σ H => ∃ x B ρ G α, cls = .ref x.C ∧ σ[i]? = some (some (.ref a)) ∧ Rs K B ρ G α σ H ∧ Xd K G H d x.fs ∧ okF K W0 B G α (m x ρ) D
def SH (X : Cx) (i : Nat) (b : List Stmt) (m : Xn → DS) : Prop := ∀ (a : Addr) (oe : Obj) (cls : Value) (d : Option Addr) (pn : List (Addr × Obj)), Zc cls d oe → (∃ vs, oe.data = .fields vs) → PSs (X.suite a ((a, oe) :: pn)) b (tH X.K i a cls d m)
theorem sh_set {x : Str} {pos' : Pos} (j : Nat) (hN : X.N.Nodup) (he : SEh X i e m) (hi : X.N[j]? = some x := by rfl) (hx : Loc X.env.scope x := by first | exact Or.inl rfl | exact Or.inr rfl) (hs : swapsWith e (some (.Name x pos')) pos.line X.env = pure false := by rfl)
    (hf : X.env.scope.names.lookup x = some .local := by rfl) : SH X i [.Assign [.Name x pos'] e pos] (fun x => mSet j (m x)) := fun a oe cls d pn hz hf2 => by
  refine pss_one ?_
  refine ⟨fun pins s σ H D I h => ?_⟩
  obtain ⟨x, B, ρ, G, α, ec, es, r, xd, q⟩ := h
  refine (ps_weak (ps_set (X := X.suite a ((a, oe) :: pn)) hN hi hx (he a oe cls d pn x hz hf2) hs (.inr hf)) (t' := fun D σ H => ∃ B ρ G α, cls = .ref x.C ∧ σ[i]? = some (some (.ref a)) ∧ Rs X.K B ρ G α σ H ∧ Xd X.K G H d x.fs ∧ okF X.K W0 B G α (mSet j (m x) ρ) D) ?_).run pins s σ H D I ⟨B, ρ, G, α, ec, es, r, xd, q⟩
  rintro D σ H ⟨B, ρ, G, α, ec, es, r, xd, q⟩
  refine ⟨ec, es, B, ρ, G, α, r, xd, ?_⟩
  unfold mSet at q
  cases e : m x ρ with
  | ok u ρ1 => rw [e] at q; exact fun G1 α1 H1 g r1 v p => q G1 α1 _ H1 g (r1.store p)
  | ex x ρ1 => rw [e] at q; exact q
  | no => rw [e] at q; exact q

/-! try: body, except C as e: suite -/
def clrF (i : Nat) : _root_.FL.F → _root_.FL.F
  | .nx ρ => .nx ⟨ρ.sl.set i none, ρ.st⟩
  | .bk ρ => .bk ⟨ρ.sl.set i none, ρ.st⟩
  | .ct ρ => .ct ⟨ρ.sl.set i none, ρ.st⟩
  | .rt u ρ => .rt u ρ
  | .ex x ρ => .no
  | .no => .no
def tabF : List (Addr × Bool) → Addr → Option Bool
  | [], _ => none
  | (D, b) :: r, C => if D = C then some b else tabF r C
def mTry (tab : List (Addr × Bool)) (i : Nat) (mb : DS) (mh : Xn → DS) : DS := fun ρ => match mb ρ with
  | .ex x ρ1 => match tabF tab x.C with
    | some true => if i < ρ1.sl.length then clrF i (mh x ⟨ρ1.sl.set i none, ρ1.st⟩) else .no
    | some false => .ex x ρ1
    | none => .no
  | .nx ρ1 => .nx ρ1
  | .rt u ρ1 => .rt u ρ1
  | .bk ρ1 => .bk ρ1
  | .ct ρ1 => .ct ρ1
  | .no => .no
theorem tabF_ok {K : PySem.W.Frag} {C : Addr} : ∀ {tab : List (Addr × Bool)} {D : Addr} {b : Bool}, (∀ q ∈ tab, Below K q.1 C q.2) → tabF tab D = some b → Below K D C b
  | [], _, _, _, e => by simp [tabF] at e
  | (D', b') :: r, D, b, h, e => by
    simp only [tabF] at e
    split at e
    · rename_i hD
      simp only [Option.some.injEq] at e
      subst hD; subst e
      exact h _ List.mem_cons_self
    · exact tabF_ok (fun q hq => h q (List.mem_cons_of_mem _ hq)) e
theorem Rs.unset {K : PySem.W.Frag} {B G H : Hp} {α : List Addr} {σ : L2.St} {ρ : Sg} {i : Nat} {o : Option V} (r : Rs K B ρ G α σ H) : Rs K B ⟨ρ.sl.set i none, ρ.st⟩ G α (σ.set i o) H :=
  { toRh := r.toRh, sll := by simpa using r.sll, sl := fun j w e => by
      by_cases hj : i = j
      · subst hj
        have hl : i < ρ.sl.length := by
          have := (List.getElem?_eq_some_iff.mp e).1
          simpa using this
        rw [List.getElem?_set_self hl] at e; cases e
      · rw [List.getElem?_set_ne hj] at e ⊢
        exact r.sl j w e }
end
section
variable {X : Cx} {W : WX} {x n : Str} {C : Addr} {body suite : List Stmt} {b₀ : Stmt} {np pos pos' : Pos} {mb : DS} {mh : Xn → DS}
theorem fs_try (i : Nat) (tab : List (Addr × Bool)) (ct : Ct X W) (hN : X.N.Nodup) (E : Ec X.K X.mg x C) (ht : ∀ q ∈ tab, Below X.K q.1 C q.2)
    (hb : ∀ (W' : WX) (pn : List (Addr × Obj)) (xe : Value → Shared → Prop), Ct (X.tr pn xe) W' → SSs (X.tr pn xe) W' body mb) (hh : SH X i (b₀ :: suite) mh)
    (hi : X.N[i]? = some n := by rfl) (hs : X.stack = X.env :: X.outer := by rfl) (hf : X.env.frame = some X.env.locals := by rfl) (hln : X.env.kindOf n = some .local := by rfl) (hg : Gl X x := by rfl) (hdb : (x == ("__debug__" : Str)) = false := by decide) :
    SS X W (.Try body [.ExceptHandler (some (.Name x np)) (some n) (b₀ :: suite) pos'] [] [] pos) (mTry tab i mb mh) :=
  ps_weak (ps_try_as (tb := fun W' => tS X.K W' mb) (ts := fun a cls d => tH X.K i a cls d mh) hs hf hN hi hln ⟨hg, hdb, .inl E.mg_⟩ ct.ts (fun W' pn xe t p => hb W' pn xe ⟨tk_of t, p, t⟩) hh) fun D σ H ⟨B, ρ, G, α, r, h⟩ => by
    refine ⟨B, ρ, G, α, r, ?_⟩
    unfold mTry at h
    cases e : mb ρ with
    | nx ρ1 => rw [e] at h; exact h
    | rt u ρ1 => rw [e] at h; exact h
    | bk ρ1 => rw [e] at h; exact h
    | ct ρ1 => rw [e] at h; exact h
    | no => rw [e] at h; exact h
    | ex y ρ1 =>
      rw [e] at h
      dsimp only at h
      intro σ' H' G' α' d g r' xd
      cases et : tabF tab y.C with
      | none => rw [et] at h; exact h.elim
      | some b =>
        rw [et] at h
        refine ⟨b, E.exm (tabF_ok ht et), fun hb2 a ha => ?_, fun hb2 => ?_⟩
        · subst hb2
          dsimp only at h
          split at h
          · rename_i hl
            have hlen : i < σ'.length := by rw [← r'.sll]; exact hl
            refine ⟨y, B, ⟨ρ1.sl.set i none, ρ1.st⟩, G', α', rfl, by rw [List.getElem?_set_self hlen], r'.unset, xd, ?_⟩
            cases em : mh y ⟨ρ1.sl.set i none, ρ1.st⟩ with
            | nx ρ2 => rw [em] at h; exact fun G1 α1 σ1 H1 g1 r1 => h G1 α1 _ H1 (g.trans g1) r1.unset
            | bk ρ2 => rw [em] at h; exact fun G1 α1 σ1 H1 g1 r1 => h G1 α1 _ H1 (g.trans g1) r1.unset
            | ct ρ2 => rw [em] at h; exact fun G1 α1 σ1 H1 g1 r1 => h G1 α1 _ H1 (g.trans g1) r1.unset
            | rt u ρ2 => rw [em] at h; exact fun G1 α1 σ1 H1 v g1 r1 p => h G1 α1 σ1 H1 v (g.trans g1) r1 p
            | ex z ρ2 => rw [em] at h; exact h.elim
            | no => rw [em] at h; exact h.elim
          · exact h.elim
        · subst hb2
          exact h σ' H' G' α' d g r' xd
end
end FL

/-! FL29: a tuple some times. -/
namespace FL
open PySem L2 PyProof.Rows
def mulTF (x y : T) : Option O := match y with
  | .int k => match x with
    | .tup ts => if ts ≠ [] ∧ 2 ≤ k ∧ k ≤ 1000 ∧ ts.length ≤ 1000 then some (.d (.tup (List.replicate k.toNat ts).flatten)) else none
    | _ => none
  | _ => none
theorem Rps.rep {K : PySem.W.Frag} {G : Hp} {ts : List T} {vs : List V} (h : Rps K G ts vs) : ∀ n, Rps K G (List.replicate n ts).flatten (List.replicate n vs).flatten
  | 0 => by simp [Rps]
  | n + 1 => by
    rw [List.replicate_succ, List.replicate_succ, List.flatten_cons, List.flatten_cons]
    exact Rps.append h (Rps.rep h n)
theorem mulT_ok {K : PySem.W.Frag} : OpK K (rRepT K) mulTF := by
  intro W B ρ G α σ H Q x y v w rs p1 p2 q
  unfold mulTF at q
  split at q
  · rename_i k
    split at q
    · rename_i ts
      split at q
      · rename_i hz
        obtain ⟨a, vs, rfl, h1, h2⟩ := p1.tup
        have hw : w = .int k := by simpa [Rp1, Rp] using p2
        subst hw
        have hl := h2.length
        refine ⟨a, k, vs, rfl, rfl, SqT.of (rs.gh _ _ h1), fun e => hz.1 ?_, hz.2.1, hz.2.2.1, by rw [← hl]; exact hz.2.2.2, fun p hp => fin_tup rs q (h2.rep _) hp⟩
        rw [e] at hl
        exact List.eq_nil_of_length_eq_zero hl
      · exact q.elim
    · exact q.elim
  · exact q.elim
section
variable {X : Cx} {W : WX} {a b : Expr} {ma mb : DE} {pos : Pos}
theorem fe_mulT (h : SE X W a ma) (g : SE X W b mb) : SE X W (.BinOp a .Mult b pos) (mOp mulTF ma mb) := pe_weak (pe_op op_repT h g) (tOp_of mulT_ok)
end
end FL

/-! FL30: facts of error classes, as the end shows them. -/
namespace FL
open PySem L2 PyProof.Rows
/-- __init__ of an error of the module -/
structure Dxi (K : PySem.W.Frag) (C : Addr) (qual : Str) (st : Stmt) (ps : List Str) : Prop where
  ex : ∃ (f : Addr) (fd : FuncData), Fun K "__init__" qual st f fd ∧ Binds K fd ps [] ∧ PySem.W.findIn K (.ref C) "__init__" = some (some (.ref f)) ∧ PySem.W.typeIn K (.ref f) = some (.type "function")
section
variable {P : PySem.Program} {w : World} {K : PySem.W.Frag} {mg : Str → Option Value} {base : Heap} {f x y par qual msg : Str} {st : Stmt} {C CS : Addr}
theorem Dxi.dx1 {p1 p2 p3 p4 p5 p6 p7 p8 p9 p10 : Pos} {j} {pl : Env → Sem Bool} (D : Dxi K C qual st ["self", par]) (S : FnScope ["self", par] ["self", par] (defScope st)) (V : Dv K mg x CS) (oc : OexC K C) (hm : mg y = some (.ref C)) (hno : PySem.W.findIn K (.ref C) f = some none)
    (hb : defBody st = [.Expr (.Call (.Attribute (.Name x p1) "__init__" p2) [.Name "self" p3, .Constant (.str msg) j p4] [] p5) p6, .Assign [.Attribute (.Name "self" p7) f p8] (.Name par p9) p10])
    (hx : (defScope st).names.lookup x = some .globalImplicit) (h1 : (defScope st).names.lookup ("self" : Str) = some .local) (h2 : (defScope st).names.lookup par = some .local) (hdb : (x == ("__debug__" : Str)) = false) (hdp : (par == ("__debug__" : Str)) = false) (hcp : (par == ("__classdict__" : Str)) = false)
    (hc : ∀ env : Env, eval (.Call (.Attribute (.Name x p1) "__init__" p2) [.Name "self" p3, .Constant (.str msg) j p4] [] p5) env = (do
      let ov ← eval (.Name x p1) env
      standAt p2.atName
      let (f, first) ← holding [ov] (getMethod ov "__init__" (pl env))
      callWith p5 f first (backTo p5 (starEach [.Name "self" p3, .Constant (.str msg) j p4] env)) (backToKw p5 (keywordEach [] env)))) :
    Dx1 P w K mg base 1 y C f := by
  obtain ⟨fI, fd, h1', h2', h3', h4'⟩ := D.ex
  exact ⟨⟨fI, fd, _, xinit_ok (k := 0) h1' S V hb hx h1 h2 hdb hdp hcp hc, h2', h3', h4'⟩, oc, hm, hno⟩
theorem oex_of {nm q : Str} {N : Addr} {bs bm : List Value} {sn : List Str} {sub : List Value} {ab : Bool} {col : Option Bool} {dd : Option Addr} {k0 k1 k2 k3 k5 : Option Value} (l : K.lookup C = some (excClassObj nm q C N bs bm true sn sub ab col dd k0 k1 k2 k3 k5 "ValueError.__new__")) (r : PySem.HandSPX.refsVE bm = true)
    (sa : PySem.W.findIn K (.ref C) "__setattr__" = some (some (.builtin "object.__setattr__"))) (exC : PySem.W.subIn K (.ref C) (.type "BaseException") = some true) (tyC : PySem.W.typeIn K (.ref C) = some (.type "type")) (kC : PySem.W.keepIn K (.ref C) = true) : OexC K C :=
  ⟨⟨_, _, _, _, _, _, _, _, _, _, _, _, _, _, _, l, r⟩, sa, exC, tyC, kC⟩
theorem below_of {D S : Addr} {b : Bool} (h : PySem.W.subIn K (.ref D) (.ref S) = some b) : Below K D S b := h
theorem dxi_of {h : Heap} {fa : Addr} {od an : Option Addr} {osl : Array (Option Value)} {oc kV dc pm cd ct : Value} {ps : List Str} (b : Bnd "__init__" qual st ps) (e1 : PySem.W.findIn K (.ref C) "__init__" = some (some (.ref fa))) (e2 : K.lookup fa = some ⟨oc, od, .func (PySem.W.fnOf "__init__" qual (defArgs st) (defBody st) (defScope st) .none kV dc pm an cd ct), osl⟩)
    (e3 : PySem.W.codeIn K cd qual = true) (e4 : PySem.W.keepIn K (.ref fa) = true) (e5 : PySem.W.typeIn K (.ref fa) = some (.type "function")) : Dxi K C qual st ps :=
  ⟨fa, _, fun_mk e2 e3 e4, (fun_mk e2 e3 e4).binds b, e1, e5⟩
end
end FL

/-! FL31: try with several clauses, each with a name or without. -/
namespace FL
open PySem L2 PyProof.Rows

/-- a clause: the class, the slot of its name, its suite -/
structure Cl where
  c : Value
  i : Option Nat
  ts : Addr → Value → Option Addr → TS
def clEnd (D : Ends) : Option Nat → Ends
  | none => D
  | some i => { nx := fun z G => D.nx (z.set i none) G, rt := D.rt, bk := fun z G => D.bk (z.set i none) G, ct := fun z G => D.ct (z.set i none) G }
def clSl (z : L2.St) (a : Addr) : Option Nat → L2.St
  | none => z
  | some i => z.set i (some (.ref a))
def wCls (K : PySem.W.Frag) (Wo : WX) (D : Ends) : List Cl → WX
  | [] => Wo
  | q :: r => fun cls d z G => ∃ b, PySem.W.exmOne K cls q.c = some b ∧ (b = true → ∀ a, G a = none → q.ts a cls d (clEnd D q.i) (clSl z a q.i) G) ∧ (b = false → wCls K Wo D r cls d z G)
def SuiteOk (X : Cx) (body : List Stmt) (ts : Addr → Value → Option Addr → TS) : Prop :=
  ∀ (a : Addr) (oe : Obj) (cls : Value) (d : Option Addr) (pn : List (Addr × Obj)), Zc cls d oe → (∃ vs, oe.data = .fields vs) → PSs (X.suite a ((a, oe) :: pn)) body (ts a cls d)
inductive ClsOk (X : Cx) : List ExceptHandler → List Cl → Prop
  | nil : ClsOk X [] []
  | bare {x : Str} {c : Value} {ts : Addr → Value → Option Addr → TS} {b₀ : Stmt} {su : List Stmt} {np p' : Pos} {hs : List ExceptHandler} {l : List Cl} (hc : Names X x c) (hu : SuiteOk X (b₀ :: su) ts) (r : ClsOk X hs l) :
      ClsOk X (.ExceptHandler (some (.Name x np)) none (b₀ :: su) p' :: hs) (⟨c, none, ts⟩ :: l)
  | named {x n : Str} {i : Nat} {c : Value} {ts : Addr → Value → Option Addr → TS} {b₀ : Stmt} {su : List Stmt} {np p' : Pos} {hs : List ExceptHandler} {l : List Cl} (hc : Names X x c) (hi : X.N[i]? = some n) (hl : X.env.kindOf n = some .local) (hu : SuiteOk X (b₀ :: su) ts) (r : ClsOk X hs l) :
      ClsOk X (.ExceptHandler (some (.Name x np)) (some n) (b₀ :: su) p' :: hs) (⟨c, some i, ts⟩ :: l)
section
variable {X : Cx} {body : List Stmt} {h₀ : ExceptHandler} {hs : List ExceptHandler} {l : List Cl} {pos : Pos} {tb : WX → TS} {Wo : WX}
/-- THE RULE: try with clauses of any kind -/
theorem ps_try_cls (hk : X.stack = X.env :: X.outer) (hfr : X.env.frame = some X.env.locals) (hN : X.N.Nodup) (tk : Takes X Wo)
    (hb : ∀ (W1 : WX) (pn : List (Addr × Obj)) (xe : Value → Shared → Prop), Takes (X.tr pn xe) W1 → PassesOwn (model X.prog X.w) X.A X.env xe → PSs (X.tr pn xe) body (tb W1))
    (hc : ClsOk X (h₀ :: hs) l) : PS X (.Try body (h₀ :: hs) [] [] pos) (fun D z G => tb (wCls X.K Wo D l) D z G) := by
  constructor
  intro pins s0 z0 G0 D I0 ask
  have okX := I0.ok
  have frA : X.A.frames = some (X.env :: X.outer) := okX.frames.trans (by rw [hk])
  apply wpAny_Try_except
  have W0b := hb (wCls X.K Wo D l) (X.pn ++ pins) (fun e t1 => wpAny (model X.prog X.w) X.A (noteFrame e X.env) (fun _ t2 => wpAny (model X.prog X.w) X.A (setFlight e none) (fun _ t3 =>
    wpAny (model X.prog X.w) X.A (handleBy e X.env (h₀ :: hs)) (SP X pins D) X.xe t3) X.xe t2) X.xe t1)
  have body_ := (W0b (fun err t inAir => by
    obtain ⟨a, Bs, sB, pinsB, z, G, cls, d, rfl, JB, nbB, upB, skyB, naB, osB, agB, w⟩ := inAir
    have J : Inv X pins z G sB := JB.ofTry okX
    rw [show (X.tr (X.pn ++ pins) _).stack = X.stack from rfl, hk] at skyB
    show wpAny (model X.prog X.w) X.A (noteFrame (.ref a) X.env) _ _ _
    refine Sky.land Zc.steady frA hfr skyB fun hA flA upA => ?_
    obtain ⟨oA, vA, getA, zA, dataA⟩ := flA.there
    have JA : Inv X pins z G { t with heap := hA } := J.landed nbB flA.1 (upB.trans upA) osB agB
    have off : a ∉ frs (X.env :: X.outer) := fun hm => by
      obtain ⟨_, o2, g2, no2⟩ := flA.2.2.1.mem hm
      rw [getA] at g2
      cases g2
      exact no2 _ dataA
    have offL : a ≠ X.env.locals := fun e => off (List.mem_filterMap.mpr ⟨X.env, List.mem_cons_self, by rw [hfr, e]⟩)
    have offF : a ∉ X.fs := fun hm => by
      obtain ⟨en, he, hq⟩ := List.mem_filterMap.mp hm
      exact off (List.mem_filterMap.mpr ⟨en, List.mem_cons_of_mem _ he, hq⟩)
    have SA := JA.suite getA dataA naB offL offF
    have tyA : PySem.W.Looks (model X.prog X.w) hA (typeOf (.ref a)) cls := fun A1 Q1 E1 s1 k1 q1 => wpAny_typeOf_ref (k1 _ _ getA) (by rw [zA.1]; exact q1)
    have nameA : ∀ {x : Str} {c : Value} {np : Pos} {Q1 : Value → Shared → Prop} {E1 : Value → Shared → Prop}, Names X x c → Q1 c { t with heap := hA } → wpAny (model X.prog X.w) (X.A.mark (some (.ref a))) (eval (.Name x np) X.env) Q1 E1 { t with heap := hA } := by
      intro x c np Q1 E1 hn q1
      obtain ⟨gl, nd, m1 | ⟨m1, v1, n1⟩⟩ := hn
      · exact ld_glob (X := X.suite a ((a, oA) :: (X.pn ++ pins))) SA gl m1 q1 nd
      · exact ld_blt (X := X.suite a ((a, oA) :: (X.pn ++ pins))) SA gl m1 v1 q1 n1 nd
    have clauses : ∀ {hs1 : List ExceptHandler} {l1 : List Cl}, ClsOk X hs1 l1 → wCls X.K Wo D l1 cls d z G → wpAny (model X.prog X.w) X.A (handleBy (.ref a) X.env hs1) (SP X pins D) X.xe { t with heap := hA } := by
      intro hs1 l1 kk
      induction kk with
      | nil =>
        intro ww
        apply wpAny_handleBy_nil
        obtain ⟨f1, f2, f3, o3, v3, T3, oT3, t3, g3, z3, d3, at3, r3⟩ := id flA
        unfold PySem.passOn
        refine wpAny_bind (wpAny_field g3 d3 at3 ?_)
        rw [if_neg (by simp : ¬ ((Value.ref T3 == Value.none) = true))]
        have leave : wpAny (model X.prog X.w) X.A (setFlight (.ref a) X.env.frame) (fun _ s4 => wpAny (model X.prog X.w) X.A (throw (.ref a) : Sem Flow) (SP X pins D) X.xe s4) X.xe { t with heap := hA } := by
          rw [hfr]
          refine HandSPX.setFlight_upZ flA fun hB flB upC => wpAny_throw (tk _ _ ⟨a, Bs, sB, pins, z, G, cls, d, rfl, J, nbB, (upB.trans upA).trans upC, .inr (.inr ?_), naB, osB, agB, ww⟩)
          rw [hk]
          exact flB
        first
          | exact wpAny_bind (wpAny_pure (wpAny_bind leave))
          | exact wpAny_bind leave
      | @bare x c ts b₀ su np p' hs2 l2 hn hu rest ih =>
        intro ww
        obtain ⟨b, eb, yes, no⟩ := ww
        have asked := PySem.W.exm_one (M := model X.prog X.w) JA.kIn tyA eb
        refine wpAny_handleBy_cons (codeAny_handlers_test (nameA hn (asked.here ?_))) (fun q => by cases q)
        cases b with
        | false => exact ih (no rfl)
        | true =>
          refine codeAny_handlers_suite (HandSPX.lands_againZ flA fun hB flB upC => ?_)
          obtain ⟨oB, vB, getB, zB, dataB⟩ := flB.there
          have JC : Inv X pins z G { t with heap := hB } := J.landed nbB flB.1 ((upB.trans upA).trans upC) osB agB
          refine wpAny_mono ((hu a oB cls d (X.pn ++ pins) zB ⟨_, dataB⟩).run [] _ _ G _ (JC.suite getB dataB naB offL offF) (yes rfl a naB)) (fun f s6 at6 => ?_) fun _ _ n => False.elim n
          cases f with
          | ret u => obtain ⟨v6, z6, G6, S6, r6, q6⟩ := at6; exact ⟨v6, z6, G6, S6.unsuite okX, r6, q6⟩
          | next => obtain ⟨z6, G6, S6, q6⟩ := at6; exact ⟨z6, G6, S6.unsuite okX, q6⟩
          | brk => obtain ⟨z6, G6, S6, q6⟩ := at6; exact ⟨z6, G6, S6.unsuite okX, q6⟩
          | cont => obtain ⟨z6, G6, S6, q6⟩ := at6; exact ⟨z6, G6, S6.unsuite okX, q6⟩
      | @named x n i c ts b₀ su np p' hs2 l2 hn hi hl hu rest ih =>
        intro ww
        obtain ⟨b, eb, yes, no⟩ := ww
        have asked := PySem.W.exm_one (M := model X.prog X.w) JA.kIn tyA eb
        refine wpAny_handleBy_cons (codeAny_handlers_test (nameA hn (asked.here ?_))) (fun q => by cases q)
        cases b with
        | false => exact ih (no rfl)
        | true =>
          refine codeAny_handlers_suite_as (HandSPX.lands_againZ flA fun hB flB upC => ?_)
          obtain ⟨oB, vB, getB, zB, dataB⟩ := flB.there
          have JC : Inv X pins z G { t with heap := hB } := J.landed nbB flB.1 ((upB.trans upA).trans upC) osB agB
          refine store_ok (X := X.suite a ((a, oB) :: (X.pn ++ pins))) (v := .ref a) (JC.suite getB dataB naB offL offF) hN hi (.inl hl) rfl (fun s5 at5 => ?_) (.inr hl)
          refine wpAny_mono ((hu a oB cls d (X.pn ++ pins) zB ⟨_, dataB⟩).run [] s5 _ G _ at5 (yes rfl a naB)) (fun f s6 at6 => ?_) fun _ _ n => False.elim n
          have away : ∀ {z6 : L2.St} {G6 : Hp} {R : Shared → Prop}, Inv (X.suite a ((a, oB) :: (X.pn ++ pins))) [] z6 G6 s6 → (∀ s7, Inv X pins (z6.set i none) G6 s7 → R s7) →
              wpAny (model X.prog X.w) X.A (do bindName X.env n .none; unbindBehindTheSuite X.env n p') (fun _ s7 => R s7) X.xe s6 := fun S6 kq => gone_ok (S6.unsuite okX) hN hi hl kq
          cases f with
          | ret u => obtain ⟨v6, z6, G6, S6, r6, q6⟩ := at6; exact away S6 fun s7 at7 => ⟨_, _, _, at7, r6, q6⟩
          | next => obtain ⟨z6, G6, S6, q6⟩ := at6; exact away S6 fun s7 at7 => ⟨_, _, at7, q6⟩
          | brk => obtain ⟨z6, G6, S6, q6⟩ := at6; exact away S6 fun s7 at7 => ⟨_, _, at7, q6⟩
          | cont => obtain ⟨z6, G6, S6, q6⟩ := at6; exact away S6 fun s7 at7 => ⟨_, _, at7, q6⟩
    exact clauses hc w) PassesOwn.looking).run [] s0 z0 G0 D (I0.toTry _) ask
  refine wpAny_mono body_ (fun f s1 at1 => ?_) fun _ _ q => q
  cases f with
  | next => obtain ⟨z1, G1, J1, q1⟩ := at1; exact wpAny_execs_nil ⟨z1, G1, J1.ofTry okX, q1⟩
  | brk => obtain ⟨z1, G1, J1, q1⟩ := at1; exact ⟨z1, G1, J1.ofTry okX, q1⟩
  | cont => obtain ⟨z1, G1, J1, q1⟩ := at1; exact ⟨z1, G1, J1.ofTry okX, q1⟩
  | ret u => obtain ⟨v1, z1, G1, J1, r1, q1⟩ := at1; exact ⟨v1, z1, G1, J1.ofTry okX, r1, q1⟩
end
end FL

/-! FL33: generators: if, for. -/
namespace FL
open PySem L2 PyProof.Rows PySem.Spec GenW

section
variable {prog : Program} {w : World} {A : Around} {R : GenEnd} {Y : Protocol} {n : Nat} {s₀ : Shared} {fs : List Frame} {s : Shared} {env : Env} {c : Code}
  {K : Flow → Sem PySem.Fin} {J : Value → Sem PySem.Fin} {gd : Bool → Bool} {lv : List Value → List Value}
theorem seg_If {test : Expr} {body orelse : List Stmt} {pos : Pos}
    (h : wpAny (model prog w) (A.over c fs) (isTrue test env (eval test env)) (fun b s' => if b = true then Seg (model prog w) A R Y n s₀ c ((execs body env).wrap K J gd lv) fs s' else Seg (model prog w) A R Y n s₀ c ((execs orelse env).wrap K J gd lv) fs s')
      (fun x s' => Seg (model prog w) A R Y n s₀ c (J x) fs s') s) : Seg (model prog w) A R Y n s₀ c ((exec (.If test body orelse pos) env).wrap K J gd lv) fs s := by
  rw [exec_If]
  refine seg_bind_wrap (wpAny_standAt ?_)
  refine seg_bind_wrap (wpAny_mono h (fun b s' hb => ?_) fun x s' hx => hx)
  cases b with
  | true => exact hb
  | false => exact hb
/-- what an exception meets in a loop's code -/
abbrev noted (env : Env) : Value → Sem PySem.Fin := fun e => (do noteFrame e env; theTreesLotGoes e : Sem Unit).bind fun _ => .raise e
theorem seg_For {tg iter : Expr} {body : List Stmt} {pos : Pos}
    (h : wpAny (model prog w) (A.over c fs) (eval iter env) (fun x s₁ => wpAny (model prog w) (A.over c fs) (pyIter x) (fun it s₂ =>
      ∀ p, Seg (model prog w) A R Y n s₀ (.forLoop tg it body [] env) ((model prog w).den (.forLoop tg it body [] env))
        (.ret (fun r => ((match r with | .ok f => (.pure f : Sem Flow) | .error e => .raise e).onRaise (cameBack env)).wrap K J gd lv) none (gd false) (lv []) c p [] :: fs) s₂)
      (fun x s' => Seg (model prog w) A R Y n s₀ c (J x) fs s') s₁) (fun x s' => Seg (model prog w) A R Y n s₀ c (J x) fs s') s)
    (hs : ∀ x, foldedSetIterable iter env x = pure x := by intro _; rfl) : Seg (model prog w) A R Y n s₀ c ((exec (.For tg iter body [] pos) env).wrap K J gd lv) fs s := by
  rw [exec_For]
  refine seg_bind_wrap (wpAny_standAt ?_)
  refine seg_bind_wrap (wpAny_mono h (fun x s1 h1 => ?_) fun x s' hx => hx)
  refine seg_bind_wrap (wpAny_of_eq (hs x) ?_)
  refine seg_bind_wrap (wpAny_standAt ?_)
  refine seg_bind_wrap (wpAny_holding (wpAny_mono h1 (fun it s2 h2 => ?_) fun x s' hx => hx))
  exact seg_call h2
theorem seg_forLoop {tg : Expr} {it : Value} {body : List Stmt}
    (h : wpAny (model prog w) (A.over (.forLoop tg it body [] env) fs) (pyNext it) (fun r s₁ => match r with
        | none => Seg (model prog w) A R Y n s₀ (.forLoop tg it body [] env) (.pure (.again (.block [] env))) fs s₁
        | some v => wpAny (model prog w) (A.over (.forLoop tg it body [] env) fs) (letOwnedTupleGo tg it v) (fun _ s₁' =>
          wpAny (model prog w) (A.over (.forLoop tg it body [] env) fs) (assign tg env v) (fun _ s₂ =>
            Seg (model prog w) A R Y n s₀ (.forLoop tg it body [] env) ((execs body env).wrap (fun f => match f with
              | .next | .cont => .pure (.again (.forLoop tg it body [] env))
              | .brk => .pure (.done .next)
              | .ret v => .pure (.done (.ret v))) (noted env) id id) fs s₂)
            (fun x s' => Seg (model prog w) A R Y n s₀ (.forLoop tg it body [] env) (noted env x) fs s') s₁')
          (fun x s' => Seg (model prog w) A R Y n s₀ (.forLoop tg it body [] env) (noted env x) fs s') s₁)
      (fun x s' => Seg (model prog w) A R Y n s₀ (.forLoop tg it body [] env) (noted env x) fs s') s) :
    Seg (model prog w) A R Y n s₀ (.forLoop tg it body [] env) ((model prog w).den (.forLoop tg it body [] env)) fs s := by
  show Seg _ A R Y n s₀ _ ((forTurn tg it body [] env).onRaise (fun x => do noteFrame x env; theTreesLotGoes x)) fs s
  rw [Sem.onRaise_eq_wrap]
  show Seg _ A R Y n s₀ _ ((forTurn tg it body [] env).wrap .pure (noted env) id id) fs s
  simp only [forTurn]
  refine seg_bind_wrap (wpAny_standAt ?_)
  refine seg_bind_wrap (wpAny_onRaise (wpAny_mono h (fun r s₁ h₁ => ?_) fun x s' hx => wpAny_standAt hx))
  cases r with
  | none => exact h₁
  | some v =>
    dsimp only at h₁ ⊢
    refine seg_bind_wrap (wpAny_mono h₁ (fun _ s₁' h₁' => ?_) fun _ _ h' => h')
    refine seg_bind_wrap (wpAny_mono h₁' (fun _ s₂ h₂ => ?_) fun _ _ h' => h')
    rw [Sem.bind_eq_wrap', Sem.wrap_wrap]
    rw [Sem.wrap_congr (execs body env) _ _ (K' := fun f => match f with
            | .next | .cont => .pure (.again (.forLoop tg it body [] env))
            | .brk => .pure (.done .next)
            | .ret v => .pure (.done (.ret v))) (H' := noted env)
        (fun f => by cases f <;> rfl)
        (fun e => by rfl)]
    exact h₂
end
section
variable {X : Cx} {tg iter test : Expr} {body orelse : List Stmt} {pos : Pos}
def tGIf (c : TT) (t u : TGn) : TGn := fun D ys σ H => c σ H fun b H1 => if b = true then t D ys σ H1 else u D ys σ H1
theorem gs_if {tc : TT} {t u : TGn} (hc : PT X test tc) (ht : GSs X body t) (hu : GSs X orelse u) : GS X (.If test body orelse pos) (tGIf tc t u) := by
  refine ⟨fun A S ip R n ys s₀ c fs K J gd lv s σ H D g hn k hI h => ?_⟩
  refine seg_If ?_
  rw [g.over]
  obtain ⟨acc, cc, r, I⟩ := hI
  refine wpAny_mono (hc.run _ s σ H _ I h) (fun b s' hb => ?_) fun x s' hx => k.exc _ s₀ x s' hx
  obtain ⟨H2, I2, q2⟩ := hb
  cases b with
  | true =>
    rw [if_pos rfl] at q2 ⊢
    exact ht.run A S ip R n ys s₀ c fs K J gd lv s' σ H2 D g hn k ⟨acc, cc, r, I2⟩ q2
  | false =>
    rw [if_neg Bool.false_ne_true] at q2 ⊢
    exact hu.run A S ip R n ys s₀ c fs K J gd lv s' σ H2 D g hn k ⟨acc, cc, r, I2⟩ q2
def tGFor (wi : TI) (g : TG) (tb : TGn) : TGn := fun D ys σ H => wi σ H fun J H1 => ∃ W : Nat → Nat → List V → L2.St → Hp → Prop, (∃ m, W 0 m ys σ H1) ∧ ∀ i m ys σ H, W i m ys σ H →
  (J.stop i H ∧ D.nx ys σ H) ∨ (J.go i H ∧ ∃ N : List V → L2.St → Hp → Prop, (∀ ys' σ' H', N ys' σ' H' → ∃ m', m' < m ∧ W (i + 1) m' ys' σ' H') ∧ ∀ x H', J.yld i H x H' → g x σ H' fun σ2 H2 => tb { D with nx := N, ct := N, bk := D.nx } ys σ2 H2)
theorem gs_for {wi : TI} {g : TG} {tb : TGn} (hp : PassesOwn (model X.prog X.w) X.A X.env X.xe) (hc : X.calm = true) (hi : PI X tg iter wi) (hg : PG X tg g) (hb : GSs X body tb)
    (hs : ∀ x, foldedSetIterable iter X.env x = pure x := by intro _; rfl) : GS X (.For tg iter body [] pos) (tGFor wi g tb) := by
  refine ⟨fun A S ip R n ys s₀ c fs K J gd lv s σ H D gc hn k hI h => ?_⟩
  refine seg_For ?_ hs
  rw [gc.over]
  obtain ⟨acc0, cc0, r0, I⟩ := hI
  refine wpAny_mono (hi.run _ s σ H _ I h) (fun v s1 h1 => wpAny_mono h1 (fun itv s2 h2 p => ?_) fun x s' hx => k.exc _ s₀ x s' hx) fun x s' hx => k.exc _ s₀ x s' hx
  obtain ⟨it, fp, tn, Jt, H2, e, I2, T, st2, f2, W, ⟨m0, w0⟩, turn⟩ := h2
  subst e
  have gl := fun (kk : Result → Sem PySem.Fin) => gc_loop (k := kk) (c' := .forLoop tg (.ref it) body [] X.env) (l := lv []) (kp := []) (p := p) gc rfl rfl
  -- the iterator's objects
  have fS : ∀ b ∈ fp, b ≠ S := fun b hb z => (f2 b hb).2.2.2.2.2 (S, lstObj acc0 cc0) (List.mem_append_right _ List.mem_cons_self) z.symm
  have stat : ∀ {H' : Hp} {acc : Array Value} {cc : Nat}, (∀ b ∈ fp, H' b = none) → ∀ b ∈ fp, FpOk X ((S, lstObj acc cc) :: ip) H' b := fun {H' acc cc} hn b hb => by
    obtain ⟨_, y1, y2, y3, y4, y5⟩ := f2 b hb
    refine ⟨hn b hb, y1, y2, y3, y4, fun p hp => ?_⟩
    rcases List.mem_append.mp hp with hp | hp
    · exact y5 p (List.mem_append_left _ hp)
    · rcases List.mem_cons.mp hp with hp | hp
      · rw [hp]; exact Ne.symm (fS b hb)
      · exact y5 p (List.mem_append_right _ (List.mem_cons_of_mem _ hp))
  have ee : ∀ (n : Nat) (s₀ : Shared) (x : Value) (s' : Shared), X.xe x s' → Seg (model X.prog X.w) A R (GY X S) n s₀ (.forLoop tg (.ref it) body [] X.env) (noted X.env x)
      (.ret (fun r => ((match r with | .ok f => (.pure f : Sem Flow) | .error e => .raise e).onRaise (cameBack X.env)).wrap K J gd lv) none (gd false) (lv []) c p [] :: fs) s' := fun n s₀ x s' hx => by
    unfold noted
    rw [Sem.bind_eq_wrap]
    refine seg_wrap ?_
    rw [(gl _).over]
    refine wpAny_bind (wpAny_mono (hp x s' hx) (fun _ s'' hcb => wpAny_theTreesLotGoes ?_) fun y s'' hcb => ?_)
    · exact seg_leaf (.error x) (seg_cameBack gc k hcb)
    · exact seg_leaf (.error y) (seg_cameBack gc k hcb)
  have loop : ∀ (m n : Nat) (ys : List V) (s₀ s : Shared) (i : Nat) (σ : L2.St) (H : Hp), n + ys.length = sizeLine → W i m ys σ H → GI X S ip ys σ H s → tn i s.heap → (∀ b ∈ fp, H b = none) →
      Seg (model X.prog X.w) A R (GY X S) n s₀ (.forLoop tg (.ref it) body [] X.env) ((model X.prog X.w).den (.forLoop tg (.ref it) body [] X.env))
        (.ret (fun r => ((match r with | .ok f => (.pure f : Sem Flow) | .error e => .raise e).onRaise (cameBack X.env)).wrap K J gd lv) none (gd false) (lv []) c p [] :: fs) s := by
    intro m
    induction m using Nat.strongRecOn with
    | ind m ih =>
      intro n ys s₀ s3 i σ3 H3 hn w3 hI3 st3 fr3
      refine seg_forLoop ?_
      rw [(gl _).over]
      obtain ⟨acc, cc, r, I3⟩ := hI3
      rcases turn i m ys σ3 H3 w3 with ⟨stop, qn⟩ | ⟨go, N, hN, step⟩
      · refine wpAny_mono (T.done X rfl rfl rfl hc i _ s3 σ3 H3 X.xe I3 (stat fr3) st3 stop) (fun rr s4 ⟨hr, I4⟩ => ?_) fun x s' hx => ee n s₀ x s' hx
        subst hr
        refine seg_again rfl ?_
        show Seg _ _ _ _ _ _ _ ((execs [] X.env).onRaise (fun x => do noteFrame x X.env; theTreesLotGoes x) >>= fun f => pure (.done f)) _ _
        exact seg_leaf (.ok .next) (k.ok n ys s₀ s4 .next hn ⟨σ3, H3, ⟨acc, cc, r, I4⟩, qn⟩)
      · refine wpAny_mono (T.item X rfl rfl rfl hc i _ s3 σ3 H3 X.xe I3 (stat fr3) st3 go) (fun rr s4 ⟨u, hr, h4⟩ => ?_) fun x s' hx => ee n s₀ x s' hx
        subst hr
        dsimp only
        refine wpAny_mono h4 (fun _ s5 ⟨x, H5, I5, r5, y5, st5, fr5⟩ => ?_) fun x s' hx => ee n s₀ x s' hx
        have I5' := I5.pinned (stat fr5) (T.obj _ _ st5)
        refine wpAny_mono (hg.run _ s5 σ3 H5 x u _ I5' r5 (step x H5 y5)) (fun _ s6 ⟨σ6, H6, I6, q6⟩ => ?_) fun x s' hx => ee n s₀ x s' hx
        have gb : GC X S (ip ++ pinsAt fp s5.heap) A (.forLoop tg (.ref it) body [] X.env)
            (.ret (fun r => ((match r with | .ok f => (.pure f : Sem Flow) | .error e => .raise e).onRaise (cameBack X.env)).wrap K J gd lv) none (gd false) (lv []) c p [] :: fs) id :=
          { gl (fun r => ((match r with | .ok f => (.pure f : Sem Flow) | .error e => .raise e).onRaise (cameBack X.env)).wrap K J gd lv) with
            ip := fun q hq => (List.mem_append.mp hq).elim (gc.ip q) fun z => fS q.1 (of_pinsAt z).1 }
        refine hb.run A S _ R n ys s₀ _ _ _ _ id id s6 σ6 H6 { D with nx := N, ct := N, bk := D.nx } gb hn ⟨fun n' ys' s₀' s7 f hn' hs7 => ?_, fun n' s₀' x s7 hx => ee n' s₀' x s7 hx⟩ ⟨acc, cc, r, I6⟩ q6
        have un : ∀ {ys' : List V} {σ7 : L2.St} {H7 : Hp}, GI X S (ip ++ pinsAt fp s5.heap) ys' σ7 H7 s7 → GI X S ip ys' σ7 H7 s7 := fun {ys' σ7 H7} ⟨acc', cc', r', I7⟩ => ⟨acc', cc', r', Inv.unpinned (pl := pinsAt fp s5.heap) I7⟩
        have again : ∀ {ys' : List V} {σ7 : L2.St} {H7 : Hp}, n' + ys'.length = sizeLine → GI X S (ip ++ pinsAt fp s5.heap) ys' σ7 H7 s7 → N ys' σ7 H7 →
            Seg (model X.prog X.w) A R (GY X S) n' s₀' (.forLoop tg (.ref it) body [] X.env) (.pure (.again (.forLoop tg (.ref it) body [] X.env)))
              (.ret (fun r => ((match r with | .ok f => (.pure f : Sem Flow) | .error e => .raise e).onRaise (cameBack X.env)).wrap K J gd lv) none (gd false) (lv []) c p [] :: fs) s7 := fun {ys' σ7 H7} hl hG n7 => by
          obtain ⟨m', hm, w7⟩ := hN ys' σ7 H7 n7
          have hG' := un hG
          obtain ⟨acc', cc', r', I7⟩ := hG
          have at7 : ∀ b o, b ∈ fp → s5.heap.get? b = some o → s7.heap.get? b = some o ∧ H7 b = none := fun b o hb e => by
            obtain ⟨z1, z2, _⟩ := I7.pin (b, o) (List.mem_append_right _ (List.mem_cons_of_mem _ (List.mem_append_right _ (mem_pinsAt hb e))))
            exact ⟨z1, z2⟩
          refine seg_again rfl (ih m' hm n' ys' s₀' s7 (i + 1) σ7 H7 hl w7 hG' (T.keep _ _ _ st5 fun b hb o e => (at7 b o hb e).1) fun b hb => ?_)
          obtain ⟨o, e, d⟩ := T.obj _ _ st5 b hb
          exact (at7 b o hb e).2
        cases f with
        | next => obtain ⟨σ7, H7, hG, n7⟩ := hs7; exact again hn' hG n7
        | cont => obtain ⟨σ7, H7, hG, n7⟩ := hs7; exact again hn' hG n7
        | brk => obtain ⟨σ7, H7, hG, q7⟩ := hs7; exact seg_leaf (.ok .next) (k.ok n' ys' s₀' s7 .next hn' ⟨σ7, H7, un hG, q7⟩)
        | ret v => obtain ⟨x7, σ7, H7, hG, r7, q7⟩ := hs7; exact seg_leaf (.ok (.ret v)) (k.ok n' ys' s₀' s7 (.ret v) hn' ⟨x7, σ7, H7, un hG, r7, q7⟩)
  exact loop m0 n ys s₀ s2 0 σ H2 hn w0 ⟨acc0, cc0, r0, I2⟩ st2 fun b hb => (f2 b hb).1
end
end FL

/-! FL34: denotations of generators. -/
namespace FL
open PySem L2 PyProof.Rows PySem.Spec GenW

/-- how a generator's statement ends: all that is out so far -/
inductive FG where
  | nx (ts : List T) (ρ : Sg) | bk (ts : List T) (ρ : Sg) | ct (ts : List T) (ρ : Sg) | rt (ts : List T) (ρ : Sg) | no
abbrev DGn := List T → Sg → FG
def okY (K : PySem.W.Frag) (B G : Hp) (α : List Addr) (f : FG) (D : GEnds) : Prop := match f with
  | .nx ts ρ => ∀ G' α' σ' H' ys, Gr B G α G' α' → Rs K B ρ G' α' σ' H' → Rps K G' ts ys → D.nx ys σ' H'
  | .bk ts ρ => ∀ G' α' σ' H' ys, Gr B G α G' α' → Rs K B ρ G' α' σ' H' → Rps K G' ts ys → D.bk ys σ' H'
  | .ct ts ρ => ∀ G' α' σ' H' ys, Gr B G α G' α' → Rs K B ρ G' α' σ' H' → Rps K G' ts ys → D.ct ys σ' H'
  | .rt ts ρ => ∀ G' α' σ' H' ys, Gr B G α G' α' → Rs K B ρ G' α' σ' H' → Rps K G' ts ys → D.rt ys .non H'
  | .no => False
theorem okY.shift {K : PySem.W.Frag} {B G G1 : Hp} {α α1 : List Addr} {f : FG} {D : GEnds} (g : Gr B G α G1 α1) (h : okY K B G α f D) : okY K B G1 α1 f D := by
  cases f with
  | nx ts ρ => exact fun G' α' σ' H' ys g' => h G' α' σ' H' ys (g.trans g')
  | bk ts ρ => exact fun G' α' σ' H' ys g' => h G' α' σ' H' ys (g.trans g')
  | ct ts ρ => exact fun G' α' σ' H' ys g' => h G' α' σ' H' ys (g.trans g')
  | rt ts ρ => exact fun G' α' σ' H' ys g' => h G' α' σ' H' ys (g.trans g')
  | no => exact h
def tGn (K : PySem.W.Frag) (m : DGn) : TGn := fun D ys σ H => ∃ B ρ G α ts, Rs K B ρ G α σ H ∧ Rps K G ts ys ∧ okY K B G α (m ts ρ) D
abbrev SGn (X : Cx) (st : Stmt) (m : DGn) : Prop := GS X st (tGn X.K m)
abbrev SGns (X : Cx) (sts : List Stmt) (m : DGn) : Prop := GSs X sts (tGn X.K m)
theorem gs_weak {X : Cx} {e : Stmt} {t t' : TGn} (h : GS X e t) (w : ∀ D ys σ H, t' D ys σ H → t D ys σ H) : GS X e t' :=
  ⟨fun A S ip R n ys s₀ c fs K J gd lv s σ H D g hn k hI q => h.run A S ip R n ys s₀ c fs K J gd lv s σ H D g hn k hI (w D ys σ H q)⟩
theorem gss_weak {X : Cx} {e : List Stmt} {t t' : TGn} (h : GSs X e t) (w : ∀ D ys σ H, t' D ys σ H → t D ys σ H) : GSs X e t' :=
  ⟨fun A S ip R n ys s₀ c fs K J gd lv s σ H D g hn k hI q => h.run A S ip R n ys s₀ c fs K J gd lv s σ H D g hn k hI (w D ys σ H q)⟩
def R.thG {β : Type} (r : R β) (k : β → Sg → FG) : FG := match r with
  | .ok b ρ => k b ρ | _ => .no
@[simp] theorem R.thG_ok {β : Type} {b : β} {ρ : Sg} {k : β → Sg → FG} : (R.ok b ρ).thG k = k b ρ := rfl
section
variable {K : PySem.W.Frag} {W : WX} {B G H : Hp} {α : List Addr} {σ : L2.St} {ρ : Sg} {D : GEnds}
theorem yE {m : DE} {k : U → Sg → FG} {Q : VK} (r : Rs K B ρ G α σ H) (h : okY K B G α ((m ρ).thG k) D)
    (hk : ∀ u ρ1 v H1 G1 α1, Gr B G α G1 α1 → Rs K B ρ1 G1 α1 σ H1 → RpU K G1 α1 u v → okY K B G1 α1 (k u ρ1) D → Q v H1) : tE K W m σ H Q := by
  refine ⟨B, ρ, G, α, r, ?_⟩
  cases e : m ρ with
  | ok u ρ1 => rw [e] at h; exact fun G1 α1 H1 g r1 v p => hk u ρ1 v H1 G1 α1 g r1 p (okY.shift g h)
  | ex x ρ1 => rw [e] at h; exact h.elim
  | no => rw [e] at h; exact h.elim
theorem yT {m : DT} {k : Bool → Sg → FG} {Q : Bool → Hp → Prop} (r : Rs K B ρ G α σ H) (h : okY K B G α ((m ρ).thG k) D)
    (hk : ∀ b ρ1 H1 G1 α1, Gr B G α G1 α1 → Rs K B ρ1 G1 α1 σ H1 → okY K B G1 α1 (k b ρ1) D → Q b H1) : tT K W m σ H Q := by
  refine ⟨B, ρ, G, α, r, ?_⟩
  cases e : m ρ with
  | ok u ρ1 => rw [e] at h; exact fun G1 α1 H1 g r1 => hk u ρ1 H1 G1 α1 g r1 (okY.shift g h)
  | ex x ρ1 => rw [e] at h; exact h.elim
  | no => rw [e] at h; exact h.elim
end
section
variable {X : Cx} {W : WX} {e test tg iter : Expr} {st : Stmt} {rest body orelse : List Stmt} {ma : DE} {tc : DT} {pos yp : Pos}
/-! statements in a row -/
def mG0 : DGn := fun ts ρ => .nx ts ρ
theorem sg_nil : SGns X [] mG0 := gss_weak gss_nil fun D ys σ H ⟨B, ρ, G, α, ts, r, p, h⟩ => h G α σ H ys Gr.refl r p
def mGThen (a b : DGn) : DGn := fun ts ρ => match a ts ρ with
  | .nx ts1 ρ1 => b ts1 ρ1
  | f => f
theorem sg_cons {a b : DGn} (h : SGn X st a) (g : SGns X rest b) : SGns X (st :: rest) (mGThen a b) := gss_weak (gss_cons h g) fun D ys σ H ⟨B, ρ, G, α, ts, r, p, h⟩ => by
  refine ⟨B, ρ, G, α, ts, r, p, ?_⟩
  unfold mGThen at h
  cases e : a ts ρ with
  | nx ts1 ρ1 => rw [e] at h; exact fun G1 α1 σ1 H1 ys1 g1 r1 p1 => ⟨B, ρ1, G1, α1, ts1, r1, p1, okY.shift g1 h⟩
  | bk ts1 ρ1 => rw [e] at h; exact h
  | ct ts1 ρ1 => rw [e] at h; exact h
  | rt ts1 ρ1 => rw [e] at h; exact h
  | no => rw [e] at h; exact h
/-! yield -/
def mGYield (m : DE) : DGn := fun ts ρ => (m ρ).thG fun u ρ1 => match toD 4 u ρ1.st with
  | some (t, st) => if ts.length < 4096 then .nx (ts ++ [t]) ⟨ρ1.sl, st⟩ else .no
  | none => .no
theorem sg_yield (he : SE X W e ma) (hco : X.env.scope.isCoroutine = false := by rfl) (hi : interactive X.env = false := by rfl) : SGn X (.Expr (.Yield (some e) yp) pos) (mGYield ma) := gs_weak (gs_yield he hco hi) fun D ys σ H ⟨B, ρ, G, α, ts, r, p, h⟩ => by
  have key : ys.length < sizeLine := by
    unfold mGYield at h
    cases e1 : ma ρ with
    | ok u ρ1 =>
      rw [e1] at h
      simp only [R.thG_ok] at h
      split at h
      · split at h
        · rename_i hl
          rw [← p.length]
          exact Nat.lt_of_lt_of_le hl (by decide)
        · exact h.elim
      · exact h.elim
    | ex x ρ1 => rw [e1] at h; exact h.elim
    | no => rw [e1] at h; exact h.elim
  refine ⟨key, yE r h fun u ρ1 v H1 G1 α1 g1 r1 p1 h1 => ?_⟩
  split at h1
  · rename_i t st1 e1
    obtain ⟨G2, g2, r2, p2⟩ := toD_ok 4 r1.toRh p1 e1
    split at h1
    · exact h1 G2 α1 σ H1 (ys ++ [v]) g2 (Rs.mk' r1 g2 r2) (Rps.append (Rps.mono (g1.trans g2).ex p) (Rps.cons p2 Rps.nil))
    · exact h1.elim
  · exact h1.elim
/-! if -/
def mGIf (c : DT) (a b : DGn) : DGn := fun ts ρ => (c ρ).thG fun d ρ1 => if d = true then a ts ρ1 else b ts ρ1
theorem sg_if {a b : DGn} (hc : ST X W test tc) (ha : SGns X body a) (hb : SGns X orelse b) : SGn X (.If test body orelse pos) (mGIf tc a b) := gs_weak (gs_if hc ha hb) fun D ys σ H ⟨B, ρ, G, α, ts, r, p, h⟩ =>
  yT r h fun d ρ1 H1 G1 α1 g1 r1 h1 => by
    cases d with
    | true => exact ⟨B, ρ1, G1, α1, ts, r1, Rps.mono g1.ex p, h1⟩
    | false => exact ⟨B, ρ1, G1, α1, ts, r1, Rps.mono g1.ex p, h1⟩
/-! for -/
def forG (g : DG) (b : DGn) : List T → List T → Sg → FG
  | [], ys, ρ => .nx ys ρ
  | t :: ts, ys, ρ => match g (.d t) ρ with
    | .ok _ ρ1 => match b ys ρ1 with
      | .nx ys2 ρ2 => forG g b ts ys2 ρ2
      | .ct ys2 ρ2 => forG g b ts ys2 ρ2
      | .bk ys2 ρ2 => .nx ys2 ρ2
      | .rt ys2 ρ2 => .rt ys2 ρ2
      | .no => .no
    | _ => .no
def mGFor (i : DI) (g : DG) (b : DGn) : DGn := fun ys ρ => (i ρ).thG fun ts ρ1 => forG g b ts ys ρ1
theorem for_itG {J : It} {n : Nat} {G : Hp → Prop} {Y : Nat → Hp → V → Hp → Prop} (w : Walk J n G Y) {g : TG} {tb : TGn} {D : GEnds} {ys : List V} {σ : L2.St} {H : Hp} (Pv : Nat → List V → L2.St → Hp → Prop) (h0 : Pv 0 ys σ H) (hG : ∀ i ys σ H, i ≤ n → Pv i ys σ H → G H)
    (hs : ∀ i x ys σ H H', i < n → Pv i ys σ H → Y i H x H' → g x σ H' fun σ2 H2 => tb { D with nx := Pv (i + 1), ct := Pv (i + 1), bk := D.nx } ys σ2 H2) (hd : ∀ ys σ H, Pv n ys σ H → D.nx ys σ H) :
    ∃ W : Nat → Nat → List V → L2.St → Hp → Prop, (∃ m, W 0 m ys σ H) ∧ ∀ i m ys σ H, W i m ys σ H →
      (J.stop i H ∧ D.nx ys σ H) ∨ (J.go i H ∧ ∃ N : List V → L2.St → Hp → Prop, (∀ ys' σ' H', N ys' σ' H' → ∃ m', m' < m ∧ W (i + 1) m' ys' σ' H') ∧ ∀ x H', J.yld i H x H' → g x σ H' fun σ2 H2 => tb { D with nx := N, ct := N, bk := D.nx } ys σ2 H2) := by
  refine ⟨fun i m ys σ H => m = n - i ∧ i ≤ n ∧ Pv i ys σ H, ⟨n, by simp, Nat.zero_le _, h0⟩, ?_⟩
  rintro i m ys σ H ⟨rfl, hi, p⟩
  have q := hG i ys σ H hi p
  by_cases hlt : i < n
  · exact .inr ⟨w.goes i H hlt q, Pv (i + 1), fun ys' σ' H' p' => ⟨n - (i + 1), by omega, rfl, hlt, p'⟩, fun x H' y => hs i x ys σ H H' hlt p (w.yields i H x H' hlt q y)⟩
  · have e : i = n := by omega
    subst e
    exact .inl ⟨w.stops H q, hd ys σ H p⟩
theorem sg_for {mi : DI} {g : DG} {b : DGn} (hc : X.calm = true) (ct : Ct X W) (hi : SI X W tg iter mi) (hg : SG X W tg g) (hb : SGns X body b) (hs : ∀ x, foldedSetIterable iter X.env x = pure x := by intro _; rfl) : SGn X (.For tg iter body [] pos) (mGFor mi g b) :=
  gs_weak (gs_for ct.hp hc hi hg hb hs) fun D ys σ H ⟨B, ρ, G, α, ys0, r, p, h⟩ => by
    show tI X.K W mi σ H _
    refine ⟨B, ρ, G, α, r, ?_⟩
    unfold mGFor at h
    cases e : mi ρ with
    | ex x ρ1 => rw [e] at h; exact h.elim
    | no => rw [e] at h; exact h.elim
    | ok ts ρ1 =>
      rw [e] at h
      intro G1 α1 H1 g1 r1 J wt
      refine for_itG wt (fun i ys' σ' H' => ∃ ρ' G' α' yt, Gr B G1 α1 G' α' ∧ Rs X.K B ρ' G' α' σ' H' ∧ Rps X.K G' yt ys' ∧ okY X.K B G' α' (forG g b (ts.drop i) yt ρ') D) ?_ ?_ ?_ ?_
      · exact ⟨ρ1, G1, α1, ys0, Gr.refl, r1, Rps.mono g1.ex p, okY.shift g1 h⟩
      · rintro i ys' σ' H' _ ⟨ρ', G', α', yt, g', r', _⟩
        exact g'.ex.trans r'.gh
      · rintro i x ys' σ' H' H'' hi ⟨ρ', G', α', yt, g', r', py, ho⟩ y
        obtain ⟨t, G2, e1, g2, r2, p2⟩ := item_ok r' g'.ex y
        rw [drop_at e1] at ho
        have ho := okY.shift g2 ho
        refine ⟨B, ρ', G2, α', .d t, r2, p2, ?_⟩
        unfold forG at ho
        cases eg : g (.d t) ρ' with
        | ex x ρ3 => rw [eg] at ho; exact ho.elim
        | no => rw [eg] at ho; exact ho.elim
        | ok _ ρ3 =>
          rw [eg] at ho
          dsimp only at ho
          intro G3 α3 σ3 H3 g3 r3
          refine ⟨B, ρ3, G3, α3, yt, r3, Rps.mono (g2.trans g3).ex py, ?_⟩
          have ho := okY.shift g3 ho
          have gg := (g'.trans g2).trans g3
          cases eb : b yt ρ3 with
          | nx y4 ρ4 => rw [eb] at ho; exact fun G4 α4 σ4 H4 ys4 g4 r4 p4 => ⟨ρ4, G4, α4, y4, gg.trans g4, r4, p4, okY.shift g4 ho⟩
          | ct y4 ρ4 => rw [eb] at ho; exact fun G4 α4 σ4 H4 ys4 g4 r4 p4 => ⟨ρ4, G4, α4, y4, gg.trans g4, r4, p4, okY.shift g4 ho⟩
          | bk y4 ρ4 => rw [eb] at ho; exact ho
          | rt y4 ρ4 => rw [eb] at ho; exact ho
          | no => rw [eb] at ho; exact ho
      · rintro ys' σ' H' ⟨ρ', G', α', yt, g', r', py, ho⟩
        rw [List.drop_length] at ho
        exact ho G' α' σ' H' ys' Gr.refl r' py
end
/-! a generator def -/
/-- all that it hands out -/
abbrev FnG := List U → Option (List T)
def runG (m : DGn) (n : Nat) : FnG := fun us => match m [] ⟨us.map some ++ List.replicate (n - us.length) none, []⟩ with
  | .nx ts _ => some ts
  | .rt ts _ => some ts
  | _ => none
/-- its promise: arguments that are data -/
def spGF (K : PySem.W.Frag) (n : Nat) (F : FnG) : SpG := fun vs H cont E => vs.length = n ∧ ∃ G us, Rh K H [] G [] H ∧ RpUs K G [] us vs ∧ match F us with
  | some ts => ∀ G' α' st' H' ys, Gr H G [] G' α' → Rh K H st' G' α' H' → Rps K G' ts ys → cont ys H'
  | none => False
section
variable {P : Program} {w : World} {K : PySem.W.Frag} {mg : Str → Option Value} {base : Heap} {x qual : Str} {st : Stmt} {f : Addr} {fd : FuncData} {N ps : List Str} {k n : Nat} {m : DGn} {dvs : List V} {kws : List (Str × V)}
abbrev XG (P : Program) (w : World) (K : PySem.W.Frag) (mg : Str → Option Value) (base : Heap) (N : List Str) (qual : Str) (sc : Scope) (f : Addr) (cdv : Value) (A : Around) (outer : List Env) (s : Shared) (H : Hp) (E : XK) (pn : List (Addr × Obj)) : Cx :=
  gcxOf P w K mg base N qual sc f cdv A outer s H E pn
abbrev BodyG (P : Program) (w : World) (K : PySem.W.Frag) (mg : Str → Option Value) (base : Heap) (N : List Str) (qual : Str) (f : Addr) (k : Nat) (sc : Scope) (b : List Stmt) (m : DGn) : Prop :=
  ∀ (cdv : Value) (A : Around) (outer : List Env) (s : Shared) (H : Hp) (E : XK) (pn : List (Addr × Obj)), Room k (XG P w K mg base N qual sc f cdv A outer s H E pn).A → Ct (XG P w K mg base N qual sc f cdv A outer s H E pn) (Wd E) →
      SGns (XG P w K mg base N qual sc f cdv A outer s H E pn) b m
theorem gn_den (Fu : FunD K x qual (defArgs st) (defBody st) (defScope st) dvs kws f fd) (S : GScope N ps (defScope st)) (hn : ps.length = n) (hb : BodyG P w K mg base N qual f k (defScope st) (defBody st) m) :
    GFn P w K mg base (k + 1) f fd ps (spGF K n (runG m N.length)) := by
  obtain ⟨oc, od, dV, kV, doc, pm, an, cdv, ct, osl, rfl, lk, hcd, _, _⟩ := Fu.ex
  refine gfn_of lk hcd S (fun vs H Q E h => by rw [hn]; exact h.1) fun A outer s H vs Q E pn hr hsp => ?_
  refine ⟨tGn K m, hb cdv A outer s H E pn hr ⟨tk_of takes_gcx, owns_gcx, takes_gcx⟩, ?_⟩
  obtain ⟨_, G, us, rh, ru, ho⟩ := hsp
  have hl := ru.length
  refine ⟨H, ⟨us.map some ++ List.replicate (N.length - us.length) none, []⟩, G, [], [], { toRh := rh, sll := ?_, sl := fun i u e => ?_ }, Rps.nil, ?_⟩
  · simp [L2.start, hl]
  · unfold L2.start
    rw [← hl]
    exact start_sl ru _ i u e
  · unfold runG at ho
    show okY K H G [] (m [] ⟨us.map some ++ List.replicate (N.length - us.length) none, []⟩) _
    cases e0 : m [] ⟨us.map some ++ List.replicate (N.length - us.length) none, []⟩ with
    | nx ts ρ => rw [e0] at ho; exact fun G' α' σ' H' ys g r p => ho G' α' ρ.st H' ys g r.toRh p
    | rt ts ρ => rw [e0] at ho; exact fun G' α' σ' H' ys g r p => ⟨rfl, ho G' α' ρ.st H' ys g r.toRh p⟩
    | bk ts ρ => rw [e0] at ho; exact ho.elim
    | ct ts ρ => rw [e0] at ho; exact ho.elim
    | no => rw [e0] at ho; exact ho.elim
end
/-! list(o.m(..)) -/
/-- a method that is a generator def, called with n values behind self; dts: what its defaults are -/
structure MnG (P : Program) (w : World) (K : PySem.W.Frag) (mg : Str → Option Value) (base : Heap) (k : Nat) (C : Addr) (m : Str) (n : Nat) (dts : List T) (F : FnG) : Prop where
  ex : ∃ (f : Addr) (fd : FuncData) (ps : List Str) (dvs : List V) (ds : List Value), GFn P w K mg base k f fd ps (spGF K n F) ∧ Cls K C ∧ Meth K C m f ∧ Vals dvs ds ∧ Binds K fd ps ds ∧ Rps K (fun _ => none) dts dvs
section
variable {X : Cx} {W : WX} {o e : Expr} {es : List Expr} {mo : DE} {da : DA} {pos pos' p apos : Pos} {m : Str} {C : Addr} {k j n : Nat} {dts : List T} {F : FnG}
def lstG (F : FnG) (us : List U) (ρ : Sg) : R U := match F us with
  | some ts => .ok (.own ρ.st.length) ⟨ρ.sl, ρ.st ++ [.lst ts]⟩
  | none => .no
def mListG (C : Addr) (m : Str) (n : Nat) (dts : List T) (F : FnG) (mo : DE) (da : DA) : DE := fun ρ => (mo ρ).bind fun u ρ1 => match insOf C ρ1.st u with
  | some (ns, _) => if m ∈ ns then .no else (da ρ1).bind fun us ρ2 => match argC [] (u :: us) ρ2.st with
    | some (us', st) => if us'.length + dts.length = n then lstG F (us' ++ dts.map .d) ⟨ρ2.sl, st⟩ else .no
    | none => .no
  | none => .no
theorem rh_alone {K : PySem.W.Frag} {B G H : Hp} {α : List Addr} {st : List Ob} (r : Rh K B st G α H) : Rh K H [] G [] H :=
  ⟨r.gh, Ex.refl H, rfl, by simp, fun i a o e1 e2 => by simp at e1⟩
theorem argC_datG {cs : List Bool} : ∀ {us us' : List U} {st st' : List Ob}, argC [] us st = some (us', st') → ∃ ts : List T, us' = ts.map .d
  | [], us', st, st', e => by
    simp only [argC, Option.some.injEq, Prod.mk.injEq] at e
    exact ⟨[], e.1.symm⟩
  | u :: us, us', st, st', e => by
    simp only [argC] at e
    split at e
    · rename_i t st1 e1
      split at e
      · rename_i us2 st2 e2
        simp only [Option.some.injEq, Prod.mk.injEq] at e
        obtain ⟨ts, rfl⟩ := argC_datG (cs := cs) e2
        exact ⟨t :: ts, e.1.symm⟩
      · cases e
    · cases e
theorem RpUs.toRps {K : PySem.W.Frag} {G : Hp} {α : List Addr} : ∀ {ts : List T} {vs : List V}, RpUs K G α (ts.map .d) vs → Rps K G ts vs
  | [], _, h => by cases h; exact Rps.nil
  | t :: ts, _, ⟨v, ws, q1, q2, q3⟩ => by subst q1; exact Rps.cons q2 (RpUs.toRps q3)
theorem RpUs.appG {K : PySem.W.Frag} {G : Hp} {α : List Addr} : ∀ {us ws : List U} {vs ys : List V}, RpUs K G α us vs → RpUs K G α ws ys → RpUs K G α (us ++ ws) (vs ++ ys)
  | [], _, _, _, h, g => by cases h; exact g
  | u :: us, _, _, _, ⟨v, zs, q1, q2, q3⟩, g => by subst q1; exact ⟨v, _, rfl, q2, RpUs.appG q3 g⟩
theorem lstG_ok {K : PySem.W.Frag} {B G H : Hp} {α : List Addr} {σ : L2.St} {ρ : Sg} {ts : List T} {vs dvs : List V} {Q : VK} {E : XK} (r : Rs K B ρ G α σ H) (p : Rps K G ts vs) (pd : Rps K (fun _ => none) dts dvs) (hn : ts.length + dts.length = n)
    (h : okP K W B G α σ (lstG F (ts.map .d ++ dts.map .d) ρ) fun u _ G' α' H' => ∀ v, RpU K G' α' u v → Q v H') :
    spGF K n F (vs ++ dvs) H (fun out H2 => ∀ p, H2 p = none → Q (.ref p) (upd H2 p (.lst out))) E := by
  unfold lstG at h
  split at h
  · rename_i out e1
    have pa : RpUs K G [] (ts.map .d ++ dts.map .d) (vs ++ dvs) := RpUs.appG (RpUs.ofRps p) (RpUs.ofRps (Rps.mono (fun a o z => by cases z) pd))
    refine ⟨by rw [List.length_append, ← p.length, ← pd.length]; exact hn, G, _, rh_alone r.toRh, pa, ?_⟩
    rw [e1]
    intro G' α' st' H' ys g r' py q hq
    have gg : Gr B G α G' α := ⟨g.ex, ⟨[], by simp⟩, fun a h1 hB => g.fr a h1 fun z => by
      cases hb : B a with
      | none => exact hB hb
      | some o => rw [r.bh a o hb] at z; cases z⟩
    have rr : Rh K B ρ.st G' α H' := by
      refine ⟨r'.gh, r.bh.trans r'.bh, r.len, r.nd, fun i a o e1 e2 => ?_⟩
      obtain ⟨q1, ⟨u, q2⟩, q3⟩ := r.ow i a o e1 e2
      refine ⟨q1, ⟨u, r'.bh a u q2⟩, q3.mono gg (fun z => g.fr a z (by rw [q2]; simp)) (by rw [q2]; exact r'.bh a u q2)⟩
    have gq : G' q = none := r'.gh.free hq
    have r3 := rr.newO (o := .lst ys) (ob := .lst out) hq ⟨gq, ys, upd_same, py⟩
    have g3 : Gr B G α G' (α ++ [q]) := gg.trans Gr.own
    refine h G' (α ++ [q]) (upd H' q (.lst ys)) g3 (Rs.mk' r g3 r3) (.ref q) ⟨q, ?_, rfl⟩
    rw [← r.len]
    simp
  · exact h.elim
theorem fe_listG {pl : Sem Bool} (M : MnG X.prog X.w X.K X.mg X.base k C m n dts F) (hr : Room j X.A) (ho : SE X W o mo) (ha : SA X W (e :: es) da) (hk : k + 3 ≤ j := by decide) (hm : X.mg "list" = none) (hg : Gl X "list" := by rfl)
    (hst : starEach (e :: es) X.env = (false, eval e X.env) :: starEach es X.env := by rfl) (hpl : (backTo pos' (starEach es X.env)).any (·.1) = false := by rfl)
    (ht : eval (.Call (.Attribute o m apos) (e :: es) [] pos') X.env = (do
      let ov ← eval o X.env
      standAt apos.atName
      let (f, first) ← holding [ov] (getMethod ov m pl)
      callWith pos' f first (backTo pos' (starEach (e :: es) X.env)) (backToKw pos' (keywordEach [] X.env))) := by rfl)
    (he : starEach [.Call (.Attribute o m apos) (e :: es) [] pos'] X.env = (false, eval (.Call (.Attribute o m apos) (e :: es) [] pos') X.env) :: starEach [] X.env := by rfl) :
    SE X W (.Call (.Name "list" p) [.Call (.Attribute o m apos) (e :: es) [] pos'] [] pos) (mListG C m n dts F mo da) := by
  obtain ⟨f, fd, ps, dvs, ds, gf, c, hmt, hd, hb, pd⟩ := M.ex
  refine pe_weak (pe_listG (E := fun _ _ _ => False) (pgen_meth (E := fun _ _ _ => False) ho c hmt gf (hr.mono (by omega)) hb hd ha hst hpl ht) (fun pins σ H s e s' I c => ?_) (fun cls d H z => z.elim) (hr.mono hk) hg hm (by decide +kernel) (by decide) (by decide) he) fun σ H Q ⟨B, ρ, G, α, r, h⟩ => ?_
  · obtain ⟨_, _, _, _, _, _, _, _, _, _, _, _, z⟩ := c
    exact z.elim
  · refine bE r h fun u ρ1 v H1 G1 α1 g1 r1 p1 h1 => ?_
    split at h1
    · rename_i ns us0 e1
      obtain ⟨a, dx, vs0, rfl, z1, z2, z3⟩ := insOf_ok r1.toRh p1 e1
      split at h1
      · exact h1.elim
      · rename_i hmn
        refine ⟨a, dx, _, rfl, z1, fNone_ok hmn, ?_⟩
        refine bA r1 h1 fun us ρ2 vs H2 G2 α2 g2 r2 p2 h2 => ?_
        split at h2
        · rename_i us' st e2
          split at h2
          · rename_i hn
            obtain ⟨G3, g3, r3, p3⟩ := argC_ok r2.toRh (show RpUs X.K G2 α2 (u :: us) (.ref a :: vs) from ⟨_, _, rfl, p1.mono g2, p2⟩) e2
            obtain ⟨ts, rfl⟩ := argC_datG (cs := []) e2
            have r3' : Rs X.K B ⟨ρ2.sl, st⟩ G3 α2 σ H2 := Rs.mk' r2 g3 r3
            exact lstG_ok (W := W) (E := fun _ _ _ => False) (vs := .ref a :: vs) r3' (RpUs.toRps p3) pd (by simpa using hn) (okP.shift g3 h2)
          · exact h2.elim
        · exact h2.elim
    · exact h1.elim
def mListG0 (C : Addr) (m : Str) (n : Nat) (dts : List T) (F : FnG) (mo : DE) : DE := fun ρ => (mo ρ).bind fun u ρ1 => match insOf C ρ1.st u with
  | some (ns, _) => if m ∈ ns then .no else match argC [] [u] ρ1.st with
    | some (us', st) => if us'.length + dts.length = n then lstG F (us' ++ dts.map .d) ⟨ρ1.sl, st⟩ else .no
    | none => .no
  | none => .no
theorem fe_listG0 {pl : Sem Bool} (M : MnG X.prog X.w X.K X.mg X.base k C m n dts F) (hr : Room j X.A) (ho : SE X W o mo) (hk : k + 3 ≤ j := by decide) (hm : X.mg "list" = none) (hg : Gl X "list" := by rfl)
    (ht : eval (.Call (.Attribute o m apos) [] [] pos') X.env = (do
      let ov ← eval o X.env
      standAt apos.atName
      let (f, first) ← holding [ov] (getMethod ov m pl)
      callWith pos' f first (backTo pos' (starEach [] X.env)) (backToKw pos' (keywordEach [] X.env))) := by rfl)
    (he : starEach [.Call (.Attribute o m apos) [] [] pos'] X.env = (false, eval (.Call (.Attribute o m apos) [] [] pos') X.env) :: starEach [] X.env := by rfl) :
    SE X W (.Call (.Name "list" p) [.Call (.Attribute o m apos) [] [] pos'] [] pos) (mListG0 C m n dts F mo) := by
  obtain ⟨f, fd, ps, dvs, ds, gf, c, hmt, hd, hb, pd⟩ := M.ex
  refine pe_weak (pe_listG (E := fun _ _ _ => False) (pgen_meth0 (E := fun _ _ _ => False) ho c hmt gf (hr.mono (by omega)) hb hd ht) (fun pins σ H s e s' I c => ?_) (fun cls d H z => z.elim) (hr.mono hk) hg hm (by decide +kernel) (by decide) (by decide) he) fun σ H Q ⟨B, ρ, G, α, r, h⟩ => ?_
  · obtain ⟨_, _, _, _, _, _, _, _, _, _, _, _, z⟩ := c
    exact z.elim
  · refine bE r h fun u ρ1 v H1 G1 α1 g1 r1 p1 h1 => ?_
    split at h1
    · rename_i ns us0 e1
      obtain ⟨a, dx, vs0, rfl, z1, z2, z3⟩ := insOf_ok r1.toRh p1 e1
      split at h1
      · exact h1.elim
      · rename_i hmn
        refine ⟨a, dx, _, rfl, z1, fNone_ok hmn, ?_⟩
        split at h1
        · rename_i us' st e2
          split at h1
          · rename_i hn
            obtain ⟨G3, g3, r3, p3⟩ := argC_ok r1.toRh (show RpUs X.K G1 α1 [u] [.ref a] from ⟨_, _, rfl, p1, rfl⟩) e2
            obtain ⟨ts, rfl⟩ := argC_datG (cs := []) e2
            have r3' : Rs X.K B ⟨ρ1.sl, st⟩ G3 α1 σ H1 := Rs.mk' r1 g3 r3
            exact lstG_ok (W := W) (E := fun _ _ _ => False) (vs := [.ref a]) r3' (RpUs.toRps p3) pd (by simpa using hn) (okP.shift g3 h1)
          · exact h1.elim
        · exact h1.elim
    · exact h1.elim
end
/-- a generator method as the module holds it -/
structure DmG (K : PySem.W.Frag) (C : Addr) (x qual : Str) (st : Stmt) (ps : List Str) (dts : List T) : Prop where
  ex : ∃ (f : Addr) (fd : FuncData) (dvs : List V), FunD K x qual (defArgs st) (defBody st) (defScope st) dvs [] f fd ∧ Cls K C ∧ Meth K C x f ∧ Rps K (fun _ => none) dts dvs ∧ (∃ ds, Vals dvs ds ∧ Binds K fd ps ds) ∧ Binds K fd ps []
section
variable {P : Program} {w : World} {K : PySem.W.Frag} {mg : Str → Option Value} {base : Heap} {x qual : Str} {st : Stmt} {N ps : List Str} {k n : Nat} {m : DGn} {C : Addr} {dts : List T}
theorem DmG.mn (D : DmG K C x qual st ps dts) (S : GScope N ps (defScope st)) (hn : ps.length = n) (hb : ∀ f, BodyG P w K mg base N qual f k (defScope st) (defBody st) m) : MnG P w K mg base (k + 1) C x n [] (runG m N.length) := by
  obtain ⟨f, fd, dvs, h1, h2, h3, h4, h5, h6⟩ := D.ex
  exact ⟨f, fd, ps, [], [], gn_den h1 S hn (hb f), h2, h3, .nil, h6, Rps.nil⟩
theorem DmG.mn1 (D : DmG K C x qual st ps dts) (S : GScope N ps (defScope st)) (hn : ps.length = n) (hb : ∀ f, BodyG P w K mg base N qual f k (defScope st) (defBody st) m) : MnG P w K mg base (k + 1) C x n dts (runG m N.length) := by
  obtain ⟨f, fd, dvs, h1, h2, h3, h4, ⟨ds, h5, h7⟩, h6⟩ := D.ex
  exact ⟨f, fd, ps, dvs, ds, gn_den h1 S hn (hb f), h2, h3, h5, h7, h4⟩
theorem MnG.mono {k' : Nat} {F : FnG} (D : MnG P w K mg base k C x n dts F) (h : k ≤ k') : MnG P w K mg base k' C x n dts F := by
  obtain ⟨f, fd, ps, dvs, ds, h1, h2, h3, h4, h5, h6⟩ := D.ex
  refine ⟨f, fd, ps, dvs, ds, ⟨h1.len, fun A outer s H args us vs Q E hr e0 hb hv q => ?_⟩, h2, h3, h4, h5, h6⟩
  refine codeAny_mono (h1.run A outer s H args us vs Q E (hr.mono h) e0 hb hv q) fun r s' z => ?_
  cases r with
  | error e => exact z
  | ok fl =>
    cases fl with
    | ret u =>
      obtain ⟨a, g, c, z1, z2, z3, z4, z5, z6, z7, z8, z9, z10⟩ := z
      exact ⟨a, g, c, z1, z2, z3, z4, z5, z6, z7, z8, z9, fun A' S s2 hr' => z10 A' S s2 (hr'.mono h)⟩
    | next => exact z
    | brk => exact z
    | cont => exact z
end
/-- one default that is None -/
abbrev BndD (x qual : Str) (st : Stmt) (ps : List Str) (j : Nat) : Prop := ∀ (T : Addr) (kV doc pm : Value) (an : Option Addr) (cdv ct : Value) (us its : List Value), us.length + (1 - j) = ps.length → its.length = 1 →
      ∃ k, bindArgs (PySem.W.fnOf x qual (defArgs st) (defBody st) (defScope st) (.ref T) kV doc pm an cdv ct) ⟨us, []⟩ = seqItems? (.ref T) >>= k ∧ k (some its.toArray) = pure (ps.zip (us ++ its.drop j))
theorem DmG.of {K : PySem.W.Frag} {C f Tt : Addr} {x qual : Str} {st : Stmt} {ps : List Str} {od an : Option Addr} {osl : Array (Option Value)} {oc kV dc pm cd ct : Value} {oT : Obj} {m : Nat} (cl : Cls K C) (b1 : BndD x qual st ps 1) (b0 : BndD x qual st ps 0) (hp : 1 ≤ ps.length)
    (e1 : PySem.W.findIn K (.ref C) x = some (some (.ref f))) (e2 : K.lookup f = some ⟨oc, od, .func (PySem.W.fnOf x qual (defArgs st) (defBody st) (defScope st) (.ref Tt) kV dc pm an cd ct), osl⟩)
    (e3 : PySem.W.codeIn K cd qual = true) (e4 : PySem.W.keepIn K (.ref f) = true) (e5 : PySem.W.isFn K (.ref f) = true) (e6 : K.lookup Tt = some oT) (e7 : oT.data = .seq #[.none] m) : DmG K C x qual st ps [.non] := by
  have F : FunD K x qual (defArgs st) (defBody st) (defScope st) [.non] [] f (PySem.W.fnOf x qual (defArgs st) (defBody st) (defScope st) (.ref Tt) kV dc pm an cd ct) :=
    ⟨⟨oc, od, .ref Tt, kV, dc, pm, an, cd, ct, osl, rfl, e2, e3, .inr ⟨by simp, Tt, oT, [.none], m, rfl, e6, e7, .cons rfl .nil⟩, .inl rfl⟩, e4⟩
  refine ⟨f, _, [.non], F, cl, ⟨e1, e5, e4⟩, Rps.cons (by simp [Rp]) Rps.nil, ?_, ?_⟩
  · exact F.binds1 (ps.length - 1) 0 (by simp) (by simp; omega) fun T kV doc pm an cdv ct us its h1 h2 => b0 T kV doc pm an cdv ct us its (by omega) h2
  · obtain ⟨ds, h1, h2⟩ := F.binds1 ps.length 1 (by simp) (by simp) fun T kV doc pm an cdv ct us its h1 h2 => b1 T kV doc pm an cdv ct us its (by omega) h2
    have : ds = [] := by
      have := h1.length
      exact List.eq_nil_of_length_eq_zero (by simpa using this.symm)
    subst this
    exact h2
end FL

/-! FL35: copies and == of dicts, len of tables and own objects, an own == with both answers, isinstance of own classes with both answers, of several classes. -/
namespace FL
open PySem L2 PyProof.Rows

theorem fin_dk {K : PySem.W.Frag} {W : WX} {B G H : Hp} {α : List Addr} {σ : L2.St} {ρ : Sg} {Q : VK} {ks : List Key} {ts : List T} {vs : List V} {p : Addr} (r : Rs K B ρ G α σ H) (h : okP K W B G α σ (mO (some (.k ks ts)) ρ) (EndP K Q)) (hv : Rps K G ts vs) (hl : ks.length = vs.length) (hp : H p = none) : Q (.ref p) (upd H p (.dK (ks.zip vs))) := by
  have gq : G p = none := r.gh.free hp
  have r3 := r.toRh.newO (o := .dK (ks.zip vs)) (ob := .dk ks ts) hp ⟨gq, vs, upd_same, hl, hv⟩
  refine h G (α ++ [p]) (upd H p (.dK (ks.zip vs))) Gr.own (Rs.mk' r Gr.own r3) (.ref p) ⟨p, ?_, rfl⟩
  rw [← r.len]
  simp
/-! dict(d) -/
def copyF : List T → Option O
  | [.dk ks ts] => some (.k ks ts)
  | _ => none
section
variable {X : Cx} {W : WX} {e a b o : Expr} {ma mb mo : DE} {da : DA} {p pos : Pos} {K : PySem.W.Frag}
theorem copy_ok : CaK K (fun xs H Q => ∃ (a : Addr) (kvs : List (Key × V)), xs = [.ref a] ∧ Rd H a (.dK kvs) ∧ ∀ p, H p = none → Q (.ref p) (upd H p (.dK kvs))) copyF := by
  intro W B ρ G α σ H Q xs vs rs p q
  unfold copyF at q
  split at q
  · rename_i ks ts
    obtain ⟨v, ws, rfl, q2, rfl⟩ := p
    obtain ⟨a, us, rfl, h1, h2, h3⟩ := q2
    exact ⟨a, _, rfl, .inl h1, fun l hl => fin_dk rs q h3 h2 hl⟩
  · exact q.elim
theorem fe_copy (hg : Gl X "dict") (hm : X.mg "dict" = none) (ha : SA X W [e] da) (he : starEach [e] X.env = [(false, eval e X.env)] := by rfl) : SE X W (.Call (.Name "dict" p) [e] [] pos) (mCa copyF da) :=
  fe_callTy call_dictD copy_ok hg hm (by decide +kernel) ha (by decide) (by decide) he rfl
/-! len of a table -/
def lenDF : List T → Option O
  | [.dt ks ts] => some (.d (.int ts.length))
  | _ => none
theorem call_lenR : CallR X (.builtin "len") (fun xs H Q => ∃ (a : Addr) (es : Array DictEntry) (ep : Nat), xs = [.ref a] ∧ H a = some (rawD a es ep) ∧ Q (.int es.size) H) := by
  intro pins s σ H xs us Q I r q
  obtain ⟨a, es, ep, rfl, ha, q⟩ := q
  obtain ⟨u, rfl, rx⟩ := vals1 r
  obtain rfl : u = Value.ref a := rx
  obtain ⟨hraw, hs, hz⟩ := rawD_at I.hok ha
  exact call_len_slot hraw.typeIs F.slot_dict_len (n := es.size) (fun Q' hq => call_len_raw hs hraw hq) (by omega) (by have := sizeLine_eq; omega) ⟨.int es.size, H, I.tok _, ⟨_, rfl⟩, q⟩
theorem lenD_ok : CaK K (fun xs H Q => ∃ (a : Addr) (es : Array DictEntry) (ep : Nat), xs = [.ref a] ∧ H a = some (rawD a es ep) ∧ Q (.int es.size) H) lenDF := by
  intro W B ρ G α σ H Q xs vs rs p q
  unfold lenDF at q
  split at q
  · rename_i ks ts
    obtain ⟨v, ws, rfl, q2, rfl⟩ := p
    have q2 : Rp K G (.dt ks ts) v := q2
    simp only [Rp] at q2
    obtain ⟨a, es, ep, kv, vv, rfl, h1, h2, h3, h4⟩ := q2
    refine ⟨a, es, ep, rfl, rs.gh _ _ h1, fin_d rs q ?_⟩
    have e : ts.length = es.size := by rw [h4.length, h2.1, h2.2.1]
    simp [Rp, e]
  · exact q.elim
theorem fe_lenD (hg : Gl X "len") (hm : X.mg "len" = none) (ha : SA X W [e] da) (he : starEach [e] X.env = [(false, eval e X.env)] := by rfl) : SE X W (.Call (.Name "len" p) [e] [] pos) (mCa lenDF da) :=
  fe_callB call_lenR lenD_ok hg hm PySem.boot_len ha (by decide) (by decide) he rfl
/-! == of two dicts -/
def valD (kvs : List (Key × PyData)) (k : Key) : Option PyData := (kvs.find? fun kv => decide (kv.1 = k)).map (·.2)
def dkHit (ls : List (Key × PyData)) : List (Key × PyData) → Bool
  | [] => true
  | (k, d) :: r => match valD ls k with
    | none => false
    | some e => PyData.eqv d e && dkHit ls r
def dkEq (ks ls : List (Key × PyData)) : Bool := (ks.length == ls.length) && dkHit ls ks
/-- what stands in a dict, as data -/
def DkD (K : PySem.W.Frag) (H : Hp) (kvs : List (Key × V)) (ds : List (Key × PyData)) : Prop := Paired (fun (p : Key × V) (q : Key × PyData) => p.1 = q.1 ∧ L2.Dp K H p.2 q.2 ∧ SeqAt.shaped q.2 = true) kvs ds
theorem dk_val {K : PySem.W.Frag} {H : Hp} {ls : List (Key × V)} {es : List (Key × PyData)} (h : DkD K H ls es) {vb : List (Key × Value)} (r : KV ls vb) (k : Key) :
    (valD es k = none ∧ valueAt vb k = none) ∨ ∃ e v u, valD es k = some e ∧ valueAt vb k = some u ∧ RelV v u ∧ L2.Dp K H v e ∧ SeqAt.shaped e = true := by
  unfold DkD at h
  induction h generalizing vb with
  | nil => cases r; exact .inl ⟨rfl, rfl⟩
  | @cons p q ps qs h1 h2 ih =>
    cases r with
    | @cons _ y _ ys r1 r2 =>
      obtain ⟨a1, a2, a3⟩ := h1
      obtain ⟨b1, b2⟩ := r1
      by_cases e : p.1 = k
      · refine .inr ⟨q.2, p.2, y.2, ?_, ?_, b2, a2, a3⟩
        · unfold valD
          rw [List.find?_cons_of_pos (by simpa [← a1] using e)]
          rfl
        · unfold valueAt
          rw [List.find?_cons_of_pos (by simpa [← b1] using e)]
          rfl
      · have f1 : valD (q :: qs) k = valD qs k := by
          unfold valD
          rw [List.find?_cons_of_neg (by simpa [← a1] using e)]
        have f2 : valueAt (y :: ys) k = valueAt ys k := by
          unfold valueAt
          rw [List.find?_cons_of_neg (by simpa [← b1] using e)]
        rw [f1, f2]
        exact ih r2
theorem dk_hits {X : Cx} {pins : List (Addr × Obj)} {σ : L2.St} {H : Hp} {s : Shared} (I : Inv X pins σ H s) {A : Around} (hu : A.units + 64 < cLine) {ls : List (Key × V)} {es : List (Key × PyData)} (hl : DkD X.K H ls es) {vb : List (Key × Value)} (rb : KV ls vb)
    {ks : List (Key × V)} {ds : List (Key × PyData)} (hk : DkD X.K H ks ds) : ∀ {va : List (Key × Value)}, KV ks va → PySem.W.KeqHits A s vb va (dkHit es ds) := by
  unfold DkD at hk
  induction hk with
  | nil => intro va r; cases r; exact .nil
  | @cons p q ps qs h1 h2 ih =>
    intro va r
    cases r with
    | @cons _ y _ ys r1 r2 =>
      obtain ⟨a1, a2, a3⟩ := h1
      obtain ⟨b1, b2⟩ := r1
      obtain ⟨yk, yv⟩ := y
      obtain ⟨qk, qd⟩ := q
      have b1 : p.1 = yk := b1
      have a1 : p.1 = qk := a1
      subst b1
      subst a1
      rcases dk_val hl rb p.1 with ⟨n1, n2⟩ | ⟨e, v, u, n1, n2, n3, n4, n5⟩
      · have : dkHit es ((p.1, qd) :: qs) = false := by simp only [dkHit, n1]
        rw [this]
        exact .miss n2
      · have : dkHit es ((p.1, qd) :: qs) = (PyData.eqv qd e && dkHit es qs) := by simp only [dkHit, n1]
        rw [this]
        obtain ⟨as, g1⟩ := L2.Dp.reads I qd _ _ a2 b2
        obtain ⟨bs, g2⟩ := L2.Dp.reads I e _ _ n4 n3
        exact .hit n2 (SeqAt.eqAt_reads _ _ A s _ _ _ _ g1 g2 (SeqAt.canLay_of_shaped a3) (SeqAt.canLay_of_shaped n5) (SeqAt.room_of_shaped a3 hu)) (ih r2)
def rEqK (K : PySem.W.Frag) : R2 := fun x y H Q => ∃ a b ks ls ds es, x = .ref a ∧ y = .ref b ∧ H a = some (.dK ks) ∧ H b = some (.dK ls) ∧ DkD K H ks ds ∧ DkD K H ls es ∧ Q (.bl (dkEq ds es)) H
theorem dkd_len {H : Hp} {ks : List (Key × V)} {ds : List (Key × PyData)} (h : DkD K H ks ds) : ks.length = ds.length := Paired.length h
theorem op_eqK (hu : X.A.units + 80 < cLine) : OpR X (compareOp .Eq) (rEqK X.K) := by
  intro pins s σ H x y v u Q I rx ry h
  obtain ⟨a, b, ks, ls, ds, es, rfl, rfl, ea, eb, h1, h2, q⟩ := h
  obtain rfl : v = Value.ref a := rx
  obtain rfl : u = Value.ref b := ry
  obtain ⟨_, ya, va, ra, da⟩ := (show ObjOk X.prog X.w H s.heap a (.dK ks) from I.hok a _ ea)
  obtain ⟨_, yb, vb, rb, db⟩ := (show ObjOk X.prog X.w H s.heap b (.dK ls) from I.hok b _ eb)
  refine PySem.W.keq_eq (knd := mixKind X.prog X.w) ya yb da db (by omega) (fun _ => dk_hits I (A := X.A.in1) (by show X.A.units + 1 + 64 < cLine; omega) h2 rb h1 ra) ?_
  have e : (va.length == vb.length && dkHit es ds) = dkEq ds es := by
    unfold dkEq
    rw [← ra.length, ← rb.length, dkd_len h1, dkd_len h2]
  rw [e]
  exact ⟨.bl _, H, I, rfl, q⟩
/-- the values of a dict as data -/
def pyK : List Key → List T → Option (List (Key × PyData))
  | [], [] => some []
  | k :: ks, t :: ts => match t.py, pyK ks ts with
    | some d, some r => if SeqAt.shaped d = true then some ((k, d) :: r) else none
    | _, _ => none
  | _, _ => none
theorem pyK_ok {G H : Hp} (g : Ex G H) : ∀ {ks : List Key} {ts : List T} {vs : List V} {ds : List (Key × PyData)}, Rps K G ts vs → pyK ks ts = some ds → DkD K H (ks.zip vs) ds
  | [], [], vs, ds, h, e => by
    simp only [pyK, Option.some.injEq] at e
    subst e
    simp only [Rps] at h
    subst h
    exact .nil
  | k :: ks, t :: ts, vs, ds, h, e => by
    simp only [Rps] at h
    obtain ⟨v, ws, rfl, q2, q3⟩ := h
    simp only [pyK] at e
    split at e
    · rename_i d r e1 e2
      split at e
      · rename_i hs
        simp only [Option.some.injEq] at e
        subst e
        exact .cons ⟨rfl, dp_of (Rp.mono g q2) e1, hs⟩ (pyK_ok g q3 e2)
      · cases e
    · cases e
  | [], t :: ts, vs, ds, h, e => by cases e
  | k :: ks, [], vs, ds, h, e => by cases e
def eqKF : T → T → Option O
  | .dk ks ts, .dk ls us => match pyK ks ts, pyK ls us with
    | some ds, some es => some (.d (.bl (dkEq ds es)))
    | _, _ => none
  | _, _ => none
theorem eqK_ok : OpK K (rEqK K) eqKF := by
  intro W B ρ G α σ H Q x y v w rs p1 p2 q
  unfold eqKF at q
  split at q
  · rename_i ks ts ls us
    split at q
    · rename_i ds es e1 e2
      obtain ⟨a, vs, rfl, h1, h2, h3⟩ := p1
      obtain ⟨b, ws, rfl, g1, g2, g3⟩ := p2
      exact ⟨a, b, _, _, ds, es, rfl, rfl, h1, g1, pyK_ok rs.gh h3 e1, pyK_ok rs.gh g3 e2, fin_d rs q (by simp [Rp])⟩
    · exact q.elim
  · exact q.elim
theorem hu80 {A : Around} {k : Nat} (hr : Room k A) : A.units + 80 < cLine := by have := hr.un; omega
theorem fe_eqK {k : Nat} (hr : Room k X.A) (h : SE X W a ma) (g : SE X W b mb) (hm : behindInMarks .Eq b = false := by first | exact nobehind _ (by decide) (by decide) | rfl) : SE X W (.Compare a [.Eq] [b] pos) (mOp eqKF ma mb) := fe_cmp (op_eqK (hu80 hr)) eqK_ok h g hm
theorem ft_eqK {k : Nat} (hr : Room k X.A) (h : SE X W a ma) (g : SE X W b mb) (hm : behindInMarks .Eq b = false := by first | exact nobehind _ (by decide) (by decide) | rfl) : ST X W (.Compare a [.Eq] [b] pos) (mTOp eqKF ma mb) := ft_cmp (op_eqK (hu80 hr)) eqK_ok h g hm
/-! a == b, a of the class C, b of it or a tuple -/
structure Gz (K : PySem.W.Frag) (C : Addr) : Prop where
  is : PySem.W.kitOne K (.type "tuple") (.ref C) = some false
  nf : PySem.W.notFirst K C (.type "tuple") = true
def isTupT : T → Bool
  | .tup _ => true | .ktp _ => true | _ => false
def asBl : R U → Option Bool
  | .ok (.d (.bl b)) ⟨[], []⟩ => some b
  | _ => none
theorem asBl_eq {r : R U} {b : Bool} (h : asBl r = some b) : r = .ok (.d (.bl b)) ⟨[], []⟩ := by
  unfold asBl at h
  split at h
  · rename_i b'
    simp only [Option.some.injEq] at h
    subst h
    rfl
  · cases h
def mEqA (C : Addr) (F : Fn) (ma mb : DE) : DE := fun ρ => (ma ρ).bind fun u ρ1 => (mb ρ1).bind fun w ρ2 => match toD 4 u ρ2.st with
  | some (tx, st1) => match toD 4 w st1 with
    | some (ty, st2) => if isObj C tx = true ∧ (isObj C ty = true ∨ isTupT ty = true) then match asBl (F [] [.d tx, .d ty]) with
      | some b => .ok (.d (.bl b)) ⟨ρ2.sl, st2⟩
      | none => .no
      else .no
    | none => .no
  | none => .no
/-- what is asked of the two -/
def rEqO (X : Cx) (C : Addr) (F : Fn) : R2 := fun x y H Q => ∃ a dx fs G tx ty b, x = .ref a ∧ H a = some (.ins C dx fs) ∧ ((∃ c dy gs, y = .ref c ∧ H c = some (.ins C dy gs)) ∨ (∃ c ys, y = .ref c ∧ SqT X.K H c ys)) ∧ Ex G H ∧ Rp X.K G tx x ∧ Rp X.K G ty y ∧ F [] [.d tx, .d ty] = .ok (.d (.bl b)) ⟨[], []⟩ ∧ ∀ H', Ext H H' → Q (.bl b) H'
theorem op_eqO {k j : Nat} {C : Addr} {F : Fn} (z : Gz X.K C) (M : Mn X.prog X.w X.K X.mg X.base k C "__eq__" 2 F) (hr : Room j X.A) (hk : k ≤ j) : OpR X (compareOp .Eq) (rEqO X C F) := by
  intro pins s σ H x y v u Q I rx ry h
  obtain ⟨a, dx, fs, G, tx, ty, b, rfl, ha, hy, ge, p1, p2, eF, q⟩ := h
  obtain ⟨f, fd, ps, fo, c, mt, bd⟩ := M.ex
  have fo := fo.mono hk
  obtain rfl : v = Value.ref a := rx
  obtain ⟨mA, J, _⟩ := ins_get I.hok ha
  obtain ⟨od, J, _⟩ := J.look
  obtain ⟨m, hF⟩ := I.fr
  have room := hr
  have key : ∀ {tb : Value}, PySem.W.Looks (model X.prog X.w) s.heap (typeOf u) tb → PySem.W.notFirst X.K C tb = true → wpAny (model X.prog X.w) X.A (compareOp .Eq (.ref a) u) (EP X pins σ Q) X.xe s := fun {tb} hl hn => by
    refine PySem.W.cmp_K (op := .Eq) (tb := tb) room.units0 hF I.ok.mod.kin J hl hn mt.at_ mt.fn ?_
    have hsp : spF X.K 2 F [.ref a, y] H (fun v H' => v = .bl b ∧ Ext H H') (fun _ _ _ => False) := by
      refine ⟨rfl, H, [], G, [], [.d tx, .d ty], ⟨ge, Ex.refl H, rfl, by simp, fun i a o e1 e2 => by simp at e1⟩, ⟨_, _, rfl, p1, _, _, rfl, p2, rfl⟩, ?_⟩
      rw [eF]
      intro G' α' H' v g' r' p
      have hv : v = .bl b := by simpa [RpU, Rp] using p
      exact ⟨hv, fun a o h => r'.bh a o h⟩
    have hl := fo.len _ _ _ _ hsp
    have r2 : Vals [V.ref a, y] [Value.ref a, u] := .cons rfl (.cons ry .nil)
    refine wpAny_call (codeAny_mono (fo.run X.A X.stack s H ⟨[.ref a, u], []⟩ [.ref a, u] [.ref a, y] _ (fun _ _ _ => False) room I.env0 (by
      have := bd s [.ref a, u] I.kIn (by simpa using hl)
      simpa using this) r2 hsp) fun r s' hq => ?_)
    cases r with
    | error e => exact passF (P := X.prog) (w := X.w) pins σ H s e s' I hq
    | ok fl =>
      cases fl with
      | ret w =>
        obtain ⟨z, H', I', rz, ez, ex⟩ := I.after hq
        subst ez
        cases rz
        exact ⟨.bl b, H', I', rfl, q H' ex⟩
      | next => exact False.elim hq
      | brk => exact False.elim hq
      | cont => exact False.elim hq
  rcases hy with ⟨c2, dy, gs, rfl, hc⟩ | ⟨c2, ys, rfl, hc⟩
  · obtain rfl : u = Value.ref c2 := ry
    obtain ⟨mB, J', _⟩ := ins_get I.hok hc
    obtain ⟨od', J', _⟩ := J'.look
    exact key J'.type (by simp [PySem.W.notFirst])
  · obtain rfl : u = Value.ref c2 := ry
    obtain ⟨its, rv, ⟨o, ho, hcl, _⟩, hz⟩ := I.tuple hc
    refine key (tb := .type "tuple") (fun A' Q' E' s' k q => wpAny_typeOf_ref (o := o) (k _ _ ho) (by rw [hcl]; exact q)) z.nf
theorem tEqO_of {k j : Nat} {C : Addr} {F : Fn} {σ : L2.St} {H : Hp} {Q : VK} (h : tE X.K W (mEqA C F ma mb) σ H Q) : tE X.K W ma σ H fun x H1 => tE X.K W mb σ H1 fun y H2 => rEqO X C F x y H2 Q := by
  obtain ⟨B, ρ, G, α, r, h⟩ := h
  refine bE r h fun u ρ1 v H1 G1 α1 g1 r1 p1 h1 => bE r1 h1 fun w ρ2 y H2 G2 α2 g2 r2 p2 h2 => ?_
  split at h2
  · rename_i tx st1 e1
    obtain ⟨G3, g3, r3, p3⟩ := toD_ok 4 r2.toRh (p1.mono g2) e1
    split at h2
    · rename_i ty st2 e2
      obtain ⟨G4, g4, r4, p4⟩ := toD_ok 4 r3 (p2.mono g3) e2
      split at h2
      · rename_i hc
        split at h2
        · rename_i b eF
          have p3' := Rp.mono g4.ex p3
          obtain ⟨a1, d1, f1, rfl, q1⟩ := rp_isObj hc.1 p3'
          refine ⟨a1, d1, f1, G4, tx, ty, b, rfl, r4.gh _ _ q1, ?_, r4.gh, p3', p4, asBl_eq eF, fun H' ex => ?_⟩
          · rcases hc.2 with hc2 | hc2
            · obtain ⟨a2, d2, f2, rfl, q2⟩ := rp_isObj hc2 p4
              exact .inl ⟨a2, d2, f2, rfl, r4.gh _ _ q2⟩
            · cases ty with
              | tup ts => simp only [Rp] at p4; obtain ⟨a2, vs, rfl, q2, _⟩ := p4; exact .inr ⟨a2, vs, rfl, r4.gh.t (SqT.of q2)⟩
              | ktp ts => simp only [Rp] at p4; obtain ⟨a2, vs, rfl, q2, _⟩ := p4; exact .inr ⟨a2, vs, rfl, r4.gh.t q2⟩
              | _ => cases hc2
          · have r4' : Rs X.K B ⟨ρ2.sl, st2⟩ G4 α2 σ H2 := Rs.mk' r2 (g3.trans g4) r4
            exact h2 G4 α2 H' (g3.trans g4) (r4'.ext ex) _ (by simp [RpU, Rp])
        · exact h2.elim
      · exact h2.elim
    · exact h2.elim
  · exact h2.elim
theorem fe_eqA {k j : Nat} {C : Addr} {F : Fn} (z : Gz X.K C) (M : Mn X.prog X.w X.K X.mg X.base k C "__eq__" 2 F) (hr : Room j X.A) (ha : SE X W a ma) (hb : SE X W b mb) (hk : k ≤ j := by decide) (hm : behindInMarks .Eq b = false := by first | exact nobehind _ (by decide) (by decide) | rfl) : SE X W (.Compare a [.Eq] [b] pos) (mEqA C F ma mb) :=
  pe_weak (pe_cmpR (op_eqO z M hr hk) ha hb hm) fun σ H Q h => tEqO_of (k := k) (j := j) h
theorem ft_eqA {k j : Nat} {C : Addr} {F : Fn} (z : Gz X.K C) (M : Mn X.prog X.w X.K X.mg X.base k C "__eq__" 2 F) (hr : Room j X.A) (ha : SE X W a ma) (hb : SE X W b mb) (hk : k ≤ j := by decide) (hm : behindInMarks .Eq b = false := by first | exact nobehind _ (by decide) (by decide) | rfl) : ST X W (.Compare a [.Eq] [b] pos) (mTest (mEqA C F ma mb)) :=
  pt_weak (pt_cmpR (op_eqO z M hr hk) ha hb hm) fun σ H Q h => tEqO_of (k := k) (j := j) (tTest_of h)
end
end FL

/-! FL36: isinstance with two built-in classes, with an own class (both answers), len of an own object. -/
namespace FL
open PySem L2 PyProof.Rows

section
variable {X : Cx} {W : WX} {e a b o : Expr} {ma mb mo : DE} {da : DA} {p pos p2 p3 p4 : Pos} {K : PySem.W.Frag} {C : Addr}
/-! isinstance(x, (a, b)) -/
def isiB2 (n m : String) (k : Kd) : Option Bool := match isiB n k with
  | some true => some true
  | some false => isiB m k
  | none => none
def mIsi2 (n n' : String) (m : DE) : DE := fun ρ => (m ρ).bind fun u ρ1 => match pk ρ1.st u with
  | some t => if isDt t = true then .no else match isiB2 n n' t.kd with
    | some b => .ok (.d (.bl b)) ρ1
    | none => .no
  | none => .no
theorem isiB_kit {K : PySem.W.Frag} {n : String} {k : Kd} {b : Bool} (e : isiB n k = some b) : PySem.W.kitOne K (.type k.name) (.type n) = some b := by
  have hk : k ≠ .obj := fun z => by rw [z] at e; cases e
  have e3 : kitB k.name n = some b := by
    revert e hk
    cases k <;> intro e hk <;> first | exact e | exact absurd rfl hk
  exact kit_ty e3
theorem isiB2_kit {K : PySem.W.Frag} {n m : String} {k : Kd} {b : Bool} (e : isiB2 n m k = some b) : PySem.W.kitAny K (.type k.name) [.type n, .type m] = some b := by
  unfold isiB2 at e
  split at e
  · rename_i e1
    simp only [Option.some.injEq] at e
    subst e
    exact kitAny_cons (isiB_kit e1) (fun z => by cases z) (fun _ => rfl)
  · rename_i e1
    refine kitAny_cons (isiB_kit e1) (fun _ => kitAny_cons (isiB_kit e) (fun z => by subst z; rfl) (fun z => z)) (fun z => by cases z)
  · cases e
theorem isiB2_obj {n m : String} {k : Kd} {b : Bool} (e : isiB2 n m k = some b) : k ≠ .obj := fun z => by
  subst z
  cases e
theorem fe_isi2 {x y : Str} {n m : String} {kk : Nat} (hg : Gl X "isinstance") (hm : X.mg "isinstance" = none) (hgx : Gl X x) (hmx : X.mg x = none) (hv : bootBuiltins x = some (.type n)) (hgy : Gl X y) (hmy : X.mg y = none) (hvy : bootBuiltins y = some (.type m)) (he : SE X W e ma)
    (hs : starEach [e, .Tuple [.Name x p2, .Name y p3] kk p4] X.env = (false, eval e X.env) :: starEach [.Tuple [.Name x p2, .Name y p3] kk p4] X.env := by rfl)
    (hnx : x ≠ "__name__" := by decide) (hdx : (x == ("__debug__" : Str)) = false := by decide) (hny : y ≠ "__name__" := by decide) (hdy : (y == ("__debug__" : Str)) = false := by decide) :
    SE X W (.Call (.Name "isinstance" p) [e, .Tuple [.Name x p2, .Name y p3] kk p4] [] pos) (mIsi2 n m ma) :=
  pe_weak (pe_callB call_isiT hg hm (by decide +kernel) (pa_cons he (pa_cons (pe_tup (pa_cons (pe_bltn (v := .ty n) hgx hmx hv rfl hnx hdx) (pa_cons (pe_bltn (v := .ty m) hgy hmy hvy rfl hny hdy) pa_nil))) pa_nil) hs) (by decide) (by decide) hs rfl) fun σ H Q ⟨B, ρ, G, α, r, h⟩ => by
    refine bE r h fun u ρ1 v H1 G1 α1 g1 r1 p1 h1 => ⟨show 2 ≤ sizeLine from by decide, fun q hq => ?_⟩
    split at h1
    · rename_i t e1
      split at h1
      · exact h1.elim
      · rename_i hd
        split at h1
        · rename_i b e2
          obtain ⟨r3, g3⟩ := r1.newD (o := .tup [.ty n, .ty m]) hq
          have p2 := pk_ok r3.toRh (p1.mono g3) e1
          have hdt : ∀ ks ts, t ≠ .dt ks ts := fun ks ts z => hd (by rw [z]; rfl)
          exact ⟨v, q, _, _, [.type n, .type m], b, rfl, upd_same, .cons (.ty n) (.cons (.ty m) .nil), ty_of r3.gh p2 (isiB2_obj e2) hdt, isiB2_kit e2, h1 _ α1 _ g3 r3 _ (by simp [RpU, Rp])⟩
        · exact h1.elim
    · exact h1.elim
/-! isinstance(x, C), x of C or a tuple -/
def mIsA (C : Addr) (m : DE) : DE := fun ρ => (m ρ).bind fun u ρ1 => match insOf C ρ1.st u with
  | some _ => .ok (.d (.bl true)) ρ1
  | none => match pk ρ1.st u with
    | some t => if isTupT t = true then .ok (.d (.bl false)) ρ1 else .no
    | none => .no
theorem fe_isA {x : Str} (g : Gc X.K X.mg x C) (z : Gz X.K C) (he : SE X W e ma) (hm : X.mg "isinstance" = none) (hg : Gl X "isinstance" := by rfl) (hgx : Gl X x := by rfl) (hs : starEach [e, .Name x p2] X.env = (false, eval e X.env) :: starEach [.Name x p2] X.env := by rfl)
    (hdx : (x == ("__debug__" : Str)) = false := by decide) : SE X W (.Call (.Name "isinstance" p) [e, .Name x p2] [] pos) (mIsA C ma) :=
  pe_weak (pe_callB call_isi hg hm (by decide +kernel) (pa_cons he (pa_cons (pe_glob hgx g.mg_ (v := .ref C) rfl hdx) pa_nil) hs) (by decide) (by decide) hs rfl) fun σ H Q ⟨B, ρ, G, α, r, h⟩ => by
    refine bE r h fun u ρ1 v H1 G1 α1 g1 r1 p1 h1 => ?_
    split at h1
    · rename_i q e1
      obtain ⟨ns, us⟩ := q
      obtain ⟨a, dx, vs, rfl, z1, z2, z3⟩ := insOf_ok r1.toRh p1 e1
      refine ⟨_, _, _, .ref C, true, rfl, .own C, .base (.ins z1 g.cl g.ha g.hn g.htk g.hm), ?_, h1 G1 α1 H1 Gr.refl r1 _ (by simp [RpU, Rp])⟩
      unfold PySem.W.kitOne
      rw [if_pos (by simp)]
    · split at h1
      · rename_i t e2
        split at h1
        · rename_i ht
          have p3 := pk_ok r1.toRh p1 e2
          have hty : TyX X.K H1 v (.type "tuple") := by
            cases t with
            | tup ts => obtain ⟨a, vs, rfl, h1, _⟩ := p3.tup; exact sq_ty r1.gh (SqT.of h1)
            | ktp ts => obtain ⟨a, vs, rfl, h1, _⟩ := p3.ktp; exact sq_ty r1.gh h1
            | _ => cases ht
          exact ⟨_, _, _, .ref C, false, rfl, .own C, hty, z.is, h1 G1 α1 H1 Gr.refl r1 _ (by simp [RpU, Rp])⟩
        · exact h1.elim
      · exact h1.elim
/-! len(o) -/
def asIn : R U → Option Int
  | .ok (.d (.int i)) ⟨[], []⟩ => some i
  | _ => none
theorem asIn_eq {r : R U} {b : Int} (h : asIn r = some b) : r = .ok (.d (.int b)) ⟨[], []⟩ := by
  unfold asIn at h
  split at h
  · rename_i b'
    simp only [Option.some.injEq] at h
    subst h
    rfl
  · cases h
def mLenO (C : Addr) (F : Fn) (m : DE) : DE := fun ρ => (m ρ).bind fun u ρ1 => match toD 4 u ρ1.st with
  | some (t, st) => if isObj C t = true then match asIn (F [] [.d t]) with
    | some i => if 0 ≤ i ∧ i < 4096 then .ok (.d (.int i)) ⟨ρ1.sl, st⟩ else .no
    | none => .no
    else .no
  | none => .no
theorem call_lenO {k j : Nat} {F : Fn} (M : Mn X.prog X.w X.K X.mg X.base k C "__len__" 1 F) (hr : Room j X.A) (hk : k + 1 ≤ j) : CallR X (.builtin "len") (fun xs H Q => ∃ a dx fs G t i, xs = [.ref a] ∧ H a = some (.ins C dx fs) ∧ Ex G H ∧ Rp X.K G t (.ref a) ∧ F [] [.d t] = .ok (.d (.int i)) ⟨[], []⟩ ∧ 0 ≤ i ∧ i < 4096 ∧ ∀ H', Ext H H' → Q (.int i) H') := by
  intro pins s σ H xs us Q I r h
  obtain ⟨a, dx, fs, G, t, i, rfl, ha, ge, p1, eF, h0, h1, q⟩ := h
  obtain ⟨u, rfl, rx⟩ := vals1 r
  obtain rfl : u = Value.ref a := rx
  obtain ⟨f, fd, ps, fo, c, mt, bd⟩ := M.ex
  have room : Room k X.A.in1 := (hr.mono hk).in1
  obtain ⟨mA, J, _⟩ := ins_get I.hok ha
  obtain ⟨od, J, _⟩ := J.look
  obtain ⟨m, hF⟩ := I.fr
  refine PySem.W.len_K hF I.ok.mod.kin J mt.at_ mt.fn ?_
  have hsp : spF X.K 1 F [.ref a] H (fun v H' => v = .int i ∧ Ext H H') (fun _ _ _ => False) := by
    refine ⟨rfl, H, [], G, [], [.d t], ⟨ge, Ex.refl H, rfl, by simp, fun i a o e1 e2 => by simp at e1⟩, ⟨_, _, rfl, p1, rfl⟩, ?_⟩
    rw [eF]
    intro G' α' H' v g' r' p
    have hv : v = .int i := by simpa [RpU, Rp] using p
    exact ⟨hv, fun a o h => r'.bh a o h⟩
  have hl := fo.len _ _ _ _ hsp
  have e0 : Env0 X.prog X.w X.K X.mg X.base X.A.in1 X.stack s H := by
    have e := I.env0
    exact ⟨e.frames, e.mod, e.bs, e.bsz, e.funs, e.frf, e.hok, e.bare⟩
  refine wpAny_call (codeAny_mono (fo.run X.A.in1 X.stack s H ⟨[.ref a], []⟩ [.ref a] [.ref a] _ (fun _ _ _ => False) room e0 (by
    have := bd s [.ref a] I.kIn (by simpa using hl)
    simpa using this) (.cons rfl .nil) hsp) fun r s' hq => ?_)
  cases r with
  | error e => exact passF (P := X.prog) (w := X.w) pins σ H s e s' I hq
  | ok fl =>
    cases fl with
    | ret w =>
      obtain ⟨z, H', I', rz, ez, ex⟩ := I.after hq
      subst ez
      obtain ⟨tk, rfl⟩ := rz
      exact ⟨⟨h0, by omega⟩, .int i, H', I'.tok _, ⟨_, rfl⟩, q H' ex⟩
    | next => exact False.elim hq
    | brk => exact False.elim hq
    | cont => exact False.elim hq
theorem fe_lenO {k j : Nat} {F : Fn} (M : Mn X.prog X.w X.K X.mg X.base k C "__len__" 1 F) (hr : Room j X.A) (hm : X.mg "len" = none) (he : SE X W e ma) (hk : k + 1 ≤ j := by decide) (hg : Gl X "len" := by rfl)
    (hs : starEach [e] X.env = (false, eval e X.env) :: starEach [] X.env := by rfl) : SE X W (.Call (.Name "len" p) [e] [] pos) (mLenO C F ma) :=
  pe_weak (pe_callB (call_lenO M hr hk) hg hm PySem.boot_len (pa_cons he pa_nil hs) (by decide) (by decide) hs rfl) fun σ H Q ⟨B, ρ, G, α, r, h⟩ => by
    refine bE r h fun u ρ1 v H1 G1 α1 g1 r1 p1 h1 => ?_
    split at h1
    · rename_i t st e1
      obtain ⟨G3, g3, r3, p3⟩ := toD_ok 4 r1.toRh p1 e1
      split at h1
      · rename_i hc
        split at h1
        · rename_i i eF
          split at h1
          · rename_i hi
            obtain ⟨a1, d1, f1, rfl, q1⟩ := rp_isObj hc p3
            refine ⟨a1, d1, f1, G3, t, i, rfl, r3.gh _ _ q1, r3.gh, p3, asIn_eq eF, hi.1, hi.2, fun H' ex => ?_⟩
            have r3' : Rs X.K B ⟨ρ1.sl, st⟩ G3 α1 σ H1 := Rs.mk' r1 g3 r3
            exact h1 G3 α1 H' g3 (r3'.ext ex) _ (by simp [RpU, Rp])
          · exact h1.elim
        · exact h1.elim
      · exact h1.elim
    · exact h1.elim
/-! -i -/
def mNeg (m : DE) : DE := fun ρ => (m ρ).bind fun u ρ1 => match u with
  | .d (.int i) => .ok (.d (.int (-i))) ρ1
  | _ => .no
theorem fe_neg (he : SE X W e ma) : SE X W (.UnaryOp .USub e pos) (mNeg ma) := pe_weak (pe_un un_neg he) fun σ H Q ⟨B, ρ, G, α, r, h⟩ =>
  bE r h fun u ρ1 v H1 G1 α1 g1 r1 p1 h1 => by
    split at h1
    · rename_i i
      have hv : v = .int i := by simpa [RpU, Rp] using p1
      subst hv
      exact ⟨i, rfl, h1 G1 α1 H1 Gr.refl r1 _ (by simp [RpU, Rp])⟩
    · exact h1.elim
end
theorem Gz.of {K : PySem.W.Frag} {C : Addr} (e1 : PySem.W.isClsIn K C = true) (e2 : PySem.W.typeIn K (.ref C) = some (.type "type")) (e3 : PySem.W.subIn K (.type "tuple") (.ref C) = some false) : Gz K C := by
  refine ⟨?_, ?_⟩
  · unfold PySem.W.kitOne PySem.W.kitCls
    rw [if_neg (by simp)]
    dsimp only
    unfold PySem.W.isClsIn at e1
    rw [e1, e2, if_pos (by simp)]
    exact e3
  · unfold PySem.W.notFirst
    rw [e3]
    simp
end FL

/-! FL37: for over a list of one's own, that is not frozen by it. -/
namespace FL
open PySem L2 PyProof.Rows

def forO (g : DG) (b : DS) (j : Nat) : Nat → Nat → Sg → F
  | 0, _, _ => .no
  | n + 1, i, ρ => match ρ.st[j]? with
    | some (.lst ts) => match ts[i]? with
      | none => .nx ρ
      | some t => match g (.d t) ρ with
        | .ok _ ρ1 => match b ρ1 with
          | .nx ρ2 => forO g b j n (i + 1) ρ2
          | .ct ρ2 => forO g b j n (i + 1) ρ2
          | .bk ρ2 => .nx ρ2
          | .rt u ρ2 => .rt u ρ2
          | .ex x ρ2 => .ex x ρ2
          | .no => .no
        | .ex x ρ1 => .ex x ρ1
        | .no => .no
    | _ => .no
def mForO (n : Nat) (m : DE) (g : DG) (b : DS) : DS := fun ρ => (m ρ).thn fun u ρ1 => match u with
  | .own j => forO g b j n 0 ρ1
  | _ => .no
section
variable {X : Cx} {W : WX} {e tg : Expr} {body : List Stmt} {ma : DE} {g : DG} {b : DS} {pos : Pos}
theorem forO_at {K : PySem.W.Frag} {B G H : Hp} {α : List Addr} {σ : L2.St} {ρ : Sg} {D : Ends} {j m i : Nat} {a : Addr} (r : Rs K B ρ G α σ H) (ha : α[j]? = some a) (h : okF K W B G α (forO g b j m i ρ) D) :
    ∃ ts vs, ρ.st[j]? = some (.lst ts) ∧ H a = some (.lst vs) ∧ Rps K G ts vs := by
  cases m with
  | zero => exact h.elim
  | succ m =>
    unfold forO at h
    split at h
    · rename_i ts e
      obtain ⟨_, _, _, vs, q1, q2⟩ := r.ow j a _ ha e
      exact ⟨ts, vs, e, q1, q2⟩
    · exact h.elim
theorem fs_forO (n : Nat) (hc : X.calm = true) (ct : Ct X W) (he : SE X W e ma) (hg : SG X W tg g) (hb : SSs X W body b) (hs : ∀ x, foldedSetIterable e X.env x = pure x := by intro _; rfl) : SS X W (.For tg e body [] pos) (mForO n ma g b) :=
  ps_weak (ps_for ct.hp hc (pi_list he) hg hb hs) fun D σ H ⟨B, ρ, G, α, r, h⟩ => by
    show tE X.K W ma σ H _
    refine sE r h fun u ρ1 v H1 G1 α1 g1 r1 p1 h1 => ?_
    split at h1
    · rename_i j
      obtain ⟨a, ha, rfl⟩ := p1
      obtain ⟨ts0, vs0, _, z2, _⟩ := forO_at r1 ha h1
      refine ⟨a, rfl, ⟨vs0, .inl (.inl z2)⟩, fun i m σ' H' => ∃ ρ' G' α', Gr B G1 α1 G' α' ∧ Rs X.K B ρ' G' α' σ' H' ∧ okF X.K W B G' α' (forO g b j m i ρ') D, ⟨n, ρ1, G1, α1, Gr.refl, r1, h1⟩, ?_⟩
      rintro i m σ' H' ⟨ρ', G', α', g', r', ho⟩
      obtain ⟨ts, vs, e1, e2, e3⟩ := forO_at r' (g'.get ha) ho
      cases m with
      | zero => exact ho.elim
      | succ m =>
        unfold forO at ho
        rw [e1] at ho
        dsimp only at ho
        have hq : SqL X.K H' a vs := .inl (.inl e2)
        cases et : ts[i]? with
        | none =>
          rw [et] at ho
          refine .inl ⟨⟨vs, hq, ?_⟩, ho G' α' σ' H' Gr.refl r'⟩
          have := List.getElem?_eq_none_iff.mp et
          rw [← e3.length]
          exact this
        | some t =>
          rw [et] at ho
          dsimp only at ho
          obtain ⟨v, hv, pv⟩ := e3.get et
          refine .inr ⟨⟨vs, v, hq, hv⟩, fun σ2 H2 => ∃ ρ2 G2 α2, Gr B G1 α1 G2 α2 ∧ Rs X.K B ρ2 G2 α2 σ2 H2 ∧ okF X.K W B G2 α2 (forO g b j m (i + 1) ρ2) D, fun σ2 H2 q => ⟨m, Nat.lt_succ_self m, q⟩, fun x H'' y => ?_⟩
          obtain ⟨ey, y⟩ := y
          subst ey
          have hx := y vs hq
          rw [hv] at hx
          cases hx
          refine ⟨B, ρ', G', α', .d t, r', pv, ?_⟩
          cases eg : g (.d t) ρ' with
          | ex x ρ3 => rw [eg] at ho; exact ho
          | no => rw [eg] at ho; exact ho
          | ok _ ρ3 =>
            rw [eg] at ho
            dsimp only at ho
            intro G3 α3 σ3 H3 g3 r3
            refine ⟨B, ρ3, G3, α3, r3, ?_⟩
            have ho := okF.shift g3 ho
            have gg := g'.trans g3
            cases eb : b ρ3 with
            | nx ρ4 => rw [eb] at ho; exact fun G4 α4 σ4 H4 g4 r4 => ⟨ρ4, G4, α4, gg.trans g4, r4, okF.shift g4 ho⟩
            | ct ρ4 => rw [eb] at ho; exact fun G4 α4 σ4 H4 g4 r4 => ⟨ρ4, G4, α4, gg.trans g4, r4, okF.shift g4 ho⟩
            | bk ρ4 => rw [eb] at ho; exact ho
            | rt u ρ4 => rw [eb] at ho; exact ho
            | ex x ρ4 => rw [eb] at ho; exact ho
            | no => rw [eb] at ho; exact ho
    · exact h1.elim
end
end FL

/-! the walks of stretchloops_k01_programs_told, printed by gen.py -/
namespace FL
open PySem L2 PyProof.Rows
def top (i : Nat) : Stmt := PySem.Challenge.pw_stretchloops_k01_programs_told.main.body.getD i (.Pass ⟨0, 0, 0, 0⟩)
abbrev S_Program_eq : Stmt := inClass (top 21) 5
abbrev S_words_in : Stmt := top 17
abbrev S_is_formed : Stmt := top 15
abbrev S_blocks_of : Stmt := top 18
abbrev S_walked : Stmt := top 19
abbrev S_is_one_of : Stmt := top 12
abbrev S_is_test : Stmt := top 14
abbrev S_is_term : Stmt := top 13
abbrev S_is_statement : Stmt := top 16
abbrev S_check_block : Stmt := top 20
abbrev S_Program_init : Stmt := inClass (top 21) 0
abbrev S_Program_with_sorting : Stmt := inClass (top 21) 8
abbrev S__law_made : Stmt := top 34
abbrev S__law_taken : Stmt := top 24
abbrev S_is_path : Stmt := top 22
abbrev S_Program_statement : Stmt := inClass (top 21) 7
abbrev S__law_refused : Stmt := top 35
abbrev S_Program_paths : Stmt := inClass (top 21) 6
abbrev S_Program_len : Stmt := inClass (top 21) 4
abbrev S_Program_last : Stmt := inClass (top 21) 3
abbrev S_Program_block : Stmt := inClass (top 21) 2
abbrev S_Program_sorting : Stmt := inClass (top 21) 1
abbrev S__law_all : Stmt := top 29
abbrev S__law_term : Stmt := top 25
abbrev S__law_test : Stmt := top 26
abbrev S__law_statement : Stmt := top 27
abbrev S__law_block : Stmt := top 28
abbrev S__law_known : Stmt := top 30
abbrev S__law_drawn : Stmt := top 31
abbrev S_law : Stmt := top 36
abbrev S_xUnknownPath : Stmt := inClass (top 3) 0
theorem sc_xUnknownPath : FnScope ["self", "path"] ["self", "path"] (defScope S_xUnknownPath) := ⟨rfl, rfl, rfl, by decide +kernel, rfl, by decide +kernel, by decide +kernel⟩
theorem bi_xUnknownPath : Bnd "__init__" "UnknownPath.__init__" S_xUnknownPath ["self", "path"] := fun _ _ _ _ _ _ us hl => match us, hl with | [_, _], _ => rfl
abbrev N_Program_eq : List Str := ["self", "other"]
abbrev N_words_in : List Str := ["statement", "terms", "term", "word"]
abbrev N_is_formed : List Str := ["thing"]
abbrev N_blocks_of : List Str := ["thing"]
abbrev N_walked : List Str := ["block", "head", "found", "index", "thing", "path", "number", "inner"]
abbrev N_is_one_of : List Str := ["thing", "words"]
abbrev N_is_test : List Str := ["thing", "words", "word"]
abbrev N_is_term : List Str := ["thing", "words", "word"]
abbrev N_is_statement : List Str := ["thing", "words"]
abbrev N_check_block : List Str := ["thing", "name", "words", "rows", "path", "statement"]
abbrev N_Program_init : List Str := ["self", "sorting", "block", "last", "statement", "word"]
abbrev N_Program_with_sorting : List Str := ["self", "sorting"]
abbrev N__law_made : List Str := ["_law_d"]
abbrev N__law_taken : List Str := ["_law_row_here", "_law_many", "_law_cell", "_law_found"]
abbrev N_is_path : List Str := ["thing", "part"]
abbrev N_Program_statement : List Str := ["self", "path", "other", "statement"]
abbrev N__law_refused : List Str := ["_law_program", "_law_path", "_law_told", "e"]
abbrev N_Program_paths : List Str := ["self", "word", "path", "statement"]
abbrev N_Program_len : List Str := ["self"]
abbrev N_Program_last : List Str := ["self"]
abbrev N_Program_block : List Str := ["self"]
abbrev N_Program_sorting : List Str := ["self"]
abbrev N__law_all : List Str := ["_law_block_here", "_law_base", "_law_found", "_law_k", "_law_number"]
abbrev N__law_term : List Str := ["_law_row_here", "_law_words", "_law_first", "_law_second"]
abbrev N__law_test : List Str := ["_law_row_here", "_law_words", "_law_first", "_law_second"]
abbrev N__law_statement : List Str := ["_law_row_here", "_law_words", "_law_deep", "_law_turn_of", "_law_test_here"]
abbrev N__law_block : List Str := ["_law_row_here", "_law_words", "_law_deep", "_law_most", "_law_k"]
abbrev N__law_known : List Str := ["_law_row_here", "_law_fresh", "_law_longer", "_law_test_here", "_law_some", "_law_first", "_law_second"]
abbrev N__law_drawn : List Str := ["_law_row_here", "_law_d"]
abbrev N_law : List Str := ["_law_script", "_law_row_here", "_law_before", "_law_turn", "_law_d", "_law_program", "_law_rows", "_law_word", "_law_odd", "_law_path", "_law_other", "_law_statement_here", "_law_one", "_law_old"]
def g_CHOICES : T := .ktp [.str "least", .str "greatest"]
def g_LENGTHS : List (Str × Int) := [("keep", 3), ("give", 3), ("if", 4)]
def g_MOST_AROUND : T := .int 2
def g_MOST_STATEMENTS : T := .int 8
def g_PLACES : T := .ktp [.str "one", .str "two"]
def g_SORTINGS : T := .ktp [.str "none", .str "begin", .str "end", .str "begin down", .str "end down"]
def g_TERMS : T := .ktp [.str "begin", .str "end", .str "one", .str "two"]
theorem sc_Program_eq : FnScope N_Program_eq ["self", "other"] (defScope S_Program_eq) := ⟨rfl, rfl, rfl, by decide +kernel, rfl, by decide +kernel, by decide +kernel⟩
theorem sc_words_in : FnScope N_words_in ["statement"] (defScope S_words_in) := ⟨rfl, rfl, rfl, by decide +kernel, rfl, by decide +kernel, by decide +kernel⟩
theorem sc_is_formed : FnScope N_is_formed ["thing"] (defScope S_is_formed) := ⟨rfl, rfl, rfl, by decide +kernel, rfl, by decide +kernel, by decide +kernel⟩
theorem sc_blocks_of : FnScope N_blocks_of ["thing"] (defScope S_blocks_of) := ⟨rfl, rfl, rfl, by decide +kernel, rfl, by decide +kernel, by decide +kernel⟩
theorem sc_walked : FnScope N_walked ["block", "head"] (defScope S_walked) := ⟨rfl, rfl, rfl, by decide +kernel, rfl, by decide +kernel, by decide +kernel⟩
theorem sc_is_one_of : FnScope N_is_one_of ["thing", "words"] (defScope S_is_one_of) := ⟨rfl, rfl, rfl, by decide +kernel, rfl, by decide +kernel, by decide +kernel⟩
theorem sc_is_test : FnScope N_is_test ["thing", "words"] (defScope S_is_test) := ⟨rfl, rfl, rfl, by decide +kernel, rfl, by decide +kernel, by decide +kernel⟩
theorem sc_is_term : FnScope N_is_term ["thing", "words"] (defScope S_is_term) := ⟨rfl, rfl, rfl, by decide +kernel, rfl, by decide +kernel, by decide +kernel⟩
theorem sc_is_statement : FnScope N_is_statement ["thing", "words"] (defScope S_is_statement) := ⟨rfl, rfl, rfl, by decide +kernel, rfl, by decide +kernel, by decide +kernel⟩
theorem sc_check_block : FnScope N_check_block ["thing", "name", "words"] (defScope S_check_block) := ⟨rfl, rfl, rfl, by decide +kernel, rfl, by decide +kernel, by decide +kernel⟩
theorem sc_Program_init : FnScope N_Program_init ["self", "sorting", "block", "last"] (defScope S_Program_init) := ⟨rfl, rfl, rfl, by decide +kernel, rfl, by decide +kernel, by decide +kernel⟩
theorem sc_Program_with_sorting : FnScope N_Program_with_sorting ["self", "sorting"] (defScope S_Program_with_sorting) := ⟨rfl, rfl, rfl, by decide +kernel, rfl, by decide +kernel, by decide +kernel⟩
theorem sc__law_made : FnScope N__law_made ["_law_d"] (defScope S__law_made) := ⟨rfl, rfl, rfl, by decide +kernel, rfl, by decide +kernel, by decide +kernel⟩
theorem sc__law_taken : FnScope N__law_taken ["_law_row_here", "_law_many"] (defScope S__law_taken) := ⟨rfl, rfl, rfl, by decide +kernel, rfl, by decide +kernel, by decide +kernel⟩
theorem sc_is_path : FnScope N_is_path ["thing"] (defScope S_is_path) := ⟨rfl, rfl, rfl, by decide +kernel, rfl, by decide +kernel, by decide +kernel⟩
theorem sc_Program_statement : FnScope N_Program_statement ["self", "path"] (defScope S_Program_statement) := ⟨rfl, rfl, rfl, by decide +kernel, rfl, by decide +kernel, by decide +kernel⟩
theorem sc__law_refused : FnScope N__law_refused ["_law_program", "_law_path"] (defScope S__law_refused) := ⟨rfl, rfl, rfl, by decide +kernel, rfl, by decide +kernel, by decide +kernel⟩
theorem sc_Program_paths : GScope N_Program_paths ["self", "word"] (defScope S_Program_paths) := ⟨rfl, rfl, rfl, by decide +kernel, rfl, by decide +kernel, by decide +kernel⟩
theorem sc_Program_len : FnScope N_Program_len ["self"] (defScope S_Program_len) := ⟨rfl, rfl, rfl, by decide +kernel, rfl, by decide +kernel, by decide +kernel⟩
theorem sc_Program_last : FnScope N_Program_last ["self"] (defScope S_Program_last) := ⟨rfl, rfl, rfl, by decide +kernel, rfl, by decide +kernel, by decide +kernel⟩
theorem sc_Program_block : FnScope N_Program_block ["self"] (defScope S_Program_block) := ⟨rfl, rfl, rfl, by decide +kernel, rfl, by decide +kernel, by decide +kernel⟩
theorem sc_Program_sorting : FnScope N_Program_sorting ["self"] (defScope S_Program_sorting) := ⟨rfl, rfl, rfl, by decide +kernel, rfl, by decide +kernel, by decide +kernel⟩
theorem sc__law_all : FnScope N__law_all ["_law_block_here", "_law_base"] (defScope S__law_all) := ⟨rfl, rfl, rfl, by decide +kernel, rfl, by decide +kernel, by decide +kernel⟩
theorem sc__law_term : FnScope N__law_term ["_law_row_here", "_law_words"] (defScope S__law_term) := ⟨rfl, rfl, rfl, by decide +kernel, rfl, by decide +kernel, by decide +kernel⟩
theorem sc__law_test : FnScope N__law_test ["_law_row_here", "_law_words"] (defScope S__law_test) := ⟨rfl, rfl, rfl, by decide +kernel, rfl, by decide +kernel, by decide +kernel⟩
theorem sc__law_statement : FnScope N__law_statement ["_law_row_here", "_law_words", "_law_deep"] (defScope S__law_statement) := ⟨rfl, rfl, rfl, by decide +kernel, rfl, by decide +kernel, by decide +kernel⟩
theorem sc__law_block : FnScope N__law_block ["_law_row_here", "_law_words", "_law_deep", "_law_most"] (defScope S__law_block) := ⟨rfl, rfl, rfl, by decide +kernel, rfl, by decide +kernel, by decide +kernel⟩
theorem sc__law_known : FnScope N__law_known ["_law_row_here"] (defScope S__law_known) := ⟨rfl, rfl, rfl, by decide +kernel, rfl, by decide +kernel, by decide +kernel⟩
theorem sc__law_drawn : FnScope N__law_drawn ["_law_row_here"] (defScope S__law_drawn) := ⟨rfl, rfl, rfl, by decide +kernel, rfl, by decide +kernel, by decide +kernel⟩
theorem sc_law : FnScope N_law ["_law_script"] (defScope S_law) := ⟨rfl, rfl, rfl, by decide +kernel, rfl, by decide +kernel, by decide +kernel⟩
/-- the facts of the module -/
structure Tx (K : PySem.W.Frag) (w : World) (mg : Str → Option Value) (C_Program : Addr) (C_StretchError : Addr) (C_UnknownPath : Addr) : Prop where
  a_Program_body : NoAttr K C_Program "body"
  a_Program_ending : NoAttr K C_Program "ending"
  a_Program_order : NoAttr K C_Program "order"
  a_Program_rows : NoAttr K C_Program "rows"
  a_Program_words : NoAttr K C_Program "words"
  c_Program : Cls K C_Program
  e_StretchError : Ec K mg "StretchError" C_StretchError
  e_UnknownPath : Ec K mg "UnknownPath" C_UnknownPath
  g_CHOICES : Gk K mg "CHOICES" FL.g_CHOICES
  g_LENGTHS : Gd K w mg "LENGTHS" FL.g_LENGTHS
  g_MOST_AROUND : Gk K mg "MOST_AROUND" FL.g_MOST_AROUND
  g_MOST_STATEMENTS : Gk K mg "MOST_STATEMENTS" FL.g_MOST_STATEMENTS
  g_PLACES : Gk K mg "PLACES" FL.g_PLACES
  g_SORTINGS : Gk K mg "SORTINGS" FL.g_SORTINGS
  g_TERMS : Gk K mg "TERMS" FL.g_TERMS
  n_all : mg "all" = none
  n_bool : mg "bool" = none
  n_dict : mg "dict" = none
  n_enumerate : mg "enumerate" = none
  n_int : mg "int" = none
  n_isinstance : mg "isinstance" = none
  n_len : mg "len" = none
  n_list : mg "list" = none
  n_range : mg "range" = none
  n_str : mg "str" = none
  n_tuple : mg "tuple" = none
  o_Program : Gc K mg "Program" C_Program
  v_StretchError : Dv K mg "StretchError" C_StretchError
  w_UnknownPath_StretchError : Below K C_UnknownPath C_StretchError true
  w_UnknownPath_UnknownPath : Below K C_UnknownPath C_UnknownPath true
  xn_UnknownPath_path : PySem.W.findIn K (.ref C_UnknownPath) "path" = some none
  xo_UnknownPath : OexC K C_UnknownPath
  z_Program : Gz K C_Program
section
variable {P : Program} {w : World} {K : PySem.W.Frag} {mg : Str → Option Value} {base : Heap} {k : Nat} {C_Program : Addr} {C_StretchError : Addr} {C_UnknownPath : Addr}
def d_Program_eq (C_Program : Addr) : DS := (mSeq (mIfS (mOrT (mNotT (mTest (mIsA C_Program (mVar 1)))) (mTOp neF (mFld C_Program "order" (mVar 0)) (mFld C_Program "order" (mVar 1)))) (mRet (mC (.bl false))) mNx) (mRet (mBAnd (mOp eqF (mFld C_Program "body" (mVar 0)) (mFld C_Program "body" (mVar 1))) (mOp eqF (mFld C_Program "ending" (mVar 0)) (mFld C_Program "ending" (mVar 1))))))
theorem b_Program_eq (T : Tx K w mg C_Program C_StretchError C_UnknownPath) {f : Addr} : Body P w K mg base N_Program_eq "Program.__eq__" f k (defScope S_Program_eq) (defBody S_Program_eq) (d_Program_eq C_Program) := fun cdv A outer s H E hr ct =>
  (fss_cons (fs_if (SW.pt (fw_or (ft_not (ft_val (fe_isA T.o_Program T.z_Program (fe_var 1) T.n_isinstance))) (fw_or1 (ft_ne hr.units (fe_fld T.c_Program T.a_Program_order (fe_var 0)) (fe_fld T.c_Program T.a_Program_order (fe_var 1)))))) (fss_one (fs_ret fe_bl)) fss_nil) (fss_one (fs_ret (fe_and (fe_eq hr.units (fe_fld T.c_Program T.a_Program_body (fe_var 0)) (fe_fld T.c_Program T.a_Program_body (fe_var 1))) (fe_one (fe_eq hr.units (fe_fld T.c_Program T.a_Program_ending (fe_var 0)) (fe_fld T.c_Program T.a_Program_ending (fe_var 1))))))))
def d_words_in : DS := (mSeq (mSet 1 (mOp ixAF (mDisp ["keep", "give", "if"] (aCons (mSl (mVar 0) (mPS (mC (.int 2))) mPN) (aCons (mSl (mVar 0) (mPS (mC (.int 1))) mPN) (aCons (mSl (mOp ixAF (mVar 0) (mC (.int 1))) (mPS (mC (.int 1))) mPN) aNil)))) (mOp ixAF (mVar 0) (mC (.int 0))))) (mRet (mLc2 (iSeq (mVar 1)) (gN 2) mYes (iSeq (mIf (mTest (mIsi "tuple" (mVar 2))) (mSl (mVar 2) (mPS (mC (.int 1))) mPN) (mTup (aCons (mVar 2) aNil)))) (gN 3) mYes (mVar 3) [2, 3] [3])))
theorem b_words_in (T : Tx K w mg C_Program C_StretchError C_UnknownPath) {f : Addr} : Body P w K mg base N_words_in "words_in" f k (defScope S_words_in) (defBody S_words_in) (d_words_in) := fun cdv A outer s H E hr ct =>
  (fss_cons (fs_set 1 sc_words_in.nd (fe_ixA (huS hr) (fe_disp (sps_cons (fe_slice (fe_var 0) (fo_some fe_int) fo_none) (sps_cons (fe_slice (fe_var 0) (fo_some fe_int) fo_none) (sps_cons (fe_slice (fe_ixA (huS hr) (fe_var 0) fe_int) (fo_some fe_int) fo_none) sps_nil)))) (fe_ixA (huS hr) (fe_var 0) fe_int))) (fss_one (fs_ret (fe_lc2 [("term", 2), ("word", 3)] [3] rfl sc_words_in.nd (fi_seq (fe_var 1)) (blkOk_by (N := N_words_in) (sc := defScope S_words_in) (by decide +kernel)) (by decide) (fun _ _ _ _ _ => (fgv_name 2 sc_words_in.nd)) (fun _ _ _ _ _ => fq_nil) (fun _ _ _ _ _ => (fi_seq (fe_if (ft_val (fe_isi rfl T.n_isinstance rfl T.n_tuple (by decide +kernel) (fe_var 2))) (fe_slice (fe_var 2) (fo_some fe_int) fo_none) (fe_tup (fa_cons (fe_var 2) fa_nil))))) (fun _ _ _ _ _ => (fgv_name 3 sc_words_in.nd)) (fun _ _ _ _ _ => fq_nil) (fun _ _ _ _ _ => (fe_var 3))))))
def d_is_formed : DS := (mSeq (mIfS (mOrT (mNotT (mTest (mIsi "tuple" (mVar 0)))) (mOrT (mTOp eqF (mCa lenF (aCons (mVar 0) aNil)) (mC (.int 0))) (mNotT (mTest (mIsi "str" (mOp ixAF (mVar 0) (mC (.int 0)))))))) (mRet (mC (.bl false))) mNx) (mRet (mBAnd (mInK g_LENGTHS (mOp ixAF (mVar 0) (mC (.int 0)))) (mOp eqF (mCa lenF (aCons (mVar 0) aNil)) (mIxK g_LENGTHS (mOp ixAF (mVar 0) (mC (.int 0))))))))
theorem b_is_formed (T : Tx K w mg C_Program C_StretchError C_UnknownPath) {f : Addr} : Body P w K mg base N_is_formed "is_formed" f k (defScope S_is_formed) (defBody S_is_formed) (d_is_formed) := fun cdv A outer s H E hr ct =>
  (fss_cons (fs_if (SW.pt (fw_or (ft_not (ft_val (fe_isi rfl T.n_isinstance rfl T.n_tuple (by decide +kernel) (fe_var 0)))) (fw_or (ft_eq hr.units (fe_len rfl T.n_len (fa_cons (fe_var 0) fa_nil)) fe_int) (fw_or1 (ft_not (ft_val (fe_isi rfl T.n_isinstance rfl T.n_str (by decide +kernel) (fe_ixA (huS hr) (fe_var 0) fe_int)))))))) (fss_one (fs_ret fe_bl)) fss_nil) (fss_one (fs_ret (fe_and (fe_inKd T.g_LENGTHS (fe_ixA (huS hr) (fe_var 0) fe_int)) (fe_one (fe_eq hr.units (fe_len rfl T.n_len (fa_cons (fe_var 0) fa_nil)) (fe_ixKd T.g_LENGTHS (fe_ixA (huS hr) (fe_var 0) fe_int))))))))
def d_blocks_of (F_is_formed : Fn) : DS := (mRet (mIf (mAndT (mTest (mCall 1 F_is_formed [false] (aCons (mVar 0) aNil))) (mTOp eqF (mOp ixAF (mVar 0) (mC (.int 0))) (mC (.str "if")))) (mCa listF (aCons (mSl (mVar 0) (mPS (mC (.int 2))) mPN) aNil)) (mLst aNil)))
theorem b_blocks_of (T : Tx K w mg C_Program C_StretchError C_UnknownPath) {F_is_formed : Fn} {f : Addr} (D_is_formed : Dn P w K mg base k "is_formed" 1 F_is_formed) : Body P w K mg base N_blocks_of "blocks_of" f k (defScope S_blocks_of) (defBody S_blocks_of) (d_blocks_of F_is_formed) := fun cdv A outer s H E hr ct =>
  (fss_one (fs_ret (fe_if (SW.pt (fw_and (ft_val (fe_call ct.tk D_is_formed [false] hr (fa_cons (fe_var 0) fa_nil) (Nat.le_refl _))) (fw_and1 (ft_eq hr.units (fe_ixA (huS hr) (fe_var 0) fe_int) fe_str)))) (fe_list rfl T.n_list (fa_cons (fe_slice (fe_var 0) (fo_some fe_int) fo_none) fa_nil)) (fe_lst fa_nil))))
def d_walked (F_blocks_of : Fn) (F_walked : Fn) : DS := (mSeq (mSet 2 (mLst aNil)) (mSeq (mFor (iEnumD (aCons (mVar 0) aNil)) (gT 2 (gsCons (gN 3) (gsCons (gN 4) gsNil))) (mSeq (mSet 5 (mOp addF (mVar 1) (mTup (aCons (mVar 3) aNil)))) (mSeq (mDrop (mApp (mVar 2) (mTup (aCons (mVar 5) (aCons (mVar 4) aNil))))) (mFor (iEnumD (aCons (mCall 1 F_blocks_of [false] (aCons (mVar 4) aNil)) aNil)) (gT 2 (gsCons (gN 6) (gsCons (gN 7) gsNil))) (mIfS (mTest (mIsi "tuple" (mVar 7))) (mDrop (mExt (mVar 2) (mCall 2 F_walked [false, false] (aCons (mVar 7) (aCons (mOp addF (mVar 5) (mTup (aCons (mVar 6) aNil))) aNil))))) mNx))))) (mRet (mVar 2))))
theorem b_walked (T : Tx K w mg C_Program C_StretchError C_UnknownPath) {F_blocks_of : Fn} {F_walked : Fn} {f : Addr} (D_blocks_of : Dn P w K mg base k "blocks_of" 1 F_blocks_of) (D_walked : Dn P w K mg base k "walked" 2 F_walked) : Body P w K mg base N_walked "walked" f k (defScope S_walked) (defBody S_walked) (d_walked F_blocks_of F_walked) := fun cdv A outer s H E hr ct =>
  (fss_cons (fs_set 2 sc_walked.nd (fe_lst fa_nil)) (fss_cons (fs_for rfl ct (fi_enum rfl T.n_enumerate (fa_cons (fe_var 0) fa_nil)) (fg_tup rfl (fgs_cons (fg_name 3 sc_walked.nd) (fgs_cons (fg_name 4 sc_walked.nd) fgs_nil))) (fss_cons (fs_set 5 sc_walked.nd (fe_add (fe_var 1) (fe_tup (fa_cons (fe_var 3) fa_nil)))) (fss_cons (fs_expr (fe_app (fe_var 2) (fe_tup (fa_cons (fe_var 5) (fa_cons (fe_var 4) fa_nil))))) (fss_one (fs_for rfl ct (fi_enum rfl T.n_enumerate (fa_cons (fe_call ct.tk D_blocks_of [false] hr (fa_cons (fe_var 4) fa_nil) (Nat.le_refl _)) fa_nil)) (fg_tup rfl (fgs_cons (fg_name 6 sc_walked.nd) (fgs_cons (fg_name 7 sc_walked.nd) fgs_nil))) (fss_one (fs_if (ft_val (fe_isi rfl T.n_isinstance rfl T.n_tuple (by decide +kernel) (fe_var 7))) (fss_one (fs_expr (fe_ext (fe_var 2) (fe_call ct.tk D_walked [false, false] hr (fa_cons (fe_var 7) (fa_cons (fe_add (fe_var 5) (fe_tup (fa_cons (fe_var 6) fa_nil))) fa_nil)) (Nat.le_refl _))))) fss_nil))))))) (fss_one (fs_ret (fe_var 2)))))
def d_is_one_of : DS := (mRet (mBAnd (mIsi "str" (mVar 0)) (mOp (inF false) (mVar 0) (mVar 1))))
theorem b_is_one_of (T : Tx K w mg C_Program C_StretchError C_UnknownPath) {f : Addr} : Body P w K mg base N_is_one_of "is_one_of" f k (defScope S_is_one_of) (defBody S_is_one_of) (d_is_one_of) := fun cdv A outer s H E hr ct =>
  (fss_one (fs_ret (fe_and (fe_isi rfl T.n_isinstance rfl T.n_str (by decide +kernel) (fe_var 0)) (fe_one (fe_in (fe_var 0) (fe_var 1))))))
def d_is_test (F_is_one_of : Fn) : DS := (mSeq (mIfS (mOrT (mNotT (mTest (mIsi "tuple" (mVar 0)))) (mOrT (mTOp eqF (mCa lenF (aCons (mVar 0) aNil)) (mC (.int 0))) (mNotT (mTest (mIsi "str" (mOp ixAF (mVar 0) (mC (.int 0)))))))) (mRet (mC (.bl false))) mNx) (mSeq (mIfS (mTOp eqF (mOp ixAF (mVar 0) (mC (.int 0))) (mC (.str "sort"))) (mRet (mBAnd (mOp (inF false) (mC (.str "begin")) (mVar 1)) (mBAnd (mOp eqF (mCa lenF (aCons (mVar 0) aNil)) (mC (.int 2))) (mCall 2 F_is_one_of [false, false] (aCons (mOp ixAF (mVar 0) (mC (.int 1))) (aCons (mTup (aCons (mC (.str "a")) aNil)) aNil)))))) mNx) (mRet (mBAnd (mOp (inF false) (mOp ixAF (mVar 0) (mC (.int 0))) (mTup (aCons (mC (.str "less")) (aCons (mC (.str "same")) aNil)))) (mBAnd (mOp eqF (mCa lenF (aCons (mVar 0) aNil)) (mC (.int 3))) (mCa (allF false) (aCons (mLc (iSeq (mSl (mVar 0) (mPS (mC (.int 1))) mPN)) (gN 2) mYes (mCall 2 F_is_one_of [false, false] (aCons (mVar 2) (aCons (mVar 1) aNil))) [2]) aNil)))))))
theorem b_is_test (T : Tx K w mg C_Program C_StretchError C_UnknownPath) {F_is_one_of : Fn} {f : Addr} (D_is_one_of : Dn P w K mg base k "is_one_of" 2 F_is_one_of) : Body P w K mg base N_is_test "is_test" f k (defScope S_is_test) (defBody S_is_test) (d_is_test F_is_one_of) := fun cdv A outer s H E hr ct =>
  (fss_cons (fs_if (SW.pt (fw_or (ft_not (ft_val (fe_isi rfl T.n_isinstance rfl T.n_tuple (by decide +kernel) (fe_var 0)))) (fw_or (ft_eq hr.units (fe_len rfl T.n_len (fa_cons (fe_var 0) fa_nil)) fe_int) (fw_or1 (ft_not (ft_val (fe_isi rfl T.n_isinstance rfl T.n_str (by decide +kernel) (fe_ixA (huS hr) (fe_var 0) fe_int)))))))) (fss_one (fs_ret fe_bl)) fss_nil) (fss_cons (fs_if (ft_eq hr.units (fe_ixA (huS hr) (fe_var 0) fe_int) fe_str) (fss_one (fs_ret (fe_and (fe_in fe_str (fe_var 1)) (fe_and (fe_eq hr.units (fe_len rfl T.n_len (fa_cons (fe_var 0) fa_nil)) fe_int) (fe_one (fe_call ct.tk D_is_one_of [false, false] hr (fa_cons (fe_ixA (huS hr) (fe_var 0) fe_int) (fa_cons (fe_tup (fa_cons fe_str fa_nil)) fa_nil)) (Nat.le_refl _))))))) fss_nil) (fss_one (fs_ret (fe_and (fe_in (fe_ixA (huS hr) (fe_var 0) fe_int) (fe_tup (fa_cons fe_str (fa_cons fe_str fa_nil)))) (fe_and (fe_eq hr.units (fe_len rfl T.n_len (fa_cons (fe_var 0) fa_nil)) fe_int) (fe_one (fe_all rfl rfl T.n_all (fa_cons (fe_lc [("word", 2)] rfl sc_is_test.nd (fi_seq (fe_slice (fe_var 0) (fo_some fe_int) fo_none)) (blkOk_by (N := N_is_test) (sc := defScope S_is_test) (by decide +kernel)) (fun _ _ _ _ _ => (fgv_name 2 sc_is_test.nd)) (fun _ _ _ _ _ => fq_nil) (fun _ _ _ _ _ => (fe_call tk0 D_is_one_of [false, false] hr (fa_cons (fe_var 2) (fa_cons (fe_var 1) fa_nil)) (Nat.le_refl _)))) fa_nil)))))))))
def d_is_term (F_is_one_of : Fn) : DS := (mSeq (mIfS (mNotT (mTest (mIsi "tuple" (mVar 0)))) (mRet (mCall 2 F_is_one_of [false, false] (aCons (mVar 0) (aCons (mVar 1) aNil)))) mNx) (mRet (mBAnd (mOp eqF (mCa lenF (aCons (mVar 0) aNil)) (mC (.int 3))) (mBAnd (mCall 2 F_is_one_of [false, false] (aCons (mOp ixAF (mVar 0) (mC (.int 0))) (aCons (mC g_CHOICES) aNil))) (mCa (allF false) (aCons (mLc (iSeq (mSl (mVar 0) (mPS (mC (.int 1))) mPN)) (gN 2) mYes (mCall 2 F_is_one_of [false, false] (aCons (mVar 2) (aCons (mVar 1) aNil))) [2]) aNil))))))
theorem b_is_term (T : Tx K w mg C_Program C_StretchError C_UnknownPath) {F_is_one_of : Fn} {f : Addr} (D_is_one_of : Dn P w K mg base k "is_one_of" 2 F_is_one_of) : Body P w K mg base N_is_term "is_term" f k (defScope S_is_term) (defBody S_is_term) (d_is_term F_is_one_of) := fun cdv A outer s H E hr ct =>
  (fss_cons (fs_if (ft_not (ft_val (fe_isi rfl T.n_isinstance rfl T.n_tuple (by decide +kernel) (fe_var 0)))) (fss_one (fs_ret (fe_call ct.tk D_is_one_of [false, false] hr (fa_cons (fe_var 0) (fa_cons (fe_var 1) fa_nil)) (Nat.le_refl _)))) fss_nil) (fss_one (fs_ret (fe_and (fe_eq hr.units (fe_len rfl T.n_len (fa_cons (fe_var 0) fa_nil)) fe_int) (fe_and (fe_call ct.tk D_is_one_of [false, false] hr (fa_cons (fe_ixA (huS hr) (fe_var 0) fe_int) (fa_cons (fe_gk T.g_CHOICES) fa_nil)) (Nat.le_refl _)) (fe_one (fe_all rfl rfl T.n_all (fa_cons (fe_lc [("word", 2)] rfl sc_is_term.nd (fi_seq (fe_slice (fe_var 0) (fo_some fe_int) fo_none)) (blkOk_by (N := N_is_term) (sc := defScope S_is_term) (by decide +kernel)) (fun _ _ _ _ _ => (fgv_name 2 sc_is_term.nd)) (fun _ _ _ _ _ => fq_nil) (fun _ _ _ _ _ => (fe_call tk0 D_is_one_of [false, false] hr (fa_cons (fe_var 2) (fa_cons (fe_var 1) fa_nil)) (Nat.le_refl _)))) fa_nil))))))))
def d_is_statement (F_is_test : Fn) (F_is_term : Fn) (F_is_one_of : Fn) (F_is_formed : Fn) : DS := (mSeq (mIfS (mNotT (mTest (mCall 1 F_is_formed [false] (aCons (mVar 0) aNil)))) (mRet (mC (.bl false))) mNx) (mSeq (mIfS (mTOp eqF (mOp ixAF (mVar 0) (mC (.int 0))) (mC (.str "keep"))) (mRet (mBAnd (mCall 2 F_is_one_of [false, false] (aCons (mOp ixAF (mVar 0) (mC (.int 1))) (aCons (mC g_PLACES) aNil))) (mCall 2 F_is_term [false, false] (aCons (mOp ixAF (mVar 0) (mC (.int 2))) (aCons (mVar 1) aNil))))) mNx) (mSeq (mIfS (mTOp eqF (mOp ixAF (mVar 0) (mC (.int 0))) (mC (.str "give"))) (mRet (mBAnd (mCall 2 F_is_term [false, false] (aCons (mOp ixAF (mVar 0) (mC (.int 1))) (aCons (mVar 1) aNil))) (mCall 2 F_is_term [false, false] (aCons (mOp ixAF (mVar 0) (mC (.int 2))) (aCons (mVar 1) aNil))))) mNx) (mRet (mBAnd (mCall 2 F_is_test [false, false] (aCons (mOp ixAF (mVar 0) (mC (.int 1))) (aCons (mVar 1) aNil))) (mBAnd (mIsi "tuple" (mOp ixAF (mVar 0) (mC (.int 2)))) (mIsi "tuple" (mOp ixAF (mVar 0) (mC (.int 3))))))))))
theorem b_is_statement (T : Tx K w mg C_Program C_StretchError C_UnknownPath) {F_is_test : Fn} {F_is_term : Fn} {F_is_one_of : Fn} {F_is_formed : Fn} {f : Addr} (D_is_test : Dn P w K mg base k "is_test" 2 F_is_test) (D_is_term : Dn P w K mg base k "is_term" 2 F_is_term) (D_is_one_of : Dn P w K mg base k "is_one_of" 2 F_is_one_of) (D_is_formed : Dn P w K mg base k "is_formed" 1 F_is_formed) : Body P w K mg base N_is_statement "is_statement" f k (defScope S_is_statement) (defBody S_is_statement) (d_is_statement F_is_test F_is_term F_is_one_of F_is_formed) := fun cdv A outer s H E hr ct =>
  (fss_cons (fs_if (ft_not (ft_val (fe_call ct.tk D_is_formed [false] hr (fa_cons (fe_var 0) fa_nil) (Nat.le_refl _)))) (fss_one (fs_ret fe_bl)) fss_nil) (fss_cons (fs_if (ft_eq hr.units (fe_ixA (huS hr) (fe_var 0) fe_int) fe_str) (fss_one (fs_ret (fe_and (fe_call ct.tk D_is_one_of [false, false] hr (fa_cons (fe_ixA (huS hr) (fe_var 0) fe_int) (fa_cons (fe_gk T.g_PLACES) fa_nil)) (Nat.le_refl _)) (fe_one (fe_call ct.tk D_is_term [false, false] hr (fa_cons (fe_ixA (huS hr) (fe_var 0) fe_int) (fa_cons (fe_var 1) fa_nil)) (Nat.le_refl _)))))) fss_nil) (fss_cons (fs_if (ft_eq hr.units (fe_ixA (huS hr) (fe_var 0) fe_int) fe_str) (fss_one (fs_ret (fe_and (fe_call ct.tk D_is_term [false, false] hr (fa_cons (fe_ixA (huS hr) (fe_var 0) fe_int) (fa_cons (fe_var 1) fa_nil)) (Nat.le_refl _)) (fe_one (fe_call ct.tk D_is_term [false, false] hr (fa_cons (fe_ixA (huS hr) (fe_var 0) fe_int) (fa_cons (fe_var 1) fa_nil)) (Nat.le_refl _)))))) fss_nil) (fss_one (fs_ret (fe_and (fe_call ct.tk D_is_test [false, false] hr (fa_cons (fe_ixA (huS hr) (fe_var 0) fe_int) (fa_cons (fe_var 1) fa_nil)) (Nat.le_refl _)) (fe_and (fe_isi rfl T.n_isinstance rfl T.n_tuple (by decide +kernel) (fe_ixA (huS hr) (fe_var 0) fe_int)) (fe_one (fe_isi rfl T.n_isinstance rfl T.n_tuple (by decide +kernel) (fe_ixA (huS hr) (fe_var 0) fe_int))))))))))
def d_check_block (F_is_statement : Fn) (F_walked : Fn) : DS := (mSeq (mIfS (mNotT (mTest (mIsi "tuple" (mVar 0)))) mNo mNx) (mSeq (mSet 3 (mCall 2 F_walked [false, false] (aCons (mVar 0) (aCons (mTup (aCons (mVar 1) aNil)) aNil)))) (mSeq (mIfS (mTOp gtF (mCa lenF (aCons (mVar 3) aNil)) (mC g_MOST_STATEMENTS)) mNo mNx) (mFor (iSeq (mVar 3)) (gT 2 (gsCons (gN 4) (gsCons (gN 5) gsNil))) (mIfS (mOrT (mNotT (mTest (mCall 2 F_is_statement [false, false] (aCons (mVar 5) (aCons (mVar 2) aNil))))) (mTOp gtF (mOp divF (mOp subF (mCa lenF (aCons (mVar 4) aNil)) (mC (.int 2))) (mC (.int 2))) (mC g_MOST_AROUND))) mNo mNx)))))
theorem b_check_block (T : Tx K w mg C_Program C_StretchError C_UnknownPath) {F_is_statement : Fn} {F_walked : Fn} {f : Addr} (D_is_statement : Dn P w K mg base k "is_statement" 2 F_is_statement) (D_walked : Dn P w K mg base k "walked" 2 F_walked) : Body P w K mg base N_check_block "check_block" f k (defScope S_check_block) (defBody S_check_block) (d_check_block F_is_statement F_walked) := fun cdv A outer s H E hr ct =>
  (fss_cons (fs_if (ft_not (ft_val (fe_isi rfl T.n_isinstance rfl T.n_tuple (by decide +kernel) (fe_var 0)))) (fss_one fs_never) fss_nil) (fss_cons (fs_set 3 sc_check_block.nd (fe_call ct.tk D_walked [false, false] hr (fa_cons (fe_var 0) (fa_cons (fe_tup (fa_cons (fe_var 1) fa_nil)) fa_nil)) (Nat.le_refl _))) (fss_cons (fs_if (ft_gt (fe_len rfl T.n_len (fa_cons (fe_var 3) fa_nil)) (fe_gk T.g_MOST_STATEMENTS)) (fss_one fs_never) fss_nil) (fss_one (fs_for rfl ct (fi_seq (fe_var 3)) (fg_tup rfl (fgs_cons (fg_name 4 sc_check_block.nd) (fgs_cons (fg_name 5 sc_check_block.nd) fgs_nil))) (fss_one (fs_if (SW.pt (fw_or (ft_not (ft_val (fe_call ct.tk D_is_statement [false, false] hr (fa_cons (fe_var 5) (fa_cons (fe_var 2) fa_nil)) (Nat.le_refl _)))) (fw_or1 (ft_gt (fe_div (fe_sub (fe_len rfl T.n_len (fa_cons (fe_var 4) fa_nil)) fe_int) fe_int) (fe_gk T.g_MOST_AROUND))))) (fss_one fs_never) fss_nil)))))))
def d_Program_init (C_Program : Addr) (F_words_in : Fn) (F_walked : Fn) (F_check_block : Fn) (F_is_one_of : Fn) : DS := (mSeq (mIfS (mNotT (mTest (mCall 2 F_is_one_of [false, false] (aCons (mVar 1) (aCons (mC g_SORTINGS) aNil))))) mNo mNx) (mSeq (mDrop (mCall 3 F_check_block [false, false, false] (aCons (mVar 2) (aCons (mC (.str "block")) (aCons (mC g_TERMS) aNil))))) (mSeq (mDrop (mCall 3 F_check_block [false, false, false] (aCons (mVar 3) (aCons (mC (.str "last")) (aCons (mC g_PLACES) aNil))))) (mSeq (mSetF true C_Program "order" (mVar 0) (mVar 1)) (mSeq (mSetF true C_Program "body" (mVar 0) (mVar 2)) (mSeq (mSetF true C_Program "ending" (mVar 0) (mVar 3)) (mSeq (mSetF true C_Program "rows" (mVar 0) (mCa dictF (aCons (mOp addF (mCall 2 F_walked [false, false] (aCons (mVar 2) (aCons (mTup (aCons (mC (.str "block")) aNil)) aNil))) (mCall 2 F_walked [false, false] (aCons (mVar 3) (aCons (mTup (aCons (mC (.str "last")) aNil)) aNil)))) aNil))) (mSetF true C_Program "words" (mVar 0) (mLc2 (iVaD (mFld C_Program "rows" (mVar 0))) (gN 4) mYes (iSeq (mCall 1 F_words_in [false] (aCons (mVar 4) aNil))) (gN 5) mYes (mVar 5) [4, 5] [5])))))))))
theorem b_Program_init (T : Tx K w mg C_Program C_StretchError C_UnknownPath) {F_words_in : Fn} {F_walked : Fn} {F_check_block : Fn} {F_is_one_of : Fn} {f : Addr} (D_words_in : Dn P w K mg base k "words_in" 1 F_words_in) (D_walked : Dn P w K mg base k "walked" 2 F_walked) (D_check_block : Dn P w K mg base k "check_block" 3 F_check_block) (D_is_one_of : Dn P w K mg base k "is_one_of" 2 F_is_one_of) : Body P w K mg base N_Program_init "Program.__init__" f k (defScope S_Program_init) (defBody S_Program_init) (d_Program_init C_Program F_words_in F_walked F_check_block F_is_one_of) := fun cdv A outer s H E hr ct =>
  (fss_cons (fs_if (ft_not (ft_val (fe_call ct.tk D_is_one_of [false, false] hr (fa_cons (fe_var 1) (fa_cons (fe_gk T.g_SORTINGS) fa_nil)) (Nat.le_refl _)))) (fss_one fs_never) fss_nil) (fss_cons (fs_expr (fe_call ct.tk D_check_block [false, false, false] hr (fa_cons (fe_var 2) (fa_cons fe_str (fa_cons (fe_gk T.g_TERMS) fa_nil))) (Nat.le_refl _))) (fss_cons (fs_expr (fe_call ct.tk D_check_block [false, false, false] hr (fa_cons (fe_var 3) (fa_cons fe_str (fa_cons (fe_gk T.g_PLACES) fa_nil))) (Nat.le_refl _))) (fss_cons (fs_setF true T.c_Program T.a_Program_order (fe_var 0) (fe_var 1)) (fss_cons (fs_setF true T.c_Program T.a_Program_body (fe_var 0) (fe_var 2)) (fss_cons (fs_setF true T.c_Program T.a_Program_ending (fe_var 0) (fe_var 3)) (fss_cons (fs_setF true T.c_Program T.a_Program_rows (fe_var 0) (fe_dict rfl hr.units rfl T.n_dict (fa_cons (fe_add (fe_call ct.tk D_walked [false, false] hr (fa_cons (fe_var 2) (fa_cons (fe_tup (fa_cons fe_str fa_nil)) fa_nil)) (Nat.le_refl _)) (fe_call ct.tk D_walked [false, false] hr (fa_cons (fe_var 3) (fa_cons (fe_tup (fa_cons fe_str fa_nil)) fa_nil)) (Nat.le_refl _))) fa_nil))) (fss_one (fs_setF true T.c_Program T.a_Program_words (fe_var 0) (fe_lc2 [("statement", 4), ("word", 5)] [5] rfl sc_Program_init.nd (fi_values (fe_fld T.c_Program T.a_Program_rows (fe_var 0))) (blkOk_by (N := N_Program_init) (sc := defScope S_Program_init) (by decide +kernel)) (by decide) (fun _ _ _ _ _ => (fgv_name 4 sc_Program_init.nd)) (fun _ _ _ _ _ => fq_nil) (fun _ _ _ _ _ => (fi_seq (fe_call tk0 D_words_in [false] hr (fa_cons (fe_var 4) fa_nil) (Nat.le_refl _)))) (fun _ _ _ _ _ => (fgv_name 5 sc_Program_init.nd)) (fun _ _ _ _ _ => fq_nil) (fun _ _ _ _ _ => (fe_var 5))))))))))))
def d_Program_with_sorting (C_Program : Addr) (F_Program_init : Fn) : DS := (mRet (mNew C_Program 4 F_Program_init [false, false, false] (aCons (mVar 1) (aCons (mFld C_Program "body" (mVar 0)) (aCons (mFld C_Program "ending" (mVar 0)) aNil)))))
theorem b_Program_with_sorting (T : Tx K w mg C_Program C_StretchError C_UnknownPath) {F_Program_init : Fn} {f : Addr} {LProgram : Nat} (L_Program : LProgram + 1 ≤ k) (D_Program_init : Cn P w K mg base LProgram "Program" C_Program 4 F_Program_init) : Body P w K mg base N_Program_with_sorting "Program.with_sorting" f k (defScope S_Program_with_sorting) (defBody S_Program_with_sorting) (d_Program_with_sorting C_Program F_Program_init) := fun cdv A outer s H E hr ct =>
  (fss_one (fs_ret (fe_new ct.tk D_Program_init [false, false, false] hr (fa_cons (fe_var 1) (fa_cons (fe_fld T.c_Program T.a_Program_body (fe_var 0)) (fa_cons (fe_fld T.c_Program T.a_Program_ending (fe_var 0)) fa_nil))) L_Program)))
def d__law_made (C_Program : Addr) (F_Program_init : Fn) : DS := (mRet (mNew C_Program 4 F_Program_init [false, false, false] (aCons (mOp ixAF (mVar 0) (mC (.str "sorting"))) (aCons (mOp ixAF (mVar 0) (mC (.str "block"))) (aCons (mOp ixAF (mVar 0) (mC (.str "last"))) aNil)))))
theorem b__law_made (T : Tx K w mg C_Program C_StretchError C_UnknownPath) {F_Program_init : Fn} {f : Addr} {LProgram : Nat} (L_Program : LProgram + 1 ≤ k) (D_Program_init : Cn P w K mg base LProgram "Program" C_Program 4 F_Program_init) : Body P w K mg base N__law_made "_law_made" f k (defScope S__law_made) (defBody S__law_made) (d__law_made C_Program F_Program_init) := fun cdv A outer s H E hr ct =>
  (fss_one (fs_ret (fe_new ct.tk D_Program_init [false, false, false] hr (fa_cons (fe_ixA (huS hr) (fe_var 0) fe_str) (fa_cons (fe_ixA (huS hr) (fe_var 0) fe_str) (fa_cons (fe_ixA (huS hr) (fe_var 0) fe_str) fa_nil))) L_Program)))
def d__law_taken : DS := (mSeq (mIfS (mTOp gtF (mOp ixAF (mVar 0) (mC (.int 3))) (mC (.int 0))) (mSeq (mSet 3 (mOp modF (mCa intF (aCons (mOp ixAF (mVar 0) (mC (.int 3))) aNil)) (mVar 1))) (mSeq (mAsg (mOp divF (mOp ixAF (mVar 0) (mC (.int 3))) (mVar 1)) (gIx (mVar 0) (mC (.int 3)))) (mRet (mVar 3)))) mNx) (mSeq (mAsg (mOp addF (mOp ixAF (mVar 0) (mC (.int 1))) (mC (.int 1))) (gIx (mVar 0) (mC (.int 1)))) (mSeq (mIfS (mTOp gtF (mOp ixAF (mVar 0) (mC (.int 1))) (mCa lenF (aCons (mOp ixAF (mVar 0) (mC (.int 0))) aNil))) (mSeq (mAsg (mOp modF (mCa intF (aCons (mOp addF (mOp mulF (mOp ixAF (mVar 0) (mC (.int 2))) (mC (.int 48271))) (mC (.int 11))) aNil)) (mC (.int 2147483647))) (gIx (mVar 0) (mC (.int 2)))) (mRet (mOp modF (mCa intF (aCons (mOp divF (mOp ixAF (mVar 0) (mC (.int 2))) (mC (.int 7))) aNil)) (mVar 1)))) mNx) (mSeq (mSet 2 (mOp ixAF (mOp ixAF (mVar 0) (mC (.int 0))) (mOp subF (mOp ixAF (mVar 0) (mC (.int 1))) (mC (.int 1))))) (mSeq (mAsg (mOp modF (mCa intF (aCons (mOp addF (mOp addF (mOp mulF (mOp ixAF (mVar 0) (mC (.int 2))) (mC (.int 48271))) (mVar 2)) (mC (.int 11))) aNil)) (mC (.int 2147483647))) (gIx (mVar 0) (mC (.int 2)))) (mSeq (mIfS (mTOp geF (mVar 2) (mOp powF (mC (.int 10)) (mC (.int 18)))) (mAsg (mOp divF (mVar 2) (mVar 1)) (gIx (mVar 0) (mC (.int 3)))) mNx) (mRet (mOp modF (mCa intF (aCons (mVar 2) aNil)) (mVar 1)))))))))
theorem b__law_taken (T : Tx K w mg C_Program C_StretchError C_UnknownPath) {f : Addr} : Body P w K mg base N__law_taken "_law_taken" f k (defScope S__law_taken) (defBody S__law_taken) (d__law_taken) := fun cdv A outer s H E hr ct =>
  (fss_cons (fs_if (ft_gt (fe_ixA (huS hr) (fe_var 0) fe_int) fe_int) (fss_cons (fs_set 3 sc__law_taken.nd (fe_mod (fe_int1 rfl T.n_int (fa_cons (fe_ixA (huS hr) (fe_var 0) fe_int) fa_nil)) (fe_var 1))) (fss_cons (fs_asg (fe_div (fe_ixA (huS hr) (fe_var 0) fe_int) (fe_var 1)) (fg_ix (fe_var 0) fe_int)) (fss_one (fs_ret (fe_var 3))))) fss_nil) (fss_cons (fs_asg (fe_add (fe_ixA (huS hr) (fe_var 0) fe_int) fe_int) (fg_ix (fe_var 0) fe_int)) (fss_cons (fs_if (ft_gt (fe_ixA (huS hr) (fe_var 0) fe_int) (fe_len rfl T.n_len (fa_cons (fe_ixA (huS hr) (fe_var 0) fe_int) fa_nil))) (fss_cons (fs_asg (fe_mod (fe_int1 rfl T.n_int (fa_cons (fe_add (fe_mul (fe_ixA (huS hr) (fe_var 0) fe_int) fe_int) fe_int) fa_nil)) fe_int) (fg_ix (fe_var 0) fe_int)) (fss_one (fs_ret (fe_mod (fe_int1 rfl T.n_int (fa_cons (fe_div (fe_ixA (huS hr) (fe_var 0) fe_int) fe_int) fa_nil)) (fe_var 1))))) fss_nil) (fss_cons (fs_set 2 sc__law_taken.nd (fe_ixA (huS hr) (fe_ixA (huS hr) (fe_var 0) fe_int) (fe_sub (fe_ixA (huS hr) (fe_var 0) fe_int) fe_int))) (fss_cons (fs_asg (fe_mod (fe_int1 rfl T.n_int (fa_cons (fe_add (fe_add (fe_mul (fe_ixA (huS hr) (fe_var 0) fe_int) fe_int) (fe_var 2)) fe_int) fa_nil)) fe_int) (fg_ix (fe_var 0) fe_int)) (fss_cons (fs_if (ft_ge (fe_var 2) (fe_pow fe_int fe_int)) (fss_one (fs_asg (fe_div (fe_var 2) (fe_var 1)) (fg_ix (fe_var 0) fe_int))) fss_nil) (fss_one (fs_ret (fe_mod (fe_int1 rfl T.n_int (fa_cons (fe_var 2) fa_nil)) (fe_var 1))))))))))
def d_is_path : DS := (mSeq (mIfS (mNotT (mTest (mIsi "tuple" (mVar 0)))) (mRet (mC (.bl false))) mNx) (mRet (mCa (allF false) (aCons (mLc (iSeq (mVar 0)) (gN 1) mYes (mBAnd (mIsi2 "int" "str" (mVar 1)) (mBNot (mIsi "bool" (mVar 1)))) [1]) aNil))))
theorem b_is_path (T : Tx K w mg C_Program C_StretchError C_UnknownPath) {f : Addr} : Body P w K mg base N_is_path "is_path" f k (defScope S_is_path) (defBody S_is_path) (d_is_path) := fun cdv A outer s H E hr ct =>
  (fss_cons (fs_if (ft_not (ft_val (fe_isi rfl T.n_isinstance rfl T.n_tuple (by decide +kernel) (fe_var 0)))) (fss_one (fs_ret fe_bl)) fss_nil) (fss_one (fs_ret (fe_all rfl rfl T.n_all (fa_cons (fe_lc [("part", 1)] rfl sc_is_path.nd (fi_seq (fe_var 0)) (blkOk_by (N := N_is_path) (sc := defScope S_is_path) (by decide +kernel)) (fun _ _ _ _ _ => (fgv_name 1 sc_is_path.nd)) (fun _ _ _ _ _ => fq_nil) (fun _ _ _ _ _ => (fe_and (fe_isi2 rfl T.n_isinstance rfl T.n_int (by decide +kernel) rfl T.n_str (by decide +kernel) (fe_var 1)) (fe_one (fe_not (fe_isi rfl T.n_isinstance rfl T.n_bool (by decide +kernel) (fe_var 1))))))) fa_nil)))))
def d_Program_statement (C_Program : Addr) (C_UnknownPath : Addr) (F_is_path : Fn) : DS := (mSeq (mFor (iItD (mFld C_Program "rows" (mVar 0))) (gT 2 (gsCons (gN 2) (gsCons (gN 3) gsNil))) (mIfS (mAndT (mTest (mCall 1 F_is_path [false] (aCons (mVar 1) aNil))) (mTOp eqF (mVar 2) (mVar 1))) (mRet (mVar 3)) mNx)) (mRaise1 C_UnknownPath "path" (aCons (mVar 1) aNil)))
theorem b_Program_statement (T : Tx K w mg C_Program C_StretchError C_UnknownPath) {F_is_path : Fn} {f : Addr} (D_is_path : Dn P w K mg base k "is_path" 1 F_is_path) (hX2 : 1 + 1 ≤ k) (DX_UnknownPath : Dx1 P w K mg base 1 "UnknownPath" C_UnknownPath "path") : Body P w K mg base N_Program_statement "Program.statement" f k (defScope S_Program_statement) (defBody S_Program_statement) (d_Program_statement C_Program C_UnknownPath F_is_path) := fun cdv A outer s H E hr ct =>
  (fss_cons (fs_for rfl ct (fi_items (fe_fld T.c_Program T.a_Program_rows (fe_var 0))) (fg_tup rfl (fgs_cons (fg_name 2 sc_Program_statement.nd) (fgs_cons (fg_name 3 sc_Program_statement.nd) fgs_nil))) (fss_one (fs_if (SW.pt (fw_and (ft_val (fe_call ct.tk D_is_path [false] hr (fa_cons (fe_var 1) fa_nil) (Nat.le_refl _))) (fw_and1 (ft_eq hr.units (fe_var 2) (fe_var 1))))) (fss_one (fs_ret (fe_var 3))) fss_nil))) (fss_one (fs_raise1 rfl ct DX_UnknownPath hr (fa_cons (fe_var 1) fa_nil) hX2)))
def d__law_refused (C_Program : Addr) (C_StretchError : Addr) (C_UnknownPath : Addr) (F_Program_statement : Fn) : DS := (mSeq (mSet 2 (mC (.bl false))) (mSeq (mTry [(C_UnknownPath, true)] 3 (mDrop (mMeth C_Program "statement" 2 F_Program_statement [true, false] (mVar 0) (aCons (mVar 1) aNil))) (fun x => mSet 2 ((fun x => mBAnd ((fun x => mOp eqF ((hFld C_UnknownPath "path") x) ((fun _ => (mVar 1)) x)) x) ((hIs C_UnknownPath true) x)) x))) (mRet (mVar 2))))
theorem b__law_refused (T : Tx K w mg C_Program C_StretchError C_UnknownPath) {F_Program_statement : Fn} {f : Addr} (D_Program_statement : Mn P w K mg base k C_Program "statement" 2 F_Program_statement) : Body P w K mg base N__law_refused "_law_refused" f k (defScope S__law_refused) (defBody S__law_refused) (d__law_refused C_Program C_StretchError C_UnknownPath F_Program_statement) := fun cdv A outer s H E hr ct =>
  (fss_cons (fs_set 2 sc__law_refused.nd fe_bl) (fss_cons (fs_try 3 [(C_UnknownPath, true)] ct sc__law_refused.nd T.e_UnknownPath (fun z hz => by rw [List.mem_singleton] at hz; subst hz; exact T.w_UnknownPath_UnknownPath) (fun W1 pn1 xe1 ct => (fss_one (fs_expr (fe_meth ct.tk D_Program_statement [true, false] hr (fe_var 0) (fa_cons (fe_var 1) fa_nil) (Nat.le_refl _))))) (sh_set 2 sc__law_refused.nd (h_and (h_eq hr.units (h_fld T.e_UnknownPath T.xn_UnknownPath_path) (h_lift fun _ _ _ => (fe_var 1))) (h_and1 (h_isi T.e_UnknownPath T.e_StretchError T.w_UnknownPath_StretchError T.n_isinstance (.inr rfl)))))) (fss_one (fs_ret (fe_var 2)))))
def d_Program_paths (C_Program : Addr) : DGn := (mGThen (mGFor (iItD (mFld C_Program "rows" (mVar 0))) (gT 2 (gsCons (gN 2) (gsCons (gN 3) gsNil))) (mGThen (mGIf (mOrT (mTOp isF (mVar 1) (mC .non)) (mTOp eqF (mOp ixAF (mVar 3) (mC (.int 0))) (mVar 1))) (mGThen (mGYield (mVar 2)) mG0) mG0) mG0)) mG0)
theorem b_Program_paths (T : Tx K w mg C_Program C_StretchError C_UnknownPath) {f : Addr} : BodyG P w K mg base N_Program_paths "Program.paths" f k (defScope S_Program_paths) (defBody S_Program_paths) (d_Program_paths C_Program) := fun cdv A outer s H E pn hr ct =>
  (sg_cons (sg_for rfl ct (fi_items (fe_fld T.c_Program T.a_Program_rows (fe_var 0))) (fg_tup rfl (fgs_cons (fg_name 2 sc_Program_paths.nd) (fgs_cons (fg_name 3 sc_Program_paths.nd) fgs_nil))) (sg_cons (sg_if (W := Wd E) (SW.pt (fw_or (ft_is (fe_var 1) fe_non) (fw_or1 (ft_eq hr.units (fe_ixA (huS hr) (fe_var 3) fe_int) (fe_var 1))))) (sg_cons (sg_yield (W := Wd E) (fe_var 2)) sg_nil) sg_nil) sg_nil)) sg_nil)
def d_Program_len (C_Program : Addr) : DS := (mRet (mCa lenDF (aCons (mFld C_Program "rows" (mVar 0)) aNil)))
theorem b_Program_len (T : Tx K w mg C_Program C_StretchError C_UnknownPath) {f : Addr} : Body P w K mg base N_Program_len "Program.__len__" f k (defScope S_Program_len) (defBody S_Program_len) (d_Program_len C_Program) := fun cdv A outer s H E hr ct =>
  (fss_one (fs_ret (fe_lenD rfl T.n_len (fa_cons (fe_fld T.c_Program T.a_Program_rows (fe_var 0)) fa_nil))))
def d_Program_last (C_Program : Addr) : DS := (mRet (mFld C_Program "ending" (mVar 0)))
theorem b_Program_last (T : Tx K w mg C_Program C_StretchError C_UnknownPath) {f : Addr} : Body P w K mg base N_Program_last "Program.last" f k (defScope S_Program_last) (defBody S_Program_last) (d_Program_last C_Program) := fun cdv A outer s H E hr ct =>
  (fss_one (fs_ret (fe_fld T.c_Program T.a_Program_ending (fe_var 0))))
def d_Program_block (C_Program : Addr) : DS := (mRet (mFld C_Program "body" (mVar 0)))
theorem b_Program_block (T : Tx K w mg C_Program C_StretchError C_UnknownPath) {f : Addr} : Body P w K mg base N_Program_block "Program.block" f k (defScope S_Program_block) (defBody S_Program_block) (d_Program_block C_Program) := fun cdv A outer s H E hr ct =>
  (fss_one (fs_ret (fe_fld T.c_Program T.a_Program_body (fe_var 0))))
def d_Program_sorting (C_Program : Addr) : DS := (mRet (mFld C_Program "order" (mVar 0)))
theorem b_Program_sorting (T : Tx K w mg C_Program C_StretchError C_UnknownPath) {f : Addr} : Body P w K mg base N_Program_sorting "Program.sorting" f k (defScope S_Program_sorting) (defBody S_Program_sorting) (d_Program_sorting C_Program) := fun cdv A outer s H E hr ct =>
  (fss_one (fs_ret (fe_fld T.c_Program T.a_Program_order (fe_var 0))))
def d__law_all (F__law_all : Fn) : DS := (mSeq (mSet 2 (mLst aNil)) (mSeq (mFor (iR1 (aCons (mCa lenF (aCons (mVar 0) aNil)) aNil)) (gN 3) (mSeq (mDrop (mApp (mVar 2) (mTup (aCons (mOp addF (mVar 1) (mTup (aCons (mVar 3) aNil))) (aCons (mOp ixAF (mVar 0) (mVar 3)) aNil))))) (mIfS (mTOp eqF (mOp ixAF (mOp ixAF (mVar 0) (mVar 3)) (mC (.int 0))) (mC (.str "if"))) (mFor (iR1 (aCons (mC (.int 2)) aNil)) (gN 4) (mSet 2 (mOp addF (mVar 2) (mCall 2 F__law_all [false, false] (aCons (mOp ixAF (mOp ixAF (mVar 0) (mVar 3)) (mOp addF (mC (.int 2)) (mVar 4))) (aCons (mOp addF (mVar 1) (mTup (aCons (mVar 3) (aCons (mVar 4) aNil)))) aNil)))))) mNx))) (mRet (mVar 2))))
theorem b__law_all (T : Tx K w mg C_Program C_StretchError C_UnknownPath) {F__law_all : Fn} {f : Addr} (D__law_all : Dn P w K mg base k "_law_all" 2 F__law_all) : Body P w K mg base N__law_all "_law_all" f k (defScope S__law_all) (defBody S__law_all) (d__law_all F__law_all) := fun cdv A outer s H E hr ct =>
  (fss_cons (fs_set 2 sc__law_all.nd (fe_lst fa_nil)) (fss_cons (fs_for rfl ct (fi_range1 rfl T.n_range (fa_cons (fe_len rfl T.n_len (fa_cons (fe_var 0) fa_nil)) fa_nil)) (fg_name 3 sc__law_all.nd) (fss_cons (fs_expr (fe_app (fe_var 2) (fe_tup (fa_cons (fe_add (fe_var 1) (fe_tup (fa_cons (fe_var 3) fa_nil))) (fa_cons (fe_ixA (huS hr) (fe_var 0) (fe_var 3)) fa_nil))))) (fss_one (fs_if (ft_eq hr.units (fe_ixA (huS hr) (fe_ixA (huS hr) (fe_var 0) (fe_var 3)) fe_int) fe_str) (fss_one (fs_for rfl ct (fi_range1 rfl T.n_range (fa_cons fe_int fa_nil)) (fg_name 4 sc__law_all.nd) (fss_one (fs_set 2 sc__law_all.nd (fe_add (fe_var 2) (fe_call ct.tk D__law_all [false, false] hr (fa_cons (fe_ixA (huS hr) (fe_ixA (huS hr) (fe_var 0) (fe_var 3)) (fe_add fe_int (fe_var 4))) (fa_cons (fe_add (fe_var 1) (fe_tup (fa_cons (fe_var 3) (fa_cons (fe_var 4) fa_nil)))) fa_nil)) (Nat.le_refl _))))))) fss_nil)))) (fss_one (fs_ret (fe_var 2)))))
def d__law_term (F__law_taken : Fn) : DS := (mSeq (mIfS (mTOp gtF (mCall 2 F__law_taken [true, false] (aCons (mVar 0) (aCons (mC (.int 4)) aNil))) (mC (.int 0))) (mRet (mOp ixAF (mVar 1) (mCall 2 F__law_taken [true, false] (aCons (mVar 0) (aCons (mCa lenF (aCons (mVar 1) aNil)) aNil))))) mNx) (mSeq (mPar 2 3 (aCons (mOp ixAF (mVar 1) (mCall 2 F__law_taken [true, false] (aCons (mVar 0) (aCons (mCa lenF (aCons (mVar 1) aNil)) aNil)))) (aCons (mOp ixAF (mVar 1) (mCall 2 F__law_taken [true, false] (aCons (mVar 0) (aCons (mCa lenF (aCons (mVar 1) aNil)) aNil)))) aNil))) (mRet (mTup (aCons (mOp ixAF (mLst (aCons (mC (.str "least")) (aCons (mC (.str "greatest")) aNil))) (mCall 2 F__law_taken [true, false] (aCons (mVar 0) (aCons (mC (.int 2)) aNil)))) (aCons (mVar 2) (aCons (mVar 3) aNil)))))))
theorem b__law_term (T : Tx K w mg C_Program C_StretchError C_UnknownPath) {F__law_taken : Fn} {f : Addr} (D__law_taken : Dn P w K mg base k "_law_taken" 2 F__law_taken) : Body P w K mg base N__law_term "_law_term" f k (defScope S__law_term) (defBody S__law_term) (d__law_term F__law_taken) := fun cdv A outer s H E hr ct =>
  (fss_cons (fs_if (ft_gt (fe_call ct.tk D__law_taken [true, false] hr (fa_cons (fe_var 0) (fa_cons fe_int fa_nil)) (Nat.le_refl _)) fe_int) (fss_one (fs_ret (fe_ixA (huS hr) (fe_var 1) (fe_call ct.tk D__law_taken [true, false] hr (fa_cons (fe_var 0) (fa_cons (fe_len rfl T.n_len (fa_cons (fe_var 1) fa_nil)) fa_nil)) (Nat.le_refl _))))) fss_nil) (fss_cons (fs_par 2 3 rfl sc__law_term.nd (fa_cons (fe_ixA (huS hr) (fe_var 1) (fe_call ct.tk D__law_taken [true, false] hr (fa_cons (fe_var 0) (fa_cons (fe_len rfl T.n_len (fa_cons (fe_var 1) fa_nil)) fa_nil)) (Nat.le_refl _))) (fa_cons (fe_ixA (huS hr) (fe_var 1) (fe_call ct.tk D__law_taken [true, false] hr (fa_cons (fe_var 0) (fa_cons (fe_len rfl T.n_len (fa_cons (fe_var 1) fa_nil)) fa_nil)) (Nat.le_refl _))) fa_nil))) (fss_one (fs_ret (fe_tup (fa_cons (fe_ixA (huS hr) (fe_lst (fa_cons fe_str (fa_cons fe_str fa_nil))) (fe_call ct.tk D__law_taken [true, false] hr (fa_cons (fe_var 0) (fa_cons fe_int fa_nil)) (Nat.le_refl _))) (fa_cons (fe_var 2) (fa_cons (fe_var 3) fa_nil))))))))
def d__law_test (F__law_taken : Fn) : DS := (mSeq (mIfS (mAndT (mTOp eqF (mCall 2 F__law_taken [true, false] (aCons (mVar 0) (aCons (mC (.int 4)) aNil))) (mC (.int 0))) (mTOp (inF false) (mC (.str "begin")) (mVar 1))) (mRet (mTup (aCons (mC (.str "sort")) (aCons (mC (.str "a")) aNil)))) mNx) (mSeq (mPar 2 3 (aCons (mOp ixAF (mVar 1) (mCall 2 F__law_taken [true, false] (aCons (mVar 0) (aCons (mCa lenF (aCons (mVar 1) aNil)) aNil)))) (aCons (mOp ixAF (mVar 1) (mCall 2 F__law_taken [true, false] (aCons (mVar 0) (aCons (mCa lenF (aCons (mVar 1) aNil)) aNil)))) aNil))) (mRet (mTup (aCons (mOp ixAF (mLst (aCons (mC (.str "less")) (aCons (mC (.str "less")) (aCons (mC (.str "same")) aNil)))) (mCall 2 F__law_taken [true, false] (aCons (mVar 0) (aCons (mC (.int 3)) aNil)))) (aCons (mVar 2) (aCons (mVar 3) aNil)))))))
theorem b__law_test (T : Tx K w mg C_Program C_StretchError C_UnknownPath) {F__law_taken : Fn} {f : Addr} (D__law_taken : Dn P w K mg base k "_law_taken" 2 F__law_taken) : Body P w K mg base N__law_test "_law_test" f k (defScope S__law_test) (defBody S__law_test) (d__law_test F__law_taken) := fun cdv A outer s H E hr ct =>
  (fss_cons (fs_if (SW.pt (fw_and (ft_eq hr.units (fe_call ct.tk D__law_taken [true, false] hr (fa_cons (fe_var 0) (fa_cons fe_int fa_nil)) (Nat.le_refl _)) fe_int) (fw_and1 (ft_in fe_str (fe_var 1))))) (fss_one (fs_ret (fe_tup (fa_cons fe_str (fa_cons fe_str fa_nil))))) fss_nil) (fss_cons (fs_par 2 3 rfl sc__law_test.nd (fa_cons (fe_ixA (huS hr) (fe_var 1) (fe_call ct.tk D__law_taken [true, false] hr (fa_cons (fe_var 0) (fa_cons (fe_len rfl T.n_len (fa_cons (fe_var 1) fa_nil)) fa_nil)) (Nat.le_refl _))) (fa_cons (fe_ixA (huS hr) (fe_var 1) (fe_call ct.tk D__law_taken [true, false] hr (fa_cons (fe_var 0) (fa_cons (fe_len rfl T.n_len (fa_cons (fe_var 1) fa_nil)) fa_nil)) (Nat.le_refl _))) fa_nil))) (fss_one (fs_ret (fe_tup (fa_cons (fe_ixA (huS hr) (fe_lst (fa_cons fe_str (fa_cons fe_str (fa_cons fe_str fa_nil)))) (fe_call ct.tk D__law_taken [true, false] hr (fa_cons (fe_var 0) (fa_cons fe_int fa_nil)) (Nat.le_refl _))) (fa_cons (fe_var 2) (fa_cons (fe_var 3) fa_nil))))))))
def d__law_statement (F__law_term : Fn) (F__law_taken : Fn) (F__law_block : Fn) (F__law_test : Fn) : DS := (mSeq (mSet 3 (mCall 2 F__law_taken [true, false] (aCons (mVar 0) (aCons (mC (.int 5)) aNil)))) (mSeq (mIfS (mAndT (mTOp eqF (mVar 3) (mC (.int 4))) (mTOp ltF (mVar 2) (mC (.int 2)))) (mSeq (mSet 4 (mCall 2 F__law_test [true, false] (aCons (mVar 0) (aCons (mVar 1) aNil)))) (mRet (mTup (aCons (mC (.str "if")) (aCons (mVar 4) (aCons (mCall 4 F__law_block [true, false, false, false] (aCons (mVar 0) (aCons (mVar 1) (aCons (mOp addF (mVar 2) (mC (.int 1))) (aCons (mC (.int 2)) aNil))))) (aCons (mCall 4 F__law_block [true, false, false, false] (aCons (mVar 0) (aCons (mVar 1) (aCons (mOp addF (mVar 2) (mC (.int 1))) (aCons (mC (.int 2)) aNil))))) aNil))))))) mNx) (mSeq (mIfS (mTOp ltF (mVar 3) (mC (.int 2))) (mRet (mTup (aCons (mC (.str "give")) (aCons (mCall 2 F__law_term [true, false] (aCons (mVar 0) (aCons (mVar 1) aNil))) (aCons (mCall 2 F__law_term [true, false] (aCons (mVar 0) (aCons (mVar 1) aNil))) aNil))))) mNx) (mRet (mTup (aCons (mC (.str "keep")) (aCons (mOp ixAF (mLst (aCons (mC (.str "one")) (aCons (mC (.str "two")) aNil))) (mCall 2 F__law_taken [true, false] (aCons (mVar 0) (aCons (mC (.int 2)) aNil)))) (aCons (mCall 2 F__law_term [true, false] (aCons (mVar 0) (aCons (mVar 1) aNil))) aNil))))))))
theorem b__law_statement (T : Tx K w mg C_Program C_StretchError C_UnknownPath) {F__law_term : Fn} {F__law_taken : Fn} {F__law_block : Fn} {F__law_test : Fn} {f : Addr} (D__law_term : Dn P w K mg base k "_law_term" 2 F__law_term) (D__law_taken : Dn P w K mg base k "_law_taken" 2 F__law_taken) (D__law_block : Dn P w K mg base k "_law_block" 4 F__law_block) (D__law_test : Dn P w K mg base k "_law_test" 2 F__law_test) : Body P w K mg base N__law_statement "_law_statement" f k (defScope S__law_statement) (defBody S__law_statement) (d__law_statement F__law_term F__law_taken F__law_block F__law_test) := fun cdv A outer s H E hr ct =>
  (fss_cons (fs_set 3 sc__law_statement.nd (fe_call ct.tk D__law_taken [true, false] hr (fa_cons (fe_var 0) (fa_cons fe_int fa_nil)) (Nat.le_refl _))) (fss_cons (fs_if (SW.pt (fw_and (ft_eq hr.units (fe_var 3) fe_int) (fw_and1 (ft_lt (fe_var 2) fe_int)))) (fss_cons (fs_set 4 sc__law_statement.nd (fe_call ct.tk D__law_test [true, false] hr (fa_cons (fe_var 0) (fa_cons (fe_var 1) fa_nil)) (Nat.le_refl _))) (fss_one (fs_ret (fe_tup (fa_cons fe_str (fa_cons (fe_var 4) (fa_cons (fe_call ct.tk D__law_block [true, false, false, false] hr (fa_cons (fe_var 0) (fa_cons (fe_var 1) (fa_cons (fe_add (fe_var 2) fe_int) (fa_cons fe_int fa_nil)))) (Nat.le_refl _)) (fa_cons (fe_call ct.tk D__law_block [true, false, false, false] hr (fa_cons (fe_var 0) (fa_cons (fe_var 1) (fa_cons (fe_add (fe_var 2) fe_int) (fa_cons fe_int fa_nil)))) (Nat.le_refl _)) fa_nil)))))))) fss_nil) (fss_cons (fs_if (ft_lt (fe_var 3) fe_int) (fss_one (fs_ret (fe_tup (fa_cons fe_str (fa_cons (fe_call ct.tk D__law_term [true, false] hr (fa_cons (fe_var 0) (fa_cons (fe_var 1) fa_nil)) (Nat.le_refl _)) (fa_cons (fe_call ct.tk D__law_term [true, false] hr (fa_cons (fe_var 0) (fa_cons (fe_var 1) fa_nil)) (Nat.le_refl _)) fa_nil)))))) fss_nil) (fss_one (fs_ret (fe_tup (fa_cons fe_str (fa_cons (fe_ixA (huS hr) (fe_lst (fa_cons fe_str (fa_cons fe_str fa_nil))) (fe_call ct.tk D__law_taken [true, false] hr (fa_cons (fe_var 0) (fa_cons fe_int fa_nil)) (Nat.le_refl _))) (fa_cons (fe_call ct.tk D__law_term [true, false] hr (fa_cons (fe_var 0) (fa_cons (fe_var 1) fa_nil)) (Nat.le_refl _)) fa_nil)))))))))
def d__law_block (F__law_taken : Fn) (F__law_statement : Fn) : DS := (mRet (mCa tupleF (aCons (mLc (iR1 (aCons (mCall 2 F__law_taken [true, false] (aCons (mVar 0) (aCons (mOp addF (mVar 3) (mC (.int 1))) aNil))) aNil)) (gN 4) mYes (mCall 3 F__law_statement [true, false, false] (aCons (mVar 0) (aCons (mVar 1) (aCons (mVar 2) aNil)))) [4]) aNil)))
theorem b__law_block (T : Tx K w mg C_Program C_StretchError C_UnknownPath) {F__law_taken : Fn} {F__law_statement : Fn} {f : Addr} (D__law_taken : Dn P w K mg base k "_law_taken" 2 F__law_taken) (D__law_statement : Dn P w K mg base k "_law_statement" 3 F__law_statement) : Body P w K mg base N__law_block "_law_block" f k (defScope S__law_block) (defBody S__law_block) (d__law_block F__law_taken F__law_statement) := fun cdv A outer s H E hr ct =>
  (fss_one (fs_ret (fe_tuple rfl T.n_tuple (fa_cons (fe_lc [("_law_k", 4)] rfl sc__law_block.nd (fi_range1 rfl T.n_range (fa_cons (fe_call ct.tk D__law_taken [true, false] hr (fa_cons (fe_var 0) (fa_cons (fe_add (fe_var 3) fe_int) fa_nil)) (Nat.le_refl _)) fa_nil)) (blkOk_by (N := N__law_block) (sc := defScope S__law_block) (by decide +kernel)) (fun _ _ _ _ _ => (fgv_name 4 sc__law_block.nd)) (fun _ _ _ _ _ => fq_nil) (fun _ _ _ _ _ => (fe_call tk0 D__law_statement [true, false, false] hr (fa_cons (fe_var 0) (fa_cons (fe_var 1) (fa_cons (fe_var 2) fa_nil))) (Nat.le_refl _)))) fa_nil))))
def d__law_known (F__law_taken : Fn) : DS := (mSeq (mSet 1 (mTup (aCons (mTup (aCons (mC (.str "give")) (aCons (mC (.str "one")) (aCons (mC (.str "two")) aNil)))) (aCons (mTup (aCons (mC (.str "keep")) (aCons (mC (.str "one")) (aCons (mC (.str "begin")) aNil)))) (aCons (mTup (aCons (mC (.str "keep")) (aCons (mC (.str "two")) (aCons (mC (.str "end")) aNil)))) aNil))))) (mSeq (mSet 2 (mTup (aCons (mTup (aCons (mC (.str "keep")) (aCons (mC (.str "two")) (aCons (mTup (aCons (mC (.str "greatest")) (aCons (mC (.str "two")) (aCons (mC (.str "end")) aNil)))) aNil)))) aNil))) (mSeq (mSet 3 (mTup (aCons (mOp ixAF (mLst (aCons (mC (.str "less")) (aCons (mC (.str "less")) (aCons (mC (.str "same")) aNil)))) (mCall 2 F__law_taken [true, false] (aCons (mVar 0) (aCons (mC (.int 3)) aNil)))) (aCons (mC (.str "two")) (aCons (mOp ixAF (mLst (aCons (mC (.str "begin")) (aCons (mC (.str "end")) aNil))) (mCa intF (aCons (mOp eqF (mCall 2 F__law_taken [true, false] (aCons (mVar 0) (aCons (mC (.int 5)) aNil))) (mC (.int 0))) aNil))) aNil))))) (mSeq (mSet 4 (mLst (aCons (mLst (aCons (mTup (aCons (mTup (aCons (mC (.str "if")) (aCons (mVar 3) (aCons (mVar 1) (aCons (mVar 2) aNil))))) aNil)) (aCons (mTup (aCons (mTup (aCons (mC (.str "give")) (aCons (mC (.str "one")) (aCons (mC (.str "two")) aNil)))) aNil)) aNil))) aNil))) (mSeq (mDrop (mApp (mVar 4) (mLst (aCons (mOp addF (mTup (aCons (mTup (aCons (mC (.str "give")) (aCons (mC (.str "two")) (aCons (mC (.str "begin")) aNil)))) aNil)) (mVar 2)) (aCons (mTup aNil) aNil))))) (mSeq (mDrop (mApp (mVar 4) (mLst (aCons (mOp addF (mTup (aCons (mTup (aCons (mC (.str "if")) (aCons (mTup (aCons (mC (.str "less")) (aCons (mC (.str "two")) (aCons (mC (.str "begin")) aNil)))) (aCons (mTup (aCons (mTup (aCons (mC (.str "give")) (aCons (mC (.str "two")) (aCons (mC (.str "begin")) aNil)))) aNil)) (aCons (mTup aNil) aNil))))) aNil)) (mVar 2)) (aCons (mTup aNil) aNil))))) (mSeq (mSet 5 (mTup (aCons (mTup (aCons (mC (.str "give")) (aCons (mC (.str "begin")) (aCons (mTup (aCons (mC (.str "least")) (aCons (mC (.str "end")) (aCons (mC (.str "two")) aNil)))) aNil)))) (aCons (mTup (aCons (mC (.str "keep")) (aCons (mC (.str "one")) (aCons (mTup (aCons (mC (.str "greatest")) (aCons (mC (.str "one")) (aCons (mC (.str "end")) aNil)))) aNil)))) aNil)))) (mSeq (mSet 6 (mTup (aCons (mTup (aCons (mC (.str "give")) (aCons (mC (.str "begin")) (aCons (mTup (aCons (mC (.str "least")) (aCons (mC (.str "end")) (aCons (mC (.str "one")) aNil)))) aNil)))) (aCons (mTup (aCons (mC (.str "keep")) (aCons (mC (.str "two")) (aCons (mTup (aCons (mC (.str "greatest")) (aCons (mC (.str "two")) (aCons (mC (.str "end")) aNil)))) aNil)))) aNil)))) (mSeq (mDrop (mApp (mVar 4) (mLst (aCons (mTup (aCons (mTup (aCons (mC (.str "if")) (aCons (mTup (aCons (mC (.str "sort")) (aCons (mC (.str "a")) aNil))) (aCons (mVar 5) (aCons (mVar 6) aNil))))) aNil)) (aCons (mTup aNil) aNil))))) (mSeq (mDrop (mApp (mVar 4) (mLst (aCons (mTup (aCons (mTup (aCons (mC (.str "give")) (aCons (mC (.str "begin")) (aCons (mC (.str "end")) aNil)))) aNil)) (aCons (mTup aNil) aNil))))) (mSeq (mDrop (mApp (mVar 4) (mLst (aCons (mOp addF (mTup (aCons (mTup (aCons (mC (.str "give")) (aCons (mTup (aCons (mC (.str "greatest")) (aCons (mC (.str "two")) (aCons (mC (.str "begin")) aNil)))) (aCons (mC (.str "end")) aNil)))) aNil)) (mVar 2)) (aCons (mTup aNil) aNil))))) (mRet (mOp ixAF (mVar 4) (mCall 2 F__law_taken [true, false] (aCons (mVar 0) (aCons (mC (.int 6)) aNil))))))))))))))))
theorem b__law_known (T : Tx K w mg C_Program C_StretchError C_UnknownPath) {F__law_taken : Fn} {f : Addr} (D__law_taken : Dn P w K mg base k "_law_taken" 2 F__law_taken) : Body P w K mg base N__law_known "_law_known" f k (defScope S__law_known) (defBody S__law_known) (d__law_known F__law_taken) := fun cdv A outer s H E hr ct =>
  (fss_cons (fs_set 1 sc__law_known.nd (fe_tup (fa_cons (fe_tup (fa_cons fe_str (fa_cons fe_str (fa_cons fe_str fa_nil)))) (fa_cons (fe_tup (fa_cons fe_str (fa_cons fe_str (fa_cons fe_str fa_nil)))) (fa_cons (fe_tup (fa_cons fe_str (fa_cons fe_str (fa_cons fe_str fa_nil)))) fa_nil))))) (fss_cons (fs_set 2 sc__law_known.nd (fe_tup (fa_cons (fe_tup (fa_cons fe_str (fa_cons fe_str (fa_cons (fe_tup (fa_cons fe_str (fa_cons fe_str (fa_cons fe_str fa_nil)))) fa_nil)))) fa_nil))) (fss_cons (fs_set 3 sc__law_known.nd (fe_tup (fa_cons (fe_ixA (huS hr) (fe_lst (fa_cons fe_str (fa_cons fe_str (fa_cons fe_str fa_nil)))) (fe_call ct.tk D__law_taken [true, false] hr (fa_cons (fe_var 0) (fa_cons fe_int fa_nil)) (Nat.le_refl _))) (fa_cons fe_str (fa_cons (fe_ixA (huS hr) (fe_lst (fa_cons fe_str (fa_cons fe_str fa_nil))) (fe_int1 rfl T.n_int (fa_cons (fe_eq hr.units (fe_call ct.tk D__law_taken [true, false] hr (fa_cons (fe_var 0) (fa_cons fe_int fa_nil)) (Nat.le_refl _)) fe_int) fa_nil))) fa_nil))))) (fss_cons (fs_set 4 sc__law_known.nd (fe_lst (fa_cons (fe_lst (fa_cons (fe_tup (fa_cons (fe_tup (fa_cons fe_str (fa_cons (fe_var 3) (fa_cons (fe_var 1) (fa_cons (fe_var 2) fa_nil))))) fa_nil)) (fa_cons (fe_tup (fa_cons (fe_tup (fa_cons fe_str (fa_cons fe_str (fa_cons fe_str fa_nil)))) fa_nil)) fa_nil))) fa_nil))) (fss_cons (fs_expr (fe_app (fe_var 4) (fe_lst (fa_cons (fe_add (fe_tup (fa_cons (fe_tup (fa_cons fe_str (fa_cons fe_str (fa_cons fe_str fa_nil)))) fa_nil)) (fe_var 2)) (fa_cons (fe_tup fa_nil) fa_nil))))) (fss_cons (fs_expr (fe_app (fe_var 4) (fe_lst (fa_cons (fe_add (fe_tup (fa_cons (fe_tup (fa_cons fe_str (fa_cons (fe_tup (fa_cons fe_str (fa_cons fe_str (fa_cons fe_str fa_nil)))) (fa_cons (fe_tup (fa_cons (fe_tup (fa_cons fe_str (fa_cons fe_str (fa_cons fe_str fa_nil)))) fa_nil)) (fa_cons (fe_tup fa_nil) fa_nil))))) fa_nil)) (fe_var 2)) (fa_cons (fe_tup fa_nil) fa_nil))))) (fss_cons (fs_set 5 sc__law_known.nd (fe_tup (fa_cons (fe_tup (fa_cons fe_str (fa_cons fe_str (fa_cons (fe_tup (fa_cons fe_str (fa_cons fe_str (fa_cons fe_str fa_nil)))) fa_nil)))) (fa_cons (fe_tup (fa_cons fe_str (fa_cons fe_str (fa_cons (fe_tup (fa_cons fe_str (fa_cons fe_str (fa_cons fe_str fa_nil)))) fa_nil)))) fa_nil)))) (fss_cons (fs_set 6 sc__law_known.nd (fe_tup (fa_cons (fe_tup (fa_cons fe_str (fa_cons fe_str (fa_cons (fe_tup (fa_cons fe_str (fa_cons fe_str (fa_cons fe_str fa_nil)))) fa_nil)))) (fa_cons (fe_tup (fa_cons fe_str (fa_cons fe_str (fa_cons (fe_tup (fa_cons fe_str (fa_cons fe_str (fa_cons fe_str fa_nil)))) fa_nil)))) fa_nil)))) (fss_cons (fs_expr (fe_app (fe_var 4) (fe_lst (fa_cons (fe_tup (fa_cons (fe_tup (fa_cons fe_str (fa_cons (fe_tup (fa_cons fe_str (fa_cons fe_str fa_nil))) (fa_cons (fe_var 5) (fa_cons (fe_var 6) fa_nil))))) fa_nil)) (fa_cons (fe_tup fa_nil) fa_nil))))) (fss_cons (fs_expr (fe_app (fe_var 4) (fe_lst (fa_cons (fe_tup (fa_cons (fe_tup (fa_cons fe_str (fa_cons fe_str (fa_cons fe_str fa_nil)))) fa_nil)) (fa_cons (fe_tup fa_nil) fa_nil))))) (fss_cons (fs_expr (fe_app (fe_var 4) (fe_lst (fa_cons (fe_add (fe_tup (fa_cons (fe_tup (fa_cons fe_str (fa_cons (fe_tup (fa_cons fe_str (fa_cons fe_str (fa_cons fe_str fa_nil)))) (fa_cons fe_str fa_nil)))) fa_nil)) (fe_var 2)) (fa_cons (fe_tup fa_nil) fa_nil))))) (fss_one (fs_ret (fe_ixA (huS hr) (fe_var 4) (fe_call ct.tk D__law_taken [true, false] hr (fa_cons (fe_var 0) (fa_cons fe_int fa_nil)) (Nat.le_refl _))))))))))))))))
def d__law_drawn (F__law_all : Fn) (F__law_taken : Fn) (F__law_block : Fn) (F__law_known : Fn) : DS := (mSeq (mSet 1 (mDisp ["sorting"] (aCons (mOp ixAF (mLst (aCons (mC (.str "begin")) (aCons (mC (.str "begin")) (aCons (mC (.str "begin")) (aCons (mC (.str "end")) (aCons (mC (.str "begin down")) (aCons (mC (.str "end down")) (aCons (mC (.str "none")) aNil)))))))) (mCall 2 F__law_taken [true, false] (aCons (mVar 0) (aCons (mC (.int 7)) aNil)))) aNil))) (mSeq (mAsg (mCall 1 F__law_known [true] (aCons (mVar 0) aNil)) (gT 2 (gsCons (gDix (mVar 1) (mC (.str "block"))) (gsCons (gDix (mVar 1) (mC (.str "last"))) gsNil)))) (mSeq (mIfS (mTOp eqF (mCall 2 F__law_taken [true, false] (aCons (mVar 0) (aCons (mC (.int 2)) aNil))) (mC (.int 0))) (mSeq (mAsg (mCall 4 F__law_block [true, false, false, false] (aCons (mVar 0) (aCons (mLst (aCons (mC (.str "begin")) (aCons (mC (.str "end")) (aCons (mC (.str "one")) (aCons (mC (.str "two")) aNil))))) (aCons (mC (.int 0)) (aCons (mC (.int 2)) aNil))))) (gDix (mVar 1) (mC (.str "block")))) (mAsg (mCall 4 F__law_block [true, false, false, false] (aCons (mVar 0) (aCons (mLst (aCons (mC (.str "one")) (aCons (mC (.str "two")) aNil))) (aCons (mC (.int 1)) (aCons (mC (.int 1)) aNil))))) (gDix (mVar 1) (mC (.str "last"))))) mNx) (mSeq (mWhile 50 (mTOp gtF (mCa lenF (aCons (mCall 2 F__law_all [false, false] (aCons (mOp ixAF (mVar 1) (mC (.str "block"))) (aCons (mTup aNil) aNil))) aNil)) (mC (.int 8))) (mAsg (mSl (mOp ixAF (mVar 1) (mC (.str "block"))) (mPS (mC (.int 1))) mPN) (gDix (mVar 1) (mC (.str "block"))))) (mRet (mVar 1))))))
theorem b__law_drawn (T : Tx K w mg C_Program C_StretchError C_UnknownPath) {F__law_all : Fn} {F__law_taken : Fn} {F__law_block : Fn} {F__law_known : Fn} {f : Addr} (D__law_all : Dn P w K mg base k "_law_all" 2 F__law_all) (D__law_taken : Dn P w K mg base k "_law_taken" 2 F__law_taken) (D__law_block : Dn P w K mg base k "_law_block" 4 F__law_block) (D__law_known : Dn P w K mg base k "_law_known" 1 F__law_known) : Body P w K mg base N__law_drawn "_law_drawn" f k (defScope S__law_drawn) (defBody S__law_drawn) (d__law_drawn F__law_all F__law_taken F__law_block F__law_known) := fun cdv A outer s H E hr ct =>
  (fss_cons (fs_set 1 sc__law_drawn.nd (fe_disp (sps_cons (fe_ixA (huS hr) (fe_lst (fa_cons fe_str (fa_cons fe_str (fa_cons fe_str (fa_cons fe_str (fa_cons fe_str (fa_cons fe_str (fa_cons fe_str fa_nil)))))))) (fe_call ct.tk D__law_taken [true, false] hr (fa_cons (fe_var 0) (fa_cons fe_int fa_nil)) (Nat.le_refl _))) sps_nil))) (fss_cons (fs_asg (fe_call ct.tk D__law_known [true] hr (fa_cons (fe_var 0) fa_nil) (Nat.le_refl _)) (fg_tup rfl (fgs_cons (fg_dix (huS hr) (fe_var 1) fe_str) (fgs_cons (fg_dix (huS hr) (fe_var 1) fe_str) fgs_nil)))) (fss_cons (fs_if (ft_eq hr.units (fe_call ct.tk D__law_taken [true, false] hr (fa_cons (fe_var 0) (fa_cons fe_int fa_nil)) (Nat.le_refl _)) fe_int) (fss_cons (fs_asg (fe_call ct.tk D__law_block [true, false, false, false] hr (fa_cons (fe_var 0) (fa_cons (fe_lst (fa_cons fe_str (fa_cons fe_str (fa_cons fe_str (fa_cons fe_str fa_nil))))) (fa_cons fe_int (fa_cons fe_int fa_nil)))) (Nat.le_refl _)) (fg_dix (huS hr) (fe_var 1) fe_str)) (fss_one (fs_asg (fe_call ct.tk D__law_block [true, false, false, false] hr (fa_cons (fe_var 0) (fa_cons (fe_lst (fa_cons fe_str (fa_cons fe_str fa_nil))) (fa_cons fe_int (fa_cons fe_int fa_nil)))) (Nat.le_refl _)) (fg_dix (huS hr) (fe_var 1) fe_str)))) fss_nil) (fss_cons (fs_while 50 ct (ft_gt (fe_len rfl T.n_len (fa_cons (fe_call ct.tk D__law_all [false, false] hr (fa_cons (fe_ixA (huS hr) (fe_var 1) fe_str) (fa_cons (fe_tup fa_nil) fa_nil)) (Nat.le_refl _)) fa_nil)) fe_int) (fss_one (fs_asg (fe_slice (fe_ixA (huS hr) (fe_var 1) fe_str) (fo_some fe_int) fo_none) (fg_dix (huS hr) (fe_var 1) fe_str)))) (fss_one (fs_ret (fe_var 1)))))))
def d_law (C_Program : Addr) (F_Program_eq : Fn) (F_Program_with_sorting : Fn) (F__law_made : Fn) (F__law_taken : Fn) (F__law_refused : Fn) (F_Program_statement : Fn) (F_Program_paths : FnG) (F_Program_len : Fn) (F_Program_last : Fn) (F_Program_block : Fn) (F_Program_sorting : Fn) (F__law_all : Fn) (F__law_drawn : Fn) : DS := (mSeq (mSet 1 (mLst (aCons (mVar 0) (aCons (mC (.int 0)) (aCons (mC (.int 0)) (aCons (mC (.int 0)) aNil)))))) (mSeq (mSet 2 (mLst aNil)) (mSeq (mFor (iR1 (aCons (mC (.int 5)) aNil)) (gN 3) (mSeq (mSet 4 (mCallN 1 F__law_drawn [true] (aCons (mVar 1) aNil))) (mSeq (mSet 5 (mCall 1 F__law_made [true] (aCons (mVar 4) aNil))) (mSeq (mSet 6 (mOp addF (mCall 2 F__law_all [false, false] (aCons (mOp ixAF (mVar 4) (mC (.str "block"))) (aCons (mTup (aCons (mC (.str "block")) aNil)) aNil))) (mCall 2 F__law_all [false, false] (aCons (mOp ixAF (mVar 4) (mC (.str "last"))) (aCons (mTup (aCons (mC (.str "last")) aNil)) aNil))))) (mSeq (mIfS (mTOp neF (mLst (aCons (mProp C_Program F_Program_sorting [false] (mVar 5)) (aCons (mProp C_Program F_Program_block [false] (mVar 5)) (aCons (mProp C_Program F_Program_last [false] (mVar 5)) aNil)))) (mLst (aCons (mOp ixAF (mVar 4) (mC (.str "sorting"))) (aCons (mOp ixAF (mVar 4) (mC (.str "block"))) (aCons (mOp ixAF (mVar 4) (mC (.str "last"))) aNil))))) (mRet (mC (.bl false))) mNx) (mSeq (mIfS (mTOp neF (mLenO C_Program F_Program_len (mVar 5)) (mCa lenF (aCons (mVar 6) aNil))) (mRet (mC (.bl false))) mNx) (mSeq (mIfS (mTOp neF (mListG0 C_Program "paths" 2 [.non] F_Program_paths (mVar 5)) (mLc (iSeq (mVar 6)) (gT 2 (gsCons (gN 9) (gsCons (gN 11) gsNil))) mYes (mVar 9) [9, 11])) (mRet (mC (.bl false))) mNx) (mSeq (mFor (iSeq (mLst (aCons (mC (.str "keep")) (aCons (mC (.str "give")) (aCons (mC (.str "if")) (aCons (mC (.str "last")) aNil)))))) (gN 7) (mIfS (mTOp neF (mListG C_Program "paths" 2 [] F_Program_paths (mVar 5) (aCons (mVar 7) aNil)) (mLc (iSeq (mVar 6)) (gT 2 (gsCons (gN 9) (gsCons (gN 11) gsNil))) (mTOp eqF (mOp ixAF (mVar 11) (mC (.int 0))) (mVar 7)) (mVar 9) [9, 11])) (mRet (mC (.bl false))) mNx)) (mSeq (mFor (iSeq (mVar 6)) (gT 2 (gsCons (gN 9) (gsCons (gN 11) gsNil))) (mIfS (mTOp neF (mMeth C_Program "statement" 2 F_Program_statement [true, false] (mVar 5) (aCons (mVar 9) aNil)) (mVar 11)) (mRet (mC (.bl false))) mNx)) (mSeq (mSet 8 (mLst (aCons (mTup aNil) (aCons (mTup (aCons (mC (.str "block")) aNil)) (aCons (mTup (aCons (mC (.str "block")) (aCons (mCa lenF (aCons (mOp ixAF (mVar 4) (mC (.str "block"))) aNil)) aNil))) (aCons (mC .non) (aCons (mC (.str "block")) (aCons (mTup (aCons (mC (.str "last")) (aCons (mC (.bl false)) aNil))) aNil)))))))) (mSeq (mFor (iSeq (mOp addF (mVar 8) (mLst (aCons (mTup (aCons (mC (.str "sorting")) aNil)) (aCons (mTup (aCons (mC (.str "block")) (aCons (mNeg (mC (.int 1))) aNil))) aNil))))) (gN 9) (mIfS (mNotT (mTest (mCall 2 F__law_refused [false, false] (aCons (mVar 5) (aCons (mVar 9) aNil))))) (mRet (mC (.bl false))) mNx)) (mSeq (mSet 10 (mCa copyF (aCons (mVar 4) aNil))) (mSeq (mAsg (mOp ixAF (mLst (aCons (mC (.str "none")) (aCons (mC (.str "begin")) (aCons (mC (.str "end")) (aCons (mC (.str "begin down")) (aCons (mC (.str "end down")) aNil)))))) (mCall 2 F__law_taken [true, false] (aCons (mVar 1) (aCons (mC (.int 5)) aNil)))) (gDix (mVar 10) (mC (.str "sorting")))) (mSeq (mIfS (mOrT (mNotT (mTest (mEqA C_Program F_Program_eq (mMeth C_Program "with_sorting" 2 F_Program_with_sorting [true, false] (mVar 5) (aCons (mOp ixAF (mVar 10) (mC (.str "sorting"))) aNil)) (mCall 1 F__law_made [true] (aCons (mVar 10) aNil))))) (mTest (mEqA C_Program F_Program_eq (mVar 5) (mOp ixAF (mVar 4) (mC (.str "block")))))) (mRet (mC (.bl false))) mNx) (mSeq (mIfS (mTOp neF (mEqA C_Program F_Program_eq (mVar 5) (mMeth C_Program "with_sorting" 2 F_Program_with_sorting [true, false] (mVar 5) (aCons (mC (.str "none")) aNil))) (mOp eqF (mOp ixAF (mVar 4) (mC (.str "sorting"))) (mC (.str "none")))) (mRet (mC (.bl false))) mNx) (mSeq (mForO 8 (mVar 2) (gT 2 (gsCons (gN 12) (gsCons (gN 13) gsNil))) (mIfS (mTOp neF (mEqA C_Program F_Program_eq (mVar 5) (mVar 12)) (mOp eqKF (mVar 13) (mVar 4))) (mRet (mC (.bl false))) mNx)) (mDrop (mApp (mVar 2) (mTup (aCons (mVar 5) (aCons (mVar 4) aNil))))))))))))))))))))) (mRet (mC (.bl true))))))
theorem b_law (T : Tx K w mg C_Program C_StretchError C_UnknownPath) {F_Program_eq : Fn} {F_Program_with_sorting : Fn} {F__law_made : Fn} {F__law_taken : Fn} {F__law_refused : Fn} {F_Program_statement : Fn} {F_Program_paths : FnG} {F_Program_len : Fn} {F_Program_last : Fn} {F_Program_block : Fn} {F_Program_sorting : Fn} {F__law_all : Fn} {F__law_drawn : Fn} {f : Addr} (D_Program_eq : Mn P w K mg base k C_Program "__eq__" 2 F_Program_eq) (D_Program_with_sorting : Mn P w K mg base k C_Program "with_sorting" 2 F_Program_with_sorting) (D__law_made : Dn P w K mg base k "_law_made" 1 F__law_made) (D__law_taken : Dn P w K mg base k "_law_taken" 2 F__law_taken) (D__law_refused : Dn P w K mg base k "_law_refused" 2 F__law_refused) (D_Program_statement : Mn P w K mg base k C_Program "statement" 2 F_Program_statement) {LProgram_paths : Nat} (L_Program_paths : LProgram_paths + 3 ≤ k) (D_Program_paths : MnG P w K mg base LProgram_paths C_Program "paths" 2 [] F_Program_paths) (Dd_Program_paths : MnG P w K mg base LProgram_paths C_Program "paths" 2 [.non] F_Program_paths) {LProgram_len : Nat} (L_Program_len : LProgram_len + 1 ≤ k) (D_Program_len : Mn P w K mg base LProgram_len C_Program "__len__" 1 F_Program_len) {LProgram_last : Nat} (L_Program_last : LProgram_last + 1 ≤ k) (D_Program_last : Pn P w K mg base LProgram_last C_Program "last" F_Program_last) {LProgram_block : Nat} (L_Program_block : LProgram_block + 1 ≤ k) (D_Program_block : Pn P w K mg base LProgram_block C_Program "block" F_Program_block) {LProgram_sorting : Nat} (L_Program_sorting : LProgram_sorting + 1 ≤ k) (D_Program_sorting : Pn P w K mg base LProgram_sorting C_Program "sorting" F_Program_sorting) (D__law_all : Dn P w K mg base k "_law_all" 2 F__law_all) (D__law_drawn : Dn P w K mg base k "_law_drawn" 1 F__law_drawn) : Body P w K mg base N_law "law" f k (defScope S_law) (defBody S_law) (d_law C_Program F_Program_eq F_Program_with_sorting F__law_made F__law_taken F__law_refused F_Program_statement F_Program_paths F_Program_len F_Program_last F_Program_block F_Program_sorting F__law_all F__law_drawn) := fun cdv A outer s H E hr ct =>
  (fss_cons (fs_set 1 sc_law.nd (fe_lst (fa_cons (fe_var 0) (fa_cons fe_int (fa_cons fe_int (fa_cons fe_int fa_nil)))))) (fss_cons (fs_set 2 sc_law.nd (fe_lst fa_nil)) (fss_cons (fs_for rfl ct (fi_range1 rfl T.n_range (fa_cons fe_int fa_nil)) (fg_name 3 sc_law.nd) (fss_cons (fs_set 4 sc_law.nd (fe_callN ct.tk D__law_drawn [true] hr (fa_cons (fe_var 1) fa_nil) (Nat.le_refl _))) (fss_cons (fs_set 5 sc_law.nd (fe_call ct.tk D__law_made [true] hr (fa_cons (fe_var 4) fa_nil) (Nat.le_refl _))) (fss_cons (fs_set 6 sc_law.nd (fe_add (fe_call ct.tk D__law_all [false, false] hr (fa_cons (fe_ixA (huS hr) (fe_var 4) fe_str) (fa_cons (fe_tup (fa_cons fe_str fa_nil)) fa_nil)) (Nat.le_refl _)) (fe_call ct.tk D__law_all [false, false] hr (fa_cons (fe_ixA (huS hr) (fe_var 4) fe_str) (fa_cons (fe_tup (fa_cons fe_str fa_nil)) fa_nil)) (Nat.le_refl _)))) (fss_cons (fs_if (ft_ne hr.units (fe_lst (fa_cons (fe_prop D_Program_sorting [false] hr (fe_var 5) L_Program_sorting) (fa_cons (fe_prop D_Program_block [false] hr (fe_var 5) L_Program_block) (fa_cons (fe_prop D_Program_last [false] hr (fe_var 5) L_Program_last) fa_nil)))) (fe_lst (fa_cons (fe_ixA (huS hr) (fe_var 4) fe_str) (fa_cons (fe_ixA (huS hr) (fe_var 4) fe_str) (fa_cons (fe_ixA (huS hr) (fe_var 4) fe_str) fa_nil))))) (fss_one (fs_ret fe_bl)) fss_nil) (fss_cons (fs_if (ft_ne hr.units (fe_lenO D_Program_len hr T.n_len (fe_var 5) L_Program_len) (fe_len rfl T.n_len (fa_cons (fe_var 6) fa_nil))) (fss_one (fs_ret fe_bl)) fss_nil) (fss_cons (fs_if (ft_ne hr.units (fe_listG0 Dd_Program_paths hr (fe_var 5) L_Program_paths T.n_list) (fe_lc [("_law_path", 9), ("_law_statement_here", 11)] rfl sc_law.nd (fi_seq (fe_var 6)) (blkOk_by (N := N_law) (sc := defScope S_law) (by decide +kernel)) (fun _ _ _ _ _ => (fgv_tup rfl (fgvs_cons (fgv_name 9 sc_law.nd) (fgvs_cons (fgv_name 11 sc_law.nd) fgvs_nil)))) (fun _ _ _ _ _ => fq_nil) (fun _ _ _ _ _ => (fe_var 9)))) (fss_one (fs_ret fe_bl)) fss_nil) (fss_cons (fs_for rfl ct (fi_seq (fe_lst (fa_cons fe_str (fa_cons fe_str (fa_cons fe_str (fa_cons fe_str fa_nil)))))) (fg_name 7 sc_law.nd) (fss_one (fs_if (ft_ne hr.units (fe_listG D_Program_paths hr (fe_var 5) (fa_cons (fe_var 7) fa_nil) L_Program_paths T.n_list) (fe_lc [("_law_path", 9), ("_law_statement_here", 11)] rfl sc_law.nd (fi_seq (fe_var 6)) (blkOk_by (N := N_law) (sc := defScope S_law) (by decide +kernel)) (fun _ _ _ _ _ => (fgv_tup rfl (fgvs_cons (fgv_name 9 sc_law.nd) (fgvs_cons (fgv_name 11 sc_law.nd) fgvs_nil)))) (fun _ _ _ _ _ => fq_one (ft_eq hr.units (fe_ixA (huS hr) (fe_var 11) fe_int) (fe_var 7))) (fun _ _ _ _ _ => (fe_var 9)))) (fss_one (fs_ret fe_bl)) fss_nil))) (fss_cons (fs_for rfl ct (fi_seq (fe_var 6)) (fg_tup rfl (fgs_cons (fg_name 9 sc_law.nd) (fgs_cons (fg_name 11 sc_law.nd) fgs_nil))) (fss_one (fs_if (ft_ne hr.units (fe_meth ct.tk D_Program_statement [true, false] hr (fe_var 5) (fa_cons (fe_var 9) fa_nil) (Nat.le_refl _)) (fe_var 11)) (fss_one (fs_ret fe_bl)) fss_nil))) (fss_cons (fs_set 8 sc_law.nd (fe_lst (fa_cons (fe_tup fa_nil) (fa_cons (fe_tup (fa_cons fe_str fa_nil)) (fa_cons (fe_tup (fa_cons fe_str (fa_cons (fe_len rfl T.n_len (fa_cons (fe_ixA (huS hr) (fe_var 4) fe_str) fa_nil)) fa_nil))) (fa_cons fe_non (fa_cons fe_str (fa_cons (fe_tup (fa_cons fe_str (fa_cons fe_bl fa_nil))) fa_nil)))))))) (fss_cons (fs_for rfl ct (fi_seq (fe_add (fe_var 8) (fe_lst (fa_cons (fe_tup (fa_cons fe_str fa_nil)) (fa_cons (fe_tup (fa_cons fe_str (fa_cons (fe_neg fe_int) fa_nil))) fa_nil))))) (fg_name 9 sc_law.nd) (fss_one (fs_if (ft_not (ft_val (fe_call ct.tk D__law_refused [false, false] hr (fa_cons (fe_var 5) (fa_cons (fe_var 9) fa_nil)) (Nat.le_refl _)))) (fss_one (fs_ret fe_bl)) fss_nil))) (fss_cons (fs_set 10 sc_law.nd (fe_copy rfl T.n_dict (fa_cons (fe_var 4) fa_nil))) (fss_cons (fs_asg (fe_ixA (huS hr) (fe_lst (fa_cons fe_str (fa_cons fe_str (fa_cons fe_str (fa_cons fe_str (fa_cons fe_str fa_nil)))))) (fe_call ct.tk D__law_taken [true, false] hr (fa_cons (fe_var 1) (fa_cons fe_int fa_nil)) (Nat.le_refl _))) (fg_dix (huS hr) (fe_var 10) fe_str)) (fss_cons (fs_if (SW.pt (fw_or (ft_not (ft_eqA T.z_Program D_Program_eq hr (fe_meth ct.tk D_Program_with_sorting [true, false] hr (fe_var 5) (fa_cons (fe_ixA (huS hr) (fe_var 10) fe_str) fa_nil) (Nat.le_refl _)) (fe_call ct.tk D__law_made [true] hr (fa_cons (fe_var 10) fa_nil) (Nat.le_refl _)) (Nat.le_refl _))) (fw_or1 (ft_eqA T.z_Program D_Program_eq hr (fe_var 5) (fe_ixA (huS hr) (fe_var 4) fe_str) (Nat.le_refl _))))) (fss_one (fs_ret fe_bl)) fss_nil) (fss_cons (fs_if (ft_ne hr.units (fe_eqA T.z_Program D_Program_eq hr (fe_var 5) (fe_meth ct.tk D_Program_with_sorting [true, false] hr (fe_var 5) (fa_cons fe_str fa_nil) (Nat.le_refl _)) (Nat.le_refl _)) (fe_eq hr.units (fe_ixA (huS hr) (fe_var 4) fe_str) fe_str)) (fss_one (fs_ret fe_bl)) fss_nil) (fss_cons (fs_forO 8 rfl ct (fe_var 2) (fg_tup rfl (fgs_cons (fg_name 12 sc_law.nd) (fgs_cons (fg_name 13 sc_law.nd) fgs_nil))) (fss_one (fs_if (ft_ne hr.units (fe_eqA T.z_Program D_Program_eq hr (fe_var 5) (fe_var 12) (Nat.le_refl _)) (fe_eqK hr (fe_var 13) (fe_var 4))) (fss_one (fs_ret fe_bl)) fss_nil))) (fss_one (fs_expr (fe_app (fe_var 2) (fe_tup (fa_cons (fe_var 5) (fa_cons (fe_var 4) fa_nil)))))))))))))))))))))) (fss_one (fs_ret fe_bl)))))
end
def F_Program_eq (C_Program C_StretchError C_UnknownPath : Addr) : Fn := runD (d_Program_eq C_Program) 2
def F_words_in (C_Program C_StretchError C_UnknownPath : Addr) : Fn := runD (d_words_in ) 4
def F_is_formed (C_Program C_StretchError C_UnknownPath : Addr) : Fn := runD (d_is_formed ) 1
def F_blocks_of (C_Program C_StretchError C_UnknownPath : Addr) : Fn := runD (d_blocks_of (F_is_formed C_Program C_StretchError C_UnknownPath)) 1
def F_walked (C_Program C_StretchError C_UnknownPath : Addr) : Nat → Fn
  | 0 => noF
  | n + 1 => runD (d_walked (F_blocks_of C_Program C_StretchError C_UnknownPath) (F_walked C_Program C_StretchError C_UnknownPath n)) 8
def F_is_one_of (C_Program C_StretchError C_UnknownPath : Addr) : Fn := runD (d_is_one_of ) 2
def F_is_test (C_Program C_StretchError C_UnknownPath : Addr) : Fn := runD (d_is_test (F_is_one_of C_Program C_StretchError C_UnknownPath)) 3
def F_is_term (C_Program C_StretchError C_UnknownPath : Addr) : Fn := runD (d_is_term (F_is_one_of C_Program C_StretchError C_UnknownPath)) 3
def F_is_statement (C_Program C_StretchError C_UnknownPath : Addr) : Fn := runD (d_is_statement (F_is_test C_Program C_StretchError C_UnknownPath) (F_is_term C_Program C_StretchError C_UnknownPath) (F_is_one_of C_Program C_StretchError C_UnknownPath) (F_is_formed C_Program C_StretchError C_UnknownPath)) 2
def F_check_block (C_Program C_StretchError C_UnknownPath : Addr) : Fn := runD (d_check_block (F_is_statement C_Program C_StretchError C_UnknownPath) (F_walked C_Program C_StretchError C_UnknownPath 8)) 6
def F_Program_init (C_Program C_StretchError C_UnknownPath : Addr) : Fn := runD (d_Program_init C_Program (F_words_in C_Program C_StretchError C_UnknownPath) (F_walked C_Program C_StretchError C_UnknownPath 8) (F_check_block C_Program C_StretchError C_UnknownPath) (F_is_one_of C_Program C_StretchError C_UnknownPath)) 6
def F_Program_with_sorting (C_Program C_StretchError C_UnknownPath : Addr) : Fn := runD (d_Program_with_sorting C_Program (F_Program_init C_Program C_StretchError C_UnknownPath)) 2
def F__law_made (C_Program C_StretchError C_UnknownPath : Addr) : Fn := runD (d__law_made C_Program (F_Program_init C_Program C_StretchError C_UnknownPath)) 1
def F__law_taken (C_Program C_StretchError C_UnknownPath : Addr) : Fn := runD (d__law_taken ) 4
def F_is_path (C_Program C_StretchError C_UnknownPath : Addr) : Fn := runD (d_is_path ) 2
def F_Program_statement (C_Program C_StretchError C_UnknownPath : Addr) : Fn := runD (d_Program_statement C_Program C_UnknownPath (F_is_path C_Program C_StretchError C_UnknownPath)) 4
def F__law_refused (C_Program C_StretchError C_UnknownPath : Addr) : Fn := runD (d__law_refused C_Program C_StretchError C_UnknownPath (F_Program_statement C_Program C_StretchError C_UnknownPath)) 4
def F_Program_paths (C_Program C_StretchError C_UnknownPath : Addr) : FnG := runG (d_Program_paths C_Program) 4
def F_Program_len (C_Program C_StretchError C_UnknownPath : Addr) : Fn := runD (d_Program_len C_Program) 1
def F_Program_last (C_Program C_StretchError C_UnknownPath : Addr) : Fn := runD (d_Program_last C_Program) 1
def F_Program_block (C_Program C_StretchError C_UnknownPath : Addr) : Fn := runD (d_Program_block C_Program) 1
def F_Program_sorting (C_Program C_StretchError C_UnknownPath : Addr) : Fn := runD (d_Program_sorting C_Program) 1
def F__law_all (C_Program C_StretchError C_UnknownPath : Addr) : Nat → Fn
  | 0 => noF
  | n + 1 => runD (d__law_all (F__law_all C_Program C_StretchError C_UnknownPath n)) 5
def F__law_term (C_Program C_StretchError C_UnknownPath : Addr) : Fn := runD (d__law_term (F__law_taken C_Program C_StretchError C_UnknownPath)) 4
def F__law_test (C_Program C_StretchError C_UnknownPath : Addr) : Fn := runD (d__law_test (F__law_taken C_Program C_StretchError C_UnknownPath)) 4
mutual
def F__law_statement (C_Program C_StretchError C_UnknownPath : Addr) : Nat → Fn
  | 0 => noF
  | n + 1 => runD (d__law_statement (F__law_term C_Program C_StretchError C_UnknownPath) (F__law_taken C_Program C_StretchError C_UnknownPath) (F__law_block C_Program C_StretchError C_UnknownPath n) (F__law_test C_Program C_StretchError C_UnknownPath)) 5
def F__law_block (C_Program C_StretchError C_UnknownPath : Addr) : Nat → Fn
  | 0 => noF
  | n + 1 => runD (d__law_block (F__law_taken C_Program C_StretchError C_UnknownPath) (F__law_statement C_Program C_StretchError C_UnknownPath n)) 5
end
def F__law_known (C_Program C_StretchError C_UnknownPath : Addr) : Fn := runD (d__law_known (F__law_taken C_Program C_StretchError C_UnknownPath)) 7
def F__law_drawn (C_Program C_StretchError C_UnknownPath : Addr) : Fn := runN (d__law_drawn (F__law_all C_Program C_StretchError C_UnknownPath 8) (F__law_taken C_Program C_StretchError C_UnknownPath) (F__law_block C_Program C_StretchError C_UnknownPath 8) (F__law_known C_Program C_StretchError C_UnknownPath)) 2
def F_law (C_Program C_StretchError C_UnknownPath : Addr) : Fn := runD (d_law C_Program (F_Program_eq C_Program C_StretchError C_UnknownPath) (F_Program_with_sorting C_Program C_StretchError C_UnknownPath) (F__law_made C_Program C_StretchError C_UnknownPath) (F__law_taken C_Program C_StretchError C_UnknownPath) (F__law_refused C_Program C_StretchError C_UnknownPath) (F_Program_statement C_Program C_StretchError C_UnknownPath) (F_Program_paths C_Program C_StretchError C_UnknownPath) (F_Program_len C_Program C_StretchError C_UnknownPath) (F_Program_last C_Program C_StretchError C_UnknownPath) (F_Program_block C_Program C_StretchError C_UnknownPath) (F_Program_sorting C_Program C_StretchError C_UnknownPath) (F__law_all C_Program C_StretchError C_UnknownPath 8) (F__law_drawn C_Program C_StretchError C_UnknownPath)) 14
theorem bi_Program_eq : Bnd "__eq__" "Program.__eq__" S_Program_eq ["self", "other"] := fun _ _ _ _ _ _ us hl => match us, hl with | [_, _], _ => rfl
theorem bi_words_in : Bnd "words_in" "words_in" S_words_in ["statement"] := fun _ _ _ _ _ _ us hl => match us, hl with | [_], _ => rfl
theorem bi_is_formed : Bnd "is_formed" "is_formed" S_is_formed ["thing"] := fun _ _ _ _ _ _ us hl => match us, hl with | [_], _ => rfl
theorem bi_blocks_of : Bnd "blocks_of" "blocks_of" S_blocks_of ["thing"] := fun _ _ _ _ _ _ us hl => match us, hl with | [_], _ => rfl
theorem bi_walked : Bnd "walked" "walked" S_walked ["block", "head"] := fun _ _ _ _ _ _ us hl => match us, hl with | [_, _], _ => rfl
theorem bi_is_one_of : Bnd "is_one_of" "is_one_of" S_is_one_of ["thing", "words"] := fun _ _ _ _ _ _ us hl => match us, hl with | [_, _], _ => rfl
theorem bi_is_test : Bnd "is_test" "is_test" S_is_test ["thing", "words"] := fun _ _ _ _ _ _ us hl => match us, hl with | [_, _], _ => rfl
theorem bi_is_term : Bnd "is_term" "is_term" S_is_term ["thing", "words"] := fun _ _ _ _ _ _ us hl => match us, hl with | [_, _], _ => rfl
theorem bi_is_statement : Bnd "is_statement" "is_statement" S_is_statement ["thing", "words"] := fun _ _ _ _ _ _ us hl => match us, hl with | [_, _], _ => rfl
theorem bi_check_block : Bnd "check_block" "check_block" S_check_block ["thing", "name", "words"] := fun _ _ _ _ _ _ us hl => match us, hl with | [_, _, _], _ => rfl
theorem bi_Program_init : Bnd "__init__" "Program.__init__" S_Program_init ["self", "sorting", "block", "last"] := fun _ _ _ _ _ _ us hl => match us, hl with | [_, _, _, _], _ => rfl
theorem bi_Program_with_sorting : Bnd "with_sorting" "Program.with_sorting" S_Program_with_sorting ["self", "sorting"] := fun _ _ _ _ _ _ us hl => match us, hl with | [_, _], _ => rfl
theorem bi__law_made : Bnd "_law_made" "_law_made" S__law_made ["_law_d"] := fun _ _ _ _ _ _ us hl => match us, hl with | [_], _ => rfl
theorem bi__law_taken : Bnd "_law_taken" "_law_taken" S__law_taken ["_law_row_here", "_law_many"] := fun _ _ _ _ _ _ us hl => match us, hl with | [_, _], _ => rfl
theorem bi_is_path : Bnd "is_path" "is_path" S_is_path ["thing"] := fun _ _ _ _ _ _ us hl => match us, hl with | [_], _ => rfl
theorem bi_Program_statement : Bnd "statement" "Program.statement" S_Program_statement ["self", "path"] := fun _ _ _ _ _ _ us hl => match us, hl with | [_, _], _ => rfl
theorem bi__law_refused : Bnd "_law_refused" "_law_refused" S__law_refused ["_law_program", "_law_path"] := fun _ _ _ _ _ _ us hl => match us, hl with | [_, _], _ => rfl
theorem bi1_Program_paths : BndD "paths" "Program.paths" S_Program_paths ["self", "word"] 1 := fun _ _ _ _ _ _ _ us its hl hi => match us, its, hl, hi with | [_, _], [_], _, _ => ⟨_, rfl, rfl⟩
theorem bi0_Program_paths : BndD "paths" "Program.paths" S_Program_paths ["self", "word"] 0 := fun _ _ _ _ _ _ _ us its hl hi => match us, its, hl, hi with | [_], [_], _, _ => ⟨_, rfl, rfl⟩
theorem bi_Program_len : Bnd "__len__" "Program.__len__" S_Program_len ["self"] := fun _ _ _ _ _ _ us hl => match us, hl with | [_], _ => rfl
theorem bi_Program_last : Bnd "last" "Program.last" S_Program_last ["self"] := fun _ _ _ _ _ _ us hl => match us, hl with | [_], _ => rfl
theorem bi_Program_block : Bnd "block" "Program.block" S_Program_block ["self"] := fun _ _ _ _ _ _ us hl => match us, hl with | [_], _ => rfl
theorem bi_Program_sorting : Bnd "sorting" "Program.sorting" S_Program_sorting ["self"] := fun _ _ _ _ _ _ us hl => match us, hl with | [_], _ => rfl
theorem bi__law_all : Bnd "_law_all" "_law_all" S__law_all ["_law_block_here", "_law_base"] := fun _ _ _ _ _ _ us hl => match us, hl with | [_, _], _ => rfl
theorem bi__law_term : Bnd "_law_term" "_law_term" S__law_term ["_law_row_here", "_law_words"] := fun _ _ _ _ _ _ us hl => match us, hl with | [_, _], _ => rfl
theorem bi__law_test : Bnd "_law_test" "_law_test" S__law_test ["_law_row_here", "_law_words"] := fun _ _ _ _ _ _ us hl => match us, hl with | [_, _], _ => rfl
theorem bi__law_statement : Bnd "_law_statement" "_law_statement" S__law_statement ["_law_row_here", "_law_words", "_law_deep"] := fun _ _ _ _ _ _ us hl => match us, hl with | [_, _, _], _ => rfl
theorem bi__law_block : Bnd "_law_block" "_law_block" S__law_block ["_law_row_here", "_law_words", "_law_deep", "_law_most"] := fun _ _ _ _ _ _ us hl => match us, hl with | [_, _, _, _], _ => rfl
theorem bi__law_known : Bnd "_law_known" "_law_known" S__law_known ["_law_row_here"] := fun _ _ _ _ _ _ us hl => match us, hl with | [_], _ => rfl
theorem bi__law_drawn : Bnd "_law_drawn" "_law_drawn" S__law_drawn ["_law_row_here"] := fun _ _ _ _ _ _ us hl => match us, hl with | [_], _ => rfl
theorem bi_law : Bnd "law" "law" S_law ["_law_script"] := fun _ _ _ _ _ _ us hl => match us, hl with | [_], _ => rfl
structure Dfs (K : PySem.W.Frag) (mg : Str → Option Value) (C_Program : Addr) (C_StretchError : Addr) (C_UnknownPath : Addr) : Prop where
  q_Program_eq : Dm K C_Program "__eq__" "Program.__eq__" S_Program_eq ["self", "other"]
  q_words_in : Df K mg "words_in" S_words_in ["statement"]
  q_is_formed : Df K mg "is_formed" S_is_formed ["thing"]
  q_blocks_of : Df K mg "blocks_of" S_blocks_of ["thing"]
  q_walked : Df K mg "walked" S_walked ["block", "head"]
  q_is_one_of : Df K mg "is_one_of" S_is_one_of ["thing", "words"]
  q_is_test : Df K mg "is_test" S_is_test ["thing", "words"]
  q_is_term : Df K mg "is_term" S_is_term ["thing", "words"]
  q_is_statement : Df K mg "is_statement" S_is_statement ["thing", "words"]
  q_check_block : Df K mg "check_block" S_check_block ["thing", "name", "words"]
  q_Program_init : Di K mg "Program" C_Program "Program.__init__" S_Program_init ["self", "sorting", "block", "last"]
  q_Program_with_sorting : Dm K C_Program "with_sorting" "Program.with_sorting" S_Program_with_sorting ["self", "sorting"]
  q__law_made : Df K mg "_law_made" S__law_made ["_law_d"]
  q__law_taken : Df K mg "_law_taken" S__law_taken ["_law_row_here", "_law_many"]
  q_is_path : Df K mg "is_path" S_is_path ["thing"]
  q_Program_statement : Dm K C_Program "statement" "Program.statement" S_Program_statement ["self", "path"]
  q__law_refused : Df K mg "_law_refused" S__law_refused ["_law_program", "_law_path"]
  q_Program_paths : DmG K C_Program "paths" "Program.paths" S_Program_paths ["self", "word"] [.non]
  q_Program_len : Dm K C_Program "__len__" "Program.__len__" S_Program_len ["self"]
  q_Program_last : Dp K C_Program "last" "Program.last" S_Program_last ["self"]
  q_Program_block : Dp K C_Program "block" "Program.block" S_Program_block ["self"]
  q_Program_sorting : Dp K C_Program "sorting" "Program.sorting" S_Program_sorting ["self"]
  q__law_all : Df K mg "_law_all" S__law_all ["_law_block_here", "_law_base"]
  q__law_term : Df K mg "_law_term" S__law_term ["_law_row_here", "_law_words"]
  q__law_test : Df K mg "_law_test" S__law_test ["_law_row_here", "_law_words"]
  q__law_statement : Df K mg "_law_statement" S__law_statement ["_law_row_here", "_law_words", "_law_deep"]
  q__law_block : Df K mg "_law_block" S__law_block ["_law_row_here", "_law_words", "_law_deep", "_law_most"]
  q__law_known : Df K mg "_law_known" S__law_known ["_law_row_here"]
  q__law_drawn : Df K mg "_law_drawn" S__law_drawn ["_law_row_here"]
  x_UnknownPath : Dxi K C_UnknownPath "UnknownPath.__init__" S_xUnknownPath ["self", "path"]
section
variable {P : Program} {w : World} {K : PySem.W.Frag} {mg : Str → Option Value} {base : Heap} {C_Program : Addr} {C_StretchError : Addr} {C_UnknownPath : Addr}
theorem dx_UnknownPath (T : Tx K w mg C_Program C_StretchError C_UnknownPath) (Q : Dfs K mg C_Program C_StretchError C_UnknownPath) : Dx1 P w K mg base 1 "UnknownPath" C_UnknownPath "path" := Q.x_UnknownPath.dx1 sc_xUnknownPath T.v_StretchError T.xo_UnknownPath T.e_UnknownPath.mg_ T.xn_UnknownPath_path rfl rfl rfl rfl (by decide) (by decide) (by decide) (fun _ => rfl)
theorem dn_Program_eq (T : Tx K w mg C_Program C_StretchError C_UnknownPath) (Q : Dfs K mg C_Program C_StretchError C_UnknownPath) : Mn P w K mg base 1 C_Program "__eq__" 2 (F_Program_eq C_Program C_StretchError C_UnknownPath) := Q.q_Program_eq.mn sc_Program_eq rfl fun f => b_Program_eq (k := 0) T 
theorem dn_words_in (T : Tx K w mg C_Program C_StretchError C_UnknownPath) (Q : Dfs K mg C_Program C_StretchError C_UnknownPath) : Dn P w K mg base 1 "words_in" 1 (F_words_in C_Program C_StretchError C_UnknownPath) := Q.q_words_in.dn sc_words_in rfl fun f => b_words_in (k := 0) T 
theorem dn_is_formed (T : Tx K w mg C_Program C_StretchError C_UnknownPath) (Q : Dfs K mg C_Program C_StretchError C_UnknownPath) : Dn P w K mg base 1 "is_formed" 1 (F_is_formed C_Program C_StretchError C_UnknownPath) := Q.q_is_formed.dn sc_is_formed rfl fun f => b_is_formed (k := 0) T 
theorem dn_blocks_of (T : Tx K w mg C_Program C_StretchError C_UnknownPath) (Q : Dfs K mg C_Program C_StretchError C_UnknownPath) : Dn P w K mg base 2 "blocks_of" 1 (F_blocks_of C_Program C_StretchError C_UnknownPath) := Q.q_blocks_of.dn sc_blocks_of rfl fun f => b_blocks_of (k := 1) T (D_is_formed := (dn_is_formed T Q).mono (by decide))
theorem dg_walked (T : Tx K w mg C_Program C_StretchError C_UnknownPath) (Q : Dfs K mg C_Program C_StretchError C_UnknownPath) : ∀ n, (Dn P w K mg base (2 + n) "walked" 2 (F_walked C_Program C_StretchError C_UnknownPath n))
  | 0 => Q.q_walked.dn0 rfl
  | n + 1 => have ih := dg_walked T Q n
    Q.q_walked.dn sc_walked rfl fun f => b_walked (k := 2 + n) T (D_blocks_of := (dn_blocks_of T Q).mono (Nat.le_trans (by decide) (Nat.le_add_right _ n))) (D_walked := ih)
theorem dn_walked (T : Tx K w mg C_Program C_StretchError C_UnknownPath) (Q : Dfs K mg C_Program C_StretchError C_UnknownPath) (n : Nat) : Dn P w K mg base (2 + n) "walked" 2 (F_walked C_Program C_StretchError C_UnknownPath n) := (dg_walked T Q n)
theorem dn_is_one_of (T : Tx K w mg C_Program C_StretchError C_UnknownPath) (Q : Dfs K mg C_Program C_StretchError C_UnknownPath) : Dn P w K mg base 1 "is_one_of" 2 (F_is_one_of C_Program C_StretchError C_UnknownPath) := Q.q_is_one_of.dn sc_is_one_of rfl fun f => b_is_one_of (k := 0) T 
theorem dn_is_test (T : Tx K w mg C_Program C_StretchError C_UnknownPath) (Q : Dfs K mg C_Program C_StretchError C_UnknownPath) : Dn P w K mg base 2 "is_test" 2 (F_is_test C_Program C_StretchError C_UnknownPath) := Q.q_is_test.dn sc_is_test rfl fun f => b_is_test (k := 1) T (D_is_one_of := (dn_is_one_of T Q).mono (by decide))
theorem dn_is_term (T : Tx K w mg C_Program C_StretchError C_UnknownPath) (Q : Dfs K mg C_Program C_StretchError C_UnknownPath) : Dn P w K mg base 2 "is_term" 2 (F_is_term C_Program C_StretchError C_UnknownPath) := Q.q_is_term.dn sc_is_term rfl fun f => b_is_term (k := 1) T (D_is_one_of := (dn_is_one_of T Q).mono (by decide))
theorem dn_is_statement (T : Tx K w mg C_Program C_StretchError C_UnknownPath) (Q : Dfs K mg C_Program C_StretchError C_UnknownPath) : Dn P w K mg base 3 "is_statement" 2 (F_is_statement C_Program C_StretchError C_UnknownPath) := Q.q_is_statement.dn sc_is_statement rfl fun f => b_is_statement (k := 2) T (D_is_test := (dn_is_test T Q).mono (by decide)) (D_is_term := (dn_is_term T Q).mono (by decide)) (D_is_one_of := (dn_is_one_of T Q).mono (by decide)) (D_is_formed := (dn_is_formed T Q).mono (by decide))
theorem dn_check_block (T : Tx K w mg C_Program C_StretchError C_UnknownPath) (Q : Dfs K mg C_Program C_StretchError C_UnknownPath) : Dn P w K mg base 11 "check_block" 3 (F_check_block C_Program C_StretchError C_UnknownPath) := Q.q_check_block.dn sc_check_block rfl fun f => b_check_block (k := 10) T (D_is_statement := (dn_is_statement T Q).mono (by decide)) (D_walked := (dn_walked T Q 8).mono (by decide))
theorem dn_Program_init (T : Tx K w mg C_Program C_StretchError C_UnknownPath) (Q : Dfs K mg C_Program C_StretchError C_UnknownPath) : Cn P w K mg base 12 "Program" C_Program 4 (F_Program_init C_Program C_StretchError C_UnknownPath) := Q.q_Program_init.cn sc_Program_init rfl fun f => b_Program_init (k := 11) T (D_words_in := (dn_words_in T Q).mono (by decide)) (D_walked := (dn_walked T Q 8).mono (by decide)) (D_check_block := (dn_check_block T Q).mono (by decide)) (D_is_one_of := (dn_is_one_of T Q).mono (by decide))
theorem dn_Program_with_sorting (T : Tx K w mg C_Program C_StretchError C_UnknownPath) (Q : Dfs K mg C_Program C_StretchError C_UnknownPath) : Mn P w K mg base 14 C_Program "with_sorting" 2 (F_Program_with_sorting C_Program C_StretchError C_UnknownPath) := Q.q_Program_with_sorting.mn sc_Program_with_sorting rfl fun f => b_Program_with_sorting (k := 13) T (L_Program := by first | decide | omega) (D_Program_init := dn_Program_init T Q)
theorem dn__law_made (T : Tx K w mg C_Program C_StretchError C_UnknownPath) (Q : Dfs K mg C_Program C_StretchError C_UnknownPath) : Dn P w K mg base 14 "_law_made" 1 (F__law_made C_Program C_StretchError C_UnknownPath) := Q.q__law_made.dn sc__law_made rfl fun f => b__law_made (k := 13) T (L_Program := by first | decide | omega) (D_Program_init := dn_Program_init T Q)
theorem dn__law_taken (T : Tx K w mg C_Program C_StretchError C_UnknownPath) (Q : Dfs K mg C_Program C_StretchError C_UnknownPath) : Dn P w K mg base 1 "_law_taken" 2 (F__law_taken C_Program C_StretchError C_UnknownPath) := Q.q__law_taken.dn sc__law_taken rfl fun f => b__law_taken (k := 0) T 
theorem dn_is_path (T : Tx K w mg C_Program C_StretchError C_UnknownPath) (Q : Dfs K mg C_Program C_StretchError C_UnknownPath) : Dn P w K mg base 1 "is_path" 1 (F_is_path C_Program C_StretchError C_UnknownPath) := Q.q_is_path.dn sc_is_path rfl fun f => b_is_path (k := 0) T 
theorem dn_Program_statement (T : Tx K w mg C_Program C_StretchError C_UnknownPath) (Q : Dfs K mg C_Program C_StretchError C_UnknownPath) : Mn P w K mg base 3 C_Program "statement" 2 (F_Program_statement C_Program C_StretchError C_UnknownPath) := Q.q_Program_statement.mn sc_Program_statement rfl fun f => b_Program_statement (k := 2) T (D_is_path := (dn_is_path T Q).mono (by decide)) (hX2 := by first | decide | omega) (DX_UnknownPath := dx_UnknownPath T Q)
theorem dn__law_refused (T : Tx K w mg C_Program C_StretchError C_UnknownPath) (Q : Dfs K mg C_Program C_StretchError C_UnknownPath) : Dn P w K mg base 4 "_law_refused" 2 (F__law_refused C_Program C_StretchError C_UnknownPath) := Q.q__law_refused.dn sc__law_refused rfl fun f => b__law_refused (k := 3) T (D_Program_statement := (dn_Program_statement T Q).mono (by decide))
theorem dn_Program_paths (T : Tx K w mg C_Program C_StretchError C_UnknownPath) (Q : Dfs K mg C_Program C_StretchError C_UnknownPath) : MnG P w K mg base 1 C_Program "paths" 2 [] (F_Program_paths C_Program C_StretchError C_UnknownPath) := Q.q_Program_paths.mn sc_Program_paths rfl fun f => b_Program_paths (k := 0) T 
theorem dnd_Program_paths (T : Tx K w mg C_Program C_StretchError C_UnknownPath) (Q : Dfs K mg C_Program C_StretchError C_UnknownPath) : MnG P w K mg base 1 C_Program "paths" 2 [.non] (F_Program_paths C_Program C_StretchError C_UnknownPath) := Q.q_Program_paths.mn1 sc_Program_paths rfl fun f => b_Program_paths (k := 0) T 
theorem dn_Program_len (T : Tx K w mg C_Program C_StretchError C_UnknownPath) (Q : Dfs K mg C_Program C_StretchError C_UnknownPath) : Mn P w K mg base 1 C_Program "__len__" 1 (F_Program_len C_Program C_StretchError C_UnknownPath) := Q.q_Program_len.mn sc_Program_len rfl fun f => b_Program_len (k := 0) T 
theorem dn_Program_last (T : Tx K w mg C_Program C_StretchError C_UnknownPath) (Q : Dfs K mg C_Program C_StretchError C_UnknownPath) : Pn P w K mg base 1 C_Program "last" (F_Program_last C_Program C_StretchError C_UnknownPath) := Q.q_Program_last.pn sc_Program_last rfl fun f => b_Program_last (k := 0) T 
theorem dn_Program_block (T : Tx K w mg C_Program C_StretchError C_UnknownPath) (Q : Dfs K mg C_Program C_StretchError C_UnknownPath) : Pn P w K mg base 1 C_Program "block" (F_Program_block C_Program C_StretchError C_UnknownPath) := Q.q_Program_block.pn sc_Program_block rfl fun f => b_Program_block (k := 0) T 
theorem dn_Program_sorting (T : Tx K w mg C_Program C_StretchError C_UnknownPath) (Q : Dfs K mg C_Program C_StretchError C_UnknownPath) : Pn P w K mg base 1 C_Program "sorting" (F_Program_sorting C_Program C_StretchError C_UnknownPath) := Q.q_Program_sorting.pn sc_Program_sorting rfl fun f => b_Program_sorting (k := 0) T 
theorem dg__law_all (T : Tx K w mg C_Program C_StretchError C_UnknownPath) (Q : Dfs K mg C_Program C_StretchError C_UnknownPath) : ∀ n, (Dn P w K mg base (0 + n) "_law_all" 2 (F__law_all C_Program C_StretchError C_UnknownPath n))
  | 0 => Q.q__law_all.dn0 rfl
  | n + 1 => have ih := dg__law_all T Q n
    Q.q__law_all.dn sc__law_all rfl fun f => b__law_all (k := 0 + n) T (D__law_all := ih)
theorem dn__law_all (T : Tx K w mg C_Program C_StretchError C_UnknownPath) (Q : Dfs K mg C_Program C_StretchError C_UnknownPath) (n : Nat) : Dn P w K mg base (0 + n) "_law_all" 2 (F__law_all C_Program C_StretchError C_UnknownPath n) := (dg__law_all T Q n)
theorem dn__law_term (T : Tx K w mg C_Program C_StretchError C_UnknownPath) (Q : Dfs K mg C_Program C_StretchError C_UnknownPath) : Dn P w K mg base 2 "_law_term" 2 (F__law_term C_Program C_StretchError C_UnknownPath) := Q.q__law_term.dn sc__law_term rfl fun f => b__law_term (k := 1) T (D__law_taken := (dn__law_taken T Q).mono (by decide))
theorem dn__law_test (T : Tx K w mg C_Program C_StretchError C_UnknownPath) (Q : Dfs K mg C_Program C_StretchError C_UnknownPath) : Dn P w K mg base 2 "_law_test" 2 (F__law_test C_Program C_StretchError C_UnknownPath) := Q.q__law_test.dn sc__law_test rfl fun f => b__law_test (k := 1) T (D__law_taken := (dn__law_taken T Q).mono (by decide))
theorem dg__law_statement (T : Tx K w mg C_Program C_StretchError C_UnknownPath) (Q : Dfs K mg C_Program C_StretchError C_UnknownPath) : ∀ n, (Dn P w K mg base (2 + n) "_law_statement" 3 (F__law_statement C_Program C_StretchError C_UnknownPath n)) ∧ (Dn P w K mg base (2 + n) "_law_block" 4 (F__law_block C_Program C_StretchError C_UnknownPath n))
  | 0 => ⟨Q.q__law_statement.dn0 rfl, Q.q__law_block.dn0 rfl⟩
  | n + 1 => have ih := dg__law_statement T Q n
    ⟨Q.q__law_statement.dn sc__law_statement rfl fun f => b__law_statement (k := 2 + n) T (D__law_term := (dn__law_term T Q).mono (Nat.le_trans (by decide) (Nat.le_add_right _ n))) (D__law_taken := (dn__law_taken T Q).mono (Nat.le_trans (by decide) (Nat.le_add_right _ n))) (D__law_block := ih.2) (D__law_test := (dn__law_test T Q).mono (Nat.le_trans (by decide) (Nat.le_add_right _ n))), Q.q__law_block.dn sc__law_block rfl fun f => b__law_block (k := 2 + n) T (D__law_taken := (dn__law_taken T Q).mono (Nat.le_trans (by decide) (Nat.le_add_right _ n))) (D__law_statement := ih.1)⟩
theorem dn__law_statement (T : Tx K w mg C_Program C_StretchError C_UnknownPath) (Q : Dfs K mg C_Program C_StretchError C_UnknownPath) (n : Nat) : Dn P w K mg base (2 + n) "_law_statement" 3 (F__law_statement C_Program C_StretchError C_UnknownPath n) := (dg__law_statement T Q n).1
theorem dn__law_block (T : Tx K w mg C_Program C_StretchError C_UnknownPath) (Q : Dfs K mg C_Program C_StretchError C_UnknownPath) (n : Nat) : Dn P w K mg base (2 + n) "_law_block" 4 (F__law_block C_Program C_StretchError C_UnknownPath n) := (dg__law_statement T Q n).2
theorem dn__law_known (T : Tx K w mg C_Program C_StretchError C_UnknownPath) (Q : Dfs K mg C_Program C_StretchError C_UnknownPath) : Dn P w K mg base 2 "_law_known" 1 (F__law_known C_Program C_StretchError C_UnknownPath) := Q.q__law_known.dn sc__law_known rfl fun f => b__law_known (k := 1) T (D__law_taken := (dn__law_taken T Q).mono (by decide))
theorem dn__law_drawn (T : Tx K w mg C_Program C_StretchError C_UnknownPath) (Q : Dfs K mg C_Program C_StretchError C_UnknownPath) : Dn P w K mg base 11 "_law_drawn" 1 (F__law_drawn C_Program C_StretchError C_UnknownPath) := Q.q__law_drawn.dnN sc__law_drawn rfl fun f => b__law_drawn (k := 10) T (D__law_all := (dn__law_all T Q 8).mono (by decide)) (D__law_taken := (dn__law_taken T Q).mono (by decide)) (D__law_block := (dn__law_block T Q 8).mono (by decide)) (D__law_known := (dn__law_known T Q).mono (by decide))
end
end FL

namespace FL
open PySem L2 PyProof.Rows
/-! the data of programs -/
inductive Tm where
  | w (a : Str) | c (k a b : Str)
inductive Te where
  | srt | c (k a b : Str)
inductive Sm where
  | give (a b : Tm) | keep (p : Str) (a : Tm) | iff (t : Te) (x y : List Sm)
def Tm.e : Tm → T
  | .w a => .str a
  | .c k a b => .tup [.str k, .str a, .str b]
def Te.e : Te → T
  | .srt => .tup [.str "sort", .str "a"]
  | .c k a b => .tup [.str k, .str a, .str b]
mutual
def Sm.e : Sm → T
  | .give a b => .tup [.str "give", a.e, b.e]
  | .keep p a => .tup [.str "keep", .str p, a.e]
  | .iff t x y => .tup [.str "if", t.e, .tup (ens x), .tup (ens y)]
def ens : List Sm → List T
  | [] => []
  | s :: r => Sm.e s :: ens r
end
abbrev TERMs : List Str := ["begin", "end", "one", "two"]
abbrev PLACs : List Str := ["one", "two"]
abbrev CHOIs : List Str := ["least", "greatest"]
abbrev SORTs : List Str := ["none", "begin", "end", "begin down", "end down"]
def Tm.ok (ws : List Str) : Tm → Prop
  | .w a => a ∈ ws
  | .c k a b => k ∈ CHOIs ∧ a ∈ ws ∧ b ∈ ws
def Te.ok (ws : List Str) : Te → Prop
  | .srt => ("begin" : Str) ∈ ws
  | .c k a b => (k = "less" ∨ k = "same") ∧ a ∈ ws ∧ b ∈ ws
mutual
/-- well formed, at most so deep -/
def Sm.ok (ws : List Str) : Nat → Sm → Prop
  | _, .give a b => a.ok ws ∧ b.ok ws
  | _, .keep p a => p ∈ PLACs ∧ a.ok ws
  | 0, .iff t x y => False
  | d + 1, .iff t x y => t.ok ws ∧ oks ws d x ∧ oks ws d y
def oks (ws : List Str) : Nat → List Sm → Prop
  | _, [] => True
  | d, s :: r => Sm.ok ws d s ∧ oks ws d r
end
section
variable (C_Program C_StretchError C_UnknownPath : Addr)
theorem f_is_one_of (s : Str) (ws : List Str) (w : T) (hw : itm w = some (ws.map .str)) : dataF (F_is_one_of C_Program C_StretchError C_UnknownPath) [.str s, w] = some (.bl (decide (s ∈ ws))) := by
  unfold F_is_one_of
  rw [dataF_run]
  simp [d_is_one_of, in_str hw]
theorem f_is_term {ws : List Str} {w : T} (hw : itm w = some (ws.map .str)) {t : Tm} (h : t.ok ws) : dataF (F_is_term C_Program C_StretchError C_UnknownPath) [t.e, w] = some (.bl true) := by
  unfold F_is_term
  rw [dataF_run]
  cases t with
  | w a =>
    have := f_is_one_of C_Program C_StretchError C_UnknownPath a ws w hw
    have h : a ∈ ws := h
    simp [d_is_term, Tm.e, this, h]
  | c k a b =>
    obtain ⟨h1, h2, h3⟩ := h
    have e1 := f_is_one_of C_Program C_StretchError C_UnknownPath k CHOIs g_CHOICES rfl
    have e2 := f_is_one_of C_Program C_StretchError C_UnknownPath a ws w hw
    have e3 := f_is_one_of C_Program C_StretchError C_UnknownPath b ws w hw
    have h0 : (0 : Nat) < sizeLine := by decide
    have h1' : (1 : Nat) < sizeLine := by decide
    simp [d_is_term, Tm.e, e1, e2, e3, h1, h2, h3, lenF, itm, lcL, wipeL, mYes, h0, h1', caK, pks, pk, allF, bls]
theorem f_is_test {ws : List Str} {w : T} (hw : itm w = some (ws.map .str)) {t : Te} (h : t.ok ws) : dataF (F_is_test C_Program C_StretchError C_UnknownPath) [t.e, w] = some (.bl true) := by
  unfold F_is_test
  rw [dataF_run]
  cases t with
  | srt =>
    have e1 := f_is_one_of C_Program C_StretchError C_UnknownPath "a" ["a"] (.tup [.str "a"]) rfl
    have h : ("begin" : Str) ∈ ws := h
    simp [d_is_test, Te.e, e1, h, lenF, itm, in_str hw]
  | c k a b =>
    obtain ⟨h1, h2, h3⟩ := h
    have hk : ¬ k = ("sort" : Str) := by rcases h1 with rfl | rfl <;> decide +kernel
    have hk2 : k ∈ ([("less" : Str), "same"] : List Str) := by simpa using h1
    have e2 := f_is_one_of C_Program C_StretchError C_UnknownPath a ws w hw
    have e3 := f_is_one_of C_Program C_StretchError C_UnknownPath b ws w hw
    have e4 := in_str (s := k) (ws := ["less", "same"]) (w := .tup [.str "less", .str "same"]) (ng := false) rfl
    have h0 : (0 : Nat) < sizeLine := by decide
    have h1' : (1 : Nat) < sizeLine := by decide
    simp only [hk2, decide_true] at e4
    simp [d_is_test, Te.e, e2, e3, h2, h3, hk, e4, lenF, itm, lcL, wipeL, mYes, h0, h1', caK, pks, pk, allF, bls]
theorem f_is_formed (s : Sm) : dataF (F_is_formed C_Program C_StretchError C_UnknownPath) [s.e] = some (.bl true) := by
  unfold F_is_formed
  rw [dataF_run]
  cases s with
  | give a b => simp [d_is_formed, Sm.e, lenF, itm, mInK, mIxK, kIn, kIx, g_LENGTHS]
  | keep p a => simp [d_is_formed, Sm.e, lenF, itm, mInK, mIxK, kIn, kIx, g_LENGTHS]
  | iff t x y => simp [d_is_formed, Sm.e, lenF, itm, mInK, mIxK, kIn, kIx, g_LENGTHS]
theorem f_is_statement {ws : List Str} {w : T} (hw : itm w = some (ws.map .str)) {d : Nat} {s : Sm} (h : s.ok ws d) : dataF (F_is_statement C_Program C_StretchError C_UnknownPath) [s.e, w] = some (.bl true) := by
  have e0 := f_is_formed C_Program C_StretchError C_UnknownPath s
  unfold F_is_statement
  rw [dataF_run]
  cases s with
  | give a b =>
    unfold Sm.ok at h
    have e1 := f_is_term C_Program C_StretchError C_UnknownPath hw h.1
    have e2 := f_is_term C_Program C_StretchError C_UnknownPath hw h.2
    simp only [Sm.e] at e0
    simp [d_is_statement, Sm.e, e0, e1, e2]
    trace_state
    done
  | keep p a =>
    unfold Sm.ok at h
    have e1 := f_is_one_of C_Program C_StretchError C_UnknownPath p PLACs g_PLACES rfl
    have e2 := f_is_term C_Program C_StretchError C_UnknownPath hw h.2
    have h1 := h.1
    simp only [Sm.e] at e0
    simp [d_is_statement, Sm.e, e0, e1, e2, h1]
  | iff t x y =>
    have ht : t.ok ws := by
      cases d with
      | zero => unfold Sm.ok at h; exact h.elim
      | succ d => unfold Sm.ok at h; exact h.1
    have e1 := f_is_test C_Program C_StretchError C_UnknownPath hw ht
    simp only [Sm.e] at e0
    simp [d_is_statement, Sm.e, e0, e1]
end
end FL

namespace FL
open PySem L2 PyProof.Rows
def Tm.ws : Tm → List T
  | .w a => [.str a]
  | .c k a b => [.str a, .str b]
def Te.ws : Te → List T
  | .srt => [.str "a"]
  | .c k a b => [.str a, .str b]
def Sm.ws : Sm → List T
  | .give a b => a.ws ++ b.ws
  | .keep p a => a.ws
  | .iff t x y => t.ws
section
variable (C_Program C_StretchError C_UnknownPath : Addr)
theorem f_words_in {ws : List Str} {d : Nat} {s : Sm} (h : s.ok ws d) (hw : ∀ a ∈ ws, a.length ≤ 100) : dataF (F_words_in C_Program C_StretchError C_UnknownPath) [s.e] = some (.lst s.ws) := by
  unfold F_words_in
  rw [dataF_run]
  have z : ∀ n, n ≤ 100 → n ≤ sizeLine := fun n h => Nat.le_trans h (by decide)
  have n0 : (0 : Nat) < sizeLine := by decide
  have n1 : (1 : Nat) < sizeLine := by decide
  have n2 : (2 : Nat) < sizeLine := by decide
  have n3 : (3 : Nat) < sizeLine := by decide
  have sl_str : ∀ (x : Str) (lo hi : Option Int), x.length ≤ 100 → slF (.str x) lo hi = some (.d (.str (cutS x lo hi))) := fun x lo hi h => by simp [slF, z _ h]
  have go : ∀ (s : Sm), (∀ p a, s = .keep p a → p.length ≤ 100) → (∀ a b, s = .give (.w a) b → a.length ≤ 100) → resD (d_words_in ⟨[some (.d s.e), none, none, none], []⟩) = some (.lst s.ws) := fun s hk hg => by
    cases s with
    | give a b =>
      cases a with
      | w a =>
        have ha := hg a b rfl
        cases b with
        | w b => simp [d_words_in, Sm.e, Tm.e, mDisp, toDs, sl_str, ha, opK, pk, ixAF, ixF, ixDF, keyT, dkGet, itm, mLc2, lcL2, lcL, wipeL, mYes, Sm.ws, Tm.ws, toD, n0, n1, n2, n3, resD]
        | c k b b2 => simp [d_words_in, Sm.e, Tm.e, mDisp, toDs, sl_str, ha, opK, pk, ixAF, ixF, ixDF, keyT, dkGet, itm, mLc2, lcL2, lcL, wipeL, mYes, Sm.ws, Tm.ws, toD, n0, n1, n2, n3, resD]
      | c k a a2 =>
        cases b with
        | w b => simp [d_words_in, Sm.e, Tm.e, mDisp, toDs, sl_str, opK, pk, ixAF, ixF, ixDF, keyT, dkGet, itm, mLc2, lcL2, lcL, wipeL, mYes, Sm.ws, Tm.ws, toD, n0, n1, n2, n3, resD]
        | c k b b2 => simp [d_words_in, Sm.e, Tm.e, mDisp, toDs, sl_str, opK, pk, ixAF, ixF, ixDF, keyT, dkGet, itm, mLc2, lcL2, lcL, wipeL, mYes, Sm.ws, Tm.ws, toD, n0, n1, n2, n3, resD]
    | keep p a =>
      have hp := hk p a rfl
      cases a with
      | w a => simp [d_words_in, Sm.e, Tm.e, mDisp, toDs, sl_str, hp, opK, pk, ixAF, ixF, ixDF, keyT, dkGet, itm, mLc2, lcL2, lcL, wipeL, mYes, Sm.ws, Tm.ws, toD, n0, n1, n2, n3, resD]
      | c k b b2 => simp [d_words_in, Sm.e, Tm.e, mDisp, toDs, sl_str, hp, opK, pk, ixAF, ixF, ixDF, keyT, dkGet, itm, mLc2, lcL2, lcL, wipeL, mYes, Sm.ws, Tm.ws, toD, n0, n1, n2, n3, resD]
    | iff t x y =>
      cases t with
      | srt => simp [d_words_in, Sm.e, Te.e, mDisp, toDs, sl_str, opK, pk, ixAF, ixF, ixDF, keyT, dkGet, itm, mLc2, lcL2, lcL, wipeL, mYes, Sm.ws, Te.ws, toD, n0, n1, n2, n3, resD]
      | c k a b => simp [d_words_in, Sm.e, Te.e, mDisp, toDs, sl_str, opK, pk, ixAF, ixF, ixDF, keyT, dkGet, itm, mLc2, lcL2, lcL, wipeL, mYes, Sm.ws, Te.ws, toD, n0, n1, n2, n3, resD]
  refine go s (fun p a e => ?_) fun a b e => ?_
  · subst e
    unfold Sm.ok at h
    have := h.1
    simp only [List.mem_cons, List.not_mem_nil, or_false] at this
    rcases this with rfl | rfl <;> decide +kernel
  · subst e
    unfold Sm.ok at h
    exact hw _ h.1
theorem f_blocks_of (s : Sm) : dataF (F_blocks_of C_Program C_StretchError C_UnknownPath) [s.e] = some (.lst (match s with | .iff t x y => [.tup (ens x), .tup (ens y)] | _ => [])) := by
  have e0 := f_is_formed C_Program C_StretchError C_UnknownPath s
  unfold F_blocks_of
  rw [dataF_run]
  cases s with
  | give a b => simp only [Sm.e] at e0; simp [d_blocks_of, Sm.e, e0, resD, toD]
  | keep p a => simp only [Sm.e] at e0; simp [d_blocks_of, Sm.e, e0, resD, toD]
  | iff t x y => simp only [Sm.e] at e0; simp [d_blocks_of, Sm.e, e0, resD, toD, listF, itm]
end
end FL

namespace FL
open PySem L2 PyProof.Rows
mutual
def rowsS (h : List T) : Sm → List T
  | .iff t x y => rowsL (h ++ [.int 0]) 0 x ++ rowsL (h ++ [.int 1]) 0 y
  | _ => []
def rowsL (h : List T) : Int → List Sm → List T
  | _, [] => []
  | i, s :: r => .tup [.tup (h ++ [.int i]), s.e] :: (rowsS (h ++ [.int i]) s ++ rowsL h (i + 1) r)
end
theorem isi_tup_lst {x : List T} {ρ : Sg} : isiK "tuple" (.d (.lst x)) ρ = .ok (.d (.bl false)) ρ := by
  have : isiB "tuple" .lst = some false := by decide +kernel
  simp [isiK, pk, isDt, T.kd, this]
theorem oks_cons {ws : List Str} {d : Nat} {s : Sm} {r : List Sm} : oks ws d (s :: r) ↔ s.ok ws d ∧ oks ws d r := by
  rw [oks]
section
variable (C_Program C_StretchError C_UnknownPath : Addr)
theorem f_walked {ws : List Str} : ∀ (n d : Nat) (blk : List Sm) (h : List T), oks ws d blk → d < n → (rowsL h 0 blk).length ≤ 1000 → h.length + 2 * n ≤ 100 → dataF (F_walked C_Program C_StretchError C_UnknownPath n) [.tup (ens blk), .tup h] = some (.lst (rowsL h 0 blk)) := by
  intro n
  induction n with
  | zero => intro d blk h _ hn; omega
  | succ n ih =>
    intro d blk h ok hn hl hh
    unfold F_walked
    rw [dataF_run]
    have loop : ∀ (r : List Sm) (i : Int) (acc : List T) (v3 v4 v5 v6 v7 : Option U), oks ws d r → acc.length + (rowsL h i r).length ≤ 1000 → ∃ w3 w4 w5 w6 w7,
        forL (gT 2 (gsCons (gN 3) (gsCons (gN 4) gsNil))) (mSeq (mSet 5 (mOp addF (mVar 1) (mTup (aCons (mVar 3) aNil)))) (mSeq (mDrop (mApp (mVar 2) (mTup (aCons (mVar 5) (aCons (mVar 4) aNil))))) (mFor (iEnumD (aCons (mCall 1 (F_blocks_of C_Program C_StretchError C_UnknownPath) [false] (aCons (mVar 4) aNil)) aNil)) (gT 2 (gsCons (gN 6) (gsCons (gN 7) gsNil))) (mIfS (mTest (mIsi "tuple" (mVar 7))) (mDrop (mExt (mVar 2) (mCall 2 (F_walked C_Program C_StretchError C_UnknownPath n) [false, false] (aCons (mVar 7) (aCons (mOp addF (mVar 5) (mTup (aCons (mVar 6) aNil))) aNil))))) mNx)))) (enumT i (ens r))
          ⟨[some (.d (.tup (ens blk))), some (.d (.tup h)), some (.own 0), v3, v4, v5, v6, v7], [.lst acc]⟩ = .nx ⟨[some (.d (.tup (ens blk))), some (.d (.tup h)), some (.own 0), w3, w4, w5, w6, w7], [.lst (acc ++ rowsL h i r)]⟩ := by
      intro r
      induction r with
      | nil => intro i acc v3 v4 v5 v6 v7 _ _; exact ⟨v3, v4, v5, v6, v7, by simp [ens, enumT, forL, rowsL]⟩
      | cons s r ihr =>
        intro i acc v3 v4 v5 v6 v7 hok hlen
        obtain ⟨hs, hr⟩ := oks_cons.mp hok
        have eb := f_blocks_of C_Program C_StretchError C_UnknownPath s
        have z : ∀ n, n ≤ 1000 → n ≤ sizeLine := fun n h => Nat.le_trans h (by decide)
        have z' : ∀ n, n ≤ 1000 → n < sizeLine := fun n h => Nat.lt_of_le_of_lt h (by decide)
        have q1 : h.length + 1 ≤ sizeLine := z _ (by omega)
        have q1' : h.length + (0 + 1) ≤ sizeLine := z _ (by omega)
        have q2 : h.length + 1 + 1 ≤ sizeLine := z _ (by omega)
        simp only [rowsL, List.length_cons, List.length_append] at hlen
        have q3 : acc.length < sizeLine := z' _ (by omega)
        cases s with
        | give a b =>
          simp only [Sm.e] at eb
          simp only [rowsS, List.nil_append, List.length_nil] at hlen
          obtain ⟨w3, w4, w5, w6, w7, e⟩ := ihr (i + 1) (acc ++ [.tup [.tup (h ++ [.int i]), (Sm.give a b).e]]) (some (.d (.int i))) (some (.d (Sm.give a b).e)) (some (.d (.tup (h ++ [.int i])))) v6 v7 hr (by simp; omega)
          refine ⟨w3, w4, w5, w6, w7, ?_⟩
          simp [ens, enumT, forL, gT, gsCons, gsNil, pk, itm, addF, q1, mApp, isL, q3, Sm.e, eb]
          simp [Sm.e, rowsL, rowsS] at e ⊢
          exact e
        | keep p a =>
          simp only [Sm.e] at eb
          simp only [rowsS, List.nil_append, List.length_nil] at hlen
          obtain ⟨w3, w4, w5, w6, w7, e⟩ := ihr (i + 1) (acc ++ [.tup [.tup (h ++ [.int i]), (Sm.keep p a).e]]) (some (.d (.int i))) (some (.d (Sm.keep p a).e)) (some (.d (.tup (h ++ [.int i])))) v6 v7 hr (by simp; omega)
          refine ⟨w3, w4, w5, w6, w7, ?_⟩
          simp [ens, enumT, forL, gT, gsCons, gsNil, pk, itm, addF, q1, mApp, isL, q3, Sm.e, eb]
          simp [Sm.e, rowsL, rowsS] at e ⊢
          exact e
        | iff t x y =>
          simp only [Sm.e] at eb
          simp only [rowsS, List.length_append] at hlen
          obtain ⟨d, rfl⟩ : ∃ m, d = m + 1 := by
            cases d with
            | zero => unfold Sm.ok at hs; exact hs.elim
            | succ d => exact ⟨d, rfl⟩
          unfold Sm.ok at hs
          have e1 := ih d x (h ++ [.int i, .int 0]) hs.2.1 (by omega) (by simp at hlen ⊢; omega) (by simp; omega)
          have e2 := ih d y (h ++ [.int i, .int 1]) hs.2.2 (by omega) (by simp at hlen ⊢; omega) (by simp; omega)
          obtain ⟨w3, w4, w5, w6, w7, e⟩ := ihr (i + 1) (acc ++ .tup [.tup (h ++ [.int i]), (Sm.iff t x y).e] :: (rowsL (h ++ [.int i, .int 0]) 0 x ++ rowsL (h ++ [.int i, .int 1]) 0 y)) (some (.d (.int i))) (some (.d (Sm.iff t x y).e)) (some (.d (.tup (h ++ [.int i])))) (some (.d (.int 1))) (some (.d (.tup (ens y)))) hr (by simp at hlen ⊢; omega)
          refine ⟨w3, w4, w5, w6, w7, ?_⟩
          simp at hlen
          have q4 : acc.length + 1 + (rowsL (h ++ [.int i, .int 0]) 0 x).length ≤ sizeLine := z _ (by omega)
          have q5 : acc.length + ((rowsL (h ++ [.int i, .int 0]) 0 x).length + 1) + (rowsL (h ++ [.int i, .int 1]) 0 y).length ≤ sizeLine := z _ (by omega)
          simp [ens, enumT, forL, gT, gsCons, gsNil, pk, itm, addF, q1, q2, mApp, mExt, isL, q3, Sm.e, eb, e1, e2, q4, q5]
          simp [Sm.e, rowsL, rowsS] at e ⊢
          exact e
    obtain ⟨w3, w4, w5, w6, w7, e⟩ := loop blk 0 [] none none none none none ok (by simpa using hl)
    simp only [List.nil_append] at e
    simp only [List.map_cons, List.map_nil, List.length_cons, List.length_nil, d_walked, ev_seq, ev_set, ev_lst, ev_aNil, R.bind_ok, R.thn_ok, lstK_0, F.thn_nx, ev_for, ev_iEnum, ev_aCons, N_walked]
    simp [List.replicate, e, resD, toD]
end
end FL

namespace FL
open PySem L2 PyProof.Rows
/-- what a row of a block is -/
def RowOk (ws : List Str) (lo hi : Nat) (row : T) : Prop := ∃ p s d', row = .tup [.tup p, Sm.e s] ∧ s.ok ws d' ∧ lo ≤ p.length ∧ p.length ≤ hi
theorem RowOk.mono {ws : List Str} {lo hi lo' hi' : Nat} {row : T} (h : RowOk ws lo hi row) (h1 : lo' ≤ lo) (h2 : hi ≤ hi') : RowOk ws lo' hi' row := by
  obtain ⟨p, s, d', e1, e2, e3, e4⟩ := h
  exact ⟨p, s, d', e1, e2, by omega, by omega⟩
theorem rows_mem {ws : List Str} : ∀ (d : Nat) (blk : List Sm) (h : List T) (i : Int), oks ws d blk → ∀ row ∈ rowsL h i blk, RowOk ws (h.length + 1) (h.length + 1 + 2 * d) row := by
  intro d
  induction d with
  | zero =>
    intro blk
    induction blk with
    | nil => intro h i _ row hm; simp [rowsL] at hm
    | cons s r ihr =>
      intro h i ok row hm
      obtain ⟨hs, hr⟩ := oks_cons.mp ok
      cases s with
      | iff t x y => unfold Sm.ok at hs; exact hs.elim
      | give a b =>
        simp only [rowsL, rowsS, List.nil_append, List.mem_cons] at hm
        rcases hm with rfl | hm
        · exact ⟨_, _, 0, rfl, hs, by simp, by simp⟩
        · exact ihr h (i + 1) hr row hm
      | keep p a =>
        simp only [rowsL, rowsS, List.nil_append, List.mem_cons] at hm
        rcases hm with rfl | hm
        · exact ⟨_, _, 0, rfl, hs, by simp, by simp⟩
        · exact ihr h (i + 1) hr row hm
  | succ d ih =>
    intro blk
    induction blk with
    | nil => intro h i _ row hm; simp [rowsL] at hm
    | cons s r ihr =>
      intro h i ok row hm
      obtain ⟨hs, hr⟩ := oks_cons.mp ok
      simp only [rowsL, List.mem_cons, List.mem_append] at hm
      rcases hm with rfl | hm | hm
      · exact ⟨_, _, d + 1, rfl, hs, by simp, by simp⟩
      · cases s with
        | give a b => simp [rowsS] at hm
        | keep p a => simp [rowsS] at hm
        | iff t x y =>
          unfold Sm.ok at hs
          simp only [rowsS, List.mem_append] at hm
          rcases hm with hm | hm
          · obtain ⟨p, s, d', e1, e2, e3, e4⟩ := ih x _ _ hs.2.1 row hm
            exact ⟨p, s, d', e1, e2, by simp at e3 ⊢; omega, by simp at e4 ⊢; omega⟩
          · obtain ⟨p, s, d', e1, e2, e3, e4⟩ := ih y _ _ hs.2.2 row hm
            exact ⟨p, s, d', e1, e2, by simp at e3 ⊢; omega, by simp at e4 ⊢; omega⟩
      · exact ihr h (i + 1) hr row hm
section
variable (C_Program C_StretchError C_UnknownPath : Addr)
theorem f_check_block {ws : List Str} {w : T} (hw : itm w = some (ws.map .str)) {d : Nat} (hd : d ≤ 2) {blk : List Sm} (nm : Str) (ok : oks ws d blk) (hl : (rowsL [.str nm] 0 blk).length ≤ 8) :
    dataF (F_check_block C_Program C_StretchError C_UnknownPath) [.tup (ens blk), .str nm, w] = some .non := by
  have ew := f_walked C_Program C_StretchError C_UnknownPath 8 d blk [.str nm] ok (by omega) (by omega) (by simp)
  have hr := rows_mem d blk [.str nm] 0 ok
  unfold F_check_block
  rw [dataF_run]
  generalize rowsL [.str nm] 0 blk = rows at ew hr hl
  have loop : ∀ (rs : List T), (∀ r ∈ rs, RowOk ws 2 6 r) → ∀ (u0 u1 u3 : Option U) (v4 v5 : Option U) (st : List Ob), ∃ w4 w5,
      forL (gT 2 (gsCons (gN 4) (gsCons (gN 5) gsNil))) (mIfS (mOrT (mNotT (mTest (mCall 2 (F_is_statement C_Program C_StretchError C_UnknownPath) [false, false] (aCons (mVar 5) (aCons (mVar 2) aNil))))) (mTOp gtF (mOp divF (mOp subF (mCa lenF (aCons (mVar 4) aNil)) (mC (.int 2))) (mC (.int 2))) (mC g_MOST_AROUND))) mNo mNx) rs ⟨[u0, u1, some (.d w), u3, v4, v5], st⟩ = .nx ⟨[u0, u1, some (.d w), u3, w4, w5], st⟩ := by
    intro rs
    induction rs with
    | nil => intro _ u0 u1 u3 v4 v5 st; exact ⟨v4, v5, rfl⟩
    | cons r rs ih =>
      intro hall u0 u1 u3 v4 v5 st
      obtain ⟨p, s, d', rfl, hs, h1, h2⟩ := hall r List.mem_cons_self
      obtain ⟨w4, w5, e⟩ := ih (fun r hr => hall r (List.mem_cons_of_mem _ hr)) u0 u1 u3 (some (.d (.tup p))) (some (.d s.e)) st
      have e0 := f_is_statement C_Program C_StretchError C_UnknownPath hw hs
      have hc : CDivN ((p.length : Int) - 2) 2 := by unfold CDivN; simp
      have hq : ¬ (2 : Int) < ((p.length : Int) - 2).fdiv 2 := by
        have : ((p.length : Int) - 2).fdiv 2 ≤ 2 := by
          rw [Int.fdiv_eq_ediv_of_nonneg _ (by omega)]
          omega
        omega
      refine ⟨w4, w5, ?_⟩
      simp [forL, gT, gsCons, gsNil, pk, itm, e0, lenF, subF, divF, hc, g_MOST_AROUND, iiF, hq]
      exact e
  obtain ⟨w4, w5, e⟩ := loop rows (fun r h => (hr r h).mono (by simp) (by simp; omega)) (some (.d (.tup (ens blk)))) (some (.d (.str nm))) (some (.d (.lst rows))) none none []
  have hm : ¬ (8 : Int) < (rows.length : Int) := by omega
  simp [d_check_block, ew, List.replicate, lenF, itm, g_MOST_STATEMENTS, iiF, hm]
  rw [e]
  rfl
end
end FL

namespace FL
open PySem L2 PyProof.Rows
def kT : NestedKey → T
  | .num i => .int i
  | .text x => .str x
  | _ => .non
def smp : NestedKey → Bool
  | .num _ => true
  | .text _ => true
  | _ => false
mutual
def rowsQS (h : List NestedKey) : Sm → List (List NestedKey × Sm)
  | .iff t x y => rowsQ (h ++ [.num 0]) 0 x ++ rowsQ (h ++ [.num 1]) 0 y
  | _ => []
def rowsQ (h : List NestedKey) : Int → List Sm → List (List NestedKey × Sm)
  | _, [] => []
  | i, s :: r => (h ++ [.num i], s) :: (rowsQS (h ++ [.num i]) s ++ rowsQ h (i + 1) r)
end
def rowE (q : List NestedKey × Sm) : T := .tup [.tup (q.1.map kT), q.2.e]
mutual
theorem rowsQS_e : ∀ (s : Sm) (h : List NestedKey), rowsS (h.map kT) s = (rowsQS h s).map rowE
  | .iff t x y, h => by
    have e1 := rowsQ_e x (h ++ [.num 0]) 0
    have e2 := rowsQ_e y (h ++ [.num 1]) 0
    simp only [List.map_append, List.map_cons, List.map_nil, kT] at e1 e2
    simp [rowsS, rowsQS, e1, e2]
  | .give a b, h => by simp [rowsS, rowsQS]
  | .keep p a, h => by simp [rowsS, rowsQS]
theorem rowsQ_e : ∀ (l : List Sm) (h : List NestedKey) (i : Int), rowsL (h.map kT) i l = (rowsQ h i l).map rowE
  | [], h, i => by simp [rowsL, rowsQ]
  | s :: r, h, i => by
    have e1 := rowsQS_e s (h ++ [.num i])
    have e2 := rowsQ_e r h (i + 1)
    simp only [List.map_append, List.map_cons, List.map_nil, kT] at e1
    simp [rowsL, rowsQ, e1, e2, rowE, kT]
end
mutual
theorem rowsQS_pre : ∀ (s : Sm) (h : List NestedKey), h.all smp = true → ∀ q ∈ rowsQS h s, ∃ c rest, q.1 = h ++ .num c :: rest ∧ rest ≠ [] ∧ q.1.all smp = true
  | .iff t x y, h, hs, q, hq => by
    simp only [rowsQS, List.mem_append] at hq
    rcases hq with hq | hq
    · obtain ⟨j, rest, e1, e2, e3⟩ := rowsQ_pre x (h ++ [.num 0]) 0 (by simp [hs, smp]) q hq
      exact ⟨0, .num j :: rest, by rw [e1]; simp, by simp, e3⟩
    · obtain ⟨j, rest, e1, e2, e3⟩ := rowsQ_pre y (h ++ [.num 1]) 0 (by simp [hs, smp]) q hq
      exact ⟨1, .num j :: rest, by rw [e1]; simp, by simp, e3⟩
  | .give a b, h, _, q, hq => by simp [rowsQS] at hq
  | .keep p a, h, _, q, hq => by simp [rowsQS] at hq
theorem rowsQ_pre : ∀ (l : List Sm) (h : List NestedKey) (i : Int), h.all smp = true → ∀ q ∈ rowsQ h i l, ∃ j rest, q.1 = h ++ .num j :: rest ∧ i ≤ j ∧ q.1.all smp = true
  | [], h, i, _, q, hq => by simp [rowsQ] at hq
  | s :: r, h, i, hs, q, hq => by
    simp only [rowsQ, List.mem_cons, List.mem_append] at hq
    rcases hq with rfl | hq | hq
    · exact ⟨i, [], rfl, by omega, by simp [hs, smp]⟩
    · obtain ⟨c, rest, e1, e2, e3⟩ := rowsQS_pre s (h ++ [.num i]) (by simp [hs, smp]) q hq
      exact ⟨i, .num c :: rest, by rw [e1]; simp, by omega, e3⟩
    · obtain ⟨j, rest, e1, e2, e3⟩ := rowsQ_pre r h (i + 1) hs q hq
      exact ⟨j, rest, e1, by omega, e3⟩
end
theorem nodup_app {α : Type} {l r : List α} (h1 : l.Nodup) (h2 : r.Nodup) (h : ∀ x ∈ l, x ∉ r) : (l ++ r).Nodup := by
  rw [List.nodup_append]
  exact ⟨h1, h2, fun a ha b hb e => h a ha (e ▸ hb)⟩
mutual
theorem rowsQS_nd : ∀ (s : Sm) (h : List NestedKey), h.all smp = true → ((rowsQS h s).map (·.1)).Nodup
  | .iff t x y, h, hs => by
    simp only [rowsQS, List.map_append]
    have q0 : (h ++ [NestedKey.num 0]).all smp = true := by simp [hs, smp]
    have q1 : (h ++ [NestedKey.num 1]).all smp = true := by simp [hs, smp]
    refine nodup_app (rowsQ_nd x _ 0 q0) (rowsQ_nd y _ 0 q1) fun p hp hq => ?_
    obtain ⟨a, ha, rfl⟩ := List.mem_map.mp hp
    obtain ⟨b, hb, e⟩ := List.mem_map.mp hq
    obtain ⟨j, rest, e1, _⟩ := rowsQ_pre x _ 0 q0 a ha
    obtain ⟨j', rest', e2, _⟩ := rowsQ_pre y _ 0 q1 b hb
    rw [e1, e2] at e
    simp at e
  | .give a b, h, _ => by simp [rowsQS]
  | .keep p a, h, _ => by simp [rowsQS]
theorem rowsQ_nd : ∀ (l : List Sm) (h : List NestedKey) (i : Int), h.all smp = true → ((rowsQ h i l).map (·.1)).Nodup
  | [], h, i, _ => by simp [rowsQ]
  | s :: r, h, i, hs => by
    have q0 : (h ++ [NestedKey.num i]).all smp = true := by simp [hs, smp]
    simp only [rowsQ, List.map_cons, List.map_append, List.nodup_cons]
    refine ⟨fun hm => ?_, nodup_app (rowsQS_nd s _ q0) (rowsQ_nd r h (i + 1) hs) fun p hp hq => ?_⟩
    · rw [List.mem_append] at hm
      rcases hm with hm | hm
      · obtain ⟨a, ha, e⟩ := List.mem_map.mp hm
        obtain ⟨c, rest, e1, e2, _⟩ := rowsQS_pre s _ q0 a ha
        rw [e1] at e
        simp at e
      · obtain ⟨a, ha, e⟩ := List.mem_map.mp hm
        obtain ⟨j, rest, e1, e2, _⟩ := rowsQ_pre r h (i + 1) hs a ha
        rw [e1] at e
        simp at e
        omega
    · obtain ⟨a, ha, rfl⟩ := List.mem_map.mp hp
      obtain ⟨b, hb, e⟩ := List.mem_map.mp hq
      obtain ⟨c, rest, e1, _⟩ := rowsQS_pre s _ q0 a ha
      obtain ⟨j, rest', e2, e3, _⟩ := rowsQ_pre r h (i + 1) hs b hb
      rw [e1, e2] at e
      simp at e
      omega
end
theorem nks_kT : ∀ p : List NestedKey, p.all smp = true → T.nks (p.map kT) = some p
  | [], _ => rfl
  | k :: p, h => by
    simp only [List.all_cons, Bool.and_eq_true] at h
    have := nks_kT p h.2
    cases k with
    | num i => simp [T.nks, T.nk, kT, this]
    | text x => simp [T.nks, T.nk, kT, this]
    | _ => simp [smp] at h
theorem prs_rows : ∀ l : List (List NestedKey × Sm), (∀ q ∈ l, q.1.all smp = true) → prs (l.map rowE) = some (l.map fun q => .tup q.1, l.map fun q => .tup (q.1.map kT), l.map fun q => q.2.e)
  | [], _ => rfl
  | q :: l, h => by
    have e1 := nks_kT q.1 (h q List.mem_cons_self)
    have e2 := prs_rows l fun x hx => h x (List.mem_cons_of_mem _ hx)
    simp [prs, rowE, T.nk, e1, e2]
theorem depthAll_smp : ∀ p : List NestedKey, p.all smp = true → NestedKey.depthAll p = 0
  | [], _ => rfl
  | k :: p, h => by
    simp only [List.all_cons, Bool.and_eq_true] at h
    have := depthAll_smp p h.2
    cases k with
    | num i => simp [NestedKey.depthAll, NestedKey.depth, this]
    | text x => simp [NestedKey.depthAll, NestedKey.depth, this]
    | _ => simp [smp] at h
theorem depth_smp (p : List NestedKey) (h : p.all smp = true) : (NestedKey.tup p).depth ≤ 8 := by
  simp [NestedKey.depth, depthAll_smp p h]
/-- the rows of a program -/
def progQ (b l : List Sm) : List (List NestedKey × Sm) := rowsQ [.text "block"] 0 b ++ rowsQ [.text "last"] 0 l
theorem progQ_smp (b l : List Sm) : ∀ q ∈ progQ b l, q.1.all smp = true := fun q hq => by
  rcases List.mem_append.mp hq with h | h
  · obtain ⟨_, _, _, _, e⟩ := rowsQ_pre b _ 0 (by simp [smp]) q h; exact e
  · obtain ⟨_, _, _, _, e⟩ := rowsQ_pre l _ 0 (by simp [smp]) q h; exact e
theorem nodup_mapTup : ∀ {l : List (List NestedKey)}, l.Nodup → (l.map NestedKey.tup).Nodup
  | [], _ => by simp
  | a :: l, h => by
    rw [List.nodup_cons] at h
    rw [List.map_cons, List.nodup_cons]
    refine ⟨fun hm => ?_, nodup_mapTup h.2⟩
    obtain ⟨b, hb, e⟩ := List.mem_map.mp hm
    cases e
    exact h.1 hb
theorem progQ_nd (b l : List Sm) : ((progQ b l).map fun q => NestedKey.tup q.1).Nodup := by
  have : ((progQ b l).map fun q => NestedKey.tup q.1) = ((progQ b l).map (·.1)).map NestedKey.tup := by simp
  rw [this]
  refine nodup_mapTup ?_
  unfold progQ
  rw [List.map_append]
  refine nodup_app (rowsQ_nd b _ 0 (by simp [smp])) (rowsQ_nd l _ 0 (by simp [smp])) fun p hp hq => ?_
  obtain ⟨x, hx, rfl⟩ := List.mem_map.mp hp
  obtain ⟨y, hy, e⟩ := List.mem_map.mp hq
  obtain ⟨_, _, e1, _⟩ := rowsQ_pre b _ 0 (by simp [smp]) x hx
  obtain ⟨_, _, e2, _⟩ := rowsQ_pre l _ 0 (by simp [smp]) y hy
  rw [e1, e2] at e
  simp at e
theorem dict_rows (b l : List Sm) (h : (progQ b l).length ≤ 1000) : dictF [.lst ((progQ b l).map rowE)] = some (.d (.dt ((progQ b l).map fun q => .tup (q.1.map kT)) ((progQ b l).map fun q => q.2.e))) := by
  unfold dictF
  dsimp only
  rw [prs_rows _ (progQ_smp b l)]
  dsimp only
  rw [if_pos]
  refine ⟨progQ_nd b l, fun q hq => ?_, ?_⟩
  · obtain ⟨x, hx, rfl⟩ := List.mem_map.mp hq
    exact depth_smp _ (progQ_smp b l x hx)
  · rw [List.length_map]
    exact Nat.le_trans h (by decide)
theorem rows_block (b : List Sm) : rowsL [.str "block"] 0 b = (rowsQ [.text "block"] 0 b).map rowE := rowsQ_e b [.text "block"] 0
theorem rows_last (b : List Sm) : rowsL [.str "last"] 0 b = (rowsQ [.text "last"] 0 b).map rowE := rowsQ_e b [.text "last"] 0
end FL

namespace FL
open PySem L2 PyProof.Rows
/-- a program as it stands -/
def progT (C : Addr) (s : Str) (b l : List Sm) : T := .obj C ["order", "body", "ending", "rows", "words"] [.str s, .tup (ens b), .tup (ens l),
  .dt ((progQ b l).map fun q => .tup (q.1.map kT)) ((progQ b l).map fun q => q.2.e), .lst ((progQ b l).map fun q => q.2.ws).flatten]
/-- the programs that may be made -/
structure POk (s : Str) (b l : List Sm) : Prop where
  hs : s ∈ SORTs
  hb : oks TERMs 2 b
  hl : oks PLACs 2 l
  nb : (rowsL [.str "block"] 0 b).length ≤ 8
  nl : (rowsL [.str "last"] 0 l).length ≤ 8
mutual
theorem rowsQS_ok {ws : List Str} : ∀ (s : Sm) (d : Nat) (h : List NestedKey), s.ok ws d → ∀ q ∈ rowsQS h s, ∃ d', q.2.ok ws d'
  | .iff t x y, d, h, ok, q, hq => by
    cases d with
    | zero => unfold Sm.ok at ok; exact ok.elim
    | succ d =>
      unfold Sm.ok at ok
      simp only [rowsQS, List.mem_append] at hq
      rcases hq with hq | hq
      · exact rowsQ_ok x d _ 0 ok.2.1 q hq
      · exact rowsQ_ok y d _ 0 ok.2.2 q hq
  | .give a b, d, h, ok, q, hq => by simp [rowsQS] at hq
  | .keep p a, d, h, ok, q, hq => by simp [rowsQS] at hq
theorem rowsQ_ok {ws : List Str} : ∀ (l : List Sm) (d : Nat) (h : List NestedKey) (i : Int), oks ws d l → ∀ q ∈ rowsQ h i l, ∃ d', q.2.ok ws d'
  | [], d, h, i, ok, q, hq => by simp [rowsQ] at hq
  | s :: r, d, h, i, ok, q, hq => by
    obtain ⟨hs, hr⟩ := oks_cons.mp ok
    simp only [rowsQ, List.mem_cons, List.mem_append] at hq
    rcases hq with rfl | hq | hq
    · exact ⟨d, hs⟩
    · exact rowsQS_ok s d _ hs q hq
    · exact rowsQ_ok r d h (i + 1) hr q hq
end
theorem terms_short : ∀ a ∈ TERMs, a.length ≤ 100 := by
  intro a h
  simp only [TERMs, List.mem_cons, List.not_mem_nil, or_false] at h
  rcases h with rfl | rfl | rfl | rfl <;> decide +kernel
theorem plac_short : ∀ a ∈ PLACs, a.length ≤ 100 := by
  intro a h
  simp only [PLACs, List.mem_cons, List.not_mem_nil, or_false] at h
  rcases h with rfl | rfl <;> decide +kernel
theorem ws_len (s : Sm) : s.ws.length ≤ 4 := by
  cases s with
  | give a b => cases a <;> cases b <;> simp [Sm.ws, Tm.ws]
  | keep p a => cases a <;> simp [Sm.ws, Tm.ws]
  | iff t x y => cases t <;> simp [Sm.ws, Te.ws]
section
variable (C_Program C_StretchError C_UnknownPath : Addr)
theorem progQ_ws {s : Str} {b l : List Sm} (ok : POk s b l) : ∀ q ∈ progQ b l, dataF (F_words_in C_Program C_StretchError C_UnknownPath) [q.2.e] = some (.lst q.2.ws) := fun q hq => by
  rcases List.mem_append.mp hq with h | h
  · obtain ⟨d, h'⟩ := rowsQ_ok b 2 _ 0 ok.hb q h
    exact f_words_in C_Program C_StretchError C_UnknownPath h' terms_short
  · obtain ⟨d, h'⟩ := rowsQ_ok l 2 _ 0 ok.hl q h
    exact f_words_in C_Program C_StretchError C_UnknownPath h' plac_short
/-- the words of all rows -/
theorem lc_copy {g : DG} {sl : List (Option U)} {vs : List Nat} {me : DE} {st : List Ob} : ∀ (ts acc : List T), (∀ x ∈ ts, ∃ ρ1 sl2, g (.d x) ⟨wipeL sl vs, st⟩ = .ok () ρ1 ∧ me ρ1 = .ok (.d x) ⟨sl2, st⟩) → acc.length + ts.length ≤ sizeLine → lcL g mYes me vs sl ts acc st = .ok (acc ++ ts) ⟨sl, st⟩ := fun ts acc h hl => by
  have := lc_map (h := fun x => x) ts acc h hl
  simpa using this
theorem words_loop (sl0 sl1 sl2 sl3 : Option U) (st : List Ob) : ∀ (qs : List (List NestedKey × Sm)) (acc : List T), (∀ q ∈ qs, dataF (F_words_in C_Program C_StretchError C_UnknownPath) [q.2.e] = some (.lst q.2.ws)) → acc.length + 4 * qs.length ≤ 1000 →
    lcL2 (gN 4) mYes (iSeq (mCall 1 (F_words_in C_Program C_StretchError C_UnknownPath) [false] (aCons (mVar 4) aNil))) (gN 5) mYes (mVar 5) [4, 5] [5] [sl0, sl1, sl2, sl3, none, none] (qs.map fun q => q.2.e) acc st = .ok (acc ++ (qs.map fun q => q.2.ws).flatten) ⟨[sl0, sl1, sl2, sl3, none, none], st⟩
  | [], acc, _, _ => by simp [lcL2]
  | q :: qs, acc, h, hl => by
    have e1 := h q List.mem_cons_self
    have hw := ws_len q.2
    simp only [List.length_cons] at hl
    have e2 := words_loop sl0 sl1 sl2 sl3 st qs (acc ++ q.2.ws) (fun x hx => h x (List.mem_cons_of_mem _ hx)) (by simp; omega)
    have e3 := lc_copy (g := gN 5) (sl := [sl0, sl1, sl2, sl3, some (.d q.2.e), none]) (vs := [5]) (me := mVar 5) (st := st) q.2.ws acc (fun x hx => ⟨⟨[sl0, sl1, sl2, sl3, some (.d q.2.e), some (.d x)], st⟩, [sl0, sl1, sl2, sl3, some (.d q.2.e), some (.d x)], rfl, rfl⟩) (Nat.le_trans (show acc.length + q.2.ws.length ≤ 1000 by omega) (by decide))
    simp [lcL2, wipeL, e1]
    rw [show (mYes ⟨[sl0, sl1, sl2, sl3, some (.d q.2.e), none], st⟩ : R Bool) = .ok true ⟨[sl0, sl1, sl2, sl3, some (.d q.2.e), none], st⟩ from rfl]
    simp only [ev_call, ev_aCons, ev_aNil, ev_var4, R.bind_ok, callK_1, e1, datK_s, seqK_lst, e3, e2]
    simp
theorem walk_rows {s : Str} {b l : List Sm} (ok : POk s b l) : dataF (F_walked C_Program C_StretchError C_UnknownPath 8) [.tup (ens b), .tup [.str "block"]] = some (.lst ((rowsQ [.text "block"] 0 b).map rowE)) ∧ dataF (F_walked C_Program C_StretchError C_UnknownPath 8) [.tup (ens l), .tup [.str "last"]] = some (.lst ((rowsQ [.text "last"] 0 l).map rowE)) := by
  have e1 := f_walked C_Program C_StretchError C_UnknownPath 8 2 b [.str "block"] ok.hb (by omega) (Nat.le_trans ok.nb (by decide)) (by simp)
  have e2 := f_walked C_Program C_StretchError C_UnknownPath 8 2 l [.str "last"] ok.hl (by omega) (Nat.le_trans ok.nl (by decide)) (by simp)
  rw [rows_block] at e1
  rw [rows_last] at e2
  exact ⟨e1, e2⟩
theorem f_init {s : Str} {b l : List Sm} (ok : POk s b l) : ∃ sl, F_Program_init C_Program C_StretchError C_UnknownPath [.obj C_Program [] []] [.own 0, .d (.str s), .d (.tup (ens b)), .d (.tup (ens l))] = .ok (.d .non) ⟨sl, [.obj C_Program ["order", "body", "ending", "rows", "words"]
    [.d (.str s), .d (.tup (ens b)), .d (.tup (ens l)), .d (.dt ((progQ b l).map fun q => .tup (q.1.map kT)) ((progQ b l).map fun q => q.2.e)), .d (.lst ((progQ b l).map fun q => q.2.ws).flatten)]]⟩ := by
  have e0 := f_is_one_of C_Program C_StretchError C_UnknownPath s SORTs g_SORTINGS rfl
  have c1 := f_check_block C_Program C_StretchError C_UnknownPath (w := g_TERMS) (ws := TERMs) rfl (by decide) "block" ok.hb ok.nb
  have c2 := f_check_block C_Program C_StretchError C_UnknownPath (w := g_PLACES) (ws := PLACs) rfl (by decide) "last" ok.hl ok.nl
  obtain ⟨w1, w2⟩ := walk_rows C_Program C_StretchError C_UnknownPath ok
  have nb := ok.nb
  have nl := ok.nl
  rw [rows_block, List.length_map] at nb
  rw [rows_last, List.length_map] at nl
  have hq : (progQ b l).length ≤ 16 := by unfold progQ; rw [List.length_append]; omega
  have q1 : (rowsQ [.text "block"] 0 b).length + (rowsQ [.text "last"] 0 l).length ≤ sizeLine := Nat.le_trans (show _ ≤ 16 by omega) (by decide)
  have ed := dict_rows b l (by omega)
  have hs := ok.hs
  unfold progQ at ed
  rw [List.map_append] at ed
  unfold F_Program_init runD
  have wl := words_loop C_Program C_StretchError C_UnknownPath (some (.own 0)) (some (.d (.str s))) (some (.d (.tup (ens b)))) (some (.d (.tup (ens l))))
    [.obj C_Program ["order", "body", "ending", "rows"] [.d (.str s), .d (.tup (ens b)), .d (.tup (ens l)), .d (.dt ((progQ b l).map fun q => .tup (q.1.map kT)) ((progQ b l).map fun q => q.2.e))], .lst ((rowsQ [.text "block"] 0 b).map rowE ++ (rowsQ [.text "last"] 0 l).map rowE)] (progQ b l) [] (progQ_ws C_Program C_StretchError C_UnknownPath ok) (by simp; omega)
  have hq' : rowsQ [.text "block"] 0 b ++ rowsQ [.text "last"] 0 l = progQ b l := rfl
  rw [hq'] at ed
  simp only [List.nil_append] at wl
  simp [d_Program_init, e0, hs, c1, c2, w1, w2, mSetF, fPut, toD, opK, pk, addF, q1, caK, pks, ed, mLc2, iVaD, mFld, insOf, fAt, wl, cutSt, refO, refU]
end
end FL

namespace FL
open PySem L2 PyProof.Rows
theorem place_term : ∀ a ∈ PLACs, a ∈ TERMs := by
  intro a h
  simp only [PLACs, TERMs, List.mem_cons, List.not_mem_nil, or_false] at h ⊢
  rcases h with rfl | rfl <;> simp
abbrev dKs : List Key := [.inr "sorting", .inr "block", .inr "last"]
end FL

namespace FL
open PySem L2 PyProof.Rows
/-- the row of draws -/
def Vr (ns : List Int) (row : List T) : Prop := ∃ a s m : Int, row = [.frl (ns.map .int), .int a, .int s, .int m] ∧ 0 ≤ a
theorem fmod_r (a : Int) {b : Int} (h : 0 < b) : 0 ≤ a.fmod b ∧ a.fmod b < b := ⟨Int.fmod_nonneg_of_pos a h, Int.fmod_lt_of_pos a h⟩
theorem callK_own {n : Nat} {F : Fn} {cs : List Bool} {ts : List T} {ρ : Sg} {i : Nat} {ob ob2 : Ob} {t : T} {sl' : List (Option U)} (h1 : ρ.st[i]? = some ob) (hd : refO 0 ob = true) (hF : F [ob] (.own 0 :: ts.map .d) = .ok (.d t) ⟨sl', [ob2]⟩) (hd2 : refO 0 ob2 = true) (hn : ts.length + 1 = n) :
    callK n F (true :: cs) (.own i :: ts.map .d) ρ = .ok (.d t) ⟨ρ.sl, ρ.st.set i ob2⟩ := by
  have ow : ∀ (us : List U) (acc : List Nat), us.all (refU 0) = true → owns us acc = acc := fun us => by
    induction us with
    | nil => intro acc _; rfl
    | cons u us ih =>
      intro acc h
      rw [List.all_cons, Bool.and_eq_true] at h
      cases u with
      | d t => exact ih acc h.2
      | own i => simp [refU] at h
  have rn : ∀ (is : List Nat) (us : List U), us.all (refU 0) = true → renUs is us = some us := fun is us => by
    induction us with
    | nil => intro _; rfl
    | cons u us ih =>
      intro h
      rw [List.all_cons, Bool.and_eq_true] at h
      cases u with
      | d t => simp [renUs, renU, ih h.2]
      | own i => simp [refU] at h
  have bk : ∀ (is : List Nat) (us : List U), us.all (refU 0) = true → backUs is us = some us := fun is us => by
    induction us with
    | nil => intro _; rfl
    | cons u us ih =>
      intro h
      rw [List.all_cons, Bool.and_eq_true] at h
      cases u with
      | d t => simp [backUs, backU, ih h.2]
      | own i => simp [refU] at h
  have o1 : ∀ acc, ownsO acc (some ob) = acc := fun acc => by
    cases ob with
    | obj C ns us => exact ow us acc hd
    | _ => rfl
  have hr : ∀ m, reach ρ.st m [i] = [i] := fun m => by
    induction m with
    | zero => rfl
    | succ m ih => simp [reach, h1, o1, ih]
  have r1 : renO [i] ob = some ob := by
    cases ob with
    | obj C ns us => simp [renO, rn [i] us hd]
    | _ => rfl
  have b1 : backO [i] ob2 = some ob2 := by
    cases ob2 with
    | obj C ns us => simp [backO, bk [i] us hd2]
    | _ => rfl
  have ha : argC (true :: cs) (.own i :: ts.map .d) ρ.st = some (.own i :: ts.map .d, ρ.st) := by simp [argC, argC_data]
  unfold callK
  rw [ha]
  simp [hn, callR, owns, owns_data, adds, hr, handOn, h1, r1, renUs, renU, renUs_data, hF, handBack, b1]
theorem callK_row {n : Nat} {F : Fn} {cs : List Bool} {ts : List T} {sl sl' : List (Option U)} {g : List Ob} {row row' : List T} {t : T} (hF : F [.lst row] (.own 0 :: ts.map .d) = .ok (.d t) ⟨sl', [.lst row']⟩) (hn : ts.length + 1 = n) :
    callK n F (true :: cs) (.own 0 :: ts.map .d) ⟨sl, .lst row :: g⟩ = .ok (.d t) ⟨sl, .lst row' :: g⟩ := callK_own rfl rfl hF rfl hn
section
variable (C_Program C_StretchError C_UnknownPath : Addr)
theorem f_taken {ns : List Int} {row : List T} (h : Vr ns row) {many : Int} (h1 : 0 < many) (h2 : many ≤ 1000) : ∃ v row' sl, F__law_taken C_Program C_StretchError C_UnknownPath [.lst row] [.own 0, .d (.int many)] = .ok (.d (.int v)) ⟨sl, [.lst row']⟩ ∧ 0 ≤ v ∧ v < many ∧ Vr ns row' := by
  obtain ⟨a, s, m, rfl, ha⟩ := h
  have cd : CDivN m many := ⟨by omega, by omega⟩
  have mn : many ≠ 0 := by omega
  have i1 : ixN 4 3 = some 3 := by simp [ixN]
  have i2 : ixN 4 1 = some 1 := by simp [ixN]
  have i3 : ixN 4 2 = some 2 := by simp [ixN]
  have cm : ∀ x, CMul x 48271 := fun x => .inr ⟨by decide, by decide⟩
  have c7 : ∀ x, CDivN x 7 := fun x => ⟨by decide, by decide⟩
  have cp : CPow 10 18 := ⟨by decide, by decide, by decide⟩
  by_cases hm : 0 < m
  · refine ⟨m.fmod many, [.frl (ns.map .int), .int a, .int s, .int (m.fdiv many)], [], ?_, (fmod_r m h1).1, (fmod_r m h1).2, a, s, _, rfl, ha⟩
    unfold F__law_taken runD
    simp [d__law_taken, opK, pk, ixAF, ixF, itm, iiF, hm, caK, pks, intF, modF, mn, mAsg, divF, cd, gIx, i1, cutSt, refO]
  · by_cases hl : (ns.length : Int) < a + 1
    · refine ⟨_, _, [], ?_, (fmod_r (((s * 48271 + 11).fmod 2147483647).fdiv 7) h1).1, (fmod_r _ h1).2, a + 1, (s * 48271 + 11).fmod 2147483647, m, rfl, by omega⟩
      unfold F__law_taken runD
      simp [d__law_taken, opK, pk, ixAF, ixF, itm, iiF, hm, caK, pks, intF, modF, mn, mAsg, divF, mulF, addF, cm, c7, gIx, i1, i2, i3, cutSt, refO, lenF, hl]
    · obtain ⟨j, hj⟩ : ∃ j : Nat, a = j := ⟨a.toNat, by omega⟩
      subst hj
      have hj : j < ns.length := by omega
      have hat : atI (ns.map T.int) (j : Int) = some (.int ns[j]) := by
        have hx : ixN ns.length (j : Int) = some j := by simp [ixN]; omega
        simp [atI, hx, hj]
      by_cases hc : (1000000000000000000 : Int) ≤ ns[j]
      · refine ⟨_, _, [], ?_, (fmod_r ns[j] h1).1, (fmod_r _ h1).2, (j : Int) + 1, (s * 48271 + ns[j] + 11).fmod 2147483647, ns[j].fdiv many, rfl, by omega⟩
        unfold F__law_taken runD
        have cd' : CDivN ns[j] many := ⟨by omega, by omega⟩
        simp [d__law_taken, opK, pk, ixAF, ixF, itm, iiF, hm, caK, pks, intF, modF, mn, mAsg, divF, mulF, addF, subF, powF, cp, cm, c7, cd', gIx, i1, i2, i3, cutSt, refO, lenF, hl, hat, hc]
      · refine ⟨_, _, [], ?_, (fmod_r ns[j] h1).1, (fmod_r _ h1).2, (j : Int) + 1, (s * 48271 + ns[j] + 11).fmod 2147483647, m, rfl, by omega⟩
        unfold F__law_taken runD
        simp [d__law_taken, opK, pk, ixAF, ixF, itm, iiF, hm, caK, pks, intF, modF, mn, mAsg, divF, mulF, addF, subF, powF, cp, cm, c7, gIx, i1, i2, i3, cutSt, refO, lenF, hl, hat, hc]
end
end FL

namespace FL
open PySem L2 PyProof.Rows
section
variable {F : Fn} {cs : List Bool} {sl sl' : List (Option U)} {g : List Ob} {row row' : List T} {t a b c : T}
theorem callR0 (hF : F [.lst row] [.own 0] = .ok (.d t) ⟨sl', [.lst row']⟩) : callK 1 F (true :: cs) [.own 0] ⟨sl, .lst row :: g⟩ = .ok (.d t) ⟨sl, .lst row' :: g⟩ := callK_row (ts := []) hF rfl
theorem callR1 (hF : F [.lst row] [.own 0, .d a] = .ok (.d t) ⟨sl', [.lst row']⟩) : callK 2 F (true :: cs) [.own 0, .d a] ⟨sl, .lst row :: g⟩ = .ok (.d t) ⟨sl, .lst row' :: g⟩ := callK_row (ts := [a]) hF rfl
theorem callR2 (hF : F [.lst row] [.own 0, .d a, .d b] = .ok (.d t) ⟨sl', [.lst row']⟩) : callK 3 F (true :: cs) [.own 0, .d a, .d b] ⟨sl, .lst row :: g⟩ = .ok (.d t) ⟨sl, .lst row' :: g⟩ := callK_row (ts := [a, b]) hF rfl
theorem callR3 (hF : F [.lst row] [.own 0, .d a, .d b, .d c] = .ok (.d t) ⟨sl', [.lst row']⟩) : callK 4 F (true :: cs) [.own 0, .d a, .d b, .d c] ⟨sl, .lst row :: g⟩ = .ok (.d t) ⟨sl, .lst row' :: g⟩ := callK_row (ts := [a, b, c]) hF rfl
end
theorem atI_in {α : Type} {l : List α} {v : Int} (h0 : 0 ≤ v) (h : v < l.length) : ∃ x ∈ l, atI l v = some x := by
  obtain ⟨j, rfl⟩ : ∃ j : Nat, v = j := ⟨v.toNat, by omega⟩
  have hj : j < l.length := by omega
  have hx : ixN l.length (j : Int) = some j := by simp [ixN]; omega
  exact ⟨l[j], List.getElem_mem hj, by simp [atI, hx, hj]⟩
theorem ix_strs {ws : List Str} {v : Int} (h0 : 0 ≤ v) (h : v < ws.length) : ∃ x ∈ ws, ixAF (.lst (ws.map .str)) (.int v) = some (.d (.str x)) := by
  obtain ⟨y, hy, e⟩ := atI_in (l := ws.map T.str) h0 (by simpa using h)
  obtain ⟨x, hx, rfl⟩ := List.mem_map.mp hy
  exact ⟨x, hx, by simp [ixAF, ixF, itm, e]⟩
section
variable (C_Program C_StretchError C_UnknownPath : Addr)
theorem f_dterm {ns : List Int} {row : List T} (h : Vr ns row) {ws : List Str} (hw : ws ≠ []) (hw2 : ws.length ≤ 1000) : ∃ (tm : Tm) (row' : List T) (sl : List (Option U)), F__law_term C_Program C_StretchError C_UnknownPath [.lst row] [.own 0, .d (.lst (ws.map .str))] = .ok (.d tm.e) ⟨sl, [.lst row']⟩ ∧ tm.ok ws ∧ Vr ns row' := by
  have hp : 0 < ws.length := List.length_pos_iff.mpr hw
  obtain ⟨v0, r0, s0, e0, a0, b0, h0⟩ := f_taken C_Program C_StretchError C_UnknownPath h (many := 4) (by omega) (by omega)
  obtain ⟨v1, r1, s1, e1, a1, b1, h1⟩ := f_taken C_Program C_StretchError C_UnknownPath h0 (many := (ws.length : Int)) (by omega) (by omega)
  obtain ⟨x1, m1, i1⟩ := ix_strs a1 (by omega : v1 < ws.length)
  by_cases hv : 0 < v0
  · refine ⟨.w x1, r1, [], ?_, m1, h1⟩
    unfold F__law_term runD
    simp [d__law_term, callR1 e0, callR1 e1, iiF, hv, lenF, itm, i1, cutSt, refO, Tm.e]
  · obtain ⟨v2, r2, s2, e2, a2, b2, h2⟩ := f_taken C_Program C_StretchError C_UnknownPath h1 (many := (ws.length : Int)) (by omega) (by omega)
    obtain ⟨x2, m2, i2⟩ := ix_strs a2 (by omega : v2 < ws.length)
    obtain ⟨v3, r3, s3, e3, a3, b3, h3⟩ := f_taken C_Program C_StretchError C_UnknownPath h2 (many := 2) (by omega) (by omega)
    obtain ⟨x3, m3, i3⟩ := ix_strs (ws := CHOIs) a3 (by simpa using b3)
    simp only [List.map] at i3
    refine ⟨.c x3 x1 x2, r3, [], ?_, ⟨m3, m1, m2⟩, h3⟩
    unfold F__law_term runD
    simp [d__law_term, callR1 e0, callR1 e1, callR1 e2, callR1 e3, iiF, hv, lenF, itm, i1, i2, i3, opK, pk, mPar, cutSt, refO, Tm.e]
theorem f_dtest {ns : List Int} {row : List T} (h : Vr ns row) {ws : List Str} (hw : ws ≠ []) (hw2 : ws.length ≤ 1000) : ∃ (tm : Te) (row' : List T) (sl : List (Option U)), F__law_test C_Program C_StretchError C_UnknownPath [.lst row] [.own 0, .d (.lst (ws.map .str))] = .ok (.d tm.e) ⟨sl, [.lst row']⟩ ∧ tm.ok ws ∧ Vr ns row' := by
  have hp : 0 < ws.length := List.length_pos_iff.mpr hw
  have hin := in_str (s := "begin") (ws := ws) (w := .lst (ws.map .str)) (ng := false) rfl
  obtain ⟨v0, r0, s0, e0, a0, b0, h0⟩ := f_taken C_Program C_StretchError C_UnknownPath h (many := 4) (by omega) (by omega)
  by_cases hb : v0 = 0 ∧ ("begin" : Str) ∈ ws
  · refine ⟨.srt, r0, [], ?_, hb.2, h0⟩
    unfold F__law_test runD
    simp [d__law_test, callR1 e0, hb.1, hb.2, hin, cutSt, refO, Te.e]
  · obtain ⟨v1, r1, s1, e1, a1, b1, h1⟩ := f_taken C_Program C_StretchError C_UnknownPath h0 (many := (ws.length : Int)) (by omega) (by omega)
    obtain ⟨x1, m1, i1⟩ := ix_strs a1 (by omega : v1 < ws.length)
    obtain ⟨v2, r2, s2, e2, a2, b2, h2⟩ := f_taken C_Program C_StretchError C_UnknownPath h1 (many := (ws.length : Int)) (by omega) (by omega)
    obtain ⟨x2, m2, i2⟩ := ix_strs a2 (by omega : v2 < ws.length)
    obtain ⟨v3, r3, s3, e3, a3, b3, h3⟩ := f_taken C_Program C_StretchError C_UnknownPath h2 (many := 3) (by omega) (by omega)
    obtain ⟨x3, m3, i3⟩ := ix_strs (ws := ["less", "less", "same"]) a3 (by simpa using b3)
    simp only [List.map] at i3
    refine ⟨.c x3 x1 x2, r3, [], ?_, ⟨by simpa using m3, m1, m2⟩, h3⟩
    unfold F__law_test runD
    by_cases hv : v0 = 0
    · have hb' : ¬ ("begin" : Str) ∈ ws := fun z => hb ⟨hv, z⟩
      simp [d__law_test, callR1 e0, callR1 e1, callR1 e2, callR1 e3, hv, hb', hin, lenF, itm, i1, i2, i3, opK, pk, mPar, cutSt, refO, Te.e]
    · simp [d__law_test, callR1 e0, callR1 e1, callR1 e2, callR1 e3, hv, lenF, itm, i1, i2, i3, opK, pk, mPar, cutSt, refO, Te.e]
end
end FL

namespace FL
open PySem L2 PyProof.Rows
mutual
def cnt : Sm → Nat
  | .iff t x y => 1 + (cnts x + cnts y)
  | _ => 1
def cnts : List Sm → Nat
  | [] => 0
  | s :: r => cnt s + cnts r
end
mutual
theorem rowsS_cnt : ∀ (s : Sm) (h : List T), (rowsS h s).length + 1 = cnt s
  | .iff t x y, h => by
    have e1 := rowsL_cnt x (h ++ [.int 0]) 0
    have e2 := rowsL_cnt y (h ++ [.int 1]) 0
    simp only [rowsS, cnt, List.length_append]
    omega
  | .give a b, h => by simp [rowsS, cnt]
  | .keep p a, h => by simp [rowsS, cnt]
theorem rowsL_cnt : ∀ (l : List Sm) (h : List T) (i : Int), (rowsL h i l).length = cnts l
  | [], h, i => by simp [rowsL, cnts]
  | s :: r, h, i => by
    have e1 := rowsS_cnt s (h ++ [.int i])
    have e2 := rowsL_cnt r h (i + 1)
    simp only [rowsL, cnts, List.length_cons, List.length_append]
    omega
end
def cmax : Nat → Nat
  | 0 => 1
  | e + 1 => 1 + 4 * cmax e
theorem cmax_pos : ∀ e, 1 ≤ cmax e
  | 0 => by simp [cmax]
  | e + 1 => by simp [cmax]
theorem oks_append {ws : List Str} {d : Nat} : ∀ {a b : List Sm}, oks ws d a → oks ws d b → oks ws d (a ++ b)
  | [], b, _, h => h
  | s :: a, b, h, g => by
    obtain ⟨h1, h2⟩ := oks_cons.mp h
    exact oks_cons.mpr ⟨h1, oks_append h2 g⟩
section
variable (C_Program C_StretchError C_UnknownPath : Addr)
def QS (ns : List Int) (ws : List Str) (n : Nat) : Prop := ∀ (e : Nat) (row : List T), e ≤ 2 → 2 * e < n → Vr ns row → ∃ (s : Sm) (row' : List T) (sl : List (Option U)), F__law_statement C_Program C_StretchError C_UnknownPath n [.lst row] [.own 0, .d (.lst (ws.map .str)), .d (.int (2 - e))] = .ok (.d s.e) ⟨sl, [.lst row']⟩ ∧ s.ok ws e ∧ cnt s ≤ cmax e ∧ Vr ns row'
def QB (ns : List Int) (ws : List Str) (n : Nat) : Prop := ∀ (e : Nat) (m : Nat) (row : List T), e ≤ 2 → m ≤ 2 → 2 * e + 1 < n → Vr ns row → ∃ (l : List Sm) (row' : List T) (sl : List (Option U)), F__law_block C_Program C_StretchError C_UnknownPath n [.lst row] [.own 0, .d (.lst (ws.map .str)), .d (.int (2 - e)), .d (.int m)] = .ok (.d (.tup (ens l))) ⟨sl, [.lst row']⟩ ∧ oks ws e l ∧ cnts l ≤ m * cmax e ∧ Vr ns row'
theorem qb_step {ns : List Int} {ws : List Str} {n : Nat} (hS : QS C_Program C_StretchError C_UnknownPath ns ws n) : QB C_Program C_StretchError C_UnknownPath ns ws (n + 1) := by
  intro e m row he hm hn hv
  obtain ⟨v0, r0, s0, e0, a0, b0, h0⟩ := f_taken C_Program C_StretchError C_UnknownPath hv (many := (m : Int) + 1) (by omega) (by omega)
  have z' : ∀ n, n ≤ 1000 → n < sizeLine := fun n h => Nat.lt_of_le_of_lt h (by decide)
  have loop : ∀ (ts acc : List T) (row : List T) (g : List Ob), Vr ns row → acc.length + ts.length ≤ 100 → ∃ (l : List Sm) (row' : List T),
      lcL (gN 4) mYes (mCall 3 (F__law_statement C_Program C_StretchError C_UnknownPath n) [true, false, false] (aCons (mVar 0) (aCons (mVar 1) (aCons (mVar 2) aNil)))) [4] [some (.own 0), some (.d (.lst (ws.map .str))), some (.d (.int (2 - e))), some (.d (.int m)), none] ts acc (.lst row :: g) =
        .ok (acc ++ ens l) ⟨[some (.own 0), some (.d (.lst (ws.map .str))), some (.d (.int (2 - e))), some (.d (.int m)), none], .lst row' :: g⟩ ∧ oks ws e l ∧ cnts l ≤ ts.length * cmax e ∧ Vr ns row' := by
    intro ts
    induction ts with
    | nil => intro acc row g h _; exact ⟨[], row, by simp [lcL, ens], by simp [oks], by simp [cnts], h⟩
    | cons t ts ih =>
      intro acc row g h hl
      obtain ⟨s, r1, s1, e1, o1, c1, h1⟩ := hS e row he (by omega) h
      simp only [List.length_cons] at hl
      obtain ⟨l, r2, e2, o2, c2, h2⟩ := ih (acc ++ [s.e]) r1 g h1 (by simp; omega)
      have q : acc.length < sizeLine := z' _ (by omega)
      refine ⟨s :: l, r2, ?_, oks_cons.mpr ⟨o1, o2⟩, by simp [cnts, Nat.succ_mul]; omega, h2⟩
      simp [lcL, wipeL, mYes, callR2 e1, q, e2, ens]
  obtain ⟨l, r1, e1, o1, c1, h1⟩ := loop (iota 0 v0.toNat) [] r0 [] h0 (by simp [iota_len]; omega)
  refine ⟨l, r1, [], ?_, o1, ?_, h1⟩
  · unfold F__law_block runD
    have hz : -4611686018427387904 ≤ v0 ∧ v0 < 4611686018427387904 := by omega
    simp only [List.nil_append] at e1
    simp [d__law_block, addF, callR1 e0, iR1, hz, e1, caK, pks, pk, tupleF, cutSt, refO]
  · rw [iota_len] at c1
    refine Nat.le_trans c1 (Nat.mul_le_mul_right _ (by omega))
theorem qs_step {ns : List Int} {ws : List Str} (hw : ws ≠ []) (hw2 : ws.length ≤ 1000) {n : Nat} (hB : QB C_Program C_StretchError C_UnknownPath ns ws n) : QS C_Program C_StretchError C_UnknownPath ns ws (n + 1) := by
  intro e row he hn hv
  obtain ⟨v0, r0, s0, e0, a0, b0, h0⟩ := f_taken C_Program C_StretchError C_UnknownPath hv (many := 5) (by omega) (by omega)
  have cm := cmax_pos e
  by_cases h4 : v0 = 4 ∧ 0 < e
  · obtain ⟨hv4, hpos⟩ := h4
    subst hv4
    obtain ⟨e, rfl⟩ : ∃ k, e = k + 1 := ⟨e - 1, by omega⟩
    obtain ⟨t, r1, s1, e1, o1, h1⟩ := f_dtest C_Program C_StretchError C_UnknownPath h0 hw hw2
    obtain ⟨x, r2, s2, e2, o2, c2, h2⟩ := hB e 2 r1 (by omega) (by omega) (by omega) h1
    obtain ⟨y, r3, s3, e3, o3, c3, h3⟩ := hB e 2 r2 (by omega) (by omega) (by omega) h2
    have hd : 2 - ((e : Int) + 1) + 1 = 2 - e := by omega
    have hd2 : 2 - ((e : Int) + 1) < 2 := by omega
    refine ⟨.iff t x y, r3, [], ?_, ?_, ?_, h3⟩
    · unfold F__law_statement runD
      simp at e2 e3
      simp [d__law_statement, callR1 e0, callR1 e1, hd, hd2, iiF, addF, callR3 e2, callR3 e3, cutSt, refO, Sm.e]
    · unfold Sm.ok; exact ⟨o1, o2, o3⟩
    · simp only [cnt, cmax]; omega
  · have h4' : v0 = 4 → ¬ (2 - (e : Int) < 2) := fun h z => h4 ⟨h, by omega⟩
    by_cases h2 : v0 < 2
    · obtain ⟨t1, r1, s1, e1, o1, h1⟩ := f_dterm C_Program C_StretchError C_UnknownPath h0 hw hw2
      obtain ⟨t2, r2, s2, e2, o2, h2'⟩ := f_dterm C_Program C_StretchError C_UnknownPath h1 hw hw2
      refine ⟨.give t1 t2, r2, [], ?_, ?_, by simpa [cnt] using cm, h2'⟩
      · unfold F__law_statement runD
        have hv4 : ¬ v0 = 4 := by omega
        simp [d__law_statement, callR1 e0, callR1 e1, callR1 e2, hv4, h2, iiF, cutSt, refO, Sm.e]
      · unfold Sm.ok; exact ⟨o1, o2⟩
    · obtain ⟨v1, r1, s1, e1, a1, b1, h1⟩ := f_taken C_Program C_StretchError C_UnknownPath h0 (many := 2) (by omega) (by omega)
      obtain ⟨p, m1, i1⟩ := ix_strs (ws := PLACs) a1 (by simpa using b1)
      simp only [List.map] at i1
      obtain ⟨t2, r2, s2, e2, o2, h2'⟩ := f_dterm C_Program C_StretchError C_UnknownPath h1 hw hw2
      refine ⟨.keep p t2, r2, [], ?_, ?_, by simpa [cnt] using cm, h2'⟩
      · unfold F__law_statement runD
        by_cases hv4 : v0 = 4
        · have hq := h4' hv4
          subst hv4
          simp [d__law_statement, callR1 e0, callR1 e1, callR1 e2, hq, iiF, opK, pk, i1, cutSt, refO, Sm.e]
        · simp [d__law_statement, callR1 e0, callR1 e1, callR1 e2, hv4, h2, iiF, opK, pk, i1, cutSt, refO, Sm.e]
      · unfold Sm.ok; exact ⟨m1, o2⟩
theorem q_all {ns : List Int} {ws : List Str} (hw : ws ≠ []) (hw2 : ws.length ≤ 1000) : ∀ n, QS C_Program C_StretchError C_UnknownPath ns ws n ∧ QB C_Program C_StretchError C_UnknownPath ns ws n
  | 0 => ⟨fun e row _ hn => by omega, fun e m row _ _ hn => by omega⟩
  | n + 1 => ⟨qs_step C_Program C_StretchError C_UnknownPath hw hw2 (q_all hw hw2 n).2, qb_step C_Program C_StretchError C_UnknownPath (q_all hw hw2 n).1⟩
end
end FL

namespace FL
open PySem L2 PyProof.Rows
def freshK : List Sm := [.give (.w "one") (.w "two"), .keep "one" (.w "begin"), .keep "two" (.w "end")]
def longK : List Sm := [.keep "two" (.c "greatest" "two" "end")]
def candK (k be : Str) : List (List Sm × List Sm) := [
  ([.iff (.c k "two" be) freshK longK], [.give (.w "one") (.w "two")]),
  (.give (.w "two") (.w "begin") :: longK, []),
  (.iff (.c "less" "two" "begin") [.give (.w "two") (.w "begin")] [] :: longK, []),
  ([.iff .srt [.give (.w "begin") (.c "least" "end" "two"), .keep "one" (.c "greatest" "one" "end")] [.give (.w "begin") (.c "least" "end" "one"), .keep "two" (.c "greatest" "two" "end")]], []),
  ([.give (.w "begin") (.w "end")], []),
  (.give (.c "greatest" "two" "begin") (.w "end") :: longK, [])]
def itemK (q : List Sm × List Sm) : T := .lst [.tup (ens q.1), .tup (ens q.2)]
theorem candK_ok {k be : Str} (hk : k = "less" ∨ k = "same") (hb : be ∈ TERMs) : ∀ q ∈ candK k be, oks TERMs 2 q.1 ∧ oks PLACs 2 q.2 ∧ cnts q.1 ≤ 8 ∧ cnts q.2 ≤ 8 := by
  intro q hq
  simp only [candK, freshK, longK, List.mem_cons, List.not_mem_nil, or_false] at hq
  rcases hq with rfl | rfl | rfl | rfl | rfl | rfl <;> simp [oks, Sm.ok, Tm.ok, Te.ok, cnts, cnt, TERMs, PLACs, CHOIs, freshK, longK, hk]
  simpa [TERMs] using hb
section
variable (C_Program C_StretchError C_UnknownPath : Addr)
theorem f_known {ns : List Int} {row : List T} (h : Vr ns row) : ∃ (b l : List Sm) (row' : List T) (sl : List (Option U)), F__law_known C_Program C_StretchError C_UnknownPath [.lst row] [.own 0] = .ok (.d (.lst [.tup (ens b), .tup (ens l)])) ⟨sl, [.lst row']⟩ ∧ (oks TERMs 2 b ∧ oks PLACs 2 l ∧ cnts b ≤ 8 ∧ cnts l ≤ 8) ∧ Vr ns row' := by
  obtain ⟨v1, r1, s1, e1, a1, b1, h1⟩ := f_taken C_Program C_StretchError C_UnknownPath h (many := 3) (by omega) (by omega)
  obtain ⟨k, m1, i1⟩ := ix_strs (ws := ["less", "less", "same"]) a1 (by simpa using b1)
  obtain ⟨v2, r2, s2, e2, a2, b2, h2⟩ := f_taken C_Program C_StretchError C_UnknownPath h1 (many := 5) (by omega) (by omega)
  obtain ⟨be, m2, i2⟩ := ix_strs (ws := ["begin", "end"]) (v := if v2 = 0 then 1 else 0) (by split <;> omega) (by split <;> simp)
  obtain ⟨v3, r3, s3, e3, a3, b3, h3⟩ := f_taken C_Program C_StretchError C_UnknownPath h2 (many := 6) (by omega) (by omega)
  obtain ⟨t, m3, i3⟩ := atI_in (l := (candK k be).map itemK) a3 (by simpa [candK] using b3)
  obtain ⟨q, m4, rfl⟩ := List.mem_map.mp m3
  simp only [List.map] at i1 i2
  refine ⟨q.1, q.2, r3, [], ?_, candK_ok (by simpa using m1) (by simp at m2; rcases m2 with rfl | rfl <;> simp) q m4, h3⟩
  have n1 : (1 : Nat) < sizeLine := by decide
  have n2 : (2 : Nat) < sizeLine := by decide
  have n3 : (3 : Nat) < sizeLine := by decide
  have n4 : (4 : Nat) < sizeLine := by decide
  have n5 : (5 : Nat) < sizeLine := by decide
  have z2 : (2 : Nat) ≤ sizeLine := by decide
  have z1 : (1 : Nat) ≤ sizeLine := by decide
  have z3 : (3 : Nat) ≤ sizeLine := by decide
  have z4 : (4 : Nat) ≤ sizeLine := by decide
  have hi : ∀ x, caK intF [.d (.bl (decide (v2 = 0)))] x = .ok (.d (.int (if v2 = 0 then 1 else 0))) x := fun x => by simp [intF]
  simp only [candK, itemK, freshK, longK, List.map, ens, Sm.e, Tm.e, Te.e] at i3
  unfold F__law_known runD
  simp [d__law_known, callR1 e1, callR1 e2, callR1 e3, opK, pk, i1, i2, hi, mApp, isL, lstK, toDs, toD, addF, n1, n2, n3, n4, n5, z1, z2, z3, z4]
  simp [ixAF, ixF, itm, i3, cutSt, refO, itemK]
  trace_state
  done
end
end FL

namespace FL
open PySem L2 PyProof.Rows
theorem ens_len : ∀ l : List Sm, (ens l).length = l.length
  | [] => rfl
  | s :: r => by simp [ens, ens_len r]
theorem cnt_pos (s : Sm) : 1 ≤ cnt s := by cases s <;> simp [cnt]
theorem len_cnts : ∀ l : List Sm, l.length ≤ cnts l
  | [] => by simp [cnts]
  | s :: r => by have := cnt_pos s; have := len_cnts r; simp [cnts]; omega
theorem iR1_int {da : DA} {ρ ρ' : Sg} {j : Int} (hd : da ρ = .ok [.d (.int j)] ρ') (h : (-(2 ^ 62) : Int) ≤ j ∧ j < 2 ^ 62) : iR1 da ρ = .ok (iota 0 j.toNat) ρ' := by
  unfold iR1
  rw [hd]
  simp only [R.bind_ok]
  rw [if_pos h]
theorem iR1_nat {da : DA} {ρ ρ' : Sg} {n : Nat} (hd : da ρ = .ok [.d (.int n)] ρ') (hn : n ≤ 1000) : iR1 da ρ = .ok (iota 0 n) ρ' := by
  have h : (-(2 ^ 62) : Int) ≤ (n : Int) ∧ (n : Int) < 2 ^ 62 := by omega
  have e := iR1_int hd h
  rw [Int.toNat_natCast] at e
  exact e
theorem lenK_tup {ts : List T} {ρ : Sg} : caK lenF [.d (.tup ts)] ρ = .ok (.d (.int ts.length)) ρ := rfl
theorem lenM_tup {ts : List T} {sl : List (Option U)} {st : List Ob} : mCa lenF (aCons (mVar 0) aNil) ⟨some (.d (.tup ts)) :: sl, st⟩ = .ok (.d (.int ts.length)) ⟨some (.d (.tup ts)) :: sl, st⟩ := by
  simp only [ev_ca, ev_aCons, ev_var0, R.bind_ok, ev_aNil]
  exact lenK_tup
theorem lenA_tup {ts : List T} {sl : List (Option U)} {st : List Ob} : (aCons (mCa lenF (aCons (mVar 0) aNil)) aNil) ⟨some (.d (.tup ts)) :: sl, st⟩ = .ok [.d (.int ts.length)] ⟨some (.d (.tup ts)) :: sl, st⟩ := by
  simp only [ev_aCons, lenM_tup, R.bind_ok, ev_aNil]
theorem iR1_blk {ts : List T} {sl : List (Option U)} {st : List Ob} (hn : ts.length ≤ 1000) : iR1 (aCons (mCa lenF (aCons (mVar 0) aNil)) aNil) ⟨some (.d (.tup ts)) :: sl, st⟩ = .ok (iota 0 ts.length) ⟨some (.d (.tup ts)) :: sl, st⟩ := iR1_nat lenA_tup hn
theorem iR1_2 {ρ : Sg} : iR1 (aCons (mC (.int 2)) aNil) ρ = .ok [.int 0, .int 1] ρ := iR1_nat (n := 2) rfl (by omega)
section
variable (C_Program C_StretchError C_UnknownPath : Addr)
def PA' (ws : List Str) (n : Nat) : Prop := ∀ (e : Nat) (blk : List Sm) (base : List T), oks ws e blk → e < n → cnts blk ≤ 100 → base.length + 2 * e ≤ 100 → ∃ ts, dataF (F__law_all C_Program C_StretchError C_UnknownPath n) [.tup (ens blk), .tup base] = some (.lst ts) ∧ ts.length = cnts blk
def allB (n : Nat) : DS := (mSeq (mDrop (mApp (mVar 2) (mTup (aCons (mOp addF (mVar 1) (mTup (aCons (mVar 3) aNil))) (aCons (mOp ixAF (mVar 0) (mVar 3)) aNil))))) (mIfS (mTOp eqF (mOp ixAF (mOp ixAF (mVar 0) (mVar 3)) (mC (.int 0))) (mC (.str "if"))) (mFor (iR1 (aCons (mC (.int 2)) aNil)) (gN 4) (mSet 2 (mOp addF (mVar 2) (mCall 2 (F__law_all C_Program C_StretchError C_UnknownPath n) [false, false] (aCons (mOp ixAF (mOp ixAF (mVar 0) (mVar 3)) (mOp addF (mC (.int 2)) (mVar 4))) (aCons (mOp addF (mVar 1) (mTup (aCons (mVar 3) (aCons (mVar 4) aNil)))) aNil)))))) mNx))
theorem pa_loop {ws : List Str} {n : Nat} (hI : PA' C_Program C_StretchError C_UnknownPath ws n) {e : Nat} {blk : List Sm} {base : List T} (hn : e < n + 1) (hb : base.length + 2 * e ≤ 100) : ∀ (r : List Sm) (pre : List T) (acc : List T) (k : Nat) (g : List Ob) (v3 v4 : Option U), ens blk = pre ++ ens r → oks ws e r → acc.length + cnts r ≤ 200 → cnts r ≤ 100 → g[k]? = some (.lst acc) → ∃ w3 w4 k' g' L,
      forL (gN 3) (allB C_Program C_StretchError C_UnknownPath n) (iota (pre.length : Int) r.length)
        ⟨[some (.d (.tup (ens blk))), some (.d (.tup base)), some (.own k), v3, v4], g⟩ = .nx ⟨[some (.d (.tup (ens blk))), some (.d (.tup base)), some (.own k'), w3, w4], g'⟩ ∧ g'[k']? = some (.lst (acc ++ L)) ∧ L.length = cnts r := by
  have z : ∀ n, n ≤ 1000 → n ≤ sizeLine := fun n h => Nat.le_trans h (by decide)
  have z' : ∀ n, n ≤ 1000 → n < sizeLine := fun n h => Nat.lt_of_le_of_lt h (by decide)
  have b1 : base.length + 1 ≤ sizeLine := z _ (by omega)
  have b2 : base.length + 2 ≤ sizeLine := z _ (by omega)
  have b2' : base.length + 1 + 1 ≤ sizeLine := z _ (by omega)
  intro r
  induction r with
  | nil => intro pre acc k g v3 v4 _ _ _ _ hk; exact ⟨v3, v4, k, g, [], by simp [iota, forL], by simpa using hk, by simp [cnts]⟩
  | cons s r ih =>
    intro pre acc k g v3 v4 hp hok hl h100 hk
    obtain ⟨hs, hr⟩ := oks_cons.mp hok
    have hlt : k < g.length := (List.getElem?_eq_some_iff.mp hk).1
    have hat : atI (ens blk) (pre.length : Int) = some s.e := by
      rw [hp]
      have hx : ixN (pre ++ ens (s :: r)).length (pre.length : Int) = some pre.length := by simp [ixN, ens]; omega
      unfold atI
      rw [hx]
      simp [ens]
    have hix : ixAF (.tup (ens blk)) (.int (pre.length : Int)) = some (.d s.e) := by simp [ixAF, ixF, itm, hat]
    have hp' : ens blk = (pre ++ [s.e]) ++ ens r := by rw [hp]; simp [ens]
    have hpl : ((pre ++ [s.e]).length : Int) = (pre.length : Int) + 1 := by simp
    have hpos := cnt_pos s
    simp only [cnts] at hl h100
    have q3 : acc.length < sizeLine := z' _ (by omega)
    have hset : ∀ x : Ob, (g.set k x)[k]? = some x := fun x => List.getElem?_set_self hlt
    have hz : ∀ (x Z : Ob), (g.set k x ++ [Z])[g.length]? = some Z := fun x Z => by rw [List.getElem?_append_right (by simp)]; simp
    cases s with
    | give a b =>
      obtain ⟨w3, w4, k', g', L, e1, e2, e3⟩ := ih (pre ++ [(Sm.give a b).e]) (acc ++ [.tup [.tup (base ++ [.int pre.length]), (Sm.give a b).e]]) k (g.set k (.lst (acc ++ [.tup [.tup (base ++ [.int pre.length]), (Sm.give a b).e]]))) (some (.d (.int pre.length))) v4 hp' hr (by simp; omega) (by omega) (hset _)
      refine ⟨w3, w4, k', g', .tup [.tup (base ++ [.int pre.length]), (Sm.give a b).e] :: L, ?_, by rw [e2]; simp, by simp [e3, cnts, cnt]; omega⟩
      rw [hpl] at e1
      simp only [Sm.e, allB] at hix e1
      simp [iota, forL, allB, mApp, isL, hk, addF, b1, hix, q3, e1]
    | keep p a =>
      obtain ⟨w3, w4, k', g', L, e1, e2, e3⟩ := ih (pre ++ [(Sm.keep p a).e]) (acc ++ [.tup [.tup (base ++ [.int pre.length]), (Sm.keep p a).e]]) k (g.set k (.lst (acc ++ [.tup [.tup (base ++ [.int pre.length]), (Sm.keep p a).e]]))) (some (.d (.int pre.length))) v4 hp' hr (by simp; omega) (by omega) (hset _)
      refine ⟨w3, w4, k', g', .tup [.tup (base ++ [.int pre.length]), (Sm.keep p a).e] :: L, ?_, by rw [e2]; simp, by simp [e3, cnts, cnt]; omega⟩
      rw [hpl] at e1
      simp only [Sm.e, allB] at hix e1
      simp [iota, forL, allB, mApp, isL, hk, addF, b1, hix, q3, e1]
    | iff t x y =>
      obtain ⟨e, rfl⟩ : ∃ m, e = m + 1 := by
        cases e with
        | zero => unfold Sm.ok at hs; exact hs.elim
        | succ e => exact ⟨e, rfl⟩
      unfold Sm.ok at hs
      simp only [cnt] at hl h100
      obtain ⟨tx, ex, lx⟩ := hI e x (base ++ [.int pre.length, .int 0]) hs.2.1 (by omega) (by omega) (by simp; omega)
      obtain ⟨ty, ey, ly⟩ := hI e y (base ++ [.int pre.length, .int 1]) hs.2.2 (by omega) (by omega) (by simp; omega)
      have q4 : acc.length + 1 + tx.length ≤ sizeLine := z _ (by omega)
      have q5 : acc.length + (tx.length + 1) + ty.length ≤ sizeLine := z _ (by omega)
      have hset2 : ∀ (x Z W : Ob), (g.set k x ++ [Z, W])[g.length + 1]? = some W := fun x Z W => by rw [List.getElem?_append_right (by simp)]; simp
      obtain ⟨w3, w4, k', g', L, e1, e2, e3⟩ := ih (pre ++ [(Sm.iff t x y).e]) (acc ++ .tup [.tup (base ++ [.int pre.length]), (Sm.iff t x y).e] :: (tx ++ ty)) (g.length + 1) (g.set k (.lst (acc ++ [.tup [.tup (base ++ [.int pre.length]), (Sm.iff t x y).e]])) ++ [.lst (acc ++ .tup [.tup (base ++ [.int pre.length]), (Sm.iff t x y).e] :: tx), .lst (acc ++ .tup [.tup (base ++ [.int pre.length]), (Sm.iff t x y).e] :: (tx ++ ty))]) (some (.d (.int pre.length))) (some (.d (.int 1))) hp' hr (by simp; omega) (by omega) (hset2 _ _ _)
      refine ⟨w3, w4, k', g', .tup [.tup (base ++ [.int pre.length]), (Sm.iff t x y).e] :: (tx ++ ty) ++ L, ?_, by rw [e2]; simp, by simp [e3, cnts, cnt]; omega⟩
      rw [hpl] at e1
      simp only [Sm.e, allB] at hix e1
      simp [iota, forL, allB, mApp, isL, hk, addF, b1, hix, q3, iR1_2, opK, pk, hset, hz, b2, b2', ex, ey, q4, q5]
      exact e1
theorem pa_run {n : Nat} {blk : List Sm} {base : List T} {w3 w4 : Option U} {k' : Nat} {g' : List Ob} {its : List T}
    (hb : iR1 (aCons (mCa lenF (aCons (mVar 0) aNil)) aNil) ⟨[some (.d (.tup (ens blk))), some (.d (.tup base)), some (.own 0), none, none], [.lst []]⟩ = .ok its ⟨[some (.d (.tup (ens blk))), some (.d (.tup base)), some (.own 0), none, none], [.lst []]⟩)
    (e1 : forL (gN 3) (allB C_Program C_StretchError C_UnknownPath n) its ⟨[some (.d (.tup (ens blk))), some (.d (.tup base)), some (.own 0), none, none], [.lst []]⟩ = .nx ⟨[some (.d (.tup (ens blk))), some (.d (.tup base)), some (.own k'), w3, w4], g'⟩) :
    d__law_all (F__law_all C_Program C_StretchError C_UnknownPath n) ⟨[some (.d (.tup (ens blk))), some (.d (.tup base)), none, none, none], []⟩ = .rt (.own k') ⟨[some (.d (.tup (ens blk))), some (.d (.tup base)), some (.own k'), w3, w4], g'⟩ := by
  have h1 : (mSet 2 (mLst aNil)) ⟨[some (.d (.tup (ens blk))), some (.d (.tup base)), none, none, none], []⟩ = .nx ⟨[some (.d (.tup (ens blk))), some (.d (.tup base)), some (.own 0), none, none], [.lst []]⟩ := by
    simp only [ev_set, ev_lst, ev_aNil, R.bind_ok, R.thn_ok, lstK_0, List.set, List.length_nil, List.nil_append]
  have h2 : (mFor (iR1 (aCons (mCa lenF (aCons (mVar 0) aNil)) aNil)) (gN 3) (allB C_Program C_StretchError C_UnknownPath n)) ⟨[some (.d (.tup (ens blk))), some (.d (.tup base)), some (.own 0), none, none], [.lst []]⟩ = .nx ⟨[some (.d (.tup (ens blk))), some (.d (.tup base)), some (.own k'), w3, w4], g'⟩ := by
    rw [ev_for, hb, R.thn_ok, e1]
  have h3 : (mRet (mVar 2)) ⟨[some (.d (.tup (ens blk))), some (.d (.tup base)), some (.own k'), w3, w4], g'⟩ = .rt (.own k') ⟨[some (.d (.tup (ens blk))), some (.d (.tup base)), some (.own k'), w3, w4], g'⟩ := by
    rw [ev_ret, ev_var2, R.thn_ok]
  have h4 : d__law_all (F__law_all C_Program C_StretchError C_UnknownPath n) = mSeq (mSet 2 (mLst aNil)) (mSeq (mFor (iR1 (aCons (mCa lenF (aCons (mVar 0) aNil)) aNil)) (gN 3) (allB C_Program C_StretchError C_UnknownPath n)) (mRet (mVar 2))) := by
    unfold d__law_all allB
    with_reducible rfl
  rw [h4, ev_seq, h1, F.thn_nx, ev_seq, h2, F.thn_nx, h3]
theorem pa_step {ws : List Str} {n : Nat} (hI : PA' C_Program C_StretchError C_UnknownPath ws n) : PA' C_Program C_StretchError C_UnknownPath ws (n + 1) := by
  intro e blk base ok hn hc hb
  have hlen := len_cnts blk
  have hbb := iR1_blk (ts := ens blk) (sl := [some (.d (.tup base)), some (.own 0), none, none]) (st := [.lst []]) (by rw [ens_len]; omega)
  rw [ens_len] at hbb
  obtain ⟨w3, w4, k', g', L, e1, e2, e3⟩ := pa_loop C_Program C_StretchError C_UnknownPath hI (blk := blk) hn hb blk [] [] 0 [.lst []] none none (by rw [List.nil_append]) ok (by rw [List.length_nil]; omega) hc (by rw [List.getElem?_cons_zero])
  rw [List.length_nil] at e1
  rw [List.nil_append] at e2
  refine ⟨L, ?_, e3⟩
  unfold F__law_all
  rw [dataF_run]
  have hd := pa_run C_Program C_StretchError C_UnknownPath hbb e1
  have hs : (List.map some (List.map U.d [T.tup (ens blk), T.tup base]) ++ List.replicate (5 - [T.tup (ens blk), T.tup base].length) none : List (Option U)) = [some (.d (.tup (ens blk))), some (.d (.tup base)), none, none, none] := by simp [List.replicate]
  rw [hs, hd]
  simp [resD, toD, e2]
theorem pa_all {ws : List Str} : ∀ n, PA' C_Program C_StretchError C_UnknownPath ws n
  | 0 => fun e blk base _ hn => by omega
  | n + 1 => pa_step C_Program C_StretchError C_UnknownPath (pa_all n)
end
end FL

namespace FL
open PySem L2 PyProof.Rows
abbrev dKv (s : Str) (b l : List Sm) : Ob := .dk dKs [.str s, .tup (ens b), .tup (ens l)]
theorem dk_block (s : Str) (b l : List Sm) : ixAF (.dk dKs [.str s, .tup (ens b), .tup (ens l)]) (.str "block") = some (.d (.tup (ens b))) := by
  simp [ixAF, ixF, ixDF, itm, keyT, dkGet]
theorem lenK_lst {ts : List T} {ρ : Sg} : caK lenF [.d (.lst ts)] ρ = .ok (.d (.int ts.length)) ρ := rfl
theorem gt_int {i j : Int} : gtF (.int i) (.int j) = some (.d (.bl (decide (j < i)))) := rfl
section
variable (C_Program C_StretchError C_UnknownPath : Addr)
def wT (F : Fn) : DT := (mTOp gtF (mCa lenF (aCons (mCall 2 F [false, false] (aCons (mOp ixAF (mVar 1) (mC (.str "block"))) (aCons (mTup aNil) aNil))) aNil)) (mC (.int 8)))
def wB : DS := (mAsg (mSl (mOp ixAF (mVar 1) (mC (.str "block"))) (mPS (mC (.int 1))) mPN) (gDix (mVar 1) (mC (.str "block"))))
theorem wT_ev {F : Fn} {s : Str} {b l : List Sm} {g : List Ob} {u0 : Option U} {r0 r1 : Ob} {ts : List T} {j : Int} (hj : ∀ ρ, caK lenF [.d (.lst ts)] ρ = .ok (.d (.int j)) ρ) (e1 : dataF F [.tup (ens b), .tup []] = some (.lst ts)) :
    wT F ⟨[u0, some (.own 2)], r0 :: r1 :: dKv s b l :: g⟩ = .ok (decide ((8 : Int) < j)) ⟨[u0, some (.own 2)], r0 :: r1 :: dKv s b l :: g⟩ := by
  have h1 : (mOp ixAF (mVar 1) (mC (.str "block"))) ⟨[u0, some (.own 2)], r0 :: r1 :: dKv s b l :: g⟩ = .ok (.d (.tup (ens b))) ⟨[u0, some (.own 2)], r0 :: r1 :: dKv s b l :: g⟩ := by
    simp [opK, pk, dk_block]
  unfold wT
  simp only [ev_top, ev_ca, ev_aCons, ev_call, h1, R.bind_ok, ev_tup, ev_aNil, tupK_0, callK_2, e1, datK_s, hj, ev_c, opK_d, gt_int, mO_d, tstK_b]
theorem wB_ev {s : Str} {s0 : Sm} {b l : List Sm} {g : List Ob} {u0 : Option U} {r0 r1 : Ob} : wB ⟨[u0, some (.own 2)], r0 :: r1 :: dKv s (s0 :: b) l :: g⟩ = .nx ⟨[u0, some (.own 2)], r0 :: r1 :: dKv s b l :: g⟩ := by
  have z3 : (3 : Nat) < sizeLine := by decide
  have hx := dk_block s (s0 :: b) l
  simp only [ens] at hx
  unfold wB
  simp [mAsg, opK, pk, hx, ens, gDix, keyT, dkPut, z3]
/-- the block made shorter -/
theorem drop_while {s : Str} {l : List Sm} {g : List Ob} {u0 : Option U} {r0 r1 : Ob} (m : Nat) : ∀ (b : List Sm), b.length < m → oks TERMs 2 b → cnts b ≤ 100 → ∃ b', oks TERMs 2 b' ∧ cnts b' ≤ 8 ∧
    whileF (wT (F__law_all C_Program C_StretchError C_UnknownPath 8)) wB m ⟨[u0, some (.own 2)], r0 :: r1 :: dKv s b l :: g⟩ = .nx ⟨[u0, some (.own 2)], r0 :: r1 :: dKv s b' l :: g⟩ := by
  induction m with
  | zero => intro b hb; omega
  | succ m ih =>
    intro b hb ok hc
    obtain ⟨ts, e1, l1⟩ := pa_all C_Program C_StretchError C_UnknownPath (ws := TERMs) 8 2 b [] ok (by omega) hc (by rw [List.length_nil]; omega)
    have ht := wT_ev (F := F__law_all C_Program C_StretchError C_UnknownPath 8) (s := s) (l := l) (g := g) (u0 := u0) (r0 := r0) (r1 := r1) (fun ρ => lenK_lst) e1
    by_cases h8 : (8 : Int) < (ts.length : Int)
    · cases b with
      | nil => simp only [cnts] at l1; omega
      | cons s0 b =>
        obtain ⟨hs, hr⟩ := oks_cons.mp ok
        simp only [cnts] at hc
        simp only [List.length_cons] at hb
        obtain ⟨b', o1, c1, e2⟩ := ih b (by omega) hr (by omega)
        refine ⟨b', o1, c1, ?_⟩
        rw [whileF, ht, R.thn_ok, decide_eq_true h8, if_pos rfl, wB_ev]
        exact e2
    · refine ⟨b, ok, by omega, ?_⟩
      rw [whileF, ht, R.thn_ok, decide_eq_false h8, if_neg (by decide)]
end
end FL

namespace FL
open PySem L2 PyProof.Rows
section
variable {FA FT FB FK : Fn} {row r1 r2 r3 r4 r5 : List T} {s : Str} {b l b2 l2 b' l' : List Sm} {v0 v1 : Int} {s1 s2 s3 s4 s5 : List (Option U)}
theorem drawn_no (e1 : FT [.lst row] [.own 0, .d (.int 7)] = .ok (.d (.int v0)) ⟨s1, [.lst r1]⟩)
    (i1 : ixAF (.lst [.str "begin", .str "begin", .str "begin", .str "end", .str "begin down", .str "end down", .str "none"]) (.int v0) = some (.d (.str s)))
    (e2 : FK [.lst r1] [.own 0] = .ok (.d (.lst [.tup (ens b), .tup (ens l)])) ⟨s2, [.lst r2]⟩) (e3 : FT [.lst r2] [.own 0, .d (.int 2)] = .ok (.d (.int v1)) ⟨s3, [.lst r3]⟩) (hv : ¬ v1 = 0)
    (hw : ∀ (u0 : Option U) (r0 r1 : Ob) (g : List Ob), whileF (wT FA) wB 50 ⟨[u0, some (.own 2)], r0 :: r1 :: dKv s b l :: g⟩ = .nx ⟨[u0, some (.own 2)], r0 :: r1 :: dKv s b' l :: g⟩) :
    ∃ sl x g, d__law_drawn FA FT FB FK ⟨[some (.own 0), none], [.lst row]⟩ = .rt (.own 2) ⟨sl, .lst r3 :: x :: dKv s b' l :: g⟩ := by
  have z1 : (1 : Nat) ≤ sizeLine := by decide
  have z7 : (7 : Nat) ≤ sizeLine := by decide
  have y1 : (1 : Nat) < sizeLine := by decide
  have y2 : (2 : Nat) < sizeLine := by decide
  refine ⟨[some (.own 0), some (.own 2)], .lst [.str "begin", .str "begin", .str "begin", .str "end", .str "begin down", .str "end down", .str "none"], [], ?_⟩
  have hw' := hw (some (.own 0)) (.lst r3) (.lst [.str "begin", .str "begin", .str "begin", .str "end", .str "begin down", .str "end down", .str "none"]) []
  simp only [wT, wB] at hw'
  unfold d__law_drawn
  simp [lstK, toDs, toD, callR1 e1, callR0 e2, callR1 e3, opK, pk, i1, mDisp, mAsg, gT, gsCons, gsNil, itm, gDix, keyT, dkPut, z1, z7, y1, y2, hv, mWhile]
  rw [hw']
  simp
theorem callF2 {n : Nat} {F : Fn} {cs : List Bool} {sl : List (Option U)} {st : List Ob} {j : Nat} {ws : List T} {a b : T} (h : st[j]? = some (.lst ws)) :
    callK n F (true :: false :: cs) [.own 0, .own j, .d a, .d b] ⟨sl, st⟩ = callK n F (true :: false :: cs) [.own 0, .d (.lst ws), .d a, .d b] ⟨sl, st.set j (.frz (.lst ws))⟩ := by
  have e : ∀ st', argC cs [.d a, .d b] st' = some ([.d a, .d b], st') := fun st' => argC_data cs [a, b] st'
  simp [callK, argC, toD, h, e]
theorem drawn_yes (e1 : FT [.lst row] [.own 0, .d (.int 7)] = .ok (.d (.int v0)) ⟨s1, [.lst r1]⟩)
    (i1 : ixAF (.lst [.str "begin", .str "begin", .str "begin", .str "end", .str "begin down", .str "end down", .str "none"]) (.int v0) = some (.d (.str s)))
    (e2 : FK [.lst r1] [.own 0] = .ok (.d (.lst [.tup (ens b), .tup (ens l)])) ⟨s2, [.lst r2]⟩) (e3 : FT [.lst r2] [.own 0, .d (.int 2)] = .ok (.d (.int 0)) ⟨s3, [.lst r3]⟩)
    (e4 : FB [.lst r3] [.own 0, .d (.lst [.str "begin", .str "end", .str "one", .str "two"]), .d (.int 0), .d (.int 2)] = .ok (.d (.tup (ens b2))) ⟨s4, [.lst r4]⟩)
    (e5 : FB [.lst r4] [.own 0, .d (.lst [.str "one", .str "two"]), .d (.int 1), .d (.int 1)] = .ok (.d (.tup (ens l2))) ⟨s5, [.lst r5]⟩)
    (hw : ∀ (u0 : Option U) (r0 r1 : Ob) (g : List Ob), whileF (wT FA) wB 50 ⟨[u0, some (.own 2)], r0 :: r1 :: dKv s b2 l2 :: g⟩ = .nx ⟨[u0, some (.own 2)], r0 :: r1 :: dKv s b' l2 :: g⟩) :
    ∃ sl x g, d__law_drawn FA FT FB FK ⟨[some (.own 0), none], [.lst row]⟩ = .rt (.own 2) ⟨sl, .lst r5 :: x :: dKv s b' l2 :: g⟩ := by
  have z1 : (1 : Nat) ≤ sizeLine := by decide
  have z4 : (4 : Nat) ≤ sizeLine := by decide
  have z2 : (2 : Nat) ≤ sizeLine := by decide
  have z7 : (7 : Nat) ≤ sizeLine := by decide
  have y1 : (1 : Nat) < sizeLine := by decide
  have y2 : (2 : Nat) < sizeLine := by decide
  have y3 : (3 : Nat) < sizeLine := by decide
  refine ⟨[some (.own 0), some (.own 2)], .lst [.str "begin", .str "begin", .str "begin", .str "end", .str "begin down", .str "end down", .str "none"], [.frz (.lst [.str "begin", .str "end", .str "one", .str "two"]), .frz (.lst [.str "one", .str "two"])], ?_⟩
  have hw' := hw (some (.own 0)) (.lst r5) (.lst [.str "begin", .str "begin", .str "begin", .str "end", .str "begin down", .str "end down", .str "none"]) [.frz (.lst [.str "begin", .str "end", .str "one", .str "two"]), .frz (.lst [.str "one", .str "two"])]
  simp only [wT, wB] at hw'
  unfold d__law_drawn
  simp [lstK, toDs, toD, callR1 e1, callR0 e2, callR1 e3, callF2, callR3 e4, callR3 e5, opK, pk, i1, mDisp, mAsg, gT, gsCons, gsNil, itm, gDix, keyT, dkPut, z1, z2, z4, z7, y1, y2, y3, mWhile]
  rw [hw']
  simp
end
end FL

namespace FL
open PySem L2 PyProof.Rows
section
variable (C_Program C_StretchError C_UnknownPath : Addr)
theorem POk.of {s : Str} {b l : List Sm} (h1 : s ∈ SORTs) (h2 : oks TERMs 2 b) (h3 : oks PLACs 2 l) (h4 : cnts b ≤ 8) (h5 : cnts l ≤ 8) : POk s b l :=
  ⟨h1, h2, h3, by rw [rowsL_cnt]; exact h4, by rw [rowsL_cnt]; exact h5⟩
mutual
theorem ok_up {ws : List Str} : ∀ (s : Sm) (d : Nat), s.ok ws d → s.ok ws (d + 1)
  | .iff t x y, d, h => by
    cases d with
    | zero => unfold Sm.ok at h; exact h.elim
    | succ d =>
      unfold Sm.ok at h ⊢
      exact ⟨h.1, oks_up x d h.2.1, oks_up y d h.2.2⟩
  | .give a b, d, h => by unfold Sm.ok at h ⊢; exact h
  | .keep p a, d, h => by unfold Sm.ok at h ⊢; exact h
theorem oks_up {ws : List Str} : ∀ (l : List Sm) (d : Nat), oks ws d l → oks ws (d + 1) l
  | [], d, _ => by simp [oks]
  | s :: r, d, h => by
    obtain ⟨h1, h2⟩ := oks_cons.mp h
    exact oks_cons.mpr ⟨ok_up s d h1, oks_up r d h2⟩
end
theorem run_drawn {m : DS} {row row' : List T} {s : Str} {b l : List Sm} {sl : List (Option U)} {x : Ob} {g : List Ob} (h : m ⟨[some (.own 0), none], [.lst row]⟩ = .rt (.own 2) ⟨sl, .lst row' :: x :: dKv s b l :: g⟩) : runN m 2 [.lst row] [.own 0] = .ok (.own 1) ⟨[], [.lst row', dKv s b l]⟩ := by
  unfold runN
  have e : ([U.own 0].map some ++ List.replicate (2 - [U.own 0].length) none : List (Option U)) = [some (.own 0), none] := by simp [List.replicate]
  rw [e, h]
  simp [refO, cutSt]
/-- drop_while, the same for all surroundings -/
theorem drop_all (b l : List Sm) (s : Str) (ok : oks TERMs 2 b) (hc : cnts b ≤ 45) : ∃ b', oks TERMs 2 b' ∧ cnts b' ≤ 8 ∧ ∀ (u0 : Option U) (r0 r1 : Ob) (g : List Ob), whileF (wT (F__law_all C_Program C_StretchError C_UnknownPath 8)) wB 50 ⟨[u0, some (.own 2)], r0 :: r1 :: dKv s b l :: g⟩ = .nx ⟨[u0, some (.own 2)], r0 :: r1 :: dKv s b' l :: g⟩ := by
  have hlen := len_cnts b
  have key : ∀ (m : Nat) (b : List Sm), b.length < m → oks TERMs 2 b → cnts b ≤ 100 → ∃ b', oks TERMs 2 b' ∧ cnts b' ≤ 8 ∧ ∀ (u0 : Option U) (r0 r1 : Ob) (g : List Ob), whileF (wT (F__law_all C_Program C_StretchError C_UnknownPath 8)) wB m ⟨[u0, some (.own 2)], r0 :: r1 :: dKv s b l :: g⟩ = .nx ⟨[u0, some (.own 2)], r0 :: r1 :: dKv s b' l :: g⟩ := by
    intro m
    induction m with
    | zero => intro b hb; omega
    | succ m ih =>
      intro b hb ok hc
      obtain ⟨ts, e1, l1⟩ := pa_all C_Program C_StretchError C_UnknownPath (ws := TERMs) 8 2 b [] ok (by omega) hc (by rw [List.length_nil]; omega)
      by_cases h8 : (8 : Int) < (ts.length : Int)
      · cases b with
        | nil => simp only [cnts] at l1; omega
        | cons s0 b =>
          obtain ⟨hs, hr⟩ := oks_cons.mp ok
          simp only [cnts] at hc
          simp only [List.length_cons] at hb
          obtain ⟨b', o1, c1, e2⟩ := ih b (by omega) hr (by omega)
          refine ⟨b', o1, c1, fun u0 r0 r1 g => ?_⟩
          rw [whileF, wT_ev (fun ρ => lenK_lst) e1, R.thn_ok, decide_eq_true h8, if_pos rfl, wB_ev]
          exact e2 u0 r0 r1 g
      · refine ⟨b, ok, by omega, fun u0 r0 r1 g => ?_⟩
        rw [whileF, wT_ev (fun ρ => lenK_lst) e1, R.thn_ok, decide_eq_false h8, if_neg (by decide)]
  exact key 50 b (by omega) ok (by omega)
theorem f_drawn {ns : List Int} {row : List T} (h : Vr ns row) : ∃ (s : Str) (b l : List Sm) (row' : List T) (sl : List (Option U)), F__law_drawn C_Program C_StretchError C_UnknownPath [.lst row] [.own 0] = .ok (.own 1) ⟨sl, [.lst row', dKv s b l]⟩ ∧ POk s b l ∧ Vr ns row' := by
  obtain ⟨v0, r1, s1, e1, a1, b1, h1⟩ := f_taken C_Program C_StretchError C_UnknownPath h (many := 7) (by omega) (by omega)
  obtain ⟨s, m1, i1⟩ := ix_strs (ws := ["begin", "begin", "begin", "end", "begin down", "end down", "none"]) a1 (by simpa using b1)
  simp only [List.map] at i1
  have hs : s ∈ SORTs := by
    simp only [List.mem_cons, List.not_mem_nil, or_false, SORTs] at m1 ⊢
    rcases m1 with rfl | rfl | rfl | rfl | rfl | rfl | rfl <;> simp
  obtain ⟨b, l, r2, s2, e2, ⟨o1, o2, c1, c2⟩, h2⟩ := f_known C_Program C_StretchError C_UnknownPath h1
  obtain ⟨v1, r3, s3, e3, a3, b3, h3⟩ := f_taken C_Program C_StretchError C_UnknownPath h2 (many := 2) (by omega) (by omega)
  by_cases hv : v1 = 0
  · subst hv
    have q1 := (q_all C_Program C_StretchError C_UnknownPath (ns := ns) (ws := ["begin", "end", "one", "two"]) (by simp) (by simp) 8).2
    have q2 := (q_all C_Program C_StretchError C_UnknownPath (ns := ns) (ws := ["one", "two"]) (by simp) (by simp) 8).2
    obtain ⟨b2, r4, s4, e4, o4, c4, h4⟩ := q1 2 2 r3 (by omega) (by omega) (by omega) h3
    obtain ⟨l2, r5, s5, e5, o5, c5, h5⟩ := q2 1 1 r4 (by omega) (by omega) (by omega) h4
    have hlen := len_cnts b2
    have c4' : cnts b2 ≤ 42 := by simpa [cmax] using c4
    have c5' : cnts l2 ≤ 5 := by simpa [cmax] using c5
    obtain ⟨b', o6, c6, hw⟩ : ∃ b', oks TERMs 2 b' ∧ cnts b' ≤ 8 ∧ ∀ (u0 : Option U) (r0 r1 : Ob) (g : List Ob), whileF (wT (F__law_all C_Program C_StretchError C_UnknownPath 8)) wB 50 ⟨[u0, some (.own 2)], r0 :: r1 :: dKv s b2 l2 :: g⟩ = .nx ⟨[u0, some (.own 2)], r0 :: r1 :: dKv s b' l2 :: g⟩ := drop_all C_Program C_StretchError C_UnknownPath b2 l2 s o4 (by omega)
    simp at e4 e5
    obtain ⟨sl, x, g, e⟩ := drawn_yes e1 i1 e2 e3 e4 e5 hw
    exact ⟨s, b', l2, r5, [], run_drawn e, .of hs o6 (oks_up l2 1 o5) c6 (by omega), h5⟩
  · have hlen := len_cnts b
    obtain ⟨b', o6, c6, hw⟩ := drop_all C_Program C_StretchError C_UnknownPath b l s o1 (by omega)
    obtain ⟨sl, x, g, e⟩ := drawn_no e1 i1 e2 e3 hv hw
    exact ⟨s, b', l, r3, [], run_drawn e, .of hs o6 o2 c6 c2, h3⟩
end
end FL

namespace FL
open PySem L2 PyProof.Rows
theorem newR_data {C : Addr} {F : Fn} {ts : List T} {ρ : Sg} {ob : Ob} {sl' : List (Option U)} (hF : F [.obj C [] []] (.own 0 :: ts.map .d) = .ok (.d .non) ⟨sl', [ob]⟩) (hd : refO 0 ob = true) : newR C F (ts.map .d) ρ = .ok (.own ρ.st.length) ⟨ρ.sl, ρ.st ++ [ob]⟩ := by
  have hr : ∀ n, reach ρ.st n [] = [] := fun n => by induction n with
    | zero => rfl
    | succ n ih => simp [reach, ih]
  unfold newR
  simp [owns_data, hr, handOn, renUs_data, behind, hF, hd, handBack]
section
variable {C : Addr} {F : Fn} {cs : List Bool} {n : Nat} {da : DA} {ρ : Sg}
def newK (C : Addr) (n : Nat) (F : Fn) (cs : List Bool) (us : List U) (ρ : Sg) : R U := match argC cs us ρ.st with
  | some (us', st) => if us'.length + 1 = n then newR C F us' ⟨ρ.sl, st⟩ else .no
  | none => .no
theorem ev_new : mNew C n F cs da ρ = (da ρ).bind fun us ρ1 => newK C n F cs us ρ1 := rfl
theorem newK_data {ts : List T} {ob : Ob} {sl' : List (Option U)} (hF : F [.obj C [] []] (.own 0 :: ts.map .d) = .ok (.d .non) ⟨sl', [ob]⟩) (hd : refO 0 ob = true) (hn : ts.length + 1 = n) : newK C n F cs (ts.map .d) ρ = .ok (.own ρ.st.length) ⟨ρ.sl, ρ.st ++ [ob]⟩ := by
  unfold newK
  rw [argC_data]
  simp [hn, newR_data hF hd]
end
theorem dk_all (s : Str) (b l : List Sm) : ixAF (.dk dKs [.str s, .tup (ens b), .tup (ens l)]) (.str "sorting") = some (.d (.str s)) ∧ ixAF (.dk dKs [.str s, .tup (ens b), .tup (ens l)]) (.str "last") = some (.d (.tup (ens l))) := by
  constructor <;> simp [ixAF, ixF, ixDF, itm, keyT, dkGet]
theorem made_run {C : Addr} {FI : Fn} {s : Str} {b l : List Sm} {ns : List Str} {ts : List T} {sl : List (Option U)} (hF : FI [.obj C [] []] [.own 0, .d (.str s), .d (.tup (ens b)), .d (.tup (ens l))] = .ok (.d .non) ⟨sl, [.obj C ns (ts.map .d)]⟩) (hd : refO 0 (.obj C ns (ts.map .d)) = true) :
    d__law_made C FI ⟨[some (.own 0)], [dKv s b l]⟩ = .rt (.own 1) ⟨[some (.own 0)], [dKv s b l, .obj C ns (ts.map .d)]⟩ := by
  have hk := newK_data (C := C) (n := 4) (cs := [false, false, false]) (ρ := ⟨[some (.own 0)], [dKv s b l]⟩) (ts := [.str s, .tup (ens b), .tup (ens l)]) hF hd rfl
  simp only [List.map] at hk
  unfold d__law_made
  simp [ev_new, opK, pk, dk_block, dk_all, hk]
end FL

namespace FL
open PySem L2 PyProof.Rows
theorem toDs_data3 : ∀ (ts : List T) (st : List Ob), toDs (toD 3) (ts.map .d) st = some (ts, st)
  | [], _ => rfl
  | t :: ts, st => by simp [toDs, toDs_data3 ts]
section
variable (C_Program C_StretchError C_UnknownPath : Addr)
theorem f_made {s : Str} {b l : List Sm} (ok : POk s b l) : ∃ sl, F__law_made C_Program C_StretchError C_UnknownPath [dKv s b l] [.own 0] = .ok (.d (progT C_Program s b l)) ⟨sl, [dKv s b l]⟩ := by
  obtain ⟨sl, e⟩ := f_init C_Program C_StretchError C_UnknownPath ok
  have hr := made_run (C := C_Program) (FI := F_Program_init C_Program C_StretchError C_UnknownPath) (ns := ["order", "body", "ending", "rows", "words"]) (ts := [.str s, .tup (ens b), .tup (ens l), .dt ((progQ b l).map fun q => .tup (q.1.map kT)) ((progQ b l).map fun q => q.2.e), .lst ((progQ b l).map fun q => q.2.ws).flatten]) e (by simp [refO, refU])
  refine ⟨[], ?_⟩
  unfold F__law_made runD
  have h0 : ([U.own 0].map some ++ List.replicate (1 - [U.own 0].length) none : List (Option U)) = [some (.own 0)] := by simp [List.replicate]
  rw [h0, hr]
  simp [toD, toDs, cutSt, refO, progT]
end
end FL

namespace FL
open PySem L2 PyProof.Rows
section
variable (C_Program C_StretchError C_UnknownPath : Addr)
def PX' (ws : List Str) (n : Nat) : Prop := ∀ (e : Nat) (blk : List Sm) (base : List T), oks ws e blk → e < n → cnts blk ≤ 100 → base.length + 2 * e ≤ 100 → ∃ ts, dataF (F__law_all C_Program C_StretchError C_UnknownPath n) [.tup (ens blk), .tup base] = some (.lst ts) ∧ ts = rowsL base 0 blk
theorem px_loop {ws : List Str} {n : Nat} (hI : PX' C_Program C_StretchError C_UnknownPath ws n) {e : Nat} {blk : List Sm} {base : List T} (hn : e < n + 1) (hb : base.length + 2 * e ≤ 100) : ∀ (r : List Sm) (pre : List T) (acc : List T) (k : Nat) (g : List Ob) (v3 v4 : Option U), ens blk = pre ++ ens r → oks ws e r → acc.length + cnts r ≤ 200 → cnts r ≤ 100 → g[k]? = some (.lst acc) → ∃ w3 w4 k' g' L,
      forL (gN 3) (allB C_Program C_StretchError C_UnknownPath n) (iota (pre.length : Int) r.length)
        ⟨[some (.d (.tup (ens blk))), some (.d (.tup base)), some (.own k), v3, v4], g⟩ = .nx ⟨[some (.d (.tup (ens blk))), some (.d (.tup base)), some (.own k'), w3, w4], g'⟩ ∧ g'[k']? = some (.lst (acc ++ L)) ∧ L = rowsL base (pre.length : Int) r := by
  have z : ∀ n, n ≤ 1000 → n ≤ sizeLine := fun n h => Nat.le_trans h (by decide)
  have z' : ∀ n, n ≤ 1000 → n < sizeLine := fun n h => Nat.lt_of_le_of_lt h (by decide)
  have b1 : base.length + 1 ≤ sizeLine := z _ (by omega)
  have b2 : base.length + 2 ≤ sizeLine := z _ (by omega)
  have b2' : base.length + 1 + 1 ≤ sizeLine := z _ (by omega)
  intro r
  induction r with
  | nil => intro pre acc k g v3 v4 _ _ _ _ hk; exact ⟨v3, v4, k, g, [], by simp [iota, forL], by simpa using hk, by simp [rowsL]⟩
  | cons s r ih =>
    intro pre acc k g v3 v4 hp hok hl h100 hk
    obtain ⟨hs, hr⟩ := oks_cons.mp hok
    have hlt : k < g.length := (List.getElem?_eq_some_iff.mp hk).1
    have hat : atI (ens blk) (pre.length : Int) = some s.e := by
      rw [hp]
      have hx : ixN (pre ++ ens (s :: r)).length (pre.length : Int) = some pre.length := by simp [ixN, ens]; omega
      unfold atI
      rw [hx]
      simp [ens]
    have hix : ixAF (.tup (ens blk)) (.int (pre.length : Int)) = some (.d s.e) := by simp [ixAF, ixF, itm, hat]
    have hp' : ens blk = (pre ++ [s.e]) ++ ens r := by rw [hp]; simp [ens]
    have hpl : ((pre ++ [s.e]).length : Int) = (pre.length : Int) + 1 := by simp
    have hpos := cnt_pos s
    simp only [cnts] at hl h100
    have q3 : acc.length < sizeLine := z' _ (by omega)
    have hset : ∀ x : Ob, (g.set k x)[k]? = some x := fun x => List.getElem?_set_self hlt
    have hz : ∀ (x Z : Ob), (g.set k x ++ [Z])[g.length]? = some Z := fun x Z => by rw [List.getElem?_append_right (by simp)]; simp
    cases s with
    | give a b =>
      obtain ⟨w3, w4, k', g', L, e1, e2, e3⟩ := ih (pre ++ [(Sm.give a b).e]) (acc ++ [.tup [.tup (base ++ [.int pre.length]), (Sm.give a b).e]]) k (g.set k (.lst (acc ++ [.tup [.tup (base ++ [.int pre.length]), (Sm.give a b).e]]))) (some (.d (.int pre.length))) v4 hp' hr (by simp; omega) (by omega) (hset _)
      refine ⟨w3, w4, k', g', .tup [.tup (base ++ [.int pre.length]), (Sm.give a b).e] :: L, ?_, by rw [e2]; simp, by rw [e3, hpl]; simp [rowsL, rowsS]⟩
      rw [hpl] at e1
      simp only [Sm.e, allB] at hix e1
      simp [iota, forL, allB, mApp, isL, hk, addF, b1, hix, q3, e1]
    | keep p a =>
      obtain ⟨w3, w4, k', g', L, e1, e2, e3⟩ := ih (pre ++ [(Sm.keep p a).e]) (acc ++ [.tup [.tup (base ++ [.int pre.length]), (Sm.keep p a).e]]) k (g.set k (.lst (acc ++ [.tup [.tup (base ++ [.int pre.length]), (Sm.keep p a).e]]))) (some (.d (.int pre.length))) v4 hp' hr (by simp; omega) (by omega) (hset _)
      refine ⟨w3, w4, k', g', .tup [.tup (base ++ [.int pre.length]), (Sm.keep p a).e] :: L, ?_, by rw [e2]; simp, by rw [e3, hpl]; simp [rowsL, rowsS]⟩
      rw [hpl] at e1
      simp only [Sm.e, allB] at hix e1
      simp [iota, forL, allB, mApp, isL, hk, addF, b1, hix, q3, e1]
    | iff t x y =>
      obtain ⟨e, rfl⟩ : ∃ m, e = m + 1 := by
        cases e with
        | zero => unfold Sm.ok at hs; exact hs.elim
        | succ e => exact ⟨e, rfl⟩
      unfold Sm.ok at hs
      simp only [cnt] at hl h100
      obtain ⟨tx, ex, rx⟩ := hI e x (base ++ [.int pre.length, .int 0]) hs.2.1 (by omega) (by omega) (by simp; omega)
      have lx : tx.length = cnts x := by rw [rx, rowsL_cnt]
      obtain ⟨ty, ey, ry⟩ := hI e y (base ++ [.int pre.length, .int 1]) hs.2.2 (by omega) (by omega) (by simp; omega)
      have ly : ty.length = cnts y := by rw [ry, rowsL_cnt]
      have q4 : acc.length + 1 + tx.length ≤ sizeLine := z _ (by omega)
      have q5 : acc.length + (tx.length + 1) + ty.length ≤ sizeLine := z _ (by omega)
      have hset2 : ∀ (x Z W : Ob), (g.set k x ++ [Z, W])[g.length + 1]? = some W := fun x Z W => by rw [List.getElem?_append_right (by simp)]; simp
      obtain ⟨w3, w4, k', g', L, e1, e2, e3⟩ := ih (pre ++ [(Sm.iff t x y).e]) (acc ++ .tup [.tup (base ++ [.int pre.length]), (Sm.iff t x y).e] :: (tx ++ ty)) (g.length + 1) (g.set k (.lst (acc ++ [.tup [.tup (base ++ [.int pre.length]), (Sm.iff t x y).e]])) ++ [.lst (acc ++ .tup [.tup (base ++ [.int pre.length]), (Sm.iff t x y).e] :: tx), .lst (acc ++ .tup [.tup (base ++ [.int pre.length]), (Sm.iff t x y).e] :: (tx ++ ty))]) (some (.d (.int pre.length))) (some (.d (.int 1))) hp' hr (by simp; omega) (by omega) (hset2 _ _ _)
      refine ⟨w3, w4, k', g', .tup [.tup (base ++ [.int pre.length]), (Sm.iff t x y).e] :: (tx ++ ty) ++ L, ?_, by rw [e2]; simp, by rw [e3, hpl, rx, ry]; simp [rowsL, rowsS]⟩
      rw [hpl] at e1
      simp only [Sm.e, allB] at hix e1
      simp [iota, forL, allB, mApp, isL, hk, addF, b1, hix, q3, iR1_2, opK, pk, hset, hz, b2, b2', ex, ey, q4, q5]
      exact e1
theorem px_step {ws : List Str} {n : Nat} (hI : PX' C_Program C_StretchError C_UnknownPath ws n) : PX' C_Program C_StretchError C_UnknownPath ws (n + 1) := by
  intro e blk base ok hn hc hb
  have hlen := len_cnts blk
  have hbb := iR1_blk (ts := ens blk) (sl := [some (.d (.tup base)), some (.own 0), none, none]) (st := [.lst []]) (by rw [ens_len]; omega)
  rw [ens_len] at hbb
  obtain ⟨w3, w4, k', g', L, e1, e2, e3⟩ := px_loop C_Program C_StretchError C_UnknownPath hI (blk := blk) hn hb blk [] [] 0 [.lst []] none none (by rw [List.nil_append]) ok (by rw [List.length_nil]; omega) hc (by rw [List.getElem?_cons_zero])
  rw [List.length_nil] at e1 e3
  rw [List.nil_append] at e2
  refine ⟨L, ?_, e3⟩
  unfold F__law_all
  rw [dataF_run]
  have hd := pa_run C_Program C_StretchError C_UnknownPath hbb e1
  have hs : (List.map some (List.map U.d [T.tup (ens blk), T.tup base]) ++ List.replicate (5 - [T.tup (ens blk), T.tup base].length) none : List (Option U)) = [some (.d (.tup (ens blk))), some (.d (.tup base)), none, none, none] := by simp [List.replicate]
  rw [hs, hd]
  simp [resD, toD, e2]
theorem px_all {ws : List Str} : ∀ n, PX' C_Program C_StretchError C_UnknownPath ws n
  | 0 => fun e blk base _ hn => by omega
  | n + 1 => px_step C_Program C_StretchError C_UnknownPath (px_all n)
end
end FL

namespace FL
open PySem L2 PyProof.Rows
mutual
/-- plain data: None, numbers, texts, tuples of such -/
def plT : T → Bool
  | .non => true
  | .int _ => true
  | .str x => PyData.strOk x
  | .tup ts => plTs ts
  | _ => false
def plTs : List T → Bool
  | [] => true
  | t :: ts => plT t && plTs ts
end
mutual
def dpT : T → Nat
  | .tup ts => dpTs ts + 1
  | _ => 0
def dpTs : List T → Nat
  | [] => 0
  | t :: ts => max (dpT t) (dpTs ts)
end
mutual
theorem plT_py : ∀ t : T, plT t = true → ∃ d, t.py = some d ∧ PyData.canLay0 d = true ∧ PyData.depth d ≤ dpT t
  | .non, _ => ⟨.none, by simp [T.py], by simp [PyData.canLay0], by simp [PyData.depth]⟩
  | .int i, _ => ⟨.int i, by simp [T.py], by simp [PyData.canLay0], by simp [PyData.depth]⟩
  | .str x, h => ⟨.str x, by simp [T.py], by simpa [PyData.canLay0, plT] using h, by simp [PyData.depth]⟩
  | .tup ts, h => by
    obtain ⟨ds, e1, e2, e3⟩ := plTs_py ts (by simpa [plT] using h)
    exact ⟨.tuple ds, by simp [T.py, e1], by simpa [PyData.canLay0] using e2, by simp [PyData.depth, dpT, e3]⟩
  | .bl _, h => by simp [plT] at h
  | .ktp _, h => by simp [plT] at h
  | .lst _, h => by simp [plT] at h
  | .frl _, h => by simp [plT] at h
  | .dk _ _, h => by simp [plT] at h
  | .dt _ _, h => by simp [plT] at h
  | .obj _ _ _, h => by simp [plT] at h
theorem plTs_py : ∀ ts : List T, plTs ts = true → ∃ ds, T.pys ts = some ds ∧ PyData.canLayAll0 ds = true ∧ PyData.depthAll ds ≤ dpTs ts
  | [], _ => ⟨[], by simp [T.pys], by simp [PyData.canLayAll0], by simp [PyData.depthAll]⟩
  | t :: ts, h => by
    simp only [plTs, Bool.and_eq_true] at h
    obtain ⟨d, a1, a2, a3⟩ := plT_py t h.1
    obtain ⟨ds, e1, e2, e3⟩ := plTs_py ts h.2
    exact ⟨d :: ds, by simp [T.pys, a1, e1], by simp [PyData.canLayAll0, a2, e2], by simp only [PyData.depthAll, dpTs]; omega⟩
end
mutual
theorem pl_eqv : ∀ (t u : T) (d e : PyData), plT t = true → plT u = true → t.py = some d → u.py = some e → (PyData.eqv d e = true ↔ t = u)
  | .tup ts, .tup us, d, e, h, g, e1, e2 => by
    simp only [plT] at h g
    simp only [T.py, Option.map_eq_some_iff] at e1 e2
    obtain ⟨ds, e1, rfl⟩ := e1
    obtain ⟨es, e2, rfl⟩ := e2
    have := pls_eqv ts us ds es h g e1 e2
    simp only [PyData.eqv, this, T.tup.injEq]
  | .non, u, d, e, h, g, e1, e2 => by
    simp only [T.py, Option.some.injEq] at e1
    subst e1
    cases u <;> simp only [plT, Bool.false_eq_true] at g
    all_goals (simp only [T.py, Option.some.injEq, Option.map_eq_some_iff] at e2)
    all_goals (first | (subst e2; simp [PyData.eqv]) | (obtain ⟨es, e2, rfl⟩ := e2; simp [PyData.eqv]))
  | .int i, u, d, e, h, g, e1, e2 => by
    simp only [T.py, Option.some.injEq] at e1
    subst e1
    cases u <;> simp only [plT, Bool.false_eq_true] at g
    all_goals (simp only [T.py, Option.some.injEq, Option.map_eq_some_iff] at e2)
    all_goals (first | (subst e2; simp [PyData.eqv]) | (obtain ⟨es, e2, rfl⟩ := e2; simp [PyData.eqv]))
  | .str i, u, d, e, h, g, e1, e2 => by
    simp only [T.py, Option.some.injEq] at e1
    subst e1
    cases u <;> simp only [plT, Bool.false_eq_true] at g
    all_goals (simp only [T.py, Option.some.injEq, Option.map_eq_some_iff] at e2)
    all_goals (first | (subst e2; simp [PyData.eqv]) | (obtain ⟨es, e2, rfl⟩ := e2; simp [PyData.eqv]))
  | .tup ts, .non, d, e, h, g, e1, e2 => by
    simp only [T.py, Option.some.injEq, Option.map_eq_some_iff] at e1 e2
    obtain ⟨ds, e1, rfl⟩ := e1; subst e2; simp [PyData.eqv]
  | .tup ts, .int _, d, e, h, g, e1, e2 => by
    simp only [T.py, Option.some.injEq, Option.map_eq_some_iff] at e1 e2
    obtain ⟨ds, e1, rfl⟩ := e1; subst e2; simp [PyData.eqv]
  | .tup ts, .str _, d, e, h, g, e1, e2 => by
    simp only [T.py, Option.some.injEq, Option.map_eq_some_iff] at e1 e2
    obtain ⟨ds, e1, rfl⟩ := e1; subst e2; simp [PyData.eqv]
  | .tup ts, .bl _, d, e, h, g, e1, e2 => by simp [plT] at g
  | .tup ts, .ktp _, d, e, h, g, e1, e2 => by simp [plT] at g
  | .tup ts, .lst _, d, e, h, g, e1, e2 => by simp [plT] at g
  | .tup ts, .frl _, d, e, h, g, e1, e2 => by simp [plT] at g
  | .tup ts, .dk _ _, d, e, h, g, e1, e2 => by simp [plT] at g
  | .tup ts, .dt _ _, d, e, h, g, e1, e2 => by simp [plT] at g
  | .tup ts, .obj _ _ _, d, e, h, g, e1, e2 => by simp [plT] at g
  | .bl _, u, d, e, h, g, e1, e2 => by simp [plT] at h
  | .ktp _, u, d, e, h, g, e1, e2 => by simp [plT] at h
  | .lst _, u, d, e, h, g, e1, e2 => by simp [plT] at h
  | .frl _, u, d, e, h, g, e1, e2 => by simp [plT] at h
  | .dk _ _, u, d, e, h, g, e1, e2 => by simp [plT] at h
  | .dt _ _, u, d, e, h, g, e1, e2 => by simp [plT] at h
  | .obj _ _ _, u, d, e, h, g, e1, e2 => by simp [plT] at h
theorem pls_eqv : ∀ (ts us : List T) (ds es : List PyData), plTs ts = true → plTs us = true → T.pys ts = some ds → T.pys us = some es → (PyData.eqvAll ds es = true ↔ ts = us)
  | [], [], ds, es, _, _, e1, e2 => by
    simp only [T.pys, Option.some.injEq] at e1 e2
    subst e1; subst e2; simp [PyData.eqvAll]
  | [], u :: us, ds, es, _, g, e1, e2 => by
    simp only [T.pys, Option.some.injEq] at e1
    subst e1
    simp only [T.pys] at e2
    split at e2
    · simp only [Option.some.injEq] at e2; subst e2; simp [PyData.eqvAll]
    · cases e2
  | t :: ts, [], ds, es, _, g, e1, e2 => by
    simp only [T.pys, Option.some.injEq] at e2
    subst e2
    simp only [T.pys] at e1
    split at e1
    · simp only [Option.some.injEq] at e1; subst e1; simp [PyData.eqvAll]
    · cases e1
  | t :: ts, u :: us, ds, es, h, g, e1, e2 => by
    simp only [plTs, Bool.and_eq_true] at h g
    simp only [T.pys] at e1 e2
    split at e1
    · rename_i d ds' a1 a2
      simp only [Option.some.injEq] at e1
      subst e1
      split at e2
      · rename_i e es' b1 b2
        simp only [Option.some.injEq] at e2
        subst e2
        have h1 := pl_eqv t u d e h.1 g.1 a1 b1
        have h2 := pls_eqv ts us ds' es' h.2 g.2 a2 b2
        simp only [PyData.eqvAll, Bool.and_eq_true, h1, h2, List.cons.injEq]
      · cases e2
    · cases e1
end
/-- plain and not deep -/
def Pdt (t : T) : Prop := plT t = true ∧ dpT t ≤ 60
theorem Pdt.py {t : T} (h : Pdt t) : ∃ d, t.py = some d ∧ SeqAt.shaped d = true := by
  obtain ⟨d, e1, e2, e3⟩ := plT_py t h.1
  exact ⟨d, e1, by have := h.2; simp [SeqAt.shaped, e2]; omega⟩
theorem sc_pn : ∀ (t u : T) (b : Bool), plT t = true → plT u = true → scT t u = some b → (b = true ↔ t = u) := by
  intro t u b h g e
  cases t <;> cases u <;> simp only [plT, Bool.false_eq_true] at h g <;> simp only [scT, Option.some.injEq, reduceCtorEq] at e <;> subst e <;> simp
theorem eqB_pn {t u : T} (h : Pdt t) (g : Pdt u) : ∃ b, eqB t u = some b ∧ (b = true ↔ t = u) := by
  obtain ⟨d, e1, e2⟩ := h.py
  obtain ⟨e, f1, f2⟩ := g.py
  unfold eqB
  cases es : scT t u with
  | some b => exact ⟨b, rfl, sc_pn t u b h.1 g.1 es⟩
  | none =>
    dsimp only
    rw [e1, f1]
    dsimp only
    rw [if_pos ⟨e2, f2⟩]
    exact ⟨_, rfl, pl_eqv t u d e h.1 g.1 e1 f1⟩
theorem eqF_pn {t u : T} (h : Pdt t) (g : Pdt u) : ∃ b, eqF t u = some (.d (.bl b)) ∧ neF t u = some (.d (.bl (!b))) ∧ (b = true ↔ t = u) := by
  obtain ⟨b, e, f⟩ := eqB_pn h g
  exact ⟨b, by simp [eqF, e], by simp [neF, e], f⟩
theorem eqF_self {t : T} (h : Pdt t) : eqF t t = some (.d (.bl true)) ∧ neF t t = some (.d (.bl false)) := by
  obtain ⟨b, e1, e2, f⟩ := eqF_pn h h
  have : b = true := f.mpr rfl
  subst this
  exact ⟨e1, e2⟩
/-- lists of plain data -/
def Pdts (ts : List T) : Prop := ∀ t ∈ ts, Pdt t
theorem Pdts.pl : ∀ {ts : List T}, Pdts ts → plTs ts = true ∧ dpTs ts ≤ 60
  | [], _ => by simp [plTs, dpTs]
  | t :: ts, h => by
    obtain ⟨h1, h2⟩ := h t List.mem_cons_self
    obtain ⟨g1, g2⟩ := Pdts.pl fun x hx => h x (List.mem_cons_of_mem _ hx)
    exact ⟨by simp [plTs, h1, g1], by simp only [dpTs]; omega⟩
theorem neF_lst {ts : List T} (h : Pdts ts) : neF (.lst ts) (.lst ts) = some (.d (.bl false)) := by
  obtain ⟨h1, h2⟩ := h.pl
  obtain ⟨ds, e1, e2, e3⟩ := plTs_py ts h1
  have s : SeqAt.shaped (.list ds) = true := by simp [SeqAt.shaped, PyData.canLay0, e2, PyData.depth]; omega
  have v : PyData.eqvAll ds ds = true := (pls_eqv ts ts ds ds h1 h1 e1 e1).mpr rfl
  simp [neF, eqB, scT, T.py, e1, s, PyData.eqv, v]
theorem Pdt.tup {ts : List T} (h : plTs ts = true) (g : dpTs ts ≤ 59) : Pdt (.tup ts) := ⟨by simpa [plT] using h, by simp only [dpT]; omega⟩
theorem Pdt.str {x : Str} (h : PyData.strOk x = true) : Pdt (.str x) := ⟨by simpa [plT] using h, by simp [dpT]⟩
theorem Pdt.int {i : Int} : Pdt (.int i) := ⟨by simp [plT], by simp [dpT]⟩
end FL

namespace FL
open PySem L2 PyProof.Rows
theorem sok_of {ws : List Str} (h : ws.all (fun x => PyData.strOk x) = true) {x : Str} (hx : x ∈ ws) : PyData.strOk x = true := List.all_eq_true.mp h x hx
theorem sok_term {x : Str} (hx : x ∈ TERMs) : PyData.strOk x = true := sok_of (by decide +kernel) hx
theorem sok_choi {x : Str} (hx : x ∈ CHOIs) : PyData.strOk x = true := sok_of (by decide +kernel) hx
theorem sok_sort {x : Str} (hx : x ∈ SORTs) : PyData.strOk x = true := sok_of (by decide +kernel) hx
theorem sok_words : ∀ x ∈ ([("give" : Str), "keep", "if", "sort", "a", "less", "same", "block", "last"] : List Str), PyData.strOk x = true := fun x hx => sok_of (by decide +kernel) hx
theorem pt_tm {ws : List Str} (hw : ∀ a ∈ ws, a ∈ TERMs) {t : Tm} (h : t.ok ws) : plT t.e = true ∧ dpT t.e ≤ 1 := by
  cases t with
  | w a => exact ⟨by simp [Tm.e, plT, sok_term (hw a h)], by simp [Tm.e, dpT]⟩
  | c k a b => exact ⟨by simp [Tm.e, plT, plTs, sok_choi h.1, sok_term (hw a h.2.1), sok_term (hw b h.2.2)], by simp [Tm.e, dpT, dpTs]⟩
theorem pt_te {ws : List Str} (hw : ∀ a ∈ ws, a ∈ TERMs) {t : Te} (h : t.ok ws) : plT t.e = true ∧ dpT t.e ≤ 1 := by
  cases t with
  | srt => exact ⟨by simp [Te.e, plT, plTs, sok_words], by simp [Te.e, dpT, dpTs]⟩
  | c k a b =>
    have hk : PyData.strOk k = true := by rcases h.1 with rfl | rfl <;> exact sok_words _ (by simp)
    exact ⟨by simp [Te.e, plT, plTs, hk, sok_term (hw a h.2.1), sok_term (hw b h.2.2)], by simp [Te.e, dpT, dpTs]⟩
mutual
theorem pt_sm {ws : List Str} (hw : ∀ a ∈ ws, a ∈ TERMs) : ∀ (s : Sm) (e : Nat), s.ok ws e → plT s.e = true ∧ dpT s.e ≤ 2 * e + 2
  | .give a b, e, h => by
    unfold Sm.ok at h
    obtain ⟨h1, h2⟩ := pt_tm hw h.1
    obtain ⟨g1, g2⟩ := pt_tm hw h.2
    exact ⟨by simp [Sm.e, plT, plTs, h1, g1, sok_words], by simp only [Sm.e, dpT, dpTs]; omega⟩
  | .keep p a, e, h => by
    unfold Sm.ok at h
    obtain ⟨h1, h2⟩ := pt_tm hw h.2
    have hp : PyData.strOk p = true := sok_of (ws := PLACs) (by decide +kernel) h.1
    exact ⟨by simp [Sm.e, plT, plTs, h1, hp, sok_words], by simp only [Sm.e, dpT, dpTs]; omega⟩
  | .iff t x y, e, h => by
    cases e with
    | zero => unfold Sm.ok at h; exact h.elim
    | succ e =>
      unfold Sm.ok at h
      obtain ⟨h1, h2⟩ := pt_te hw h.1
      obtain ⟨x1, x2⟩ := pt_ens hw x e h.2.1
      obtain ⟨y1, y2⟩ := pt_ens hw y e h.2.2
      exact ⟨by simp [Sm.e, plT, plTs, h1, x1, y1, sok_words], by simp only [Sm.e, dpT, dpTs]; omega⟩
theorem pt_ens {ws : List Str} (hw : ∀ a ∈ ws, a ∈ TERMs) : ∀ (l : List Sm) (e : Nat), oks ws e l → plTs (ens l) = true ∧ dpTs (ens l) ≤ 2 * e + 2
  | [], e, _ => by simp [ens, plTs, dpTs]
  | s :: r, e, h => by
    obtain ⟨h1, h2⟩ := oks_cons.mp h
    obtain ⟨a1, a2⟩ := pt_sm hw s e h1
    obtain ⟨b1, b2⟩ := pt_ens hw r e h2
    exact ⟨by simp [ens, plTs, a1, b1], by simp only [ens, dpTs]; omega⟩
end
theorem pd_b {b : List Sm} (h : oks TERMs 2 b) : Pdt (.tup (ens b)) := by
  obtain ⟨h1, h2⟩ := pt_ens (fun a h => h) b 2 h
  exact Pdt.tup h1 (by omega)
theorem pd_l {b : List Sm} (h : oks PLACs 2 b) : Pdt (.tup (ens b)) := by
  obtain ⟨h1, h2⟩ := pt_ens place_term b 2 h
  exact Pdt.tup h1 (by omega)
theorem pd_s {s : Str} (h : s ∈ SORTs) : Pdt (.str s) := Pdt.str (sok_sort h)
section
variable (C_Program C_StretchError C_UnknownPath : Addr)
theorem f_eqP {s s' : Str} {b b' l l' : List Sm} (ok : POk s b l) (ok' : POk s' b' l') : ∃ q, F_Program_eq C_Program C_StretchError C_UnknownPath [] [.d (progT C_Program s b l), .d (progT C_Program s' b' l')] = .ok (.d (.bl q)) ⟨[], []⟩ ∧ (q = true ↔ s = s' ∧ ens b = ens b' ∧ ens l = ens l') := by
  obtain ⟨q1, _, n1, f1⟩ := eqF_pn (pd_s ok.hs) (pd_s ok'.hs)
  obtain ⟨q2, e2, n2, f2⟩ := eqF_pn (pd_b ok.hb) (pd_b ok'.hb)
  obtain ⟨q3, e3, n3, f3⟩ := eqF_pn (pd_l ok.hl) (pd_l ok'.hl)
  simp only [T.str.injEq, T.tup.injEq] at f1 f2 f3
  refine ⟨q1 && (q2 && q3), ?_, by simp [f1, f2, f3]⟩
  unfold F_Program_eq runD
  cases q1 <;> cases q2 <;> simp [d_Program_eq, mIsA, mFld, insOf, fAt, progT, n1, e2, e3, cutSt]
theorem f_eqT {s : Str} {b l : List Sm} {ts : List T} : F_Program_eq C_Program C_StretchError C_UnknownPath [] [.d (progT C_Program s b l), .d (.tup ts)] = .ok (.d (.bl false)) ⟨[], []⟩ := by
  unfold F_Program_eq runD
  simp [d_Program_eq, mIsA, mFld, insOf, fAt, progT, cutSt, isTupT, pk]
theorem f_len {s : Str} {b l : List Sm} : F_Program_len C_Program C_StretchError C_UnknownPath [] [.d (progT C_Program s b l)] = .ok (.d (.int (progQ b l).length)) ⟨[], []⟩ := by
  unfold F_Program_len runD
  simp [d_Program_len, mFld, insOf, fAt, progT, cutSt, caK, pks, pk, lenDF]
theorem f_sorting {s : Str} {b l : List Sm} : dataF (F_Program_sorting C_Program C_StretchError C_UnknownPath) [progT C_Program s b l] = some (.str s) := by
  unfold F_Program_sorting
  rw [dataF_run]
  simp [d_Program_sorting, mFld, insOf, fAt, progT]
theorem f_block {s : Str} {b l : List Sm} : dataF (F_Program_block C_Program C_StretchError C_UnknownPath) [progT C_Program s b l] = some (.tup (ens b)) := by
  unfold F_Program_block
  rw [dataF_run]
  simp [d_Program_block, mFld, insOf, fAt, progT]
theorem f_last {s : Str} {b l : List Sm} : dataF (F_Program_last C_Program C_StretchError C_UnknownPath) [progT C_Program s b l] = some (.tup (ens l)) := by
  unfold F_Program_last
  rw [dataF_run]
  simp [d_Program_last, mFld, insOf, fAt, progT]
end
end FL

namespace FL
open PySem L2 PyProof.Rows
abbrev pthT (q : List NestedKey × Sm) : T := .tup (q.1.map kT)
theorem pair_rows : ∀ qs : List (List NestedKey × Sm), pairT (qs.map fun q => .tup (q.1.map kT)) (qs.map fun q => q.2.e) = qs.map rowE
  | [] => rfl
  | q :: qs => by simp [pairT, pair_rows qs, rowE]
def wd : Sm → Str
  | .give _ _ => "give" | .keep _ _ => "keep" | .iff _ _ _ => "if"
theorem wd_ix (s : Sm) : ixAF s.e (.int 0) = some (.d (.str (wd s))) := by
  cases s <;> simp [Sm.e, wd, ixAF, ixF, itm, atI, ixN]
theorem eqF_str (x y : Str) : eqF (.str x) (.str y) = some (.d (.bl (decide (x = y)))) := by simp [eqF, eqB, scT]
def hasW : Option Str → Sm → Bool
  | none, _ => true
  | some w, s => decide (wd s = w)
def wrdT : Option Str → T
  | none => .non
  | some w => .str w
theorem isF_wrdT (w : Option Str) : isF (wrdT w) .non = some (.d (.bl (decide (w = none)))) := by cases w <;> simp [isF, wrdT, isN]
section
variable (C_Program C_StretchError C_UnknownPath : Addr)
theorem paths_loop (p : T) (w : Option Str) : ∀ (qs : List (List NestedKey × Sm)) (ys : List T) (v2 v3 : Option U), ys.length + qs.length ≤ 1000 → ∃ w2 w3,
    forG (gT 2 (gsCons (gN 2) (gsCons (gN 3) gsNil))) (mGThen (mGIf (mOrT (mTOp isF (mVar 1) (mC .non)) (mTOp eqF (mOp ixAF (mVar 3) (mC (.int 0))) (mVar 1))) (mGThen (mGYield (mVar 2)) mG0) mG0) mG0) (qs.map rowE) ys ⟨[some (.d p), some (.d (wrdT w)), v2, v3], []⟩ =
      .nx (ys ++ (qs.filter fun q => hasW w q.2).map pthT) ⟨[some (.d p), some (.d (wrdT w)), w2, w3], []⟩
  | [], ys, v2, v3, _ => ⟨v2, v3, by simp [forG]⟩
  | q :: qs, ys, v2, v3, hl => by
    simp only [List.length_cons] at hl
    have hlt : ys.length < 4096 := by omega
    have e1 := wd_ix q.2
    cases w with
    | none =>
      obtain ⟨w2, w3, e⟩ := paths_loop p none qs (ys ++ [pthT q]) (some (.d (pthT q))) (some (.d q.2.e)) (by simp; omega)
      refine ⟨w2, w3, ?_⟩
      simp [forG, rowE, gT, gsCons, gsNil, pk, itm, mGThen, mGIf, mGYield, mG0, opK, isF, wrdT, isN, toD, hlt, hasW, tstK]
      simpa [hasW, wrdT] using e
    | some w =>
      by_cases hw : wd q.2 = w
      · obtain ⟨w2, w3, e⟩ := paths_loop p (some w) qs (ys ++ [pthT q]) (some (.d (pthT q))) (some (.d q.2.e)) (by simp; omega)
        refine ⟨w2, w3, ?_⟩
        simp [forG, rowE, gT, gsCons, gsNil, pk, itm, mGThen, mGIf, mGYield, mG0, opK, isF, wrdT, isN, toD, hlt, hasW, tstK, e1, eqF_str, hw]
        simpa [hasW, wrdT] using e
      · obtain ⟨w2, w3, e⟩ := paths_loop p (some w) qs ys (some (.d (pthT q))) (some (.d q.2.e)) (by omega)
        refine ⟨w2, w3, ?_⟩
        simp [forG, rowE, gT, gsCons, gsNil, pk, itm, mGThen, mGIf, mGYield, mG0, opK, isF, wrdT, isN, toD, hlt, hasW, tstK, e1, eqF_str, hw]
        simpa [hasW, wrdT] using e
theorem f_paths {s : Str} {b l : List Sm} (w : Option Str) (h : (progQ b l).length ≤ 900) : F_Program_paths C_Program C_StretchError C_UnknownPath [.d (progT C_Program s b l), .d (wrdT w)] = some (((progQ b l).filter fun q => hasW w q.2).map pthT) := by
  obtain ⟨w2, w3, e⟩ := paths_loop (progT C_Program s b l) w (progQ b l) [] none none (by simp; omega)
  unfold F_Program_paths runG d_Program_paths
  have hs : ([U.d (progT C_Program s b l), U.d (wrdT w)].map some ++ List.replicate (4 - [U.d (progT C_Program s b l), U.d (wrdT w)].length) none : List (Option U)) = [some (.d (progT C_Program s b l)), some (.d (wrdT w)), none, none] := by simp [List.replicate]
  have hi : iItD (mFld C_Program "rows" (mVar 0)) ⟨[some (.d (progT C_Program s b l)), some (.d (wrdT w)), none, none], []⟩ = .ok ((progQ b l).map rowE) ⟨[some (.d (progT C_Program s b l)), some (.d (wrdT w)), none, none], []⟩ := by
    simp only [iItD, mFld, ev_var0, R.bind_ok, progT, insOf, if_true]
    simp [fAt, pair_rows]
  rw [hs, mGThen, mGFor, hi, R.thG_ok, e]
  simp [mG0]
end
end FL

namespace FL
open PySem L2 PyProof.Rows
theorem reach_nil {st : List Ob} : ∀ n, reach st n [] = []
  | 0 => rfl
  | n + 1 => by simp [reach, reach_nil n]
section
variable {C : Addr} {m : Str} {n : Nat} {F : Fn} {cs : List Bool} {mo : DE} {da : DA} {ρ : Sg} {ns : List Str} {os ts : List T} {t : T} {x : Xn} {sl' : List (Option U)} {st' : List Ob}
theorem toD_data (n : Nat) (t : T) (st : List Ob) : toD n (.d t) st = some (t, st) := by cases n <;> rfl
theorem methD_ok (ho : mo ρ = .ok (.d (.obj C ns os)) ρ) (hm : m ∉ ns) (hd : da ρ = .ok (ts.map .d) ρ) (hn : ts.length + 1 = n) (hF : F [] ((T.obj C ns os :: ts).map .d) = .ok (.d t) ⟨sl', st'⟩) : mMeth C m n F cs mo da ρ = .ok (.d t) ρ := by
  have e : argC cs (.d (.obj C ns os) :: ts.map .d) ρ.st = some ((T.obj C ns os :: ts).map .d, ρ.st) := argC_data cs (T.obj C ns os :: ts) ρ.st
  simp only [List.map_cons] at hF
  unfold mMeth
  simp [ho, insOf, hm, hd, e, hn, callR, owns_data, owns, reach_nil, handOn, renUs_data, renUs, renU, hF, toD_data, handBack]
theorem methD_ex (ho : mo ρ = .ok (.d (.obj C ns os)) ρ) (hm : m ∉ ns) (hd : da ρ = .ok (ts.map .d) ρ) (hn : ts.length + 1 = n) (hF : F [] ((T.obj C ns os :: ts).map .d) = .ex x ⟨sl', st'⟩) : mMeth C m n F cs mo da ρ = .ex x ρ := by
  have e : argC cs (.d (.obj C ns os) :: ts.map .d) ρ.st = some ((T.obj C ns os :: ts).map .d, ρ.st) := argC_data cs (T.obj C ns os :: ts) ρ.st
  simp only [List.map_cons] at hF
  unfold mMeth
  simp [ho, insOf, hm, hd, e, hn, callR, owns_data, owns, reach_nil, handOn, renUs_data, renUs, renU, hF, toD_data, handBack]
end
/-- what may stand in a path that is asked for -/
def isPart : T → Bool
  | .int _ => true | .str _ => true | _ => false
def pathy : T → Bool
  | .int _ => true | .str _ => true | .bl _ => true | _ => false
theorem part_ev {ts : List T} (h : ∀ t ∈ ts, pathy t = true) : ∀ (v1 : Option U) (acc : List T) (s0 : Option U), acc.length + ts.length ≤ 1000 →
    lcL (gN 1) mYes (mBAnd (mIsi2 "int" "str" (mVar 1)) (mBNot (mIsi "bool" (mVar 1)))) [1] [s0, v1] ts acc [] = .ok (acc ++ ts.map fun t => .bl (isPart t)) ⟨[s0, v1], []⟩ := by
  intro v1 acc s0 hl
  refine lc_map (h := fun t => .bl (isPart t)) ts acc (fun x hx => ?_) (Nat.le_trans hl (by decide))
  have hp := h x hx
  have i1 : isiB2 "int" "str" .int = some true := by decide +kernel
  have i2 : isiB2 "int" "str" .str = some true := by decide +kernel
  have i3 : isiB2 "int" "str" .bl = some true := by decide +kernel
  have j1 : isiB "bool" .int = some false := by decide +kernel
  have j2 : isiB "bool" .str = some false := by decide +kernel
  have j3 : isiB "bool" .bl = some true := by decide +kernel
  cases x <;> simp only [pathy, Bool.false_eq_true] at hp
  · rename_i w; exact ⟨_, [s0, some (.d (.bl w))], rfl, by simp [wipeL, mIsi2, pk, isDt, T.kd, i3, isiK, j3, isPart]⟩
  · rename_i w; exact ⟨_, [s0, some (.d (.int w))], rfl, by simp [wipeL, mIsi2, pk, isDt, T.kd, i1, isiK, j1, isPart]⟩
  · rename_i w; exact ⟨_, [s0, some (.d (.str w))], rfl, by simp [wipeL, mIsi2, pk, isDt, T.kd, i2, isiK, j2, isPart]⟩
theorem bls_map (f : T → Bool) : ∀ ts : List T, bls (ts.map fun t => .bl (f t)) = some (ts.map f)
  | [] => rfl
  | t :: ts => by simp [bls, bls_map f ts]
section
variable (C_Program C_StretchError C_UnknownPath : Addr)
theorem f_is_path {ts : List T} (h : ∀ t ∈ ts, pathy t = true) (hl : ts.length ≤ 1000) : dataF (F_is_path C_Program C_StretchError C_UnknownPath) [.tup ts] = some (.bl (ts.all isPart)) := by
  have i0 : isiB "tuple" .tup = some true := by decide +kernel
  unfold F_is_path
  rw [dataF_run]
  simp [d_is_path, isiK, pk, isDt, T.kd, i0, part_ev h, hl]
  simp [caK, pks, pk, allF, itm, bls_map]
theorem f_is_path_non : dataF (F_is_path C_Program C_StretchError C_UnknownPath) [.non] = some (.bl false) := by
  have i0 : isiB "tuple" .non = some false := by decide +kernel
  unfold F_is_path
  rw [dataF_run]
  simp [d_is_path, isiK, pk, isDt, T.kd, i0]
theorem f_is_path_str (x : Str) : dataF (F_is_path C_Program C_StretchError C_UnknownPath) [.str x] = some (.bl false) := by
  have i0 : isiB "tuple" .str = some false := by decide +kernel
  unfold F_is_path
  rw [dataF_run]
  simp [d_is_path, isiK, pk, isDt, T.kd, i0]
/-- the rows walked for a path -/
abbrev stB (FI : Fn) : DS := (mIfS (mAndT (mTest (mCall 1 FI [false] (aCons (mVar 1) aNil))) (mTOp eqF (mVar 2) (mVar 1))) (mRet (mVar 3)) mNx)
theorem st_none {FI : Fn} {p x : T} {ok : Bool} (hI : dataF FI [x] = some (.bl ok)) : ∀ (qs : List (List NestedKey × Sm)) (v2 v3 : Option U), (ok = true → ∀ q ∈ qs, eqF (pthT q) x = some (.d (.bl false))) → ∃ w2 w3,
    forL (gT 2 (gsCons (gN 2) (gsCons (gN 3) gsNil))) (stB FI) (qs.map rowE) ⟨[some (.d p), some (.d x), v2, v3], []⟩ = .nx ⟨[some (.d p), some (.d x), w2, w3], []⟩
  | [], v2, v3, _ => ⟨v2, v3, rfl⟩
  | q :: qs, v2, v3, h => by
    obtain ⟨w2, w3, e⟩ := st_none hI qs (some (.d (pthT q))) (some (.d q.2.e)) (fun ho x hx => h ho x (List.mem_cons_of_mem _ hx))
    refine ⟨w2, w3, ?_⟩
    cases ok with
    | false => simp [forL, rowE, gT, gsCons, gsNil, pk, itm, hI, tstK]; exact e
    | true =>
      have e1 := h rfl q List.mem_cons_self
      simp [forL, rowE, gT, gsCons, gsNil, pk, itm, hI, tstK, opK, e1]; exact e
theorem st_some {FI : Fn} {p x : T} {s : Sm} (hI : dataF FI [x] = some (.bl true)) : ∀ (l1 l2 : List (List NestedKey × Sm)) (q : List NestedKey × Sm) (v2 v3 : Option U), (∀ q ∈ l1, eqF (pthT q) x = some (.d (.bl false))) → eqF (pthT q) x = some (.d (.bl true)) → ∃ ρ,
    forL (gT 2 (gsCons (gN 2) (gsCons (gN 3) gsNil))) (stB FI) ((l1 ++ q :: l2).map rowE) ⟨[some (.d p), some (.d x), v2, v3], []⟩ = .rt (.d q.2.e) ρ
  | [], l2, q, v2, v3, _, e => by
    refine ⟨⟨[some (.d p), some (.d x), some (.d (pthT q)), some (.d q.2.e)], []⟩, ?_⟩
    simp [forL, rowE, gT, gsCons, gsNil, pk, itm, hI, tstK, opK, e]
  | q' :: l1, l2, q, v2, v3, h, e => by
    obtain ⟨ρ, e2⟩ := st_some hI l1 l2 q (some (.d (pthT q'))) (some (.d q'.2.e)) (fun x hx => h x (List.mem_cons_of_mem _ hx)) e (s := s)
    refine ⟨ρ, ?_⟩
    have e1 := h q' List.mem_cons_self
    simp [forL, rowE, gT, gsCons, gsNil, pk, itm, hI, tstK, opK, e1]; simpa [rowE] using e2
theorem rows_it {s : Str} {b l : List Sm} {x v2 v3 : Option U} {st : List Ob} : iItD (mFld C_Program "rows" (mVar 0)) ⟨[some (.d (progT C_Program s b l)), x, v2, v3], st⟩ = .ok ((progQ b l).map rowE) ⟨[some (.d (progT C_Program s b l)), x, v2, v3], st⟩ := by
  simp only [iItD, mFld, ev_var0, R.bind_ok, progT, insOf, if_true]
  simp [fAt, pair_rows]
theorem d_st_eq (FI : Fn) : d_Program_statement C_Program C_UnknownPath FI = mSeq (mFor (iItD (mFld C_Program "rows" (mVar 0))) (gT 2 (gsCons (gN 2) (gsCons (gN 3) gsNil))) (stB FI)) (mRaise1 C_UnknownPath "path" (aCons (mVar 1) aNil)) := by
  unfold d_Program_statement
  with_reducible rfl
theorem f_st_none {s : Str} {b l : List Sm} {x : T} {ok : Bool} (hI : dataF (F_is_path C_Program C_StretchError C_UnknownPath) [x] = some (.bl ok)) (h : ok = true → ∀ q ∈ progQ b l, eqF (pthT q) x = some (.d (.bl false))) :
    F_Program_statement C_Program C_StretchError C_UnknownPath [] [.d (progT C_Program s b l), .d x] = .ex ⟨C_UnknownPath, [("path", x)]⟩ ⟨[], []⟩ := by
  obtain ⟨w2, w3, e⟩ := st_none (p := progT C_Program s b l) hI (progQ b l) none none h
  unfold F_Program_statement runD
  have hs : ([U.d (progT C_Program s b l), U.d x].map some ++ List.replicate (4 - [U.d (progT C_Program s b l), U.d x].length) none : List (Option U)) = [some (.d (progT C_Program s b l)), some (.d x), none, none] := by simp [List.replicate]
  rw [hs, d_st_eq, ev_seq, ev_for, rows_it, R.thn_ok, e]
  simp [mRaise1, toD_data, cutSt]
theorem f_st_some {s : Str} {b l : List Sm} {l1 l2 : List (List NestedKey × Sm)} {q : List NestedKey × Sm} {x : T} (hI : dataF (F_is_path C_Program C_StretchError C_UnknownPath) [x] = some (.bl true)) (hq : progQ b l = l1 ++ q :: l2) (h : ∀ q ∈ l1, eqF (pthT q) x = some (.d (.bl false))) (he : eqF (pthT q) x = some (.d (.bl true))) :
    dataF (F_Program_statement C_Program C_StretchError C_UnknownPath) [progT C_Program s b l, x] = some q.2.e := by
  obtain ⟨ρ, e⟩ := st_some (p := progT C_Program s b l) (s := q.2) hI l1 l2 q none none h he
  unfold F_Program_statement
  rw [dataF_run]
  have hs : (([progT C_Program s b l, x].map U.d).map some ++ List.replicate (4 - [progT C_Program s b l, x].length) none : List (Option U)) = [some (.d (progT C_Program s b l)), some (.d x), none, none] := by simp [List.replicate]
  rw [hs, d_st_eq, ev_seq, ev_for, rows_it, R.thn_ok, hq, e]
  simp
theorem f_refused {s : Str} {b l : List Sm} {x : T} (hs : F_Program_statement C_Program C_StretchError C_UnknownPath [] [.d (progT C_Program s b l), .d x] = .ex ⟨C_UnknownPath, [("path", x)]⟩ ⟨[], []⟩) (he : eqF x x = some (.d (.bl true))) :
    dataF (F__law_refused C_Program C_StretchError C_UnknownPath) [progT C_Program s b l, x] = some (.bl true) := by
  have hm : ∀ st, mMeth C_Program "statement" 2 (F_Program_statement C_Program C_StretchError C_UnknownPath) [true, false] (mVar 0) (aCons (mVar 1) aNil) ⟨[some (.d (progT C_Program s b l)), some (.d x), some (.d (.bl false)), none], st⟩ = .ex ⟨C_UnknownPath, [("path", x)]⟩ ⟨[some (.d (progT C_Program s b l)), some (.d x), some (.d (.bl false)), none], st⟩ := fun st =>
    methD_ex (ts := [x]) rfl (by decide) rfl rfl hs
  unfold F__law_refused
  rw [dataF_run]
  simp [d__law_refused, List.replicate, mTry, hm, tabF, clrF, hFld, hIs, opK, pk, he]
end
end FL

namespace FL
open PySem L2 PyProof.Rows
def kOk : NestedKey → Bool
  | .num _ => true
  | .text x => PyData.strOk x
  | _ => false
mutual
theorem rowsQS_kok : ∀ (s : Sm) (h : List NestedKey), h.all kOk = true → ∀ q ∈ rowsQS h s, q.1.all kOk = true
  | .iff t x y, h, hs, q, hq => by
    simp only [rowsQS, List.mem_append] at hq
    rcases hq with hq | hq
    · exact rowsQ_kok x (h ++ [.num 0]) 0 (by simp [hs, kOk]) q hq
    · exact rowsQ_kok y (h ++ [.num 1]) 0 (by simp [hs, kOk]) q hq
  | .give a b, h, _, q, hq => by simp [rowsQS] at hq
  | .keep p a, h, _, q, hq => by simp [rowsQS] at hq
theorem rowsQ_kok : ∀ (l : List Sm) (h : List NestedKey) (i : Int), h.all kOk = true → ∀ q ∈ rowsQ h i l, q.1.all kOk = true
  | [], h, i, _, q, hq => by simp [rowsQ] at hq
  | s :: r, h, i, hs, q, hq => by
    simp only [rowsQ, List.mem_cons, List.mem_append] at hq
    rcases hq with rfl | hq | hq
    · simp [hs, kOk]
    · exact rowsQS_kok s (h ++ [.num i]) (by simp [hs, kOk]) q hq
    · exact rowsQ_kok r h (i + 1) hs q hq
end
theorem rowsQ_lt : ∀ (l : List Sm) (h : List NestedKey) (i : Int), h.all smp = true → ∀ q ∈ rowsQ h i l, ∃ j rest, q.1 = h ++ .num j :: rest ∧ i ≤ j ∧ j < i + l.length
  | [], h, i, _, q, hq => by simp [rowsQ] at hq
  | s :: r, h, i, hs, q, hq => by
    simp only [rowsQ, List.mem_cons, List.mem_append] at hq
    rcases hq with rfl | hq | hq
    · exact ⟨i, [], rfl, by omega, by simp only [List.length_cons]; omega⟩
    · obtain ⟨c, rest, e1, e2, e3⟩ := rowsQS_pre s (h ++ [.num i]) (by simp [hs, smp]) q hq
      exact ⟨i, .num c :: rest, by rw [e1]; simp, by omega, by simp only [List.length_cons]; omega⟩
    · obtain ⟨j, rest, e1, e2, e3⟩ := rowsQ_lt r h (i + 1) hs q hq
      exact ⟨j, rest, e1, by omega, by simp only [List.length_cons]; omega⟩
theorem progQ_kok (b l : List Sm) : ∀ q ∈ progQ b l, q.1.all kOk = true := fun q hq => by
  rcases List.mem_append.mp hq with h | h
  · exact rowsQ_kok b _ 0 (by simp only [List.all_cons, List.all_nil, kOk, Bool.and_true]; exact sok_words _ (by simp)) q h
  · exact rowsQ_kok l _ 0 (by simp only [List.all_cons, List.all_nil, kOk, Bool.and_true]; exact sok_words _ (by simp)) q h
theorem pl_path : ∀ p : List NestedKey, p.all kOk = true → plTs (p.map kT) = true ∧ dpTs (p.map kT) = 0
  | [], _ => by simp [plTs, dpTs]
  | k :: p, h => by
    simp only [List.all_cons, Bool.and_eq_true] at h
    obtain ⟨h1, h2⟩ := pl_path p h.2
    cases k <;> simp only [kOk, Bool.false_eq_true, false_and] at h
    · simp [kT, plTs, plT, dpTs, dpT, h1, h2]
    · simp [kT, plTs, plT, dpTs, dpT, h1, h2, h.1]
theorem part_path : ∀ p : List NestedKey, p.all kOk = true → (∀ t ∈ p.map kT, pathy t = true) ∧ (p.map kT).all isPart = true
  | [], _ => by simp
  | k :: p, h => by
    simp only [List.all_cons, Bool.and_eq_true] at h
    obtain ⟨h1, h2⟩ := part_path p h.2
    cases k <;> simp only [kOk, Bool.false_eq_true, false_and] at h
    · refine ⟨fun t ht => ?_, by simp only [List.map_cons, List.all_cons, h2, kT, isPart, Bool.and_true]⟩
      rcases List.mem_cons.mp ht with rfl | ht
      · rfl
      · exact h1 t ht
    · refine ⟨fun t ht => ?_, by simp only [List.map_cons, List.all_cons, h2, kT, isPart, Bool.and_true]⟩
      rcases List.mem_cons.mp ht with rfl | ht
      · rfl
      · exact h1 t ht
theorem kT_inj : ∀ p q : List NestedKey, p.all kOk = true → q.all kOk = true → p.map kT = q.map kT → p = q
  | [], [], _, _, _ => rfl
  | [], _ :: _, _, _, e => by simp at e
  | _ :: _, [], _, _, e => by simp at e
  | k :: p, j :: q, h, g, e => by
    simp only [List.all_cons, Bool.and_eq_true] at h g
    simp only [List.map_cons, List.cons.injEq] at e
    rw [kT_inj p q h.2 g.2 e.2]
    cases k <;> simp only [kOk, Bool.false_eq_true, false_and] at h <;> cases j <;> simp only [kOk, Bool.false_eq_true, false_and] at g <;> simp [kT] at e ⊢ <;> exact e.1
theorem pd_path {b l : List Sm} {q : List NestedKey × Sm} (hq : q ∈ progQ b l) : Pdt (pthT q) := by
  obtain ⟨h1, h2⟩ := pl_path q.1 (progQ_kok b l q hq)
  exact Pdt.tup h1 (by omega)
theorem path_ne {b l : List Sm} {q : List NestedKey × Sm} (hq : q ∈ progQ b l) {x : T} (hx : Pdt x) (h : pthT q ≠ x) : eqF (pthT q) x = some (.d (.bl false)) := by
  obtain ⟨c, e, _, f⟩ := eqF_pn (pd_path hq) hx
  cases c with
  | true => exact absurd (f.mp rfl) h
  | false => exact e
theorem path_split {b l : List Sm} {l1 l2 : List (List NestedKey × Sm)} {q : List NestedKey × Sm} (h : progQ b l = l1 ++ q :: l2) : ∀ x ∈ l1, eqF (pthT x) (pthT q) = some (.d (.bl false)) := by
  intro x hx
  have m1 : x ∈ progQ b l := by rw [h]; exact List.mem_append_left _ hx
  have m2 : q ∈ progQ b l := by rw [h]; simp
  refine path_ne m1 (pd_path m2) fun e => ?_
  have e' : x.1 = q.1 := kT_inj _ _ (progQ_kok b l x m1) (progQ_kok b l q m2) (by simpa using e)
  have nd := progQ_nd b l
  rw [h, List.map_append, List.nodup_append] at nd
  exact nd.2.2 (.tup x.1) (List.mem_map_of_mem hx) (.tup q.1) (by simp) (by rw [e'])
section
variable (C_Program C_StretchError C_UnknownPath : Addr)
theorem f_statement {s : Str} {b l : List Sm} {l1 l2 : List (List NestedKey × Sm)} {q : List NestedKey × Sm} (hq : progQ b l = l1 ++ q :: l2) (hl : q.1.length ≤ 1000) : dataF (F_Program_statement C_Program C_StretchError C_UnknownPath) [progT C_Program s b l, pthT q] = some q.2.e := by
  have m2 : q ∈ progQ b l := by rw [hq]; simp
  obtain ⟨p1, p2⟩ := part_path q.1 (progQ_kok b l q m2)
  have hI := f_is_path C_Program C_StretchError C_UnknownPath p1 (by simpa using hl)
  rw [p2] at hI
  exact f_st_some C_Program C_StretchError C_UnknownPath hI hq (path_split hq) (eqF_self (pd_path m2)).1
/-- a path that is none, made of numbers and texts -/
theorem f_refT {s : Str} {b l : List Sm} {ts : List T} (hp : Pdt (.tup ts)) (hy : ∀ t ∈ ts, pathy t = true) (hl : ts.length ≤ 1000) (h : ∀ q ∈ progQ b l, pthT q ≠ .tup ts) : dataF (F__law_refused C_Program C_StretchError C_UnknownPath) [progT C_Program s b l, .tup ts] = some (.bl true) :=
  f_refused C_Program C_StretchError C_UnknownPath (f_st_none C_Program C_StretchError C_UnknownPath (f_is_path C_Program C_StretchError C_UnknownPath hy hl) fun _ q hq => path_ne hq hp (h q hq)) (eqF_self hp).1
theorem f_refN {s : Str} {b l : List Sm} : dataF (F__law_refused C_Program C_StretchError C_UnknownPath) [progT C_Program s b l, .non] = some (.bl true) :=
  f_refused C_Program C_StretchError C_UnknownPath (f_st_none C_Program C_StretchError C_UnknownPath (f_is_path_non C_Program C_StretchError C_UnknownPath) fun h => by cases h) (by simp [eqF, eqB, scT])
theorem f_refS {s : Str} {b l : List Sm} (x : Str) : dataF (F__law_refused C_Program C_StretchError C_UnknownPath) [progT C_Program s b l, .str x] = some (.bl true) :=
  f_refused C_Program C_StretchError C_UnknownPath (f_st_none C_Program C_StretchError C_UnknownPath (f_is_path_str C_Program C_StretchError C_UnknownPath x) fun h => by cases h) (by simp [eqF, eqB, scT])
/-- ("last", False) -/
theorem f_refB {s : Str} {b l : List Sm} : dataF (F__law_refused C_Program C_StretchError C_UnknownPath) [progT C_Program s b l, .tup [.str "last", .bl false]] = some (.bl true) := by
  have hI := f_is_path C_Program C_StretchError C_UnknownPath (ts := [.str "last", .bl false]) (by simp [pathy]) (by simp)
  refine f_refused C_Program C_StretchError C_UnknownPath (f_st_none C_Program C_StretchError C_UnknownPath hI fun h => by simp [isPart] at h) ?_
  have s1 : PyData.strOk ("last" : Str) = true := sok_words _ (by simp)
  have s2 : SeqAt.shaped (.tuple [.str "last", .bool false]) = true := by simp [SeqAt.shaped, PyData.canLay0, PyData.canLayAll0, s1, PyData.depth, PyData.depthAll]
  simp [eqF, eqB, scT, T.py, T.pys, s2, PyData.eqv, PyData.eqvAll]
theorem f_with {s s' : Str} {b l : List Sm} (ok : POk s' b l) : dataF (F_Program_with_sorting C_Program C_StretchError C_UnknownPath) [progT C_Program s b l, .str s'] = some (progT C_Program s' b l) := by
  obtain ⟨sl, e⟩ := f_init C_Program C_StretchError C_UnknownPath ok
  have hk := fun (ρ : Sg) => newK_data (C := C_Program) (n := 4) (cs := [false, false, false]) (ρ := ρ) (ts := [.str s', .tup (ens b), .tup (ens l)]) e (by simp [refO, refU]) rfl
  simp only [List.map] at hk
  unfold F_Program_with_sorting
  rw [dataF_run]
  simp [d_Program_with_sorting, List.replicate, ev_new, mFld, progT, insOf, fAt]
  rw [hk]
  simp [resD, toD, toDs, progT]
end
end FL

namespace FL
open PySem L2 PyProof.Rows
section
variable {a0 a1 a2 a3 a4 a5 a6 a7 a8 a9 a10 a11 a12 : Option U} {u : U} {sl : List (Option U)} {st : List Ob}
@[simp] theorem ev_var8 : mVar 8 ⟨a0 :: a1 :: a2 :: a3 :: a4 :: a5 :: a6 :: a7 :: some u :: sl, st⟩ = .ok u ⟨a0 :: a1 :: a2 :: a3 :: a4 :: a5 :: a6 :: a7 :: some u :: sl, st⟩ := rfl
@[simp] theorem ev_var9 : mVar 9 ⟨a0 :: a1 :: a2 :: a3 :: a4 :: a5 :: a6 :: a7 :: a8 :: some u :: sl, st⟩ = .ok u ⟨a0 :: a1 :: a2 :: a3 :: a4 :: a5 :: a6 :: a7 :: a8 :: some u :: sl, st⟩ := rfl
@[simp] theorem ev_var10 : mVar 10 ⟨a0 :: a1 :: a2 :: a3 :: a4 :: a5 :: a6 :: a7 :: a8 :: a9 :: some u :: sl, st⟩ = .ok u ⟨a0 :: a1 :: a2 :: a3 :: a4 :: a5 :: a6 :: a7 :: a8 :: a9 :: some u :: sl, st⟩ := rfl
@[simp] theorem ev_var11 : mVar 11 ⟨a0 :: a1 :: a2 :: a3 :: a4 :: a5 :: a6 :: a7 :: a8 :: a9 :: a10 :: some u :: sl, st⟩ = .ok u ⟨a0 :: a1 :: a2 :: a3 :: a4 :: a5 :: a6 :: a7 :: a8 :: a9 :: a10 :: some u :: sl, st⟩ := rfl
@[simp] theorem ev_var12 : mVar 12 ⟨a0 :: a1 :: a2 :: a3 :: a4 :: a5 :: a6 :: a7 :: a8 :: a9 :: a10 :: a11 :: some u :: sl, st⟩ = .ok u ⟨a0 :: a1 :: a2 :: a3 :: a4 :: a5 :: a6 :: a7 :: a8 :: a9 :: a10 :: a11 :: some u :: sl, st⟩ := rfl
@[simp] theorem ev_var13 : mVar 13 ⟨a0 :: a1 :: a2 :: a3 :: a4 :: a5 :: a6 :: a7 :: a8 :: a9 :: a10 :: a11 :: a12 :: some u :: sl, st⟩ = .ok u ⟨a0 :: a1 :: a2 :: a3 :: a4 :: a5 :: a6 :: a7 :: a8 :: a9 :: a10 :: a11 :: a12 :: some u :: sl, st⟩ := rfl
end
/-- the store: the row, what came before, the dict drawn -/
structure Sto (st : List Ob) (r bf : List T) (k : Nat) (dv : Ob) : Prop where
  h0 : st[0]? = some (.lst r)
  h1 : st[1]? = some (.lst bf)
  hk : st[k]? = some dv
  k2 : 2 ≤ k
section
variable {st : List Ob} {r r' bf : List T} {k i : Nat} {dv : Ob} {rows : List T}
theorem get_app {l xs : List Ob} {i : Nat} {o : Ob} (h : l[i]? = some o) : (l ++ xs)[i]? = some o := by
  rw [List.getElem?_append_left (List.getElem?_eq_some_iff.mp h).1]; exact h
theorem Sto.app (h : Sto st r bf k dv) (xs : List Ob) : Sto (st ++ xs) r bf k dv := ⟨get_app h.h0, get_app h.h1, get_app h.hk, h.k2⟩
theorem Sto.set (h : Sto st r bf k dv) {j : Nat} (o : Ob) (j2 : 2 ≤ j) (jk : j ≠ k) : Sto (st.set j o) r bf k dv :=
  ⟨by rw [List.getElem?_set_ne (by omega)]; exact h.h0, by rw [List.getElem?_set_ne (by omega)]; exact h.h1, by rw [List.getElem?_set_ne jk]; exact h.hk, h.k2⟩
theorem Sto.same (h : Sto st r bf k dv) : Sto (st.set k dv) r bf k dv := by
  have hl := (List.getElem?_eq_some_iff.mp h.hk).1
  have := h.k2
  exact ⟨by rw [List.getElem?_set_ne (by omega)]; exact h.h0, by rw [List.getElem?_set_ne (by omega)]; exact h.h1, List.getElem?_set_self hl, h.k2⟩
/-- and the rows, frozen or not -/
structure St6 (st : List Ob) (r bf : List T) (k : Nat) (dv : Ob) (i : Nat) (rows : List T) : Prop extends Sto st r bf k dv where
  hi : st[i]? = some (.lst rows) ∨ st[i]? = some (.frz (.lst rows))
  i2 : 2 ≤ i
  ik : i ≠ k
theorem St6.app (h : St6 st r bf k dv i rows) (xs : List Ob) : St6 (st ++ xs) r bf k dv i rows := { h.toSto.app xs with hi := h.hi.elim (fun e => .inl (get_app e)) fun e => .inr (get_app e), i2 := h.i2, ik := h.ik }
theorem St6.pk (h : St6 st r bf k dv i rows) : FL.pk st (.own i) = some (.lst rows) := by
  rcases h.hi with e | e <;> simp [FL.pk, e]
theorem St6.fz (h : St6 st r bf k dv i rows) : ∃ st', toD 4 (.own i) st = some (.lst rows, st') ∧ St6 st' r bf k dv i rows ∧ st'.length = st.length ∧ ∀ j o, st[j]? = some o → j ≠ i → st'[j]? = some o := by
  rcases h.hi with e | e
  · refine ⟨st.set i (.frz (.lst rows)), by simp [toD, e], { h.toSto.set _ h.i2 h.ik with hi := .inr (List.getElem?_set_self (List.getElem?_eq_some_iff.mp e).1), i2 := h.i2, ik := h.ik }, by simp, fun j o ho hj => by rw [List.getElem?_set_ne (Ne.symm hj)]; exact ho⟩
  · exact ⟨st, by simp [toD, e], h, rfl, fun j o ho _ => ho⟩
theorem St6.set (h : St6 st r bf k dv i rows) {j : Nat} (o : Ob) (j2 : 2 ≤ j) (jk : j ≠ k) (ji : j ≠ i) : St6 (st.set j o) r bf k dv i rows :=
  { h.toSto.set o j2 jk with hi := by rw [List.getElem?_set_ne ji]; exact h.hi, i2 := h.i2, ik := h.ik }
/-- the slots of law -/
abbrev Sl (u0 v3 v4 v5 v6 v7 v8 v9 v10 v11 v12 v13 : Option U) : List (Option U) := [u0, some (.own 0), some (.own 1), v3, v4, v5, v6, v7, v8, v9, v10, v11, v12, v13]
abbrev gPS : DG := gT 2 (gsCons (gN 9) (gsCons (gN 11) gsNil))
/-- the paths of some rows -/
theorem lc_paths' {u0 v3 v4 v5 v6 v7 v8 v9 v10 v11 v12 v13 : Option U} {t : DT} {p : Sm → Bool} :
    ∀ (qs : List (List NestedKey × Sm)) (acc : List T), (∀ q ∈ qs, t ⟨Sl u0 v3 v4 v5 v6 v7 v8 (some (.d (pthT q))) v10 (some (.d q.2.e)) v12 v13, st⟩ = .ok (p q.2) ⟨Sl u0 v3 v4 v5 v6 v7 v8 (some (.d (pthT q))) v10 (some (.d q.2.e)) v12 v13, st⟩) → acc.length + qs.length ≤ 1000 →
      lcL gPS t (mVar 9) [9, 11] (Sl u0 v3 v4 v5 v6 v7 v8 v9 v10 v11 v12 v13) (qs.map rowE) acc st = .ok (acc ++ (qs.filter fun q => p q.2).map pthT) ⟨Sl u0 v3 v4 v5 v6 v7 v8 v9 v10 v11 v12 v13, st⟩
  | [], acc, _, _ => by simp [lcL]
  | q :: qs, acc, ht, hl => by
    simp only [List.length_cons] at hl
    have hlt : acc.length < sizeLine := Nat.lt_of_le_of_lt (show acc.length ≤ 1000 by omega) (by decide)
    have e0 : gPS (.d (rowE q)) ⟨wipeL (Sl u0 v3 v4 v5 v6 v7 v8 v9 v10 v11 v12 v13) [9, 11], st⟩ = .ok () ⟨Sl u0 v3 v4 v5 v6 v7 v8 (some (.d (pthT q))) v10 (some (.d q.2.e)) v12 v13, st⟩ := by
      simp [wipeL, rowE, gT, gsCons, gsNil, pk, itm]
    have e1 := ht q List.mem_cons_self
    by_cases hp : p q.2 = true
    · have e2 := lc_paths' (v9 := v9) (v11 := v11) qs (acc ++ [pthT q]) (fun x hx => ht x (List.mem_cons_of_mem _ hx)) (by simp; omega)
      rw [List.map_cons, lcL, e0]
      dsimp only
      rw [e1, hp]
      dsimp only
      rw [ev_var9]
      dsimp only
      rw [toD_data]
      dsimp only
      rw [if_pos hlt, e2]
      simp [hp]
    · have hp' : p q.2 = false := by simpa using hp
      have e2 := lc_paths' (v9 := v9) (v11 := v11) qs acc (fun x hx => ht x (List.mem_cons_of_mem _ hx)) (by omega)
      rw [List.map_cons, lcL, e0]
      dsimp only
      rw [e1, hp']
      dsimp only
      rw [e2]
      simp [hp']
end
end FL

namespace FL
open PySem L2 PyProof.Rows
theorem ga0 {st xs : List Ob} {x : Ob} : (st ++ x :: xs)[st.length]? = some x := by simp
theorem ga1 {st xs : List Ob} {x y : Ob} : (st ++ x :: y :: xs)[st.length + 1]? = some y := by simp
theorem fn_data {F : Fn} {ts : List T} {t : T} (h : dataF F ts = some t) : ∃ sl, F [] (ts.map .d) = .ok (.d t) ⟨sl, []⟩ := by
  unfold dataF at h
  split at h
  · rename_i t' sl e
    simp only [Option.some.injEq] at h
    subst h
    exact ⟨sl, e⟩
  · cases h
theorem propD {C : Addr} {F : Fn} {cs : List Bool} {mo : DE} {ρ : Sg} {ns : List Str} {os : List T} {t : T} (ho : mo ρ = .ok (.d (.obj C ns os)) ρ) (hF : dataF F [.obj C ns os] = some t) : mProp C F cs mo ρ = .ok (.d t) ρ := by
  have e : argC cs [.d (.obj C ns os)] ρ.st = some ([.d (.obj C ns os)], ρ.st) := argC_data cs [T.obj C ns os] ρ.st
  have e2 : callR F [.d (.obj C ns os)] ρ = .ok (.d t) ρ := callR_data (ts := [T.obj C ns os]) hF
  unfold mProp
  simp [ho, insOf, e, e2, noX]
section
variable {C : Addr} {FE FW FM FT FR FS FL' FLa FB FSo FA FD : Fn} {FP : FnG} {st : List Ob} {r bf : List T} {k i : Nat} {s : Str} {b l : List Sm} {rows ts : List T} {u0 v3 v4 v5 v6 v7 v8 v9 v10 v11 v12 v13 : Option U} {t1 : List (Option U)} {P : T}
def s5 (FM : Fn) : DS := mSet 5 (mCall 1 FM [true] (aCons (mVar 4) aNil))
theorem s5_ev (h : Sto st r bf k (dKv s b l)) (hM : FM [dKv s b l] [.own 0] = .ok (.d P) ⟨t1, [dKv s b l]⟩) :
    s5 FM ⟨Sl u0 v3 (some (.own k)) v5 v6 v7 v8 v9 v10 v11 v12 v13, st⟩ = .nx ⟨Sl u0 v3 (some (.own k)) (some (.d P)) v6 v7 v8 v9 v10 v11 v12 v13, st.set k (dKv s b l)⟩ := by
  have c1 := callK_own (n := 1) (cs := []) (ts := []) (ρ := ⟨Sl u0 v3 (some (.own k)) v5 v6 v7 v8 v9 v10 v11 v12 v13, st⟩) (i := k) (ob := dKv s b l) h.hk rfl hM rfl rfl
  simp only [List.map_nil] at c1
  unfold s5
  simp [c1]
def s6 (FA : Fn) : DS := mSet 6 (mOp addF (mCall 2 FA [false, false] (aCons (mOp ixAF (mVar 4) (mC (.str "block"))) (aCons (mTup (aCons (mC (.str "block")) aNil)) aNil))) (mCall 2 FA [false, false] (aCons (mOp ixAF (mVar 4) (mC (.str "last"))) (aCons (mTup (aCons (mC (.str "last")) aNil)) aNil))))
theorem s6_ev {L1 L2 : List T} (h : Sto st r bf k (dKv s b l)) (h1 : dataF FA [.tup (ens b), .tup [.str "block"]] = some (.lst L1)) (h2 : dataF FA [.tup (ens l), .tup [.str "last"]] = some (.lst L2)) (hl : L1.length + L2.length ≤ 1000) :
    s6 FA ⟨Sl u0 v3 (some (.own k)) v5 v6 v7 v8 v9 v10 v11 v12 v13, st⟩ = .nx ⟨Sl u0 v3 (some (.own k)) v5 (some (.own st.length)) v7 v8 v9 v10 v11 v12 v13, st ++ [.lst (L1 ++ L2)]⟩ := by
  have z : L1.length + L2.length ≤ sizeLine := Nat.le_trans hl (by decide)
  have z1 : (1 : Nat) ≤ sizeLine := by decide
  unfold s6
  simp [opK, pk, h.hk, dk_block, dk_all, tupK, toDs, toD, z1, h1, h2, addF, z]
def s7 (C : Addr) (FSo FB FLa : Fn) : DS := mIfS (mTOp neF (mLst (aCons (mProp C FSo [false] (mVar 5)) (aCons (mProp C FB [false] (mVar 5)) (aCons (mProp C FLa [false] (mVar 5)) aNil)))) (mLst (aCons (mOp ixAF (mVar 4) (mC (.str "sorting"))) (aCons (mOp ixAF (mVar 4) (mC (.str "block"))) (aCons (mOp ixAF (mVar 4) (mC (.str "last"))) aNil))))) (mRet (mC (.bl false))) mNx
theorem s7_ev (h : Sto st r bf k (dKv s b l)) (ok : POk s b l) (h1 : dataF FSo [progT C s b l] = some (.str s)) (h2 : dataF FB [progT C s b l] = some (.tup (ens b))) (h3 : dataF FLa [progT C s b l] = some (.tup (ens l))) :
    ∃ xs, s7 C FSo FB FLa ⟨Sl u0 v3 (some (.own k)) (some (.d (progT C s b l))) v6 v7 v8 v9 v10 v11 v12 v13, st⟩ = .nx ⟨Sl u0 v3 (some (.own k)) (some (.d (progT C s b l))) v6 v7 v8 v9 v10 v11 v12 v13, st ++ xs⟩ := by
  have z3 : (3 : Nat) ≤ sizeLine := by decide
  have p1 := fun st' => propD (C := C) (F := FSo) (cs := [false]) (mo := mVar 5) (ρ := ⟨Sl u0 v3 (some (.own k)) (some (.d (progT C s b l))) v6 v7 v8 v9 v10 v11 v12 v13, st'⟩) rfl h1
  have p2 := fun st' => propD (C := C) (F := FB) (cs := [false]) (mo := mVar 5) (ρ := ⟨Sl u0 v3 (some (.own k)) (some (.d (progT C s b l))) v6 v7 v8 v9 v10 v11 v12 v13, st'⟩) rfl h2
  have p3 := fun st' => propD (C := C) (F := FLa) (cs := [false]) (mo := mVar 5) (ρ := ⟨Sl u0 v3 (some (.own k)) (some (.d (progT C s b l))) v6 v7 v8 v9 v10 v11 v12 v13, st'⟩) rfl h3
  have hk1 := get_app (xs := [.lst [.str s, .tup (ens b), .tup (ens l)]]) h.hk
  have hn : neF (.lst [.str s, .tup (ens b), .tup (ens l)]) (.lst [.str s, .tup (ens b), .tup (ens l)]) = some (.d (.bl false)) := neF_lst (fun t ht => by
    simp only [List.mem_cons, List.not_mem_nil, or_false] at ht
    rcases ht with rfl | rfl | rfl
    · exact pd_s ok.hs
    · exact pd_b ok.hb
    · exact pd_l ok.hl)
  refine ⟨[.lst [.str s, .tup (ens b), .tup (ens l)], .lst [.str s, .tup (ens b), .tup (ens l)]], ?_⟩
  unfold s7
  simp [p1, p2, p3, lstK, toDs, toD, z3, opK, pk, hk1, dk_block, dk_all, hn]
def s8 (C : Addr) (FL' : Fn) : DS := mIfS (mTOp neF (mLenO C FL' (mVar 5)) (mCa lenF (aCons (mVar 6) aNil))) (mRet (mC (.bl false))) mNx
theorem s8_ev (h : St6 st r bf k (dKv s b l) i rows) (hL : FL' [] [.d (progT C s b l)] = .ok (.d (.int rows.length)) ⟨[], []⟩) (hl : rows.length ≤ 1000) :
    s8 C FL' ⟨Sl u0 v3 v4 (some (.d (progT C s b l))) (some (.own i)) v7 v8 v9 v10 v11 v12 v13, st⟩ = .nx ⟨Sl u0 v3 v4 (some (.d (progT C s b l))) (some (.own i)) v7 v8 v9 v10 v11 v12 v13, st⟩ := by
  have hp := h.pk
  have c : (0 : Int) ≤ rows.length ∧ (rows.length : Int) < 4096 := by omega
  have ho : isObj C (progT C s b l) = true := by simp [isObj, progT]
  have e1 : mLenO C FL' (mVar 5) ⟨Sl u0 v3 v4 (some (.d (progT C s b l))) (some (.own i)) v7 v8 v9 v10 v11 v12 v13, st⟩ = .ok (.d (.int rows.length)) ⟨Sl u0 v3 v4 (some (.d (progT C s b l))) (some (.own i)) v7 v8 v9 v10 v11 v12 v13, st⟩ := by
    unfold mLenO
    rw [ev_var5, R.bind_ok, toD_data]
    dsimp only
    rw [if_pos ho, hL]
    dsimp only [asIn]
    rw [if_pos c]
  have e2 : neF (.int rows.length) (.int rows.length) = some (.d (.bl false)) := by simp [neF, eqB, scT]
  unfold s8
  rcases h.hi with e | e <;> simp [e1, caK, pks, pk, e, lenF, itm, opK, e2]
end
end FL

namespace FL
open PySem L2 PyProof.Rows
section
variable {C : Addr} {FE FW FM FT FR FS FL' FLa FB FSo FA FD : Fn} {FP : FnG} {st : List Ob} {r bf : List T} {k i : Nat} {s : Str} {b l : List Sm} {rows ts : List T} {u0 v3 v4 v5 v6 v7 v8 v9 v10 v11 v12 v13 : Option U} {t1 : List (Option U)} {P : T} {dv : Ob} {qs : List (List NestedKey × Sm)}
theorem pthT_no : ("paths" : Str) ∉ (["order", "body", "ending", "rows", "words"] : List Str) := by decide
theorem listG0_ev {sl : List (Option U)} (ho : mVar 5 ⟨sl, st⟩ = .ok (.d (progT C s b l)) ⟨sl, st⟩) (hP : FP [.d (progT C s b l), .d .non] = some ts) :
    mListG0 C "paths" 2 [.non] FP (mVar 5) ⟨sl, st⟩ = .ok (.own st.length) ⟨sl, st ++ [.lst ts]⟩ := by
  have e : argC [] [.d (progT C s b l)] st = some ([.d (progT C s b l)], st) := argC_data [] [progT C s b l] st
  unfold mListG0
  rw [ho, R.bind_ok]
  simp only [progT, insOf, if_true] at e hP ⊢
  rw [if_neg pthT_no, e]
  simp [lstG, hP]
theorem listG_ev {sl : List (Option U)} {w : T} {ma : DE} (ho : mVar 5 ⟨sl, st⟩ = .ok (.d (progT C s b l)) ⟨sl, st⟩) (ha : ma ⟨sl, st⟩ = .ok (.d w) ⟨sl, st⟩) (hP : FP [.d (progT C s b l), .d w] = some ts) :
    mListG C "paths" 2 [] FP (mVar 5) (aCons ma aNil) ⟨sl, st⟩ = .ok (.own st.length) ⟨sl, st ++ [.lst ts]⟩ := by
  have e : argC [] [.d (progT C s b l), .d w] st = some ([.d (progT C s b l), .d w], st) := argC_data [] [progT C s b l, w] st
  unfold mListG
  rw [ho, R.bind_ok]
  simp only [progT, insOf, if_true] at e hP ⊢
  rw [if_neg pthT_no]
  simp only [ev_aCons, ha, R.bind_ok, ev_aNil]
  rw [e]
  simp [lstG, hP]
/-- two lists of paths compared -/
theorem ne_paths {A : DE} {t : DT} {p : Sm → Bool} (h : St6 st r bf k dv i (qs.map rowE)) (hA : A ⟨Sl u0 v3 v4 v5 (some (.own i)) v7 v8 v9 v10 v11 v12 v13, st⟩ = .ok (.own st.length) ⟨Sl u0 v3 v4 v5 (some (.own i)) v7 v8 v9 v10 v11 v12 v13, st ++ [.lst ((qs.filter fun q => p q.2).map pthT)]⟩)
    (ht : ∀ st' (q : List NestedKey × Sm), q ∈ qs → t ⟨Sl u0 v3 v4 v5 (some (.own i)) v7 v8 (some (.d (pthT q))) v10 (some (.d q.2.e)) v12 v13, st'⟩ = .ok (p q.2) ⟨Sl u0 v3 v4 v5 (some (.own i)) v7 v8 (some (.d (pthT q))) v10 (some (.d q.2.e)) v12 v13, st'⟩) (hq : ∀ q ∈ qs, Pdt (pthT q)) (hl : qs.length ≤ 900) :
    ∃ st', mTOp neF A (mLc (iSeq (mVar 6)) gPS t (mVar 9) [9, 11]) ⟨Sl u0 v3 v4 v5 (some (.own i)) v7 v8 v9 v10 v11 v12 v13, st⟩ = .ok false ⟨Sl u0 v3 v4 v5 (some (.own i)) v7 v8 v9 v10 v11 v12 v13, st'⟩ ∧ St6 st' r bf k dv i (qs.map rowE) := by
  have h1 := h.app [.lst ((qs.filter fun q => p q.2).map pthT)]
  obtain ⟨st2, e2, h2, _, keep⟩ := h1.fz
  have hi : i < st.length := by rcases h.hi with e | e <;> exact (List.getElem?_eq_some_iff.mp e).1
  have e3 := lc_paths' (st := st2) (u0 := u0) (v3 := v3) (v4 := v4) (v5 := v5) (v6 := some (.own i)) (v7 := v7) (v8 := v8) (v9 := v9) (v10 := v10) (v11 := v11) (v12 := v12) (v13 := v13) (t := t) (p := p) qs [] (ht st2) (by simp; omega)
  have hA2 : st2[st.length]? = some (.lst ((qs.filter fun q => p q.2).map pthT)) := keep _ _ (by simp) (by omega)
  have hn : neF (.lst ((qs.filter fun q => p q.2).map pthT)) (.lst ((qs.filter fun q => p q.2).map pthT)) = some (.d (.bl false)) := neF_lst fun t ht => by
    obtain ⟨q, hq', rfl⟩ := List.mem_map.mp ht
    exact hq q (List.mem_filter.mp hq').1
  refine ⟨st2 ++ [.lst ((qs.filter fun q => p q.2).map pthT)], ?_, h2.app _⟩
  rw [ev_top, hA, R.bind_ok, ev_lc, ev_iSeq]
  have e6 : mVar 6 ⟨Sl u0 v3 v4 v5 (some (.own i)) v7 v8 v9 v10 v11 v12 v13, st ++ [.lst ((qs.filter fun q => p q.2).map pthT)]⟩ = .ok (.own i) ⟨Sl u0 v3 v4 v5 (some (.own i)) v7 v8 v9 v10 v11 v12 v13, st ++ [.lst ((qs.filter fun q => p q.2).map pthT)]⟩ := rfl
  rw [e6, R.bind_ok]
  have es : seqK (.own i) ⟨Sl u0 v3 v4 v5 (some (.own i)) v7 v8 v9 v10 v11 v12 v13, st ++ [.lst ((qs.filter fun q => p q.2).map pthT)]⟩ = .ok (qs.map rowE) ⟨Sl u0 v3 v4 v5 (some (.own i)) v7 v8 v9 v10 v11 v12 v13, st2⟩ := by
    unfold seqK
    rw [e2]
    simp [itm]
  rw [es, R.bind_ok]
  dsimp only
  rw [e3, R.bind_ok]
  have hA3 := get_app (xs := [.lst ((qs.filter fun q => p q.2).map pthT)]) hA2
  simp [opK, pk, hA3, hn]
def s9 (C : Addr) (FP : FnG) : DS := mIfS (mTOp neF (mListG0 C "paths" 2 [.non] FP (mVar 5)) (mLc (iSeq (mVar 6)) gPS mYes (mVar 9) [9, 11])) (mRet (mC (.bl false))) mNx
theorem s9_ev (h : St6 st r bf k dv i (qs.map rowE)) (hP : FP [.d (progT C s b l), .d .non] = some (qs.map pthT)) (hq : ∀ q ∈ qs, Pdt (pthT q)) (hl : qs.length ≤ 900) :
    ∃ st', s9 C FP ⟨Sl u0 v3 v4 (some (.d (progT C s b l))) (some (.own i)) v7 v8 v9 v10 v11 v12 v13, st⟩ = .nx ⟨Sl u0 v3 v4 (some (.d (progT C s b l))) (some (.own i)) v7 v8 v9 v10 v11 v12 v13, st'⟩ ∧ St6 st' r bf k dv i (qs.map rowE) := by
  have e1 := listG0_ev (C := C) (FP := FP) (st := st) (s := s) (b := b) (l := l) (sl := Sl u0 v3 v4 (some (.d (progT C s b l))) (some (.own i)) v7 v8 v9 v10 v11 v12 v13) rfl hP
  have hf : (qs.filter fun q => (fun _ : Sm => true) q.2) = qs := by simp
  obtain ⟨st', e2, h2⟩ := ne_paths (u0 := u0) (v3 := v3) (v4 := v4) (v5 := some (.d (progT C s b l))) (v7 := v7) (v8 := v8) (v9 := v9) (v10 := v10) (v11 := v11) (v12 := v12) (v13 := v13) (A := mListG0 C "paths" 2 [.non] FP (mVar 5)) (t := mYes) (p := fun _ => true) h (by rw [hf]; exact e1) (fun _ _ _ => rfl) hq hl
  refine ⟨st', ?_, h2⟩
  unfold s9
  rw [ev_ifs, e2, R.thn_ok, if_neg (by decide)]
  rfl
abbrev b10 (C : Addr) (FP : FnG) : DS := mIfS (mTOp neF (mListG C "paths" 2 [] FP (mVar 5) (aCons (mVar 7) aNil)) (mLc (iSeq (mVar 6)) gPS (mTOp eqF (mOp ixAF (mVar 11) (mC (.int 0))) (mVar 7)) (mVar 9) [9, 11])) (mRet (mC (.bl false))) mNx
theorem loop10 (hq : ∀ q ∈ qs, Pdt (pthT q)) (hl : qs.length ≤ 900) : ∀ (ws : List Str) (st : List Ob) (v7 : Option U), (∀ w ∈ ws, FP [.d (progT C s b l), .d (.str w)] = some ((qs.filter fun q => decide (wd q.2 = w)).map pthT)) → St6 st r bf k dv i (qs.map rowE) → ∃ w7 st',
    forL (gN 7) (b10 C FP) (ws.map .str) ⟨Sl u0 v3 v4 (some (.d (progT C s b l))) (some (.own i)) v7 v8 v9 v10 v11 v12 v13, st⟩ = .nx ⟨Sl u0 v3 v4 (some (.d (progT C s b l))) (some (.own i)) w7 v8 v9 v10 v11 v12 v13, st'⟩ ∧ St6 st' r bf k dv i (qs.map rowE)
  | [], st, v7, _, h => ⟨v7, st, rfl, h⟩
  | w :: ws, st, v7, hP, h => by
    have e1 := listG_ev (C := C) (FP := FP) (st := st) (s := s) (b := b) (l := l) (sl := Sl u0 v3 v4 (some (.d (progT C s b l))) (some (.own i)) (some (.d (.str w))) v8 v9 v10 v11 v12 v13) (ma := mVar 7) rfl rfl (hP w List.mem_cons_self)
    obtain ⟨st1, e2, h2⟩ := ne_paths (u0 := u0) (v3 := v3) (v4 := v4) (v5 := some (.d (progT C s b l))) (v7 := some (.d (.str w))) (v8 := v8) (v9 := v9) (v10 := v10) (v11 := v11) (v12 := v12) (v13 := v13) (t := (mTOp eqF (mOp ixAF (mVar 11) (mC (.int 0))) (mVar 7))) (p := fun x => decide (wd x = w)) h e1 (fun st' q _ => by
      have := wd_ix q.2
      simp [opK, pk, this, eqF_str]) hq hl
    obtain ⟨w7, st', e3, h3⟩ := loop10 hq hl ws st1 (some (.d (.str w))) (fun x hx => hP x (List.mem_cons_of_mem _ hx)) h2
    refine ⟨w7, st', ?_, h3⟩
    rw [List.map_cons, forL, ev_gN]
    simp only [List.set]
    have eb : b10 C FP ⟨Sl u0 v3 v4 (some (.d (progT C s b l))) (some (.own i)) (some (.d (.str w))) v8 v9 v10 v11 v12 v13, st⟩ = .nx ⟨Sl u0 v3 v4 (some (.d (progT C s b l))) (some (.own i)) (some (.d (.str w))) v8 v9 v10 v11 v12 v13, st1⟩ := by
      unfold b10
      rw [ev_ifs, e2, R.thn_ok, if_neg (by decide)]
      rfl
    rw [eb]
    exact e3
def s10 (C : Addr) (FP : FnG) : DS := mFor (iSeq (mLst (aCons (mC (.str "keep")) (aCons (mC (.str "give")) (aCons (mC (.str "if")) (aCons (mC (.str "last")) aNil)))))) (gN 7) (b10 C FP)
theorem s10_ev (h : St6 st r bf k dv i (qs.map rowE)) (hP : ∀ w : Str, FP [.d (progT C s b l), .d (.str w)] = some ((qs.filter fun q => decide (wd q.2 = w)).map pthT)) (hq : ∀ q ∈ qs, Pdt (pthT q)) (hl : qs.length ≤ 900) :
    ∃ w7 st', s10 C FP ⟨Sl u0 v3 v4 (some (.d (progT C s b l))) (some (.own i)) v7 v8 v9 v10 v11 v12 v13, st⟩ = .nx ⟨Sl u0 v3 v4 (some (.d (progT C s b l))) (some (.own i)) w7 v8 v9 v10 v11 v12 v13, st'⟩ ∧ St6 st' r bf k dv i (qs.map rowE) := by
  obtain ⟨w7, st', e, h'⟩ := loop10 (u0 := u0) (v3 := v3) (v4 := v4) (v8 := v8) (v9 := v9) (v10 := v10) (v11 := v11) (v12 := v12) (v13 := v13) (C := C) (FP := FP) (s := s) (b := b) (l := l) hq hl ["keep", "give", "if", "last"] (st ++ [.frz (.lst [.str "keep", .str "give", .str "if", .str "last"])]) v7 (fun w _ => hP w) (h.app _)
  refine ⟨w7, st', ?_, h'⟩
  have z4 : (4 : Nat) ≤ sizeLine := by decide
  have hi : ∀ sl, iSeq (mLst (aCons (mC (.str "keep")) (aCons (mC (.str "give")) (aCons (mC (.str "if")) (aCons (mC (.str "last")) aNil))))) ⟨sl, st⟩ = .ok [.str "keep", .str "give", .str "if", .str "last"] ⟨sl, st ++ [.frz (.lst [.str "keep", .str "give", .str "if", .str "last"])]⟩ := fun sl => by
    simp [lstK, toDs, toD, z4, seqK, itm]
  unfold s10
  rw [ev_for, hi, R.thn_ok]
  exact e
end
end FL

namespace FL
open PySem L2 PyProof.Rows
section
variable {C : Addr} {FE FW FM FT FR FS FL' FLa FB FSo FA FD : Fn} {FP : FnG} {st : List Ob} {r r' bf : List T} {k i n : Nat} {s : Str} {b l : List Sm} {rows ts xs : List T} {u0 v3 v4 v5 v6 v7 v8 v9 v10 v11 v12 v13 : Option U} {t1 : List (Option U)} {P : T} {dv : Ob} {qs : List (List NestedKey × Sm)}
theorem stm_no : ("statement" : Str) ∉ (["order", "body", "ending", "rows", "words"] : List Str) := by decide
theorem wth_no : ("with_sorting" : Str) ∉ (["order", "body", "ending", "rows", "words"] : List Str) := by decide
/-- a method asked of the program -/
theorem methP {m : Str} {F : Fn} {cs : List Bool} {ma : DE} {sl : List (Option U)} {x t : T} (hm : m ∉ (["order", "body", "ending", "rows", "words"] : List Str)) (ho : mVar 5 ⟨sl, st⟩ = .ok (.d (progT C s b l)) ⟨sl, st⟩) (ha : ma ⟨sl, st⟩ = .ok (.d x) ⟨sl, st⟩) (hF : dataF F [progT C s b l, x] = some t) :
    mMeth C m 2 F cs (mVar 5) (aCons ma aNil) ⟨sl, st⟩ = .ok (.d t) ⟨sl, st⟩ := by
  obtain ⟨sl', e⟩ := fn_data hF
  exact methD_ok (ts := [x]) ho hm (by simp [ha]) rfl e
abbrev b11 (C : Addr) (FS : Fn) : DS := mIfS (mTOp neF (mMeth C "statement" 2 FS [true, false] (mVar 5) (aCons (mVar 9) aNil)) (mVar 11)) (mRet (mC (.bl false))) mNx
theorem loop11 : ∀ (qs : List (List NestedKey × Sm)) (v9 v11 : Option U), (∀ q ∈ qs, dataF FS [progT C s b l, pthT q] = some q.2.e ∧ Pdt q.2.e) → ∃ w9 w11,
    forL gPS (b11 C FS) (qs.map rowE) ⟨Sl u0 v3 v4 (some (.d (progT C s b l))) v6 v7 v8 v9 v10 v11 v12 v13, st⟩ = .nx ⟨Sl u0 v3 v4 (some (.d (progT C s b l))) v6 v7 v8 w9 v10 w11 v12 v13, st⟩
  | [], v9, v11, _ => ⟨v9, v11, rfl⟩
  | q :: qs, v9, v11, h => by
    obtain ⟨w9, w11, e⟩ := loop11 qs (some (.d (pthT q))) (some (.d q.2.e)) (fun x hx => h x (List.mem_cons_of_mem _ hx))
    refine ⟨w9, w11, ?_⟩
    obtain ⟨h1, h2⟩ := h q List.mem_cons_self
    have eg : gPS (.d (rowE q)) ⟨Sl u0 v3 v4 (some (.d (progT C s b l))) v6 v7 v8 v9 v10 v11 v12 v13, st⟩ = .ok () ⟨Sl u0 v3 v4 (some (.d (progT C s b l))) v6 v7 v8 (some (.d (pthT q))) v10 (some (.d q.2.e)) v12 v13, st⟩ := by
      simp [rowE, gT, gsCons, gsNil, pk, itm]
    have em := methP (C := C) (m := "statement") (F := FS) (cs := [true, false]) (ma := mVar 9) (st := st) (sl := Sl u0 v3 v4 (some (.d (progT C s b l))) v6 v7 v8 (some (.d (pthT q))) v10 (some (.d q.2.e)) v12 v13) stm_no rfl rfl h1
    have eb : b11 C FS ⟨Sl u0 v3 v4 (some (.d (progT C s b l))) v6 v7 v8 (some (.d (pthT q))) v10 (some (.d q.2.e)) v12 v13, st⟩ = .nx ⟨Sl u0 v3 v4 (some (.d (progT C s b l))) v6 v7 v8 (some (.d (pthT q))) v10 (some (.d q.2.e)) v12 v13, st⟩ := by
      unfold b11
      rw [ev_ifs, ev_top, em, R.bind_ok, ev_var11, R.bind_ok, opK_d, (eqF_self h2).2]
      rfl
    rw [List.map_cons, forL, eg]
    dsimp only
    rw [eb]
    exact e
def s11 (C : Addr) (FS : Fn) : DS := mFor (iSeq (mVar 6)) gPS (b11 C FS)
theorem s11_ev (h : St6 st r bf k dv i (qs.map rowE)) (hS : ∀ q ∈ qs, dataF FS [progT C s b l, pthT q] = some q.2.e ∧ Pdt q.2.e) : ∃ w9 w11 st',
    s11 C FS ⟨Sl u0 v3 v4 (some (.d (progT C s b l))) (some (.own i)) v7 v8 v9 v10 v11 v12 v13, st⟩ = .nx ⟨Sl u0 v3 v4 (some (.d (progT C s b l))) (some (.own i)) v7 v8 w9 v10 w11 v12 v13, st'⟩ ∧ St6 st' r bf k dv i (qs.map rowE) := by
  obtain ⟨st', e1, h1, _⟩ := h.fz
  obtain ⟨w9, w11, e⟩ := loop11 (C := C) (FS := FS) (s := s) (b := b) (l := l) (u0 := u0) (v3 := v3) (v4 := v4) (v6 := some (.own i)) (v7 := v7) (v8 := v8) (v10 := v10) (v12 := v12) (v13 := v13) (st := st') qs v9 v11 hS
  refine ⟨w9, w11, st', ?_, h1⟩
  have hi : iSeq (mVar 6) ⟨Sl u0 v3 v4 (some (.d (progT C s b l))) (some (.own i)) v7 v8 v9 v10 v11 v12 v13, st⟩ = .ok (qs.map rowE) ⟨Sl u0 v3 v4 (some (.d (progT C s b l))) (some (.own i)) v7 v8 v9 v10 v11 v12 v13, st'⟩ := by
    rw [ev_iSeq, ev_var6, R.bind_ok]
    unfold seqK
    rw [e1]
    simp [itm]
  unfold s11
  rw [ev_for, hi, R.thn_ok, e]
abbrev odd6 (b : List Sm) : List T := [.tup [], .tup [.str "block"], .tup [.str "block", .int b.length], .non, .str "block", .tup [.str "last", .bl false]]
def s12 : DS := mSet 8 (mLst (aCons (mTup aNil) (aCons (mTup (aCons (mC (.str "block")) aNil)) (aCons (mTup (aCons (mC (.str "block")) (aCons (mCa lenF (aCons (mOp ixAF (mVar 4) (mC (.str "block"))) aNil)) aNil))) (aCons (mC .non) (aCons (mC (.str "block")) (aCons (mTup (aCons (mC (.str "last")) (aCons (mC (.bl false)) aNil))) aNil)))))))
theorem s12_ev (h : Sto st r bf k (dKv s b l)) : s12 ⟨Sl u0 v3 (some (.own k)) v5 v6 v7 v8 v9 v10 v11 v12 v13, st⟩ = .nx ⟨Sl u0 v3 (some (.own k)) v5 v6 v7 (some (.own st.length)) v9 v10 v11 v12 v13, st ++ [.lst (odd6 b)]⟩ := by
  have z1 : (1 : Nat) ≤ sizeLine := by decide
  have z2 : (2 : Nat) ≤ sizeLine := by decide
  have z6 : (6 : Nat) ≤ sizeLine := by decide
  unfold s12
  simp [tupK, lstK, toDs, toD, z1, z2, z6, opK, pk, h.hk, dk_block, lenF, itm, ens_len]
abbrev b13 (FR : Fn) : DS := mIfS (mNotT (mTest (mCall 2 FR [false, false] (aCons (mVar 5) (aCons (mVar 9) aNil))))) (mRet (mC (.bl false))) mNx
theorem loop13 : ∀ (xs : List T) (v9 : Option U), (∀ x ∈ xs, dataF FR [P, x] = some (.bl true)) → ∃ w9,
    forL (gN 9) (b13 FR) xs ⟨Sl u0 v3 v4 (some (.d P)) v6 v7 v8 v9 v10 v11 v12 v13, st⟩ = .nx ⟨Sl u0 v3 v4 (some (.d P)) v6 v7 v8 w9 v10 v11 v12 v13, st⟩
  | [], v9, _ => ⟨v9, rfl⟩
  | x :: xs, v9, h => by
    obtain ⟨w9, e⟩ := loop13 xs (some (.d x)) (fun y hy => h y (List.mem_cons_of_mem _ hy))
    refine ⟨w9, ?_⟩
    have h1 := h x List.mem_cons_self
    rw [forL, ev_gN]
    simp only [List.set]
    have eb : b13 FR ⟨Sl u0 v3 v4 (some (.d P)) v6 v7 v8 (some (.d x)) v10 v11 v12 v13, st⟩ = .nx ⟨Sl u0 v3 v4 (some (.d P)) v6 v7 v8 (some (.d x)) v10 v11 v12 v13, st⟩ := by
      simp [h1]
    rw [eb]
    exact e
abbrev odd8 (b : List Sm) : List T := odd6 b ++ [.tup [.str "sorting"], .tup [.str "block", .int (-1)]]
def s13 (FR : Fn) : DS := mFor (iSeq (mOp addF (mVar 8) (mLst (aCons (mTup (aCons (mC (.str "sorting")) aNil)) (aCons (mTup (aCons (mC (.str "block")) (aCons (mNeg (mC (.int 1))) aNil))) aNil))))) (gN 9) (b13 FR)
theorem s13_ev (h8 : st[n]? = some (.lst (odd6 b))) (hR : ∀ x ∈ odd8 b, dataF FR [P, x] = some (.bl true)) : ∃ w9 xs,
    s13 FR ⟨Sl u0 v3 v4 (some (.d P)) v6 v7 (some (.own n)) v9 v10 v11 v12 v13, st⟩ = .nx ⟨Sl u0 v3 v4 (some (.d P)) v6 v7 (some (.own n)) w9 v10 v11 v12 v13, st ++ xs⟩ := by
  have z1 : (1 : Nat) ≤ sizeLine := by decide
  have z2 : (2 : Nat) ≤ sizeLine := by decide
  have z8 : (8 : Nat) ≤ sizeLine := by decide
  have h8' := get_app (xs := [.lst [.tup [.str "sorting"], .tup [.str "block", .int (-1)]]]) h8
  have hi : iSeq (mOp addF (mVar 8) (mLst (aCons (mTup (aCons (mC (.str "sorting")) aNil)) (aCons (mTup (aCons (mC (.str "block")) (aCons (mNeg (mC (.int 1))) aNil))) aNil)))) ⟨Sl u0 v3 v4 (some (.d P)) v6 v7 (some (.own n)) v9 v10 v11 v12 v13, st⟩ =
      .ok (odd8 b) ⟨Sl u0 v3 v4 (some (.d P)) v6 v7 (some (.own n)) v9 v10 v11 v12 v13, st ++ [.lst [.tup [.str "sorting"], .tup [.str "block", .int (-1)]], .frz (.lst (odd8 b))]⟩ := by
    simp [tupK, lstK, toDs, toD, z1, z2, mNeg, opK, pk, h8', addF, z8, seqK, itm]
  obtain ⟨w9, e⟩ := loop13 (FR := FR) (P := P) (u0 := u0) (v3 := v3) (v4 := v4) (v6 := v6) (v7 := v7) (v8 := some (.own n)) (v10 := v10) (v11 := v11) (v12 := v12) (v13 := v13) (st := st ++ [.lst [.tup [.str "sorting"], .tup [.str "block", .int (-1)]], .frz (.lst (odd8 b))]) (odd8 b) v9 hR
  refine ⟨w9, [.lst [.tup [.str "sorting"], .tup [.str "block", .int (-1)]], .frz (.lst (odd8 b))], ?_⟩
  unfold s13
  rw [ev_for, hi, R.thn_ok, e]
end
end FL

namespace FL
open PySem L2 PyProof.Rows
section
variable {C : Addr} {FE FW FM FT FR FS FL' FLa FB FSo FA FD : Fn} {FP : FnG} {st : List Ob} {r r' bf : List T} {k i n m : Nat} {s s' : Str} {b l b' l' : List Sm} {rows ts xs : List T} {u0 v3 v4 v5 v6 v7 v8 v9 v10 v11 v12 v13 : Option U} {t1 t2 : List (Option U)} {P : T} {dv : Ob} {qs : List (List NestedKey × Sm)}
def s14 : DS := mSet 10 (mCa copyF (aCons (mVar 4) aNil))
theorem s14_ev (h : Sto st r bf k (dKv s b l)) : s14 ⟨Sl u0 v3 (some (.own k)) v5 v6 v7 v8 v9 v10 v11 v12 v13, st⟩ = .nx ⟨Sl u0 v3 (some (.own k)) v5 v6 v7 v8 v9 (some (.own st.length)) v11 v12 v13, st ++ [dKv s b l]⟩ := by
  unfold s14
  simp [caK, pks, pk, h.hk, copyF, mO]
abbrev five : List T := [.str "none", .str "begin", .str "end", .str "begin down", .str "end down"]
def s15 (FT : Fn) : DS := mAsg (mOp ixAF (mLst (aCons (mC (.str "none")) (aCons (mC (.str "begin")) (aCons (mC (.str "end")) (aCons (mC (.str "begin down")) (aCons (mC (.str "end down")) aNil)))))) (mCall 2 FT [true, false] (aCons (mVar 1) (aCons (mC (.int 5)) aNil)))) (gDix (mVar 10) (mC (.str "sorting")))
theorem five_at {v : Int} (h0 : 0 ≤ v) (h : v < 5) : ∃ x ∈ SORTs, ixAF (.lst five) (.int v) = some (.d (.str x)) := by
  have : v = 0 ∨ v = 1 ∨ v = 2 ∨ v = 3 ∨ v = 4 := by omega
  rcases this with rfl | rfl | rfl | rfl | rfl
  · exact ⟨"none", by simp [SORTs], rfl⟩
  · exact ⟨"begin", by simp [SORTs], rfl⟩
  · exact ⟨"end", by simp [SORTs], rfl⟩
  · exact ⟨"begin down", by simp [SORTs], rfl⟩
  · exact ⟨"end down", by simp [SORTs], rfl⟩
theorem s15_ev {v : Int} (h : Sto st r bf k (dKv s b l)) (hm : st[m]? = some (dKv s b l)) (m2 : 2 ≤ m) (mk : m ≠ k) (hT : FT [.lst r] [.own 0, .d (.int 5)] = .ok (.d (.int v)) ⟨t1, [.lst r']⟩) (hx : ixAF (.lst five) (.int v) = some (.d (.str s'))) :
    ∃ st', s15 FT ⟨Sl u0 v3 (some (.own k)) v5 v6 v7 v8 v9 (some (.own m)) v11 v12 v13, st⟩ = .nx ⟨Sl u0 v3 (some (.own k)) v5 v6 v7 v8 v9 (some (.own m)) v11 v12 v13, st'⟩ ∧ Sto st' r' bf k (dKv s b l) ∧ st'[m]? = some (dKv s' b l) := by
  have z5 : (5 : Nat) ≤ sizeLine := by decide
  have z3 : (3 : Nat) < sizeLine := by decide
  have h1 := h.app [.lst five]
  have l0 : 0 < (st ++ [Ob.lst five]).length := by simp
  have lm : m < (st ++ [Ob.lst five]).length := (List.getElem?_eq_some_iff.mp (get_app (xs := [.lst five]) hm)).1
  have c1 := callK_own (n := 2) (cs := [false]) (ts := [.int 5]) (ρ := ⟨Sl u0 v3 (some (.own k)) v5 v6 v7 v8 v9 (some (.own m)) v11 v12 v13, st ++ [.lst five]⟩) (i := 0) (ob := .lst r) h1.h0 rfl hT rfl rfl
  simp only [List.map_cons, List.map_nil] at c1
  have e1 : mLst (aCons (mC (.str "none")) (aCons (mC (.str "begin")) (aCons (mC (.str "end")) (aCons (mC (.str "begin down")) (aCons (mC (.str "end down")) aNil))))) ⟨Sl u0 v3 (some (.own k)) v5 v6 v7 v8 v9 (some (.own m)) v11 v12 v13, st⟩ = .ok (.own st.length) ⟨Sl u0 v3 (some (.own k)) v5 v6 v7 v8 v9 (some (.own m)) v11 v12 v13, st ++ [.lst five]⟩ := by
    simp [lstK, toDs, toD, z5]
  have hn : ((st ++ [Ob.lst five]).set 0 (.lst r'))[st.length]? = some (.lst five) := by
    have : 0 ≠ st.length := by
      have := (List.getElem?_eq_some_iff.mp h.h0).1
      omega
    rw [List.getElem?_set_ne this]
    simp
  have hm2 : ((st ++ [Ob.lst five]).set 0 (.lst r'))[m]? = some (dKv s b l) := by
    rw [List.getElem?_set_ne (by omega)]
    exact get_app hm
  refine ⟨((st ++ [Ob.lst five]).set 0 (.lst r')).set m (dKv s' b l), ?_, ?_, ?_⟩
  · unfold s15 mAsg
    rw [ev_op, e1, R.bind_ok, ev_call]
    simp only [ev_aCons, ev_var1, R.bind_ok, ev_c, ev_aNil, c1]
    have eo : opK ixAF (.own st.length) (.d (.int v)) ⟨Sl u0 v3 (some (.own k)) v5 v6 v7 v8 v9 (some (.own m)) v11 v12 v13, (st ++ [Ob.lst five]).set 0 (.lst r')⟩ = .ok (.d (.str s')) ⟨Sl u0 v3 (some (.own k)) v5 v6 v7 v8 v9 (some (.own m)) v11 v12 v13, (st ++ [Ob.lst five]).set 0 (.lst r')⟩ := by
      unfold opK
      simp only [pk, hn]
      rw [hx]
      rfl
    rw [eo]
    simp [gDix, toD, keyT, hm2, dkPut, z3]
  · have h2 : Sto ((st ++ [Ob.lst five]).set 0 (.lst r')) r' bf k (dKv s b l) := ⟨List.getElem?_set_self l0, by rw [List.getElem?_set_ne (by omega)]; exact h1.h1, by rw [List.getElem?_set_ne (by have := h.k2; omega)]; exact h1.hk, h.k2⟩
    exact h2.set _ m2 mk
  · exact List.getElem?_set_self (by simpa using lm)
/-- == of two programs -/
theorem eqA_ev {ma mb : DE} {sl : List (Option U)} {st1 st2 : List Ob} {tx ty : T} {q : Bool} (h1 : ma ⟨sl, st⟩ = .ok (.d tx) ⟨sl, st1⟩) (h2 : mb ⟨sl, st1⟩ = .ok (.d ty) ⟨sl, st2⟩) (hx : isObj C tx = true) (hy : isObj C ty = true ∨ isTupT ty = true) (hF : FE [] [.d tx, .d ty] = .ok (.d (.bl q)) ⟨[], []⟩) :
    mEqA C FE ma mb ⟨sl, st⟩ = .ok (.d (.bl q)) ⟨sl, st2⟩ := by
  unfold mEqA
  rw [h1, R.bind_ok, h2, R.bind_ok, toD_data]
  dsimp only
  rw [toD_data]
  dsimp only
  rw [if_pos ⟨hx, hy⟩, hF]
  rfl
theorem obj_prog : isObj C (progT C s b l) = true := by simp [isObj, progT]
def s16 (C : Addr) (FE FW FM : Fn) : DS := mIfS (mOrT (mNotT (mTest (mEqA C FE (mMeth C "with_sorting" 2 FW [true, false] (mVar 5) (aCons (mOp ixAF (mVar 10) (mC (.str "sorting"))) aNil)) (mCall 1 FM [true] (aCons (mVar 10) aNil))))) (mTest (mEqA C FE (mVar 5) (mOp ixAF (mVar 4) (mC (.str "block")))))) (mRet (mC (.bl false))) mNx
theorem s16_ev (h : Sto st r bf k (dKv s b l)) (hm : st[m]? = some (dKv s' b l)) (m2 : 2 ≤ m) (mk : m ≠ k) (hW : dataF FW [progT C s b l, .str s'] = some (progT C s' b l)) (hM : FM [dKv s' b l] [.own 0] = .ok (.d (progT C s' b l)) ⟨t1, [dKv s' b l]⟩)
    (hE : FE [] [.d (progT C s' b l), .d (progT C s' b l)] = .ok (.d (.bl true)) ⟨[], []⟩) (hT : FE [] [.d (progT C s b l), .d (.tup (ens b))] = .ok (.d (.bl false)) ⟨[], []⟩) :
    ∃ st', s16 C FE FW FM ⟨Sl u0 v3 (some (.own k)) (some (.d (progT C s b l))) v6 v7 v8 v9 (some (.own m)) v11 v12 v13, st⟩ = .nx ⟨Sl u0 v3 (some (.own k)) (some (.d (progT C s b l))) v6 v7 v8 v9 (some (.own m)) v11 v12 v13, st'⟩ ∧ Sto st' r bf k (dKv s b l) := by
  have ea : (mOp ixAF (mVar 10) (mC (.str "sorting"))) ⟨Sl u0 v3 (some (.own k)) (some (.d (progT C s b l))) v6 v7 v8 v9 (some (.own m)) v11 v12 v13, st⟩ = .ok (.d (.str s')) ⟨Sl u0 v3 (some (.own k)) (some (.d (progT C s b l))) v6 v7 v8 v9 (some (.own m)) v11 v12 v13, st⟩ := by
    simp [opK, pk, hm, dk_all]
  have e1 := methP (C := C) (m := "with_sorting") (F := FW) (cs := [true, false]) (st := st) (sl := Sl u0 v3 (some (.own k)) (some (.d (progT C s b l))) v6 v7 v8 v9 (some (.own m)) v11 v12 v13) wth_no rfl ea hW
  have c1 := callK_own (n := 1) (cs := []) (ts := []) (ρ := ⟨Sl u0 v3 (some (.own k)) (some (.d (progT C s b l))) v6 v7 v8 v9 (some (.own m)) v11 v12 v13, st⟩) (i := m) (ob := dKv s' b l) hm rfl hM rfl rfl
  simp only [List.map_nil] at c1
  have e2 : mCall 1 FM [true] (aCons (mVar 10) aNil) ⟨Sl u0 v3 (some (.own k)) (some (.d (progT C s b l))) v6 v7 v8 v9 (some (.own m)) v11 v12 v13, st⟩ = .ok (.d (progT C s' b l)) ⟨Sl u0 v3 (some (.own k)) (some (.d (progT C s b l))) v6 v7 v8 v9 (some (.own m)) v11 v12 v13, st.set m (dKv s' b l)⟩ := by
    simp [c1]
  have h' := h.set (dKv s' b l) m2 mk
  have f1 := eqA_ev (C := C) (FE := FE) e1 e2 obj_prog (.inl obj_prog) hE
  have e3 : (mOp ixAF (mVar 4) (mC (.str "block"))) ⟨Sl u0 v3 (some (.own k)) (some (.d (progT C s b l))) v6 v7 v8 v9 (some (.own m)) v11 v12 v13, st.set m (dKv s' b l)⟩ = .ok (.d (.tup (ens b))) ⟨Sl u0 v3 (some (.own k)) (some (.d (progT C s b l))) v6 v7 v8 v9 (some (.own m)) v11 v12 v13, st.set m (dKv s' b l)⟩ := by
    simp [opK, pk, h'.hk, dk_block]
  have f2 := eqA_ev (C := C) (FE := FE) (ma := mVar 5) (st := st.set m (dKv s' b l)) rfl e3 obj_prog (.inr rfl) hT
  refine ⟨_, ?_, h'⟩
  unfold s16
  rw [ev_ifs, ev_orT, ev_notT, ev_test, f1]
  simp only [R.bind_ok, tstK_b, Bool.not_true]
  rw [if_neg (by decide), ev_test, f2]
  simp
def s17 (C : Addr) (FE FW : Fn) : DS := mIfS (mTOp neF (mEqA C FE (mVar 5) (mMeth C "with_sorting" 2 FW [true, false] (mVar 5) (aCons (mC (.str "none")) aNil))) (mOp eqF (mOp ixAF (mVar 4) (mC (.str "sorting"))) (mC (.str "none")))) (mRet (mC (.bl false))) mNx
theorem s17_ev {q : Bool} (h : Sto st r bf k (dKv s b l)) (hW : dataF FW [progT C s b l, .str "none"] = some (progT C "none" b l)) (hE : FE [] [.d (progT C s b l), .d (progT C "none" b l)] = .ok (.d (.bl q)) ⟨[], []⟩) (hq : q = decide (s = "none")) :
    s17 C FE FW ⟨Sl u0 v3 (some (.own k)) (some (.d (progT C s b l))) v6 v7 v8 v9 v10 v11 v12 v13, st⟩ = .nx ⟨Sl u0 v3 (some (.own k)) (some (.d (progT C s b l))) v6 v7 v8 v9 v10 v11 v12 v13, st⟩ := by
  have e1 := methP (C := C) (m := "with_sorting") (F := FW) (cs := [true, false]) (ma := mC (.str "none")) (st := st) (sl := Sl u0 v3 (some (.own k)) (some (.d (progT C s b l))) v6 v7 v8 v9 v10 v11 v12 v13) wth_no rfl rfl hW
  have f1 := eqA_ev (C := C) (FE := FE) (ma := mVar 5) (st := st) rfl e1 obj_prog (.inl obj_prog) hE
  have e3 : (mOp eqF (mOp ixAF (mVar 4) (mC (.str "sorting"))) (mC (.str "none"))) ⟨Sl u0 v3 (some (.own k)) (some (.d (progT C s b l))) v6 v7 v8 v9 v10 v11 v12 v13, st⟩ = .ok (.d (.bl (decide (s = "none")))) ⟨Sl u0 v3 (some (.own k)) (some (.d (progT C s b l))) v6 v7 v8 v9 v10 v11 v12 v13, st⟩ := by
    simp [opK, pk, h.hk, dk_all, eqF_str]
  have hn : neF (.bl q) (.bl (decide (s = "none"))) = some (.d (.bl false)) := by subst hq; simp [neF, eqB, scT]
  unfold s17
  rw [ev_ifs, ev_top, f1, R.bind_ok, e3, R.bind_ok, opK_d, hn]
  rfl
end
end FL

namespace FL
open PySem L2 PyProof.Rows
theorem callN_row {n : Nat} {F : Fn} {sl sl' : List (Option U)} {g : List Ob} {row row' : List T} {ob : Ob} {i : Nat} (hF : F [.lst row] [.own 0] = .ok (.own 1) ⟨sl', [.lst row', ob]⟩) (hd : refO 0 ob = true) (h0 : sl[i]? = some (some (.own 0))) :
    mCallN 1 F [true] (aCons (mVar i) aNil) ⟨sl, .lst row :: g⟩ = .ok (.own (g.length + 1)) ⟨sl, .lst row' :: (g ++ [ob])⟩ := by
  unfold mCallN
  rw [ev_aCons, ev_var h0]
  simp [argC, callN, owns, adds, reach, ownsO, handOn, renO, renUs, renU, behind, hF, hd, handBack, backO]
abbrev dkT (s : Str) (b l : List Sm) : T := .dk dKs [.str s, .tup (ens b), .tup (ens l)]
theorem eqK_dicts {s s' : Str} {b b' l l' : List Sm} (ok : POk s b l) (ok' : POk s' b' l') : ∃ q, eqKF (dkT s' b' l') (dkT s b l) = some (.d (.bl q)) ∧ (q = true ↔ s' = s ∧ ens b' = ens b ∧ ens l' = ens l) := by
  obtain ⟨d1, a1, c1⟩ := (pd_s ok'.hs).py
  obtain ⟨d2, a2, c2⟩ := (pd_b ok'.hb).py
  obtain ⟨d3, a3, c3⟩ := (pd_l ok'.hl).py
  obtain ⟨e1, b1, f1⟩ := (pd_s ok.hs).py
  obtain ⟨e2, b2, f2⟩ := (pd_b ok.hb).py
  obtain ⟨e3, b3, f3⟩ := (pd_l ok.hl).py
  have q1 := pl_eqv _ _ d1 e1 (pd_s ok'.hs).1 (pd_s ok.hs).1 a1 b1
  have q2 := pl_eqv _ _ d2 e2 (pd_b ok'.hb).1 (pd_b ok.hb).1 a2 b2
  have q3 := pl_eqv _ _ d3 e3 (pd_l ok'.hl).1 (pd_l ok.hl).1 a3 b3
  simp only [T.str.injEq, T.tup.injEq] at q1 q2 q3
  have k1 : pyK dKs [.str s', .tup (ens b'), .tup (ens l')] = some [(.inr "sorting", d1), (.inr "block", d2), (.inr "last", d3)] := by
    simp [pyK, a1, a2, a3, c1, c2, c3]
  have k2 : pyK dKs [.str s, .tup (ens b), .tup (ens l)] = some [(.inr "sorting", e1), (.inr "block", e2), (.inr "last", e3)] := by
    simp [pyK, b1, b2, b3, f1, f2, f3]
  refine ⟨PyData.eqv d1 e1 && (PyData.eqv d2 e2 && PyData.eqv d3 e3), ?_, by simp [q1, q2, q3]⟩
  simp only [eqKF, k1, k2]
  simp [dkEq, dkHit, valD]
section
variable {C : Addr} {FE FW FM FT FR FS FL' FLa FB FSo FA FD : Fn} {FP : FnG} {st : List Ob} {r r' bf : List T} {k i n m : Nat} {s s' : Str} {b l b' l' : List Sm} {rows ts xs : List T} {u0 v3 v4 v5 v6 v7 v8 v9 v10 v11 v12 v13 : Option U} {t1 t2 : List (Option U)} {P : T} {dv : Ob} {qs : List (List NestedKey × Sm)}
/-- what stands in before -/
def Bok (C : Addr) (bf : List T) : Prop := ∀ t ∈ bf, ∃ s b l, POk s b l ∧ t = .tup [progT C s b l, dkT s b l]
abbrev g18 : DG := gT 2 (gsCons (gN 12) (gsCons (gN 13) gsNil))
abbrev b18 (C : Addr) (FE : Fn) : DS := mIfS (mTOp neF (mEqA C FE (mVar 5) (mVar 12)) (mOp eqKF (mVar 13) (mVar 4))) (mRet (mC (.bl false))) mNx
theorem loop18 (h : Sto st r bf k (dKv s b l)) (ok : POk s b l) (hB : Bok C bf) (hE : ∀ s' b' l', POk s' b' l' → ∃ q, FE [] [.d (progT C s b l), .d (progT C s' b' l')] = .ok (.d (.bl q)) ⟨[], []⟩ ∧ (q = true ↔ s = s' ∧ ens b = ens b' ∧ ens l = ens l')) :
    ∀ (j i : Nat) (v12 v13 : Option U), bf.length = i + j → ∃ w12 w13,
      forO g18 (b18 C FE) 1 (j + 1) i ⟨Sl u0 v3 (some (.own k)) (some (.d (progT C s b l))) v6 v7 v8 v9 v10 v11 v12 v13, st⟩ = .nx ⟨Sl u0 v3 (some (.own k)) (some (.d (progT C s b l))) v6 v7 v8 v9 v10 v11 w12 w13, st⟩
  | 0, i, v12, v13, hl => by
    refine ⟨v12, v13, ?_⟩
    have : bf[i]? = none := List.getElem?_eq_none_iff.mpr (by omega)
    unfold forO
    simp only [h.h1, this]
  | j + 1, i, v12, v13, hl => by
    have hlt : i < bf.length := by omega
    have ht : bf[i]? = some bf[i] := List.getElem?_eq_getElem hlt
    obtain ⟨s2, b2, l2, ok2, et⟩ := hB bf[i] (List.getElem_mem hlt)
    rw [et] at ht
    obtain ⟨w12, w13, e⟩ := loop18 h ok hB hE j (i + 1) (some (.d (progT C s2 b2 l2))) (some (.d (dkT s2 b2 l2))) (by omega)
    obtain ⟨q1, e1, f1⟩ := hE s2 b2 l2 ok2
    obtain ⟨q2, e2, f2⟩ := eqK_dicts ok ok2
    have hq : q1 = q2 := by
      rw [Bool.eq_iff_iff, f1, f2]
      constructor <;> rintro ⟨a, b, c⟩ <;> exact ⟨a.symm, b.symm, c.symm⟩
    refine ⟨w12, w13, ?_⟩
    have eg : g18 (.d (.tup [progT C s2 b2 l2, dkT s2 b2 l2])) ⟨Sl u0 v3 (some (.own k)) (some (.d (progT C s b l))) v6 v7 v8 v9 v10 v11 v12 v13, st⟩ = .ok () ⟨Sl u0 v3 (some (.own k)) (some (.d (progT C s b l))) v6 v7 v8 v9 v10 v11 (some (.d (progT C s2 b2 l2))) (some (.d (dkT s2 b2 l2))), st⟩ := by
      simp [gT, gsCons, gsNil, pk, itm]
    have ea := eqA_ev (C := C) (FE := FE) (ma := mVar 5) (mb := mVar 12) (st := st) (sl := Sl u0 v3 (some (.own k)) (some (.d (progT C s b l))) v6 v7 v8 v9 v10 v11 (some (.d (progT C s2 b2 l2))) (some (.d (dkT s2 b2 l2)))) rfl rfl obj_prog (.inl obj_prog) e1
    have ek : mOp eqKF (mVar 13) (mVar 4) ⟨Sl u0 v3 (some (.own k)) (some (.d (progT C s b l))) v6 v7 v8 v9 v10 v11 (some (.d (progT C s2 b2 l2))) (some (.d (dkT s2 b2 l2))), st⟩ = .ok (.d (.bl q2)) ⟨Sl u0 v3 (some (.own k)) (some (.d (progT C s b l))) v6 v7 v8 v9 v10 v11 (some (.d (progT C s2 b2 l2))) (some (.d (dkT s2 b2 l2))), st⟩ := by
      rw [ev_op, ev_var13, R.bind_ok, ev_var4, R.bind_ok]
      unfold opK
      simp only [pk, h.hk]
      rw [e2]
      rfl
    have hn : neF (.bl q1) (.bl q2) = some (.d (.bl false)) := by subst hq; simp [neF, eqB, scT]
    have eb : b18 C FE ⟨Sl u0 v3 (some (.own k)) (some (.d (progT C s b l))) v6 v7 v8 v9 v10 v11 (some (.d (progT C s2 b2 l2))) (some (.d (dkT s2 b2 l2))), st⟩ = .nx ⟨Sl u0 v3 (some (.own k)) (some (.d (progT C s b l))) v6 v7 v8 v9 v10 v11 (some (.d (progT C s2 b2 l2))) (some (.d (dkT s2 b2 l2))), st⟩ := by
      unfold b18
      rw [ev_ifs, ev_top, ea, R.bind_ok, ek, R.bind_ok, opK_d, hn]
      rfl
    unfold forO
    simp only [h.h1, ht]
    rw [eg]
    dsimp only
    rw [eb]
    exact e
theorem forO_more {g : DG} {b : DS} {j : Nat} {ρ' : Sg} : ∀ (n i : Nat) (ρ : Sg), forO g b j n i ρ = .nx ρ' → forO g b j (n + 1) i ρ = .nx ρ'
  | 0, i, ρ, h => by cases h
  | n + 1, i, ρ, h => by
    rw [forO] at h
    rw [forO]
    cases e : ρ.st[j]? with
    | none => rw [e] at h; cases h
    | some o =>
      rw [e] at h
      cases o with
      | lst ts =>
        dsimp only at h ⊢
        cases e2 : ts[i]? with
        | none => rw [e2] at h; exact h
        | some t =>
          rw [e2] at h
          dsimp only at h ⊢
          cases e3 : g (.d t) ρ with
          | ok u ρ1 =>
            rw [e3] at h
            dsimp only at h ⊢
            cases e4 : b ρ1 with
            | nx ρ2 => rw [e4] at h; exact forO_more n (i + 1) ρ2 h
            | ct ρ2 => rw [e4] at h; exact forO_more n (i + 1) ρ2 h
            | bk ρ2 => rw [e4] at h; exact h
            | rt u ρ2 => rw [e4] at h; cases h
            | ex x ρ2 => rw [e4] at h; cases h
            | no => rw [e4] at h; cases h
          | ex x ρ1 => rw [e3] at h; cases h
          | no => rw [e3] at h; cases h
      | frz t => cases h
      | dk ks ts => cases h
      | obj C ns us => cases h
theorem forO_le {g : DG} {b : DS} {j : Nat} {ρ ρ' : Sg} {i : Nat} (n : Nat) (h : forO g b j n i ρ = .nx ρ') : ∀ d, forO g b j (n + d) i ρ = .nx ρ'
  | 0 => h
  | d + 1 => forO_more (n + d) i ρ (forO_le n h d)
def s18 (C : Addr) (FE : Fn) : DS := mForO 8 (mVar 2) g18 (b18 C FE)
theorem s18_ev (h : Sto st r bf k (dKv s b l)) (ok : POk s b l) (hB : Bok C bf) (hl : bf.length ≤ 7) (hE : ∀ s' b' l', POk s' b' l' → ∃ q, FE [] [.d (progT C s b l), .d (progT C s' b' l')] = .ok (.d (.bl q)) ⟨[], []⟩ ∧ (q = true ↔ s = s' ∧ ens b = ens b' ∧ ens l = ens l')) : ∃ w12 w13,
    s18 C FE ⟨Sl u0 v3 (some (.own k)) (some (.d (progT C s b l))) v6 v7 v8 v9 v10 v11 v12 v13, st⟩ = .nx ⟨Sl u0 v3 (some (.own k)) (some (.d (progT C s b l))) v6 v7 v8 v9 v10 v11 w12 w13, st⟩ := by
  obtain ⟨w12, w13, e⟩ := loop18 (u0 := u0) (v3 := v3) (v6 := v6) (v7 := v7) (v8 := v8) (v9 := v9) (v10 := v10) (v11 := v11) h ok hB hE bf.length 0 v12 v13 (by omega)
  have e' := forO_le _ e (7 - bf.length)
  have : bf.length + 1 + (7 - bf.length) = 8 := by omega
  rw [this] at e'
  refine ⟨w12, w13, ?_⟩
  unfold s18 mForO
  rw [ev_var2, R.thn_ok]
  exact e'
def s19 : DS := mDrop (mApp (mVar 2) (mTup (aCons (mVar 5) (aCons (mVar 4) aNil))))
theorem s19_ev (h : Sto st r bf k (dKv s b l)) (hl : bf.length ≤ 1000) : s19 ⟨Sl u0 v3 (some (.own k)) (some (.d (progT C s b l))) v6 v7 v8 v9 v10 v11 v12 v13, st⟩ =
    .nx ⟨Sl u0 v3 (some (.own k)) (some (.d (progT C s b l))) v6 v7 v8 v9 v10 v11 v12 v13, (st.set k (.frz (dkT s b l))).set 1 (.lst (bf ++ [.tup [progT C s b l, dkT s b l]]))⟩ := by
  have z : bf.length < sizeLine := Nat.lt_of_le_of_lt hl (by decide)
  have z2 : (2 : Nat) ≤ sizeLine := by decide
  have k2 := h.k2
  have h1' : (st.set k (.frz (dkT s b l)))[1]? = some (.lst bf) := by rw [List.getElem?_set_ne (by omega)]; exact h.h1
  unfold s19
  simp [mApp, isL, h.h1, tupK, toDs, toD, h.hk, z2, h1', z]
end
end FL

namespace FL
open PySem L2 PyProof.Rows
mutual
theorem rowsQS_pd {ws : List Str} (hw : ∀ a ∈ ws, a ∈ TERMs) : ∀ (s : Sm) (d : Nat) (h : List NestedKey), s.ok ws d → ∀ q ∈ rowsQS h s, (plT q.2.e = true ∧ dpT q.2.e ≤ 2 * d + 2) ∧ q.1.length ≤ h.length + 2 * d
  | .iff t x y, d, h, ok, q, hq => by
    cases d with
    | zero => unfold Sm.ok at ok; exact ok.elim
    | succ d =>
      unfold Sm.ok at ok
      simp only [rowsQS, List.mem_append] at hq
      rcases hq with hq | hq
      · obtain ⟨⟨h1, h2⟩, h3⟩ := rowsQ_pd hw x d _ 0 ok.2.1 q hq
        exact ⟨⟨h1, by omega⟩, by simp only [List.length_append, List.length_cons, List.length_nil] at h3; omega⟩
      · obtain ⟨⟨h1, h2⟩, h3⟩ := rowsQ_pd hw y d _ 0 ok.2.2 q hq
        exact ⟨⟨h1, by omega⟩, by simp only [List.length_append, List.length_cons, List.length_nil] at h3; omega⟩
  | .give a b, d, h, ok, q, hq => by simp [rowsQS] at hq
  | .keep p a, d, h, ok, q, hq => by simp [rowsQS] at hq
theorem rowsQ_pd {ws : List Str} (hw : ∀ a ∈ ws, a ∈ TERMs) : ∀ (l : List Sm) (d : Nat) (h : List NestedKey) (i : Int), oks ws d l → ∀ q ∈ rowsQ h i l, (plT q.2.e = true ∧ dpT q.2.e ≤ 2 * d + 2) ∧ q.1.length ≤ h.length + 1 + 2 * d
  | [], d, h, i, ok, q, hq => by simp [rowsQ] at hq
  | s :: r, d, h, i, ok, q, hq => by
    obtain ⟨hs, hr⟩ := oks_cons.mp ok
    simp only [rowsQ, List.mem_cons, List.mem_append] at hq
    rcases hq with rfl | hq | hq
    · exact ⟨pt_sm hw s d hs, by simp⟩
    · obtain ⟨h1, h3⟩ := rowsQS_pd hw s d _ hs q hq
      exact ⟨h1, by simp only [List.length_append, List.length_cons, List.length_nil] at h3; omega⟩
    · exact rowsQ_pd hw r d h (i + 1) hr q hq
end
theorem prog_pd {s : Str} {b l : List Sm} (ok : POk s b l) {q : List NestedKey × Sm} (hq : q ∈ progQ b l) : Pdt q.2.e ∧ q.1.length ≤ 1000 := by
  rcases List.mem_append.mp hq with h | h
  · obtain ⟨⟨h1, h2⟩, h3⟩ := rowsQ_pd (fun a h => h) b 2 _ 0 ok.hb q h
    exact ⟨⟨h1, by omega⟩, by simp only [List.length_cons, List.length_nil] at h3; omega⟩
  · obtain ⟨⟨h1, h2⟩, h3⟩ := rowsQ_pd place_term l 2 _ 0 ok.hl q h
    exact ⟨⟨h1, by omega⟩, by simp only [List.length_cons, List.length_nil] at h3; omega⟩
/-- how a path begins -/
theorem path_is {b l : List Sm} {q : List NestedKey × Sm} (hq : q ∈ progQ b l) : ∃ (x : Str) (j : Int) (rest : List T), pthT q = .tup (.str x :: .int j :: rest) ∧ 0 ≤ j ∧ ((x = "block" ∧ j < b.length) ∨ x = "last") := by
  rcases List.mem_append.mp hq with h | h
  · obtain ⟨j, rest, e1, e2, e3⟩ := rowsQ_lt b _ 0 (by simp [smp]) q h
    exact ⟨"block", j, rest.map kT, by simp [e1, kT], e2, .inl ⟨rfl, by omega⟩⟩
  · obtain ⟨j, rest, e1, e2, e3⟩ := rowsQ_lt l _ 0 (by simp [smp]) q h
    exact ⟨"last", j, rest.map kT, by simp [e1, kT], e2, .inr rfl⟩
theorem prog_rows {b l : List Sm} : rowsL [.str "block"] 0 b ++ rowsL [.str "last"] 0 l = (progQ b l).map rowE := by
  rw [rows_block, rows_last, progQ, List.map_append]
theorem prog_len {s : Str} {b l : List Sm} (ok : POk s b l) : (progQ b l).length ≤ 16 := by
  have h1 := ok.nb
  have h2 := ok.nl
  rw [rows_block, List.length_map] at h1
  rw [rows_last, List.length_map] at h2
  rw [progQ, List.length_append]
  omega
section
variable (C_Program C_StretchError C_UnknownPath : Addr)
theorem all_rows {s : Str} {b l : List Sm} (ok : POk s b l) : dataF (F__law_all C_Program C_StretchError C_UnknownPath 8) [.tup (ens b), .tup [.str "block"]] = some (.lst (rowsL [.str "block"] 0 b)) ∧ dataF (F__law_all C_Program C_StretchError C_UnknownPath 8) [.tup (ens l), .tup [.str "last"]] = some (.lst (rowsL [.str "last"] 0 l)) := by
  have c1 : cnts b ≤ 8 := by have := ok.nb; rwa [rowsL_cnt] at this
  have c2 : cnts l ≤ 8 := by have := ok.nl; rwa [rowsL_cnt] at this
  obtain ⟨ts, e1, r1⟩ := px_all C_Program C_StretchError C_UnknownPath (ws := TERMs) 8 2 b [.str "block"] ok.hb (by omega) (by omega) (by simp)
  obtain ⟨us, e2, r2⟩ := px_all C_Program C_StretchError C_UnknownPath (ws := PLACs) 8 2 l [.str "last"] ok.hl (by omega) (by omega) (by simp)
  rw [r1] at e1
  rw [r2] at e2
  exact ⟨e1, e2⟩
theorem odd_ref {s : Str} {b l : List Sm} (ok : POk s b l) : ∀ x ∈ odd8 b, dataF (F__law_refused C_Program C_StretchError C_UnknownPath) [progT C_Program s b l, x] = some (.bl true) := by
  intro x hx
  have sb : PyData.strOk ("block" : Str) = true := sok_words _ (by simp)
  have ss : PyData.strOk ("sorting" : Str) = true := sok_of (ws := ["sorting"]) (by decide +kernel) (by simp)
  simp only [odd8, odd6, List.cons_append, List.nil_append, List.mem_cons, List.not_mem_nil, or_false] at hx
  rcases hx with rfl | rfl | rfl | rfl | rfl | rfl | rfl | rfl
  · exact f_refT C_Program C_StretchError C_UnknownPath (ts := []) (Pdt.tup (by simp [plTs]) (by simp [dpTs])) (by simp) (by simp) fun q hq => by
      obtain ⟨x, j, rest, e, _⟩ := path_is hq
      rw [e]; simp
  · exact f_refT C_Program C_StretchError C_UnknownPath (Pdt.tup (by simp [plTs, plT, sb]) (by simp [dpTs, dpT])) (by simp [pathy]) (by simp) fun q hq => by
      obtain ⟨x, j, rest, e, _⟩ := path_is hq
      rw [e]; simp
  · exact f_refT C_Program C_StretchError C_UnknownPath (Pdt.tup (by simp [plTs, plT, sb]) (by simp [dpTs, dpT])) (by simp [pathy]) (by simp) fun q hq h => by
      obtain ⟨x, j, rest, e, h0, h1⟩ := path_is hq
      rw [e] at h
      simp only [T.tup.injEq, List.cons.injEq, T.str.injEq, T.int.injEq] at h
      obtain ⟨rfl, rfl, _⟩ := h
      rcases h1 with ⟨_, h1⟩ | h1
      · omega
      · revert h1; decide
  · exact f_refN C_Program C_StretchError C_UnknownPath
  · exact f_refS C_Program C_StretchError C_UnknownPath _
  · exact f_refB C_Program C_StretchError C_UnknownPath
  · exact f_refT C_Program C_StretchError C_UnknownPath (Pdt.tup (by simp [plTs, plT, ss]) (by simp [dpTs, dpT])) (by simp [pathy]) (by simp) fun q hq => by
      obtain ⟨x, j, rest, e, _⟩ := path_is hq
      rw [e]; simp
  · exact f_refT C_Program C_StretchError C_UnknownPath (Pdt.tup (by simp [plTs, plT, sb]) (by simp [dpTs, dpT])) (by simp [pathy]) (by simp) fun q hq h => by
      obtain ⟨x, j, rest, e, h0, h1⟩ := path_is hq
      rw [e] at h
      simp only [T.tup.injEq, List.cons.injEq, T.str.injEq, T.int.injEq] at h
      obtain ⟨rfl, rfl, _⟩ := h
      omega
end
end FL

namespace FL
open PySem L2 PyProof.Rows
def s4 (FD : Fn) : DS := mSet 4 (mCallN 1 FD [true] (aCons (mVar 1) aNil))
def lawB (C : Addr) (FE FW FM FT FR FS : Fn) (FP : FnG) (FL' FLa FB FSo FA FD : Fn) : DS := mSeq (s4 FD) (mSeq (s5 FM) (mSeq (s6 FA) (mSeq (s7 C FSo FB FLa) (mSeq (s8 C FL') (mSeq (s9 C FP) (mSeq (s10 C FP) (mSeq (s11 C FS) (mSeq s12 (mSeq (s13 FR) (mSeq s14 (mSeq (s15 FT) (mSeq (s16 C FE FW FM) (mSeq (s17 C FE FW) (mSeq (s18 C FE) s19))))))))))))))
theorem d_law_eq (C : Addr) (FE FW FM FT FR FS : Fn) (FP : FnG) (FL' FLa FB FSo FA FD : Fn) : d_law C FE FW FM FT FR FS FP FL' FLa FB FSo FA FD =
    (mSeq (mSet 1 (mLst (aCons (mVar 0) (aCons (mC (.int 0)) (aCons (mC (.int 0)) (aCons (mC (.int 0)) aNil)))))) (mSeq (mSet 2 (mLst aNil)) (mSeq (mFor (iR1 (aCons (mC (.int 5)) aNil)) (gN 3) (lawB C FE FW FM FT FR FS FP FL' FLa FB FSo FA FD)) (mRet (mC (.bl true)))))) := by
  unfold d_law lawB s4 s5 s6 s7 s8 s9 s10 s11 s12 s13 s14 s15 s16 s17 s18 s19
  with_reducible rfl
section
variable (C_Program C_StretchError C_UnknownPath : Addr)
abbrev lawBF : DS := lawB C_Program (F_Program_eq C_Program C_StretchError C_UnknownPath) (F_Program_with_sorting C_Program C_StretchError C_UnknownPath) (F__law_made C_Program C_StretchError C_UnknownPath) (F__law_taken C_Program C_StretchError C_UnknownPath) (F__law_refused C_Program C_StretchError C_UnknownPath) (F_Program_statement C_Program C_StretchError C_UnknownPath) (F_Program_paths C_Program C_StretchError C_UnknownPath) (F_Program_len C_Program C_StretchError C_UnknownPath) (F_Program_last C_Program C_StretchError C_UnknownPath) (F_Program_block C_Program C_StretchError C_UnknownPath) (F_Program_sorting C_Program C_StretchError C_UnknownPath) (F__law_all C_Program C_StretchError C_UnknownPath 8) (F__law_drawn C_Program C_StretchError C_UnknownPath)
theorem st_cons {st : List Ob} {a b : Ob} (h0 : st[0]? = some a) (h1 : st[1]? = some b) : ∃ g, st = a :: b :: g := by
  match st, h0, h1 with
  | a' :: b' :: g, h0, h1 =>
    simp at h0 h1
    exact ⟨g, by rw [h0, h1]⟩
theorem turn_ok {ns : List Int} {row bf : List T} (h : Vr ns row) (hB : Bok C_Program bf) (hl : bf.length ≤ 7) (u0 v3 v4 v5 v6 v7 v8 v9 v10 v11 v12 v13 : Option U) (g : List Ob) : ∃ w4 w5 w6 w7 w8 w9 w10 w11 w12 w13 row' bf' g',
    lawBF C_Program C_StretchError C_UnknownPath ⟨Sl u0 v3 v4 v5 v6 v7 v8 v9 v10 v11 v12 v13, .lst row :: .lst bf :: g⟩ = .nx ⟨Sl u0 v3 w4 w5 w6 w7 w8 w9 w10 w11 w12 w13, .lst row' :: .lst bf' :: g'⟩ ∧ Vr ns row' ∧ Bok C_Program bf' ∧ bf'.length = bf.length + 1 := by
  obtain ⟨s, b, l, r1, t1, e1, ok, h1⟩ := f_drawn C_Program C_StretchError C_UnknownPath h
  have p4 := callN_row (n := 1) (g := .lst bf :: g) (sl := Sl u0 v3 v4 v5 v6 v7 v8 v9 v10 v11 v12 v13) (i := 1) e1 rfl rfl
  have q4 : s4 (F__law_drawn C_Program C_StretchError C_UnknownPath) ⟨Sl u0 v3 v4 v5 v6 v7 v8 v9 v10 v11 v12 v13, .lst row :: .lst bf :: g⟩ = .nx ⟨Sl u0 v3 (some (.own (g.length + 2))) v5 v6 v7 v8 v9 v10 v11 v12 v13, .lst r1 :: .lst bf :: (g ++ [dKv s b l])⟩ := by
    unfold s4
    rw [ev_set, p4]
    rfl
  have S4 : Sto (.lst r1 :: .lst bf :: (g ++ [dKv s b l])) r1 bf (g.length + 2) (dKv s b l) := ⟨rfl, rfl, by simp, by omega⟩
  obtain ⟨t5, m5⟩ := f_made C_Program C_StretchError C_UnknownPath ok
  have q5 := s5_ev (FM := F__law_made C_Program C_StretchError C_UnknownPath) (u0 := u0) (v3 := v3) (v5 := v5) (v6 := v6) (v7 := v7) (v8 := v8) (v9 := v9) (v10 := v10) (v11 := v11) (v12 := v12) (v13 := v13) S4 m5
  have S5 := S4.same
  generalize (Ob.lst r1 :: .lst bf :: (g ++ [dKv s b l])).set (g.length + 2) (dKv s b l) = st5 at q5 S5
  obtain ⟨a1, a2⟩ := all_rows C_Program C_StretchError C_UnknownPath ok
  have hlen := prog_len ok
  have hrl : (rowsL [.str "block"] 0 b).length + (rowsL [.str "last"] 0 l).length ≤ 1000 := by have := ok.nb; have := ok.nl; omega
  have q6 := s6_ev (FA := F__law_all C_Program C_StretchError C_UnknownPath 8) (u0 := u0) (v3 := v3) (v5 := some (.d (progT C_Program s b l))) (v6 := v6) (v7 := v7) (v8 := v8) (v9 := v9) (v10 := v10) (v11 := v11) (v12 := v12) (v13 := v13) S5 a1 a2 hrl
  rw [prog_rows] at q6
  have S6 : St6 (st5 ++ [.lst ((progQ b l).map rowE)]) r1 bf (g.length + 2) (dKv s b l) st5.length ((progQ b l).map rowE) :=
    { S5.app _ with hi := .inl (by simp), i2 := by have := (List.getElem?_eq_some_iff.mp S5.h1).1; omega, ik := by have := (List.getElem?_eq_some_iff.mp S5.hk).1; omega }
  generalize hst6 : st5 ++ [Ob.lst ((progQ b l).map rowE)] = st6 at q6 S6
  generalize st5.length = i at q6 S6
  obtain ⟨xs7, q7⟩ := s7_ev (u0 := u0) (v3 := v3) (v6 := some (.own i)) (v7 := v7) (v8 := v8) (v9 := v9) (v10 := v10) (v11 := v11) (v12 := v12) (v13 := v13) S6.toSto ok (f_sorting C_Program C_StretchError C_UnknownPath) (f_block C_Program C_StretchError C_UnknownPath) (f_last C_Program C_StretchError C_UnknownPath)
  have S7 := S6.app xs7
  generalize st6 ++ xs7 = st7 at q7 S7
  have hL := f_len C_Program C_StretchError C_UnknownPath (s := s) (b := b) (l := l)
  have hrows : ((progQ b l).map rowE).length = (progQ b l).length := by simp
  rw [← hrows] at hL
  have q8 := s8_ev (u0 := u0) (v3 := v3) (v4 := some (.own (g.length + 2))) (v7 := v7) (v8 := v8) (v9 := v9) (v10 := v10) (v11 := v11) (v12 := v12) (v13 := v13) S7 hL (by rw [hrows]; omega)
  have hP0 := f_paths C_Program C_StretchError C_UnknownPath (s := s) (b := b) (l := l) none (by omega)
  have hPw := fun w => f_paths C_Program C_StretchError C_UnknownPath (s := s) (b := b) (l := l) (some w) (by omega)
  simp only [wrdT, hasW] at hP0 hPw
  have hf : (progQ b l).filter (fun _ => true) = progQ b l := by simp
  rw [hf] at hP0
  obtain ⟨st9, q9, S9⟩ := s9_ev (u0 := u0) (v3 := v3) (v4 := some (.own (g.length + 2))) (v7 := v7) (v8 := v8) (v9 := v9) (v10 := v10) (v11 := v11) (v12 := v12) (v13 := v13) S7 hP0 (fun q hq => pd_path hq) (by omega)
  obtain ⟨w7, st10, q10, S10⟩ := s10_ev (u0 := u0) (v3 := v3) (v4 := some (.own (g.length + 2))) (v7 := v7) (v8 := v8) (v9 := v9) (v10 := v10) (v11 := v11) (v12 := v12) (v13 := v13) S9 hPw (fun q hq => pd_path hq) (by omega)
  obtain ⟨w9, w11, st11, q11, S11⟩ := s11_ev (FS := F_Program_statement C_Program C_StretchError C_UnknownPath) (C := C_Program) (s := s) (b := b) (l := l) (u0 := u0) (v3 := v3) (v4 := some (.own (g.length + 2))) (v7 := w7) (v8 := v8) (v9 := v9) (v10 := v10) (v11 := v11) (v12 := v12) (v13 := v13) S10 (fun q hq => by
    obtain ⟨l1, l2, e⟩ := List.append_of_mem hq
    obtain ⟨z1, z2⟩ := prog_pd ok hq
    exact ⟨f_statement C_Program C_StretchError C_UnknownPath e z2, z1⟩)
  have q12 := s12_ev (u0 := u0) (v3 := v3) (v5 := some (.d (progT C_Program s b l))) (v6 := some (.own i)) (v7 := w7) (v8 := v8) (v9 := w9) (v10 := v10) (v11 := w11) (v12 := v12) (v13 := v13) S11.toSto
  have S12 := S11.toSto.app [.lst (odd6 b)]
  have o12 : (st11 ++ [Ob.lst (odd6 b)])[st11.length]? = some (.lst (odd6 b)) := by simp
  generalize st11 ++ [Ob.lst (odd6 b)] = st12 at q12 S12 o12
  generalize st11.length = n8 at q12 o12
  obtain ⟨x9, xs13, q13⟩ := s13_ev (FR := F__law_refused C_Program C_StretchError C_UnknownPath) (P := progT C_Program s b l) (u0 := u0) (v3 := v3) (v4 := some (.own (g.length + 2))) (v6 := some (.own i)) (v7 := w7) (v9 := w9) (v10 := v10) (v11 := w11) (v12 := v12) (v13 := v13) o12 (odd_ref C_Program C_StretchError C_UnknownPath ok)
  have S13 := S12.app xs13
  generalize st12 ++ xs13 = st13 at q13 S13
  have q14 := s14_ev (u0 := u0) (v3 := v3) (v5 := some (.d (progT C_Program s b l))) (v6 := some (.own i)) (v7 := w7) (v8 := some (.own n8)) (v9 := x9) (v10 := v10) (v11 := w11) (v12 := v12) (v13 := v13) S13
  have S14 := S13.app [dKv s b l]
  have o14 : (st13 ++ [dKv s b l])[st13.length]? = some (dKv s b l) := by simp
  have m2 : 2 ≤ st13.length := by have := (List.getElem?_eq_some_iff.mp S13.h1).1; omega
  have mk : st13.length ≠ g.length + 2 := by have := (List.getElem?_eq_some_iff.mp S13.hk).1; omega
  generalize st13 ++ [dKv s b l] = st14 at q14 S14 o14
  generalize st13.length = m at q14 o14 m2 mk
  obtain ⟨v, r2, t15, e15, v0, v5', h15⟩ := f_taken C_Program C_StretchError C_UnknownPath h1 (many := 5) (by omega) (by omega)
  obtain ⟨s', hs', hx⟩ := five_at v0 v5'
  obtain ⟨st15, q15, S15, o15⟩ := s15_ev (FT := F__law_taken C_Program C_StretchError C_UnknownPath) (u0 := u0) (v3 := v3) (v5 := some (.d (progT C_Program s b l))) (v6 := some (.own i)) (v7 := w7) (v8 := some (.own n8)) (v9 := x9) (v11 := w11) (v12 := v12) (v13 := v13) S14 o14 m2 mk e15 hx
  have ok' : POk s' b l := ⟨hs', ok.hb, ok.hl, ok.nb, ok.nl⟩
  have okn : POk "none" b l := ⟨by simp [SORTs], ok.hb, ok.hl, ok.nb, ok.nl⟩
  obtain ⟨t16, m16⟩ := f_made C_Program C_StretchError C_UnknownPath ok'
  obtain ⟨qa, ea, fa⟩ := f_eqP C_Program C_StretchError C_UnknownPath ok' ok'
  have hqa : qa = true := fa.mpr ⟨rfl, rfl, rfl⟩
  subst hqa
  obtain ⟨st16, q16, S16⟩ := s16_ev (C := C_Program) (FE := F_Program_eq C_Program C_StretchError C_UnknownPath) (FW := F_Program_with_sorting C_Program C_StretchError C_UnknownPath) (FM := F__law_made C_Program C_StretchError C_UnknownPath) (u0 := u0) (v3 := v3) (v6 := some (.own i)) (v7 := w7) (v8 := some (.own n8)) (v9 := x9) (v11 := w11) (v12 := v12) (v13 := v13) S15 o15 m2 mk (f_with C_Program C_StretchError C_UnknownPath ok') m16 ea (f_eqT C_Program C_StretchError C_UnknownPath)
  obtain ⟨qb, eb, fb⟩ := f_eqP C_Program C_StretchError C_UnknownPath ok okn
  have hqb : qb = decide (s = "none") := by
    rw [Bool.eq_iff_iff, fb]
    simp
  have q17 := s17_ev (C := C_Program) (FE := F_Program_eq C_Program C_StretchError C_UnknownPath) (FW := F_Program_with_sorting C_Program C_StretchError C_UnknownPath) (u0 := u0) (v3 := v3) (v6 := some (.own i)) (v7 := w7) (v8 := some (.own n8)) (v9 := x9) (v10 := some (.own m)) (v11 := w11) (v12 := v12) (v13 := v13) S16 (f_with C_Program C_StretchError C_UnknownPath okn) eb hqb
  obtain ⟨w12, w13, q18⟩ := s18_ev (C := C_Program) (FE := F_Program_eq C_Program C_StretchError C_UnknownPath) (u0 := u0) (v3 := v3) (v6 := some (.own i)) (v7 := w7) (v8 := some (.own n8)) (v9 := x9) (v10 := some (.own m)) (v11 := w11) (v12 := v12) (v13 := v13) S16 ok hB hl (fun s' b' l' o => f_eqP C_Program C_StretchError C_UnknownPath ok o)
  have q19 := s19_ev (C := C_Program) (u0 := u0) (v3 := v3) (v6 := some (.own i)) (v7 := w7) (v8 := some (.own n8)) (v9 := x9) (v10 := some (.own m)) (v11 := w11) (v12 := w12) (v13 := w13) S16 (by omega)
  have l0 := (List.getElem?_eq_some_iff.mp S16.h0).1
  have l1 := (List.getElem?_eq_some_iff.mp S16.h1).1
  have k2 := S16.k2
  obtain ⟨g', hg⟩ := st_cons (st := (st16.set (g.length + 2) (.frz (dkT s b l))).set 1 (.lst (bf ++ [.tup [progT C_Program s b l, dkT s b l]]))) (a := .lst r2) (b := .lst (bf ++ [.tup [progT C_Program s b l, dkT s b l]]))
    (by rw [List.getElem?_set_ne (by omega), List.getElem?_set_ne (by omega)]; exact S16.h0) (List.getElem?_set_self (by simpa using l1))
  rw [hg] at q19
  refine ⟨some (.own (g.length + 2)), some (.d (progT C_Program s b l)), some (.own i), w7, some (.own n8), x9, some (.own m), w11, w12, w13, r2, bf ++ [.tup [progT C_Program s b l, dkT s b l]], g', ?_, h15, ?_, by simp⟩
  · unfold lawBF lawB
    rw [ev_seq, q4, F.thn_nx, ev_seq, q5, F.thn_nx, ev_seq, q6, F.thn_nx, ev_seq, q7, F.thn_nx, ev_seq, q8, F.thn_nx, ev_seq, q9, F.thn_nx, ev_seq, q10, F.thn_nx, ev_seq, q11, F.thn_nx, ev_seq, q12, F.thn_nx, ev_seq, q13, F.thn_nx, ev_seq, q14, F.thn_nx, ev_seq, q15, F.thn_nx, ev_seq, q16, F.thn_nx, ev_seq, q17, F.thn_nx, ev_seq, q18, F.thn_nx, q19]
  · intro t ht
    rcases List.mem_append.mp ht with ht | ht
    · exact hB t ht
    · simp only [List.mem_cons, List.not_mem_nil, or_false] at ht
      exact ⟨s, b, l, ok, ht⟩
theorem law_true : ∀ ns : List Int, ns.length ≤ 63 → (∀ z ∈ ns, Builtin.Int.intBits z ≤ 1048576) → ∃ ρ, F_law C_Program C_StretchError C_UnknownPath [] [.d (.frl (ns.map .int))] = .ok (.d (.bl true)) ρ := by
  intro ns _ _
  have loop : ∀ (ts : List T) (row bf : List T) (u0 v3 v4 v5 v6 v7 v8 v9 v10 v11 v12 v13 : Option U) (g : List Ob), Vr ns row → Bok C_Program bf → bf.length + ts.length ≤ 6 → ∃ w3 w4 w5 w6 w7 w8 w9 w10 w11 w12 w13 st,
      forL (gN 3) (lawBF C_Program C_StretchError C_UnknownPath) ts ⟨Sl u0 v3 v4 v5 v6 v7 v8 v9 v10 v11 v12 v13, .lst row :: .lst bf :: g⟩ = .nx ⟨Sl u0 w3 w4 w5 w6 w7 w8 w9 w10 w11 w12 w13, st⟩ := by
    intro ts
    induction ts with
    | nil => intro row bf u0 v3 v4 v5 v6 v7 v8 v9 v10 v11 v12 v13 g _ _ _; exact ⟨v3, v4, v5, v6, v7, v8, v9, v10, v11, v12, v13, _, rfl⟩
    | cons t ts ih =>
      intro row bf u0 v3 v4 v5 v6 v7 v8 v9 v10 v11 v12 v13 g h hB hl
      simp only [List.length_cons] at hl
      obtain ⟨w4, w5, w6, w7, w8, w9, w10, w11, w12, w13, row', bf', g', q, h', hB', hl'⟩ := turn_ok C_Program C_StretchError C_UnknownPath h hB (by omega) u0 (some (.d t)) v4 v5 v6 v7 v8 v9 v10 v11 v12 v13 g
      obtain ⟨x3, x4, x5, x6, x7, x8, x9, x10, x11, x12, x13, st, q2⟩ := ih row' bf' u0 (some (.d t)) w4 w5 w6 w7 w8 w9 w10 w11 w12 w13 g' h' hB' (by omega)
      refine ⟨x3, x4, x5, x6, x7, x8, x9, x10, x11, x12, x13, st, ?_⟩
      rw [forL, ev_gN]
      simp only [List.set]
      rw [q]
      exact q2
  obtain ⟨w3, w4, w5, w6, w7, w8, w9, w10, w11, w12, w13, st, q⟩ := loop (iota 0 5) [.frl (ns.map .int), .int 0, .int 0, .int 0] [] (some (.d (.frl (ns.map .int)))) none none none none none none none none none none none [] ⟨0, 0, 0, rfl, by omega⟩ (fun t ht => by cases ht) (by simp [iota])
  refine ⟨⟨[], []⟩, ?_⟩
  have z4 : (4 : Nat) ≤ sizeLine := by decide
  have hi : ∀ ρ, iR1 (aCons (mC (.int 5)) aNil) ρ = .ok (iota 0 5) ρ := fun ρ => by
    simp [iR1]
  unfold F_law runD
  rw [d_law_eq]
  have hs : (List.map some [U.d (T.frl (List.map T.int ns))] ++ List.replicate (14 - [U.d (T.frl (List.map T.int ns))].length) none : List (Option U)) = [some (.d (.frl (ns.map .int))), none, none, none, none, none, none, none, none, none, none, none, none, none] := by simp [List.replicate]
  rw [hs]
  have h1 : (mSet 1 (mLst (aCons (mVar 0) (aCons (mC (.int 0)) (aCons (mC (.int 0)) (aCons (mC (.int 0)) aNil)))))) ⟨[some (.d (.frl (ns.map .int))), none, none, none, none, none, none, none, none, none, none, none, none, none], []⟩ = .nx ⟨[some (.d (.frl (ns.map .int))), some (.own 0), none, none, none, none, none, none, none, none, none, none, none, none], [.lst [.frl (ns.map .int), .int 0, .int 0, .int 0]]⟩ := by
    simp
  have h2 : (mSet 2 (mLst aNil)) ⟨[some (.d (.frl (ns.map .int))), some (.own 0), none, none, none, none, none, none, none, none, none, none, none, none], [.lst [.frl (ns.map .int), .int 0, .int 0, .int 0]]⟩ = .nx ⟨Sl (some (.d (.frl (ns.map .int)))) none none none none none none none none none none none, [.lst [.frl (ns.map .int), .int 0, .int 0, .int 0], .lst []]⟩ := by
    simp [lstK, toDs]
  rw [ev_seq, h1, F.thn_nx, ev_seq, h2, F.thn_nx, ev_seq, ev_for, hi, R.thn_ok, q]
  simp [cutSt]
end
end FL

namespace FL
open PySem L2 PyProof.Rows
section
variable {P : Program} {w : World} {K : PySem.W.Frag} {mg : Str → Option Value} {base : Heap} {C_Program : Addr} {C_StretchError : Addr} {C_UnknownPath : Addr}
theorem fin {h : Heap} {fa f4 : Addr} {od4 an4 : Option Addr} {sl4 : Array (Option Value)} {oc4 kV4 dc4 pm4 cd4 ct4 : Value} (X : K.In h) (G : h.Ns mainGlobals mg) (hfa : mg "law" = some (.ref fa)) (k_Program : PySem.W.nsIn K mainGlobals "Program" = some (some (.ref C_Program))) (k_StretchError : PySem.W.nsIn K mainGlobals "StretchError" = some (some (.ref C_StretchError))) (k_UnknownPath : PySem.W.nsIn K mainGlobals "UnknownPath" = some (some (.ref C_UnknownPath)))
    (T : Tx K w mg C_Program C_StretchError C_UnknownPath) (Q : Dfs K mg C_Program C_StretchError C_UnknownPath) (a4 : PySem.W.nsIn K mainGlobals "law" = some (some (.ref f4))) (l4 : K.lookup f4 = some ⟨oc4, od4, .func (PySem.W.fnOf "law" "law" (defArgs S_law) (defBody S_law) (defScope S_law) .none kV4 dc4 pm4 an4 cd4 ct4), sl4⟩) (c4 : PySem.W.codeIn K cd4 "law" = true) (k4 : PySem.W.keepIn K (.ref f4) = true) :
    ∃ fd : FuncData, (∀ (s : Shared) (v : Value), BindsTo s fd ⟨[v], []⟩ [("_law_script", v)]) ∧ ∀ base : Heap, K.In base → base.Ns mainGlobals mg → FnOk P w K mg base (L2.CX P w) 15 fa fd ["_law_script"] (spL K) := by
  have e := hfa.symm.trans (PySem.W.mg_of X G a4)
  cases e
  exact ⟨_, fun s v => .of_eq rfl, fun base _ _ => (fn_denC (fun_mk (st := S_law) l4 c4 k4) sc_law rfl (b_law (k := 14) T (D_Program_eq := (dn_Program_eq T Q).mono (by decide)) (D_Program_with_sorting := (dn_Program_with_sorting T Q).mono (by decide)) (D__law_made := (dn__law_made T Q).mono (by decide)) (D__law_taken := (dn__law_taken T Q).mono (by decide)) (D__law_refused := (dn__law_refused T Q).mono (by decide)) (D_Program_statement := (dn_Program_statement T Q).mono (by decide)) (L_Program_paths := by first | decide | omega) (Dd_Program_paths := dnd_Program_paths T Q) (D_Program_paths := dn_Program_paths T Q) (L_Program_len := by first | decide | omega) (D_Program_len := dn_Program_len T Q) (L_Program_last := by first | decide | omega) (D_Program_last := dn_Program_last T Q) (L_Program_block := by first | decide | omega) (D_Program_block := dn_Program_block T Q) (L_Program_sorting := by first | decide | omega) (D_Program_sorting := dn_Program_sorting T Q) (D__law_all := (dn__law_all T Q 8).mono (by decide)) (D__law_drawn := (dn__law_drawn T Q).mono (by decide)))).imp fun vs H Q E h => spL_of (F := F_law C_Program C_StretchError C_UnknownPath) (law_true C_Program C_StretchError C_UnknownPath) h⟩
end
end FL
open PySem PySem.W PyProof.Rows in
set_option maxRecDepth 100000 in
set_option maxHeartbeats 0 in
theorem PySem.Challenge.cw_stretchloops_k01_programs_told_holds : PySem.Challenge.rw_stretchloops_k01_programs_told.Holds := by
  w_on; o_law; k_head; (case hw => w_witness2)
  k_fill
  refine FL.walkL (l := PySem.Challenge.rw_stretchloops_k01_programs_told) (k := 15) (x := "_law_script") rfl rfl ⟨rfl, by decide, by decide⟩ (fun w h Y => PySem.W.kIn_of Y) ?F
  case F =>
    intro w mg fa h KX G hmg
    refine' FL.fin KX G hmg ?k_Program ?k_StretchError ?k_UnknownPath ?T ?Q ?a4 ?l4 ?c4 ?k4
    (case k_Program => k_is)
    (case k_StretchError => k_is)
    (case k_UnknownPath => k_is)
    case T =>
     refine' ⟨?a_Program_body, ?a_Program_ending, ?a_Program_order, ?a_Program_rows, ?a_Program_words, ?c_Program, ?e_StretchError, ?e_UnknownPath, ?g_CHOICES, ?g_LENGTHS, ?g_MOST_AROUND, ?g_MOST_STATEMENTS, ?g_PLACES, ?g_SORTINGS, ?g_TERMS, ?n_all, ?n_bool, ?n_dict, ?n_enumerate, ?n_int, ?n_isinstance, ?n_len, ?n_list, ?n_range, ?n_str, ?n_tuple, ?o_Program, ?v_StretchError, ?w_UnknownPath_StretchError, ?w_UnknownPath_UnknownPath, ?xn_UnknownPath_path, ?xo_UnknownPath, ?z_Program⟩
     (case a_Program_body => (refine' FL.noAttr_of ?e; (case e => k_is)))
     (case a_Program_ending => (refine' FL.noAttr_of ?e; (case e => k_is)))
     (case a_Program_order => (refine' FL.noAttr_of ?e; (case e => k_is)))
     (case a_Program_rows => (refine' FL.noAttr_of ?e; (case e => k_is)))
     (case a_Program_words => (refine' FL.noAttr_of ?e; (case e => k_is)))
     (case c_Program => (refine' ⟨?pg, ?hd, ?po, ?sa⟩; (case pg => k_is); (case hd => k_is); (case po => k_is); (case sa => k_is)))
     (case e_StretchError => (refine' ⟨?mg, ?ty, ⟨?ga, ?gg, ?xc, ?hd⟩, ?ha, ?hn, ?htk, ?hm⟩; (case mg => (refine' PySem.W.mg_of KX G ?e; (case e => k_is))); (case ty => k_is); (case ga => k_is); (case gg => k_is); (case xc => k_is); (case hd => k_is); (case ha => k_is); (case hn => k_is); (case htk => k_is); (case hm => k_is)))
     (case e_UnknownPath => (refine' ⟨?mg, ?ty, ⟨?ga, ?gg, ?xc, ?hd⟩, ?ha, ?hn, ?htk, ?hm⟩; (case mg => (refine' PySem.W.mg_of KX G ?e; (case e => k_is))); (case ty => k_is); (case ga => k_is); (case gg => k_is); (case xc => k_is); (case hd => k_is); (case ha => k_is); (case hn => k_is); (case htk => k_is); (case hm => k_is)))
     (case g_CHOICES => (refine' FL.Gk.tup (xs := [L2.V.str "least", L2.V.str "greatest"]) KX G ?e1 ?e2 ?v ?z ?r; (case e1 => k_is); (case e2 => k_is); (case v => exact .cons ⟨_, rfl⟩ (.cons ⟨_, rfl⟩ (.nil))); (case z => decide); (case r => (simp [FL.g_CHOICES, FL.Rps, FL.Rp]))))
     (case g_LENGTHS => (refine' FL.Gd.of KX G ?e1 ?e2 ?zk ?zl ?za ?zm; (case e1 => k_is); (case e2 => k_is); (case zk => exact ⟨⟨_, _, rfl, rfl⟩, ⟨⟨_, _, rfl, rfl⟩, ⟨⟨_, _, rfl, rfl⟩, True.intro⟩⟩⟩); (case zl => decide); (case za => (intro z i hm; simp only [FL.g_LENGTHS, List.mem_cons, List.not_mem_nil, or_false, Prod.mk.injEq] at hm; rcases hm with ⟨rfl, rfl⟩ | ⟨rfl, rfl⟩ | ⟨rfl, rfl⟩; all_goals (exact ⟨_, by k_is⟩))); (case zm => first | rfl | kernel_rfl)))
     (case g_MOST_AROUND => (refine' FL.Gk.int KX G ?e; (case e => k_is)))
     (case g_MOST_STATEMENTS => (refine' FL.Gk.int KX G ?e; (case e => k_is)))
     (case g_PLACES => (refine' FL.Gk.tup (xs := [L2.V.str "one", L2.V.str "two"]) KX G ?e1 ?e2 ?v ?z ?r; (case e1 => k_is); (case e2 => k_is); (case v => exact .cons ⟨_, rfl⟩ (.cons ⟨_, rfl⟩ (.nil))); (case z => decide); (case r => (simp [FL.g_PLACES, FL.Rps, FL.Rp]))))
     (case g_SORTINGS => (refine' FL.Gk.tup (xs := [L2.V.str "none", L2.V.str "begin", L2.V.str "end", L2.V.str "begin down", L2.V.str "end down"]) KX G ?e1 ?e2 ?v ?z ?r; (case e1 => k_is); (case e2 => k_is); (case v => exact .cons ⟨_, rfl⟩ (.cons ⟨_, rfl⟩ (.cons ⟨_, rfl⟩ (.cons ⟨_, rfl⟩ (.cons ⟨_, rfl⟩ (.nil)))))); (case z => decide); (case r => (simp [FL.g_SORTINGS, FL.Rps, FL.Rp]))))
     (case g_TERMS => (refine' FL.Gk.tup (xs := [L2.V.str "begin", L2.V.str "end", L2.V.str "one", L2.V.str "two"]) KX G ?e1 ?e2 ?v ?z ?r; (case e1 => k_is); (case e2 => k_is); (case v => exact .cons ⟨_, rfl⟩ (.cons ⟨_, rfl⟩ (.cons ⟨_, rfl⟩ (.cons ⟨_, rfl⟩ (.nil))))); (case z => decide); (case r => (simp [FL.g_TERMS, FL.Rps, FL.Rp]))))
     (case n_all => (refine' PySem.W.mg_none_of KX G ?e; (case e => k_is)))
     (case n_bool => (refine' PySem.W.mg_none_of KX G ?e; (case e => k_is)))
     (case n_dict => (refine' PySem.W.mg_none_of KX G ?e; (case e => k_is)))
     (case n_enumerate => (refine' PySem.W.mg_none_of KX G ?e; (case e => k_is)))
     (case n_int => (refine' PySem.W.mg_none_of KX G ?e; (case e => k_is)))
     (case n_isinstance => (refine' PySem.W.mg_none_of KX G ?e; (case e => k_is)))
     (case n_len => (refine' PySem.W.mg_none_of KX G ?e; (case e => k_is)))
     (case n_list => (refine' PySem.W.mg_none_of KX G ?e; (case e => k_is)))
     (case n_range => (refine' PySem.W.mg_none_of KX G ?e; (case e => k_is)))
     (case n_str => (refine' PySem.W.mg_none_of KX G ?e; (case e => k_is)))
     (case n_tuple => (refine' PySem.W.mg_none_of KX G ?e; (case e => k_is)))
     (case o_Program => (refine' ⟨?mg, ?cl, ?ha, ?hn, ?htk, ?hm⟩; (case mg => (refine' PySem.W.mg_of KX G ?e; (case e => k_is))); (case cl => (refine' ⟨?pg, ?hd, ?po, ?sa⟩; (case pg => k_is); (case hd => k_is); (case po => k_is); (case sa => k_is))); (case ha => k_is); (case hn => k_is); (case htk => k_is); (case hm => k_is)))
     (case v_StretchError => (refine' ⟨?mg, ?sp, ?ty, ?rd, ?fc⟩; (case mg => (refine' PySem.W.mg_of KX G ?e; (case e => k_is))); (case sp => k_is); (case ty => k_is); (case rd => k_is); (case fc => k_is)))
     (case w_UnknownPath_StretchError => (refine' FL.below_of ?e; (case e => k_is)))
     (case w_UnknownPath_UnknownPath => (refine' FL.below_of ?e; (case e => k_is)))
     (case xn_UnknownPath_path => k_is)
     (case xo_UnknownPath => (refine' FL.oex_of ?l ?r ?sa ?xc ?ty ?kc; (case l => k_is); (case r => rfl); (case sa => k_is); (case xc => k_is); (case ty => k_is); (case kc => k_is)))
     (case z_Program => (refine' FL.Gz.of ?e1 ?e2 ?e3; (case e1 => k_is); (case e2 => k_is); (case e3 => k_is)))
    case Q =>
     refine' ⟨?q_Program_eq, ?q_words_in, ?q_is_formed, ?q_blocks_of, ?q_walked, ?q_is_one_of, ?q_is_test, ?q_is_term, ?q_is_statement, ?q_check_block, ?q_Program_init, ?q_Program_with_sorting, ?q__law_made, ?q__law_taken, ?q_is_path, ?q_Program_statement, ?q__law_refused, ?q_Program_paths, ?q_Program_len, ?q_Program_last, ?q_Program_block, ?q_Program_sorting, ?q__law_all, ?q__law_term, ?q__law_test, ?q__law_statement, ?q__law_block, ?q__law_known, ?q__law_drawn, ?x_UnknownPath⟩
     (case q_Program_eq => (refine' FL.Dm.of ?cl FL.bi_Program_eq ?e1 ?e2 ?e3 ?e4 ?e5; (case cl => (refine' ⟨?pg, ?hd, ?po, ?sa⟩; (case pg => k_is); (case hd => k_is); (case po => k_is); (case sa => k_is))); (case e1 => k_is); (case e2 => k_is); (case e3 => k_is); (case e4 => k_is); (case e5 => k_is)))
     (case q_words_in => (refine' FL.Df.of KX G FL.bi_words_in ?e1 ?e2 ?e3 ?e4; (case e1 => k_is); (case e2 => k_is); (case e3 => k_is); (case e4 => k_is)))
     (case q_is_formed => (refine' FL.Df.of KX G FL.bi_is_formed ?e1 ?e2 ?e3 ?e4; (case e1 => k_is); (case e2 => k_is); (case e3 => k_is); (case e4 => k_is)))
     (case q_blocks_of => (refine' FL.Df.of KX G FL.bi_blocks_of ?e1 ?e2 ?e3 ?e4; (case e1 => k_is); (case e2 => k_is); (case e3 => k_is); (case e4 => k_is)))
     (case q_walked => (refine' FL.Df.of KX G FL.bi_walked ?e1 ?e2 ?e3 ?e4; (case e1 => k_is); (case e2 => k_is); (case e3 => k_is); (case e4 => k_is)))
     (case q_is_one_of => (refine' FL.Df.of KX G FL.bi_is_one_of ?e1 ?e2 ?e3 ?e4; (case e1 => k_is); (case e2 => k_is); (case e3 => k_is); (case e4 => k_is)))
     (case q_is_test => (refine' FL.Df.of KX G FL.bi_is_test ?e1 ?e2 ?e3 ?e4; (case e1 => k_is); (case e2 => k_is); (case e3 => k_is); (case e4 => k_is)))
     (case q_is_term => (refine' FL.Df.of KX G FL.bi_is_term ?e1 ?e2 ?e3 ?e4; (case e1 => k_is); (case e2 => k_is); (case e3 => k_is); (case e4 => k_is)))
     (case q_is_statement => (refine' FL.Df.of KX G FL.bi_is_statement ?e1 ?e2 ?e3 ?e4; (case e1 => k_is); (case e2 => k_is); (case e3 => k_is); (case e4 => k_is)))
     (case q_check_block => (refine' FL.Df.of KX G FL.bi_check_block ?e1 ?e2 ?e3 ?e4; (case e1 => k_is); (case e2 => k_is); (case e3 => k_is); (case e4 => k_is)))
     (case q_Program_init => (refine' FL.Di.of KX G FL.bi_Program_init ?e0 ?e1 ?e2 ?e3 ?e4 ?e5 ?e6 ?e7; (case e0 => k_is); (case e1 => k_is); (case e2 => k_is); (case e3 => k_is); (case e4 => k_is); (case e5 => k_is); (case e6 => k_is); (case e7 => k_is)))
     (case q_Program_with_sorting => (refine' FL.Dm.of ?cl FL.bi_Program_with_sorting ?e1 ?e2 ?e3 ?e4 ?e5; (case cl => (refine' ⟨?pg, ?hd, ?po, ?sa⟩; (case pg => k_is); (case hd => k_is); (case po => k_is); (case sa => k_is))); (case e1 => k_is); (case e2 => k_is); (case e3 => k_is); (case e4 => k_is); (case e5 => k_is)))
     (case q__law_made => (refine' FL.Df.of KX G FL.bi__law_made ?e1 ?e2 ?e3 ?e4; (case e1 => k_is); (case e2 => k_is); (case e3 => k_is); (case e4 => k_is)))
     (case q__law_taken => (refine' FL.Df.of KX G FL.bi__law_taken ?e1 ?e2 ?e3 ?e4; (case e1 => k_is); (case e2 => k_is); (case e3 => k_is); (case e4 => k_is)))
     (case q_is_path => (refine' FL.Df.of KX G FL.bi_is_path ?e1 ?e2 ?e3 ?e4; (case e1 => k_is); (case e2 => k_is); (case e3 => k_is); (case e4 => k_is)))
     (case q_Program_statement => (refine' FL.Dm.of ?cl FL.bi_Program_statement ?e1 ?e2 ?e3 ?e4 ?e5; (case cl => (refine' ⟨?pg, ?hd, ?po, ?sa⟩; (case pg => k_is); (case hd => k_is); (case po => k_is); (case sa => k_is))); (case e1 => k_is); (case e2 => k_is); (case e3 => k_is); (case e4 => k_is); (case e5 => k_is)))
     (case q__law_refused => (refine' FL.Df.of KX G FL.bi__law_refused ?e1 ?e2 ?e3 ?e4; (case e1 => k_is); (case e2 => k_is); (case e3 => k_is); (case e4 => k_is)))
     (case q_Program_paths => (refine' FL.DmG.of ?cl FL.bi1_Program_paths FL.bi0_Program_paths (by decide) ?e1 ?e2 ?e3 ?e4 ?e5 ?e6 ?e7; (case cl => (refine' ⟨?pg, ?hd, ?po, ?sa⟩; (case pg => k_is); (case hd => k_is); (case po => k_is); (case sa => k_is))); (case e1 => k_is); (case e2 => k_is); (case e3 => k_is); (case e4 => k_is); (case e5 => k_is); (case e6 => k_is); (case e7 => rfl)))
     (case q_Program_len => (refine' FL.Dm.of ?cl FL.bi_Program_len ?e1 ?e2 ?e3 ?e4 ?e5; (case cl => (refine' ⟨?pg, ?hd, ?po, ?sa⟩; (case pg => k_is); (case hd => k_is); (case po => k_is); (case sa => k_is))); (case e1 => k_is); (case e2 => k_is); (case e3 => k_is); (case e4 => k_is); (case e5 => k_is)))
     (case q_Program_last => (refine' FL.Dp.of ?cl FL.bi_Program_last ?e0 ?e1 ?e5 ?e6 ?e2 ?e3 ?e4; (case cl => (refine' ⟨?pg, ?hd, ?po, ?sa⟩; (case pg => k_is); (case hd => k_is); (case po => k_is); (case sa => k_is))); (case e0 => k_is); (case e1 => k_is); (case e5 => k_is); (case e6 => k_is); (case e2 => k_is); (case e3 => k_is); (case e4 => k_is)))
     (case q_Program_block => (refine' FL.Dp.of ?cl FL.bi_Program_block ?e0 ?e1 ?e5 ?e6 ?e2 ?e3 ?e4; (case cl => (refine' ⟨?pg, ?hd, ?po, ?sa⟩; (case pg => k_is); (case hd => k_is); (case po => k_is); (case sa => k_is))); (case e0 => k_is); (case e1 => k_is); (case e5 => k_is); (case e6 => k_is); (case e2 => k_is); (case e3 => k_is); (case e4 => k_is)))
     (case q_Program_sorting => (refine' FL.Dp.of ?cl FL.bi_Program_sorting ?e0 ?e1 ?e5 ?e6 ?e2 ?e3 ?e4; (case cl => (refine' ⟨?pg, ?hd, ?po, ?sa⟩; (case pg => k_is); (case hd => k_is); (case po => k_is); (case sa => k_is))); (case e0 => k_is); (case e1 => k_is); (case e5 => k_is); (case e6 => k_is); (case e2 => k_is); (case e3 => k_is); (case e4 => k_is)))
     (case q__law_all => (refine' FL.Df.of KX G FL.bi__law_all ?e1 ?e2 ?e3 ?e4; (case e1 => k_is); (case e2 => k_is); (case e3 => k_is); (case e4 => k_is)))
     (case q__law_term => (refine' FL.Df.of KX G FL.bi__law_term ?e1 ?e2 ?e3 ?e4; (case e1 => k_is); (case e2 => k_is); (case e3 => k_is); (case e4 => k_is)))
     (case q__law_test => (refine' FL.Df.of KX G FL.bi__law_test ?e1 ?e2 ?e3 ?e4; (case e1 => k_is); (case e2 => k_is); (case e3 => k_is); (case e4 => k_is)))
     (case q__law_statement => (refine' FL.Df.of KX G FL.bi__law_statement ?e1 ?e2 ?e3 ?e4; (case e1 => k_is); (case e2 => k_is); (case e3 => k_is); (case e4 => k_is)))
     (case q__law_block => (refine' FL.Df.of KX G FL.bi__law_block ?e1 ?e2 ?e3 ?e4; (case e1 => k_is); (case e2 => k_is); (case e3 => k_is); (case e4 => k_is)))
     (case q__law_known => (refine' FL.Df.of KX G FL.bi__law_known ?e1 ?e2 ?e3 ?e4; (case e1 => k_is); (case e2 => k_is); (case e3 => k_is); (case e4 => k_is)))
     (case q__law_drawn => (refine' FL.Df.of KX G FL.bi__law_drawn ?e1 ?e2 ?e3 ?e4; (case e1 => k_is); (case e2 => k_is); (case e3 => k_is); (case e4 => k_is)))
     (case x_UnknownPath => (refine' FL.dxi_of (h := h) FL.bi_xUnknownPath ?e1 ?e2 ?e3 ?e4 ?e5; (case e1 => k_is); (case e2 => k_is); (case e3 => k_is); (case e4 => k_is); (case e5 => k_is)))
    (case a4 => k_is)
    (case l4 => k_is)
    (case c4 => k_is)
    (case k4 => k_is)
#print axioms PySem.Challenge.cw_stretchloops_k01_programs_told_holds

