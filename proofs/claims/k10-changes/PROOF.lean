import PyProof.Rows.All
import HandS.Lambda
import Wide.All
import OpenK.AllK
import Wide.FinOn
import HandS.ForMost
import HandS.Exc
import HandS.TryOnly
import HandS.ExcOwn
import HandS.WordsExc
import HandS.ExcInit
import KE.KDictWalk
import KE.KDictPairs
import KE.KDictKeyed
import HandS.TupAny
import HandS.NoneIn
import HandS.IsInst
import HandS.Walk
import KE.GoesEnum
import HandS.More
import HandS.Text
import HandS.WrittenGet
import HandS.Star
import HandS.OwnEq
import HandS.Property
import HandS.EndBits
import HandS.ExcField
import HandS.ExcIs
import KE.KExcIs
import HandS.TupMul
import HandS.TryMany
import HandS.GenList
import HandS.Defaults
import HandS.DictComp
import KE.KDictCopyH
import OpenK.KOps
import PyProof.RulesMatch
import HandS.StrMore
import HandS.Style
import HandS.Deep
import PyProof.DictMoreH
import KE.SortData
import HandS.Zip
import HandS.Conv
import KE.KDictDisplayH
import KE.KEqDict
import HandS.TupSets
import KE.KSortKeySt
import HandS.Nested
import HandS.SortKw
import HandS.EndTab
import PySem.Challenge.RW_stretchloops_k10_changes_told
set_option Elab.async false
set_option linter.all false
set_option maxRecDepth 100000
set_option maxHeartbeats 1000000
set_option maxHeartbeats 2000000
namespace FL
open PySem L2
/-- data -/
inductive T where
  | non | bl (b : Bool) | int (i : Int) | str (x : Str)
  | tup (ts : List T) | ktp (ts : List T) | lst (ts : List T) | frl (ts : List T)
  | dk (ks : List Key) (ts : List T)
  | dt (ks : List T) (ts : List T)
  | dn (w : World) (ks : List T) (ts : List T)
  | obj (C : Addr) (ns : List Str) (ts : List T)
/-- a dict as it lies, that nobody changes -/
def rawD (d : Addr) (es : Array DictEntry) (ep : Nat) : HO := .ext fun h => h.DictRaw d es ep ∧ (d == sysModules) = false ∧ es.size ≤ sizeLine
def ER (es : Array DictEntry) (ks vs : List V) : Prop := es.size = ks.length ∧ ks.length = vs.length ∧ ∀ (i : Nat) (hi : i < es.size) (k v : V), ks[i]? = some k → vs[i]? = some v → RelV k es[i].key ∧ RelV v es[i].val
mutual
def T.nk : T → Option NestedKey
  | .non => some .none
  | .bl b => some (.num (if b = true then 1 else 0))
  | .int i => some (.num i)
  | .str x => some (.text x)
  | .tup ts => (T.nks ts).map .tup
  | .ktp ts => (T.nks ts).map .tup
  | _ => none
def T.nks : List T → Option (List NestedKey)
  | [] => some []
  | t :: ts => match T.nk t, T.nks ts with
    | some k, some ks => some (k :: ks)
    | _, _ => none
end
/-- a dict whose keys are tuples of any depth, by its entries -/
def keyD (w : World) (d : Addr) (xs : List (NestedKey × Addr × Value)) : HO := .ext fun h => (d == sysModules) = false ∧ xs.length ≤ sizeLine ∧ (xs.map (·.1)).Nodup ∧ (∀ x ∈ xs, x.1.depth ≤ 8) ∧
  ∃ o es ep, h.get? d = some o ∧ o.ExactDict ∧ o.data = .dict es ep ∧ es.toList = xs.map fun x => ⟨x.1.hash w, .ref x.2.1, x.2.2⟩
def KX (ks : List T) (kvs vs : List V) (xs : List (NestedKey × Addr × Value)) : Prop := T.nks ks = some (xs.map (·.1)) ∧ kvs = xs.map (fun x => V.ref x.2.1) ∧ Vals vs (xs.map (·.2.2))
mutual
def Rp (K : PySem.W.Frag) (G : Hp) : T → V → Prop
  | .non, v => v = .non
  | .bl b, v => v = .bl b
  | .int i, v => v = .int i
  | .str x, v => v = .str x
  | .tup ts, v => ∃ a vs, v = .ref a ∧ G a = some (.tup vs) ∧ Rps K G ts vs
  | .ktp ts, v => ∃ a vs, v = .ref a ∧ SqT K G a vs ∧ Rps K G ts vs
  | .lst ts, v => ∃ a vs, v = .ref a ∧ G a = some (.lst vs) ∧ Rps K G ts vs
  | .frl ts, v => ∃ a vs, v = .ref a ∧ SqL K G a vs ∧ Rps K G ts vs
  | .dk ks ts, v => ∃ a vs, v = .ref a ∧ G a = some (.dK (ks.zip vs)) ∧ ks.length = vs.length ∧ Rps K G ts vs
  | .dt ks ts, v => ∃ a es ep vks vs, v = .ref a ∧ G a = some (rawD a es ep) ∧ ER es vks vs ∧ Rps K G ks vks ∧ Rps K G ts vs
  | .dn w ks ts, v => ∃ a xs vks vs, v = .ref a ∧ G a = some (keyD w a xs) ∧ KX ks vks vs xs ∧ Rps K G ks vks ∧ Rps K G ts vs
  | .obj C ns ts, v => ∃ a dx vs, v = .ref a ∧ G a = some (.ins C dx (ns.zip vs)) ∧ ns.length = vs.length ∧ Rps K G ts vs
def Rps (K : PySem.W.Frag) (G : Hp) : List T → List V → Prop
  | [], vs => vs = []
  | t :: ts, vs => ∃ v ws, vs = v :: ws ∧ Rp K G t v ∧ Rps K G ts ws
end
/-- kept -/
def Ex (H H' : Hp) : Prop := ∀ a o, H a = some o → H' a = some o
theorem Ex.refl (H : Hp) : Ex H H := fun _ _ h => h
theorem Ex.trans {H H1 H2 : Hp} (a : Ex H H1) (b : Ex H1 H2) : Ex H H2 := fun x o h => b x o (a x o h)
theorem Ex.new {H : Hp} {p : Addr} {o : HO} (h : H p = none) : Ex H (upd H p o) := fun a u e => by
  rw [upd_ne (ne_of_none e h)]; exact e
theorem Ex.mut {H H' : Hp} {p : Addr} {o : HO} (e : Ex H H') (h : H p = none) : Ex H (upd H' p o) := fun a u ha => by
  rw [upd_ne (ne_of_none ha h)]; exact e a u ha
theorem Ex.both {H H' : Hp} {p : Addr} {o : HO} (e : Ex H H') : Ex (upd H p o) (upd H' p o) := fun a u ha => by
  by_cases q : a = p
  · subst q; rw [upd_same] at ha ⊢; exact ha
  · rw [upd_ne q] at ha ⊢; exact e a u ha
theorem Ex.free {H H' : Hp} {p : Addr} (e : Ex H H') (h : H' p = none) : H p = none := by
  cases h1 : H p with
  | none => rfl
  | some o => rw [e p o h1] at h; cases h
theorem Ex.upd_of {G H : Hp} {a : Addr} {o : HO} (e : Ex G H) (h : H a = some o) : Ex (upd G a o) H := fun b u q => by
  by_cases z : b = a
  · subst z; rw [upd_same] at q; cases q; exact h
  · rw [upd_ne z] at q; exact e b u q
theorem Ex.rd {H H' : Hp} {a : Addr} {u : HO} (e : Ex H H') (h : Rd H a u) : Rd H' a u := by
  rcases h with h | ⟨o, h⟩
  · exact Or.inl (e a _ h)
  · exact Or.inr ⟨o, e a _ h⟩
theorem Ex.l {K : PySem.W.Frag} {H H' : Hp} {a : Addr} {xs : List V} (e : Ex H H') (h : SqL K H a xs) : SqL K H' a xs := by
  rcases h with h | h
  · exact Or.inl (e.rd h)
  · exact Or.inr h
theorem Ex.t {K : PySem.W.Frag} {H H' : Hp} {a : Addr} {xs : List V} (e : Ex H H') (h : SqT K H a xs) : SqT K H' a xs := by
  rcases h with h | h
  · exact Or.inl (e.rd h)
  · exact Or.inr h
mutual
theorem Rp.mono {K : PySem.W.Frag} {G G' : Hp} (e : Ex G G') : ∀ {t : T} {v : V}, Rp K G t v → Rp K G' t v
  | .non, _, h => h
  | .bl _, _, h => h
  | .int _, _, h => h
  | .str _, _, h => h
  | .tup ts, v, h => by
    simp only [Rp] at h ⊢
    obtain ⟨a, vs, q1, q2, q3⟩ := h
    exact ⟨a, vs, q1, e _ _ q2, Rps.mono e q3⟩
  | .ktp ts, v, h => by
    simp only [Rp] at h ⊢
    obtain ⟨a, vs, q1, q2, q3⟩ := h
    exact ⟨a, vs, q1, e.t q2, Rps.mono e q3⟩
  | .lst ts, v, h => by
    simp only [Rp] at h ⊢
    obtain ⟨a, vs, q1, q2, q3⟩ := h
    exact ⟨a, vs, q1, e _ _ q2, Rps.mono e q3⟩
  | .frl ts, v, h => by
    simp only [Rp] at h ⊢
    obtain ⟨a, vs, q1, q2, q3⟩ := h
    exact ⟨a, vs, q1, e.l q2, Rps.mono e q3⟩
  | .dk ks ts, v, h => by
    simp only [Rp] at h ⊢
    obtain ⟨a, vs, q1, q2, q3, q4⟩ := h
    exact ⟨a, vs, q1, e _ _ q2, q3, Rps.mono e q4⟩
  | .dt ks ts, v, h => by
    simp only [Rp] at h ⊢
    obtain ⟨a, es, ep, vks, vs, q1, q2, q3, q4, q5⟩ := h
    exact ⟨a, es, ep, vks, vs, q1, e _ _ q2, q3, Rps.mono e q4, Rps.mono e q5⟩
  | .dn w ks ts, v, h => by
    simp only [Rp] at h ⊢
    obtain ⟨a, xs, vks, vs, q1, q2, q3, q4, q5⟩ := h
    exact ⟨a, xs, vks, vs, q1, e _ _ q2, q3, Rps.mono e q4, Rps.mono e q5⟩
  | .obj C ns ts, v, h => by
    simp only [Rp] at h ⊢
    obtain ⟨a, dx, vs, q1, q2, q3, q4⟩ := h
    exact ⟨a, dx, vs, q1, e _ _ q2, q3, Rps.mono e q4⟩
theorem Rps.mono {K : PySem.W.Frag} {G G' : Hp} (e : Ex G G') : ∀ {ts : List T} {vs : List V}, Rps K G ts vs → Rps K G' ts vs
  | [], _, h => h
  | t :: ts, vs, h => by
    simp only [Rps] at h ⊢
    obtain ⟨v, ws, q1, q2, q3⟩ := h
    exact ⟨v, ws, q1, Rp.mono e q2, Rps.mono e q3⟩
end
theorem Rps.length {K : PySem.W.Frag} {G : Hp} : ∀ {ts : List T} {vs : List V}, Rps K G ts vs → ts.length = vs.length
  | [], _, h => by simp only [Rps] at h; subst h; rfl
  | t :: ts, vs, h => by
    simp only [Rps] at h
    obtain ⟨v, ws, q1, q2, q3⟩ := h
    subst q1
    simp [Rps.length q3]
theorem Rps.append {K : PySem.W.Frag} {G : Hp} : ∀ {ts us : List T} {vs ws : List V}, Rps K G ts vs → Rps K G us ws → Rps K G (ts ++ us) (vs ++ ws)
  | [], _, _, _, h, g => by simp only [Rps] at h; subst h; exact g
  | t :: ts, us, vs, ws, h, g => by
    simp only [Rps] at h
    obtain ⟨v, xs, q1, q2, q3⟩ := h
    subst q1
    show Rps K G (t :: (ts ++ us)) (v :: (xs ++ ws))
    simp only [Rps]
    exact ⟨v, xs ++ ws, rfl, q2, Rps.append q3 g⟩
theorem Rps.get {K : PySem.W.Frag} {G : Hp} : ∀ {ts : List T} {vs : List V} {i : Nat} {t : T}, Rps K G ts vs → ts[i]? = some t → ∃ v, vs[i]? = some v ∧ Rp K G t v
  | [], _, _, _, _, e => by simp at e
  | t :: ts, vs, 0, u, h, e => by
    simp only [Rps] at h
    obtain ⟨v, ws, q1, q2, q3⟩ := h
    subst q1
    simp at e; subst e
    exact ⟨v, by simp, q2⟩
  | t :: ts, vs, i + 1, u, h, e => by
    simp only [Rps] at h
    obtain ⟨v, ws, q1, q2, q3⟩ := h
    subst q1
    obtain ⟨w, e1, e2⟩ := Rps.get (i := i) q3 (by simpa using e)
    exact ⟨w, by simpa using e1, e2⟩
theorem Rps.getV {K : PySem.W.Frag} {G : Hp} : ∀ {ts : List T} {vs : List V} {i : Nat} {v : V}, Rps K G ts vs → vs[i]? = some v → ∃ t, ts[i]? = some t ∧ Rp K G t v
  | [], _, _, _, h, e => by simp only [Rps] at h; subst h; simp at e
  | t :: ts, vs, 0, u, h, e => by
    simp only [Rps] at h
    obtain ⟨v, ws, q1, q2, q3⟩ := h
    subst q1
    simp at e; subst e
    exact ⟨t, by simp, q2⟩
  | t :: ts, vs, i + 1, u, h, e => by
    simp only [Rps] at h
    obtain ⟨v, ws, q1, q2, q3⟩ := h
    subst q1
    obtain ⟨w, e1, e2⟩ := Rps.getV (i := i) q3 (by simpa using e)
    exact ⟨w, by simpa using e1, e2⟩
theorem Rps.set {K : PySem.W.Frag} {G : Hp} {t : T} {v : V} (r : Rp K G t v) : ∀ {ts : List T} {vs : List V} (i : Nat), Rps K G ts vs → Rps K G (ts.set i t) (vs.set i v)
  | [], _, _, h => by simp only [Rps] at h; subst h; simp [Rps]
  | u :: ts, vs, 0, h => by
    simp only [Rps] at h
    obtain ⟨w, ws, q1, q2, q3⟩ := h
    subst q1
    show Rps K G (t :: ts) (v :: ws)
    simp only [Rps]
    exact ⟨v, ws, rfl, r, q3⟩
  | u :: ts, vs, i + 1, h => by
    simp only [Rps] at h
    obtain ⟨w, ws, q1, q2, q3⟩ := h
    subst q1
    show Rps K G (u :: ts.set i t) (w :: ws.set i v)
    simp only [Rps]
    exact ⟨w, _, rfl, q2, Rps.set r i q3⟩
theorem Rps.take {K : PySem.W.Frag} {G : Hp} : ∀ {ts : List T} {vs : List V} (n : Nat), Rps K G ts vs → Rps K G (ts.take n) (vs.take n)
  | _, _, 0, _ => by simp [Rps]
  | [], _, n + 1, h => by simp only [Rps] at h; subst h; simp [Rps]
  | u :: ts, vs, n + 1, h => by
    simp only [Rps] at h
    obtain ⟨w, ws, q1, q2, q3⟩ := h
    subst q1
    show Rps K G (u :: ts.take n) (w :: ws.take n)
    simp only [Rps]
    exact ⟨w, _, rfl, q2, Rps.take n q3⟩
theorem Rps.drop {K : PySem.W.Frag} {G : Hp} : ∀ {ts : List T} {vs : List V} (n : Nat), Rps K G ts vs → Rps K G (ts.drop n) (vs.drop n)
  | _, _, 0, h => h
  | [], _, n + 1, h => by simp only [Rps] at h; subst h; simp [Rps]
  | u :: ts, vs, n + 1, h => by
    simp only [Rps] at h
    obtain ⟨w, ws, q1, q2, q3⟩ := h
    subst q1
    exact Rps.drop n q3
theorem Rps.nil {K : PySem.W.Frag} {G : Hp} : Rps K G [] [] := by simp [Rps]
theorem Rps.cons {K : PySem.W.Frag} {G : Hp} {t : T} {v : V} {ts : List T} {vs : List V} (r : Rp K G t v) (q : Rps K G ts vs) : Rps K G (t :: ts) (v :: vs) := by
  simp only [Rps]; exact ⟨v, vs, rfl, r, q⟩
/-- values of a def under way: data, or an object of its own -/
inductive U where
  | d (t : T) | own (i : Nat)
inductive Ob where
  | frz (t : T) | lst (ts : List T) | dk (ks : List Key) (ts : List T) | dn (w : World) (ks : List T) (ts : List T) | obj (C : Addr) (ns : List Str) (us : List U)
  | tpo (us : List U)
structure Sg where
  sl : List (Option U)
  st : List Ob
def RpU (K : PySem.W.Frag) (G : Hp) (α : List Addr) : U → V → Prop
  | .d t, v => Rp K G t v
  | .own i, v => ∃ a, α[i]? = some a ∧ v = .ref a
def RpUs (K : PySem.W.Frag) (G : Hp) (α : List Addr) : List U → List V → Prop
  | [], vs => vs = []
  | t :: ts, vs => ∃ v ws, vs = v :: ws ∧ RpU K G α t v ∧ RpUs K G α ts ws
def ObR (K : PySem.W.Frag) (G : Hp) (α : List Addr) (H : Hp) (a : Addr) : Ob → Prop
  | .frz t => Rp K G t (.ref a)
  | .lst ts => G a = none ∧ ∃ vs, H a = some (.lst vs) ∧ Rps K G ts vs
  | .dk ks ts => G a = none ∧ ∃ vs, H a = some (.dK (ks.zip vs)) ∧ ks.length = vs.length ∧ Rps K G ts vs
  | .dn w ks ts => G a = none ∧ ∃ xs kvs vs, H a = some (keyD w a xs) ∧ KX ks kvs vs xs ∧ Rps K G ks kvs ∧ Rps K G ts vs
  | .obj C ns us => G a = none ∧ ∃ dx vs, H a = some (.ins C dx (ns.zip vs)) ∧ ns.length = vs.length ∧ RpUs K G α us vs
  | .tpo us => G a = none ∧ ∃ vs, H a = some (.tup vs) ∧ RpUs K G α us vs
/-- the table of code objects that grows while a law runs (of the def that makes the one lambda), if there is one -/
class TabPar where
  P : Option Addr
def lamQ : Str := "sorted_by.<locals>.<lambda>"
/-- the table is well, no datum and no own object -/
def TabW [TabPar] (G : Hp) (α : List Addr) (H : Hp) : Prop := ∀ p, TabPar.P = some p → G p = none ∧ p ∉ α ∧ LamX.TabS H p lamQ
/-- what is walled off stays, but for the table -/
structure Wb [TabPar] (B H : Hp) : Prop where
  keep : ∀ a o, B a = some o → TabPar.P ≠ some a → H a = some o
  free : ∀ {a}, H a = none → B a = none
  tt : ∀ a o, TabPar.P = some a → B a = some o → ∃ ps, o = .tbl ps
variable [TabPar]
theorem Wb.mut {B H : Hp} {p : Addr} {o : HO} (e : Wb B H) (h : B p = none) : Wb B (upd H p o) := ⟨fun a u ha n => by
  rw [upd_ne (ne_of_none ha h)]; exact e.keep a u ha n, fun {a} ha => by
  by_cases z : a = p
  · subst z; exact h
  · rw [upd_ne z] at ha; exact e.free ha, e.tt⟩
theorem Wb.there {B H : Hp} {a : Addr} {o : HO} (e : Wb B H) (h : B a = some o) : ∃ u, H a = some u := by
  cases z : H a with
  | none => rw [e.free z] at h; cases h
  | some u => exact ⟨u, rfl⟩
theorem TabW.ne {G H : Hp} {α : List Addr} {p a : Addr} (t : TabW G α H) (hp : TabPar.P = some p) (h : H a = none) : a ≠ p := fun z => by
  obtain ⟨_, _, ps, e, _⟩ := t p hp
  rw [← z, h] at e; cases e
theorem TabW.no {G H : Hp} {α : List Addr} {a : Addr} (t : TabW G α H) (h : a ∈ α) : TabPar.P ≠ some a := fun hp => (t a hp).2.1 h
theorem TabW.new {G H : Hp} {α : List Addr} {a : Addr} {o : HO} (t : TabW G α H) (h : H a = none) : TabW G α (upd H a o) := fun p hp =>
  ⟨(t p hp).1, (t p hp).2.1, (t p hp).2.2.ext fun b u e => by rw [upd_ne (ne_of_none e h)]; exact e⟩
theorem TabW.newG {G H : Hp} {α : List Addr} {a : Addr} {o u : HO} (t : TabW G α H) (h : H a = none) : TabW (upd G a u) α (upd H a o) := fun p hp =>
  ⟨by rw [upd_ne (Ne.symm (t.ne hp h))]; exact (t p hp).1, (t.new h p hp).2⟩
theorem TabW.newO {G H : Hp} {α : List Addr} {a : Addr} {o : HO} (t : TabW G α H) (h : H a = none) : TabW G (α ++ [a]) (upd H a o) := fun p hp =>
  ⟨(t p hp).1, fun hm => by
    rcases List.mem_append.mp hm with hm | hm
    · exact (t p hp).2.1 hm
    · rw [List.mem_singleton] at hm; exact t.ne hp h hm.symm, (t.new h p hp).2.2⟩
theorem TabW.sub {G H : Hp} {α β : List Addr} (t : TabW G α H) (h : ∀ a ∈ β, a ∈ α) : TabW G β H := fun p hp => ⟨(t p hp).1, fun hm => (t p hp).2.1 (h p hm), (t p hp).2.2⟩
theorem TabW.at {G H : Hp} {α : List Addr} {a : Addr} {o u : HO} (t : TabW G α H) (h : H a = some u) (h1 : ∀ ps, u ≠ .tbl ps) (h2 : ∀ c q, u ≠ LamX.CodeO c q) : TabW G α (upd H a o) := fun p hp => by
  obtain ⟨g, n, ps, e1, e2, e3⟩ := t p hp
  have ne : p ≠ a := fun z => by rw [z, h] at e1; exact h1 ps (Option.some.inj e1)
  refine ⟨g, n, ps, by rw [upd_ne ne]; exact e1, e2, fun pos cv hc => ?_⟩
  obtain ⟨c, e4, e5⟩ := e3 pos cv hc
  refine ⟨c, e4, ?_⟩
  have nc : c ≠ a := fun z => by rw [z, h] at e5; exact h2 _ _ (Option.some.inj e5)
  rw [upd_ne nc]; exact e5
theorem TabW.np {G H : Hp} {α : List Addr} {a : Addr} {u : HO} (t : TabW G α H) (h : H a = some u) (h1 : ∀ ps, u ≠ .tbl ps) : TabPar.P ≠ some a := fun hp => by
  obtain ⟨_, _, ps, e, _⟩ := t a hp
  rw [h] at e; exact h1 ps (Option.some.inj e)
theorem TabW.wall {G H : Hp} {α : List Addr} (t : TabW G α H) : Wb H H := ⟨fun _ _ h _ => h, fun {_} h => h, fun a o hp e => by
  obtain ⟨_, _, ps, e1, _⟩ := t a hp
  rw [e] at e1; exact ⟨ps, Option.some.inj e1⟩⟩
/-- the store -/
structure Rh (K : PySem.W.Frag) (B : Hp) (st : List Ob) (G : Hp) (α : List Addr) (H : Hp) : Prop where
  gh : Ex G H
  bh : Wb B H
  tb : TabW G α H
  len : α.length = st.length
  nd : α.Nodup
  ow : ∀ (i : Nat) (a : Addr) (o : Ob), α[i]? = some a → st[i]? = some o → B a = none ∧ (∃ u, H a = some u) ∧ ObR K G α H a o
structure Rs (K : PySem.W.Frag) (B : Hp) (ρ : Sg) (G : Hp) (α : List Addr) (σ : L2.St) (H : Hp) : Prop extends Rh K B ρ.st G α H where
  sll : ρ.sl.length = σ.length
  sl : ∀ (i : Nat) (u : U), ρ.sl[i]? = some (some u) → ∃ v, σ[i]? = some (some v) ∧ RpU K G α u v
/-- how what is known grows -/
structure Gr (B : Hp) (G : Hp) (α : List Addr) (G' : Hp) (α' : List Addr) : Prop where
  ex : Ex G G'
  al : ∃ β, α' = α ++ β
  fr : ∀ a, G a = none → B a ≠ none → G' a = none
theorem Gr.refl {B G : Hp} {α : List Addr} : Gr B G α G α := ⟨Ex.refl G, ⟨[], by simp⟩, fun _ h _ => h⟩
theorem Gr.trans {B G G1 G2 : Hp} {α α1 α2 : List Addr} (a : Gr B G α G1 α1) (b : Gr B G1 α1 G2 α2) : Gr B G α G2 α2 := by
  obtain ⟨β, e⟩ := a.al
  obtain ⟨γ, e'⟩ := b.al
  exact ⟨a.ex.trans b.ex, ⟨β ++ γ, by rw [e', e, List.append_assoc]⟩, fun x h n => b.fr x (a.fr x h n) n⟩
theorem Gr.get {B G G' : Hp} {α α' : List Addr} (g : Gr B G α G' α') {i : Nat} {a : Addr} (h : α[i]? = some a) : α'[i]? = some a := by
  obtain ⟨β, e⟩ := g.al
  subst e
  rw [List.getElem?_append_left (List.getElem?_eq_some_iff.mp h).1]; exact h
theorem RpU.mono {K : PySem.W.Frag} {B G G' : Hp} {α α' : List Addr} (g : Gr B G α G' α') {u : U} {v : V} (h : RpU K G α u v) : RpU K G' α' u v := by
  cases u with
  | d t => exact Rp.mono g.ex h
  | own i => obtain ⟨a, e, q⟩ := h; exact ⟨a, g.get e, q⟩
theorem RpUs.mono {K : PySem.W.Frag} {B G G' : Hp} {α α' : List Addr} (g : Gr B G α G' α') : ∀ {us : List U} {vs : List V}, RpUs K G α us vs → RpUs K G' α' us vs
  | [], _, h => h
  | u :: us, vs, ⟨v, ws, q1, q2, q3⟩ => ⟨v, ws, q1, q2.mono g, RpUs.mono g q3⟩
theorem RpUs.length {K : PySem.W.Frag} {G : Hp} {α : List Addr} : ∀ {us : List U} {vs : List V}, RpUs K G α us vs → us.length = vs.length
  | [], _, h => by cases h; rfl
  | u :: us, _, ⟨v, ws, q1, q2, q3⟩ => by subst q1; simp [RpUs.length q3]
theorem RpUs.ofRps {K : PySem.W.Frag} {G : Hp} {α : List Addr} : ∀ {ts : List T} {vs : List V}, Rps K G ts vs → RpUs K G α (ts.map .d) vs
  | [], _, h => by simp only [Rps] at h; exact h
  | t :: ts, vs, h => by
    simp only [Rps] at h
    obtain ⟨v, ws, q1, q2, q3⟩ := h
    exact ⟨v, ws, q1, q2, RpUs.ofRps q3⟩
end FL
namespace FL
open PySem L2
variable [TabPar]
section
variable {K : PySem.W.Frag} {B G G' H H' : Hp} {α α' : List Addr} {σ : L2.St} {ρ : Sg} {st : List Ob} {p : Addr}
theorem ObR.mono {a : Addr} {o : Ob} (g : Gr B G α G' α') (e : G a = none → G' a = none) (hH : H' a = H a) (h : ObR K G α H a o) : ObR K G' α' H' a o := by
  cases o with
  | frz t => exact Rp.mono g.ex h
  | lst ts => obtain ⟨q, vs, q1, q2⟩ := h; exact ⟨e q, vs, by rw [hH]; exact q1, Rps.mono g.ex q2⟩
  | dk ks ts => obtain ⟨q, vs, q1, q2, q3⟩ := h; exact ⟨e q, vs, by rw [hH]; exact q1, q2, Rps.mono g.ex q3⟩
  | dn w ks ts => obtain ⟨q, xs, kvs, vs, q1, q2, q3, q4⟩ := h; exact ⟨e q, xs, kvs, vs, by rw [hH]; exact q1, q2, Rps.mono g.ex q3, Rps.mono g.ex q4⟩
  | obj C ns us => obtain ⟨q, dx, vs, q1, q2, q3⟩ := h; exact ⟨e q, dx, vs, by rw [hH]; exact q1, q2, RpUs.mono g q3⟩
  | tpo us => obtain ⟨q, vs, q1, q3⟩ := h; exact ⟨e q, vs, by rw [hH]; exact q1, RpUs.mono g q3⟩
theorem Gr.new {o : HO} (hp : B p = none) (hg : G p = none) : Gr B G α (upd G p o) α := ⟨Ex.new hg, ⟨[], by simp⟩, fun a h n => by
  rw [upd_ne (fun e => n (by rw [e]; exact hp))]; exact h⟩
theorem Gr.own {a : Addr} : Gr B G α G (α ++ [a]) := ⟨Ex.refl G, ⟨[a], rfl⟩, fun _ h _ => h⟩
theorem Rh.at (r : Rh K B st G α H) {i : Nat} {o : Ob} (h : st[i]? = some o) : ∃ a, α[i]? = some a ∧ B a = none ∧ (∃ u, H a = some u) ∧ ObR K G α H a o := by
  have hl : i < α.length := by rw [r.len]; exact (List.getElem?_eq_some_iff.mp h).1
  exact ⟨α[i], List.getElem?_eq_getElem hl, r.ow i _ o (List.getElem?_eq_getElem hl) h⟩
theorem Rh.there (r : Rh K B st G α H) {i : Nat} {a : Addr} (h : α[i]? = some a) : ∃ u, H a = some u := by
  have hl : i < st.length := by rw [← r.len]; exact (List.getElem?_eq_some_iff.mp h).1
  exact (r.ow i a _ h (List.getElem?_eq_getElem hl)).2.1
theorem Rh.nin (r : Rh K B st G α H) (hp : H p = none) : p ∉ α := fun hm => by
  obtain ⟨i, hi, e⟩ := List.getElem_of_mem hm
  obtain ⟨u, q⟩ := r.there (show α[i]? = some p by rw [List.getElem?_eq_getElem hi, e])
  rw [hp] at q; cases q
/-- a new frozen object -/
theorem Rh.newD {o : HO} (r : Rh K B st G α H) (hp : H p = none) : Rh K B st (upd G p o) α (upd H p o) := by
  refine ⟨r.gh.both, r.bh.mut (r.bh.free hp), r.tb.newG hp, r.len, r.nd, fun i a ob e1 e2 => ?_⟩
  obtain ⟨q1, ⟨u, q2⟩, q3⟩ := r.ow i a ob e1 e2
  have ne : a ≠ p := ne_of_none q2 hp
  refine ⟨q1, ⟨u, by rw [upd_ne ne]; exact q2⟩, q3.mono (Gr.new (r.bh.free hp) (r.gh.free hp)) (fun z => by rw [upd_ne ne]; exact z) (upd_ne ne)⟩
/-- a new object of one's own -/
theorem Rh.newO {o : HO} {ob : Ob} (r : Rh K B st G α H) (hp : H p = none) (h : ObR K G (α ++ [p]) (upd H p o) p ob) : Rh K B (st ++ [ob]) G (α ++ [p]) (upd H p o) := by
  refine ⟨r.gh.mut (r.gh.free hp), r.bh.mut (r.bh.free hp), r.tb.newO hp, by simp [r.len], ?_, fun i a oo e1 e2 => ?_⟩
  · rw [List.nodup_append]
    refine ⟨r.nd, by simp, fun a ha b hb => ?_⟩
    rw [List.mem_singleton] at hb
    rintro rfl
    exact r.nin hp (hb ▸ ha)
  · by_cases hi : i < α.length
    · rw [List.getElem?_append_left hi] at e1
      rw [List.getElem?_append_left (by rw [← r.len]; exact hi)] at e2
      obtain ⟨q1, ⟨u, q2⟩, q3⟩ := r.ow i a oo e1 e2
      have ne : a ≠ p := ne_of_none q2 hp
      exact ⟨q1, ⟨u, by rw [upd_ne ne]; exact q2⟩, q3.mono (B := B) Gr.own (fun z => z) (upd_ne ne)⟩
    · have hi' : i = α.length := by
        have := (List.getElem?_eq_some_iff.mp e1).1
        simp at this; omega
      subst hi'
      have e3 : p = a := by simpa using e1
      have e4 : ob = oo := by
        rw [r.len] at e2
        simpa using e2
      subst e3; subst e4
      exact ⟨r.bh.free hp, ⟨o, upd_same⟩, h⟩
theorem nodup_at {α : List Addr} (h : α.Nodup) {i j : Nat} {a : Addr} (hi : α[i]? = some a) (hj : α[j]? = some a) : i = j := by
  obtain ⟨h1, e1⟩ := List.getElem?_eq_some_iff.mp hi
  obtain ⟨h2, e2⟩ := List.getElem?_eq_some_iff.mp hj
  exact (List.getElem_inj h).mp (e1.trans e2.symm)
/-- an own object changed -/
theorem Rh.upd {o : HO} {ob : Ob} {i : Nat} {a : Addr} (r : Rh K B st G α H) (hi : α[i]? = some a) (hg : G a = none) (hT : TabW G α (upd H a o)) (h : ObR K G α (upd H a o) a ob) : Rh K B (st.set i ob) G α (upd H a o) := by
  have hl : i < st.length := by rw [← r.len]; exact (List.getElem?_eq_some_iff.mp hi).1
  have hB : B a = none := (r.ow i a _ hi (List.getElem?_eq_getElem hl)).1
  refine ⟨r.gh.mut hg, r.bh.mut hB, hT, by simpa using r.len, r.nd, fun j b oo e1 e2 => ?_⟩
  by_cases hj : j = i
  · subst hj
    rw [hi] at e1; cases e1
    rw [List.getElem?_set_self hl] at e2; cases e2
    exact ⟨hB, ⟨o, upd_same⟩, h⟩
  · rw [List.getElem?_set_ne (Ne.symm hj)] at e2
    obtain ⟨q1, ⟨u, q2⟩, q3⟩ := r.ow j b oo e1 e2
    have ne : b ≠ a := fun z => hj (nodup_at r.nd e1 (z ▸ hi))
    exact ⟨q1, ⟨u, by rw [upd_ne ne]; exact q2⟩, q3.mono (B := B) Gr.refl (fun z => z) (upd_ne ne)⟩
/-- an own object frozen -/
theorem Rh.fz {o : HO} {t : T} {i : Nat} {a : Addr} (r : Rh K B st G α H) (hi : α[i]? = some a) (hg : G a = none) (ho : H a = some o) (h : Rp K (L2.upd G a o) t (.ref a)) : Rh K B (st.set i (.frz t)) (L2.upd G a o) α H ∧ Gr B G α (L2.upd G a o) α := by
  have hl : i < st.length := by rw [← r.len]; exact (List.getElem?_eq_some_iff.mp hi).1
  have hB : B a = none := (r.ow i a _ hi (List.getElem?_eq_getElem hl)).1
  have g : Gr B G α (L2.upd G a o) α := Gr.new hB hg
  refine ⟨⟨r.gh.upd_of ho, r.bh, fun p hp => ⟨by
    have z : p ≠ a := fun z => (r.tb p hp).2.1 (z ▸ List.mem_of_getElem? hi)
    rw [upd_ne z]; exact (r.tb p hp).1, (r.tb p hp).2⟩, by simpa using r.len, r.nd, fun j b oo e1 e2 => ?_⟩, g⟩
  by_cases hj : j = i
  · subst hj
    rw [hi] at e1; cases e1
    rw [List.getElem?_set_self hl] at e2; cases e2
    exact ⟨hB, ⟨o, ho⟩, h⟩
  · rw [List.getElem?_set_ne (Ne.symm hj)] at e2
    obtain ⟨q1, ⟨u, q2⟩, q3⟩ := r.ow j b oo e1 e2
    have ne : b ≠ a := fun z => hj (nodup_at r.nd e1 (z ▸ hi))
    exact ⟨q1, ⟨u, q2⟩, q3.mono g (fun z => by rw [upd_ne ne]; exact z) rfl⟩
theorem Rs.mk' {st' : List Ob} (r : Rs K B ρ G α σ H) (g : Gr B G α G' α') (h : Rh K B st' G' α' H') : Rs K B ⟨ρ.sl, st'⟩ G' α' σ H' :=
  { toRh := h, sll := r.sll, sl := fun i u e => let ⟨v, e1, e2⟩ := r.sl i u e; ⟨v, e1, e2.mono g⟩ }
def toDs (f : U → List Ob → Option (T × List Ob)) : List U → List Ob → Option (List T × List Ob)
  | [], st => some ([], st)
  | u :: us, st => match f u st with
    | some (t, st1) => match toDs f us st1 with
      | some (ts, st2) => some (t :: ts, st2)
      | none => none
    | none => none
def toD : Nat → U → List Ob → Option (T × List Ob)
  | _, .d t, st => some (t, st)
  | 0, .own _, _ => none
  | n + 1, .own i, st => match st[i]? with
    | some (.frz t) => some (t, st)
    | some (.lst ts) => some (.lst ts, st.set i (.frz (.lst ts)))
    | some (.dk ks ts) => some (.dk ks ts, st.set i (.frz (.dk ks ts)))
    | some (.dn w ks ts) => some (.dn w ks ts, st.set i (.frz (.dn w ks ts)))
    | some (.obj C ns us) => match toDs (toD n) us st with
      | some (ts, st1) => match st1[i]? with
        | some (.obj C' ns' us') => if C = C' ∧ ns = ns' ∧ us'.length = us.length then some (.obj C ns ts, st1.set i (.frz (.obj C ns ts))) else none
        | _ => none
      | none => none
    | some (.tpo _) => none
    | none => none
def ToDok (f : U → List Ob → Option (T × List Ob)) : Prop := ∀ {K : PySem.W.Frag} {B : Hp} {u : U} {v : V} {t : T} {st st' : List Ob} {G : Hp} {α : List Addr} {H : Hp}, Rh K B st G α H → RpU K G α u v → f u st = some (t, st') →
    ∃ G', Gr B G α G' α ∧ Rh K B st' G' α H ∧ Rp K G' t v
theorem toDs_ok {f : U → List Ob → Option (T × List Ob)} (hf : ToDok f) : ∀ {us : List U} {vs : List V} {ts : List T} {st st' : List Ob} {G : Hp}, Rh K B st G α H → RpUs K G α us vs → toDs f us st = some (ts, st') →
    ∃ G', Gr B G α G' α ∧ Rh K B st' G' α H ∧ Rps K G' ts vs
  | [], vs, ts, st, st', G, r, h, e => by
    simp only [toDs, Option.some.injEq, Prod.mk.injEq] at e
    obtain ⟨e1, e2⟩ := e
    subst e1; subst e2
    cases h
    exact ⟨G, Gr.refl, r, Rps.nil⟩
  | u :: us, vs, ts, st, st', G, r, ⟨v, ws, q1, q2, q3⟩, e => by
    simp only [toDs] at e
    cases e1 : f u st with
    | none => rw [e1] at e; cases e
    | some p =>
      obtain ⟨t, st1⟩ := p
      rw [e1] at e
      dsimp only at e
      obtain ⟨G1, g1, r1, p1⟩ := hf r q2 e1
      cases e2 : toDs f us st1 with
      | none => rw [e2] at e; cases e
      | some p =>
        obtain ⟨ts2, st2⟩ := p
        rw [e2] at e
        dsimp only at e
        simp only [Option.some.injEq, Prod.mk.injEq] at e
        obtain ⟨e3, e4⟩ := e
        subst e3; subst e4; subst q1
        obtain ⟨G2, g2, r2, p2⟩ := toDs_ok hf r1 (q3.mono g1) e2
        exact ⟨G2, g1.trans g2, r2, Rps.cons (Rp.mono g2.ex p1) p2⟩
theorem toD_ok : ∀ n, ToDok (toD n)
  | n, K, B, .d t, v, t', st, st', G, α, H, r, h, e => by
    have : toD n (.d t) st = some (t, st) := by cases n <;> rfl
    rw [this] at e
    simp only [Option.some.injEq, Prod.mk.injEq] at e
    obtain ⟨e1, e2⟩ := e
    subst e1; subst e2
    exact ⟨G, Gr.refl, r, h⟩
  | 0, K, B, .own i, v, t', st, st', G, α, H, r, h, e => by cases e
  | n + 1, K, B, .own i, v, t', st, st', G, α, H, r, ⟨a, ha, hv⟩, e => by
    subst hv
    simp only [toD] at e
    cases e1 : st[i]? with
    | none => rw [e1] at e; cases e
    | some o =>
      rw [e1] at e
      obtain ⟨q1, ⟨u, q2⟩, q3⟩ := r.ow i a o ha e1
      cases o with
      | frz t =>
        simp only [Option.some.injEq, Prod.mk.injEq] at e
        obtain ⟨e2, e3⟩ := e
        subst e2; subst e3
        exact ⟨G, Gr.refl, r, q3⟩
      | lst ts =>
        simp only [Option.some.injEq, Prod.mk.injEq] at e
        obtain ⟨e2, e3⟩ := e
        subst e2; subst e3
        obtain ⟨z, vs, z1, z2⟩ := q3
        have hp : Rp K (L2.upd G a (.lst vs)) (.lst ts) (.ref a) := by
          simp only [Rp]; exact ⟨a, vs, rfl, upd_same, Rps.mono (Ex.new z) z2⟩
        obtain ⟨r1, g1⟩ := r.fz ha z z1 hp
        exact ⟨_, g1, r1, hp⟩
      | dk ks ts =>
        simp only [Option.some.injEq, Prod.mk.injEq] at e
        obtain ⟨e2, e3⟩ := e
        subst e2; subst e3
        obtain ⟨z, vs, z1, z2, z3⟩ := q3
        have hp : Rp K (L2.upd G a (.dK (ks.zip vs))) (.dk ks ts) (.ref a) := by
          simp only [Rp]; exact ⟨a, vs, rfl, upd_same, z2, Rps.mono (Ex.new z) z3⟩
        obtain ⟨r1, g1⟩ := r.fz ha z z1 hp
        exact ⟨_, g1, r1, hp⟩
      | dn w ks ts =>
        simp only [Option.some.injEq, Prod.mk.injEq] at e
        obtain ⟨e2, e3⟩ := e
        subst e2; subst e3
        obtain ⟨z, xs, kvs, vs, z1, z2, z3, z4⟩ := q3
        have hp : Rp K (L2.upd G a (keyD w a xs)) (.dn w ks ts) (.ref a) := by
          simp only [Rp]; exact ⟨a, xs, kvs, vs, rfl, upd_same, z2, Rps.mono (Ex.new z) z3, Rps.mono (Ex.new z) z4⟩
        obtain ⟨r1, g1⟩ := r.fz ha z z1 hp
        exact ⟨_, g1, r1, hp⟩
      | tpo us => cases e
      | obj C ns us =>
        obtain ⟨z, dx, vs, z1, z2, z3⟩ := q3
        dsimp only at e
        cases e2 : toDs (toD n) us st with
        | none => rw [e2] at e; cases e
        | some p =>
          obtain ⟨ts, st1⟩ := p
          rw [e2] at e
          obtain ⟨G1, g1, r1, p1⟩ := toDs_ok (toD_ok n) r z3 e2
          dsimp only at e
          split at e
          · rename_i C' ns' us' e3
            split at e
            · rename_i hc
              obtain ⟨rfl, rfl, hc⟩ := hc
              simp only [Option.some.injEq, Prod.mk.injEq] at e
              obtain ⟨e4, e5⟩ := e
              subst e4; subst e5
              obtain ⟨_, _, y, _⟩ := r1.ow i a _ ha e3
              have hp : Rp K (L2.upd G1 a (.ins C dx (ns.zip vs))) (.obj C ns ts) (.ref a) := by
                simp only [Rp]; exact ⟨a, dx, vs, rfl, upd_same, z2, Rps.mono (Ex.new y) p1⟩
              obtain ⟨r2, g2⟩ := r1.fz ha y z1 hp
              exact ⟨_, g1.trans g2, r2, hp⟩
            · cases e
          · cases e
end
end FL
namespace FL
open PySem L2
variable [TabPar]
/-- an error in the air: its class, its fields -/
structure Xn where
  C : Addr
  fs : List (Str × T)
inductive R (β : Type) where
  | ok (b : β) (ρ : Sg) | ex (x : Xn) (ρ : Sg) | no
inductive F where
  | nx (ρ : Sg) | rt (u : U) (ρ : Sg) | bk (ρ : Sg) | ct (ρ : Sg) | ex (x : Xn) (ρ : Sg) | no
abbrev DE := Sg → R U
abbrev DT := Sg → R Bool
abbrev DA := Sg → R (List U)
abbrev DS := Sg → F
def R.bind {β γ : Type} (r : R β) (k : β → Sg → R γ) : R γ := match r with
  | .ok b ρ => k b ρ | .ex x ρ => .ex x ρ | .no => .no
def R.thn {β : Type} (r : R β) (k : β → Sg → F) : F := match r with
  | .ok b ρ => k b ρ | .ex x ρ => .ex x ρ | .no => .no
@[simp] theorem R.bind_ok {β γ : Type} {b : β} {ρ : Sg} {k : β → Sg → R γ} : (R.ok b ρ).bind k = k b ρ := rfl
@[simp] theorem R.bind_ex {β γ : Type} {x : Xn} {ρ : Sg} {k : β → Sg → R γ} : (R.ex x ρ).bind k = .ex x ρ := rfl
@[simp] theorem R.bind_no {β γ : Type} {k : β → Sg → R γ} : (R.no).bind k = .no := rfl
@[simp] theorem R.thn_ok {β : Type} {b : β} {ρ : Sg} {k : β → Sg → F} : (R.ok b ρ).thn k = k b ρ := rfl
@[simp] theorem R.thn_ex {β : Type} {x : Xn} {ρ : Sg} {k : β → Sg → F} : (R.ex x ρ).thn k = .ex x ρ := rfl
@[simp] theorem R.thn_no {β : Type} {k : β → Sg → F} : (R.no).thn k = .no := rfl
def F.thn (f : F) (k : Sg → F) : F := match f with
  | .nx ρ => k ρ | f => f
@[simp] theorem F.thn_nx {ρ : Sg} {k : Sg → F} : (F.nx ρ).thn k = k ρ := rfl
@[simp] theorem F.thn_rt {u : U} {ρ : Sg} {k : Sg → F} : (F.rt u ρ).thn k = .rt u ρ := rfl
@[simp] theorem F.thn_bk {ρ : Sg} {k : Sg → F} : (F.bk ρ).thn k = .bk ρ := rfl
@[simp] theorem F.thn_ct {ρ : Sg} {k : Sg → F} : (F.ct ρ).thn k = .ct ρ := rfl
@[simp] theorem F.thn_ex {x : Xn} {ρ : Sg} {k : Sg → F} : (F.ex x ρ).thn k = .ex x ρ := rfl
@[simp] theorem F.thn_no {k : Sg → F} : (F.no).thn k = .no := rfl
/-- the error's own dict -/
def Xd (K : PySem.W.Frag) (G H : Hp) (d : Option Addr) (fs : List (Str × T)) : Prop :=
  (fs = [] ∧ d = none) ∨ ∃ (dd : Addr) (vs : List V), d = some dd ∧ G dd = some (.xd ((fs.map (·.1)).zip vs)) ∧ fs.length = vs.length ∧ Rps K G (fs.map (·.2)) vs
/-- what is wanted of an error -/
def xw (K : PySem.W.Frag) (W : WX) (B G : Hp) (α : List Addr) (x : Xn) (ρ : Sg) : Prop :=
  ∀ σ' H' G' α' d, Gr B G α G' α' → Rs K B ρ G' α' σ' H' → Xd K G' H' d x.fs → W (.ref x.C) d σ' H'
def okP (K : PySem.W.Frag) (W : WX) (B G : Hp) (α : List Addr) (σ : L2.St) {β : Type} (r : R β) (P : β → Sg → Hp → List Addr → Hp → Prop) : Prop := match r with
  | .ok b ρ => ∀ G' α' H', Gr B G α G' α' → Rs K B ρ G' α' σ H' → P b ρ G' α' H'
  | .ex x ρ => xw K W B G α x ρ
  | .no => False
def okF (K : PySem.W.Frag) (W : WX) (B G : Hp) (α : List Addr) (f : F) (D : Ends) : Prop := match f with
  | .nx ρ => ∀ G' α' σ' H', Gr B G α G' α' → Rs K B ρ G' α' σ' H' → D.nx σ' H'
  | .rt u ρ => ∀ G' α' σ' H' v, Gr B G α G' α' → Rs K B ρ G' α' σ' H' → RpU K G' α' u v → D.rt v H'
  | .bk ρ => ∀ G' α' σ' H', Gr B G α G' α' → Rs K B ρ G' α' σ' H' → D.bk σ' H'
  | .ct ρ => ∀ G' α' σ' H', Gr B G α G' α' → Rs K B ρ G' α' σ' H' → D.ct σ' H'
  | .ex x ρ => xw K W B G α x ρ
  | .no => False
theorem xw.shift {K : PySem.W.Frag} {W : WX} {B G G1 : Hp} {α α1 : List Addr} {x : Xn} {ρ : Sg} (g : Gr B G α G1 α1) (h : xw K W B G α x ρ) : xw K W B G1 α1 x ρ :=
  fun σ' H' G' α' d g' => h σ' H' G' α' d (g.trans g')
theorem okP.shift {K : PySem.W.Frag} {W : WX} {B G G1 : Hp} {α α1 : List Addr} {σ : L2.St} {β : Type} {r : R β} {P : β → Sg → Hp → List Addr → Hp → Prop} (g : Gr B G α G1 α1) (h : okP K W B G α σ r P) : okP K W B G1 α1 σ r P := by
  cases r with
  | ok b ρ => exact fun G' α' H' g' => h G' α' H' (g.trans g')
  | ex x ρ => exact xw.shift g h
  | no => exact h
theorem okF.shift {K : PySem.W.Frag} {W : WX} {B G G1 : Hp} {α α1 : List Addr} {f : F} {D : Ends} (g : Gr B G α G1 α1) (h : okF K W B G α f D) : okF K W B G1 α1 f D := by
  cases f with
  | nx ρ => exact fun G' α' σ' H' g' => h G' α' σ' H' (g.trans g')
  | rt u ρ => exact fun G' α' σ' H' v g' => h G' α' σ' H' v (g.trans g')
  | bk ρ => exact fun G' α' σ' H' g' => h G' α' σ' H' (g.trans g')
  | ct ρ => exact fun G' α' σ' H' g' => h G' α' σ' H' (g.trans g')
  | ex x ρ => exact xw.shift g h
  | no => exact h
def tE (K : PySem.W.Frag) (W : WX) (m : DE) : TE := fun σ H Q => ∃ B ρ G α, Rs K B ρ G α σ H ∧ okP K W B G α σ (m ρ) fun u _ G' α' H' => ∀ v, RpU K G' α' u v → Q v H'
def tT (K : PySem.W.Frag) (W : WX) (m : DT) : TT := fun σ H Q => ∃ B ρ G α, Rs K B ρ G α σ H ∧ okP K W B G α σ (m ρ) fun b _ _ _ H' => Q b H'
def tA (K : PySem.W.Frag) (W : WX) (m : DA) : TA := fun σ H Q => ∃ B ρ G α, Rs K B ρ G α σ H ∧ okP K W B G α σ (m ρ) fun us _ G' α' H' => ∀ vs, RpUs K G' α' us vs → Q vs H'
def tS (K : PySem.W.Frag) (W : WX) (m : DS) : TS := fun D σ H => ∃ B ρ G α, Rs K B ρ G α σ H ∧ okF K W B G α (m ρ) D
abbrev SE (X : Cx) (W : WX) (e : Expr) (m : DE) : Prop := PE X e (tE X.K W m)
abbrev ST (X : Cx) (W : WX) (e : Expr) (m : DT) : Prop := PT X e (tT X.K W m)
abbrev SA (X : Cx) (W : WX) (es : List Expr) (m : DA) : Prop := PA X es (tA X.K W m)
abbrev SS (X : Cx) (W : WX) (s : Stmt) (m : DS) : Prop := PS X s (tS X.K W m)
abbrev SSs (X : Cx) (W : WX) (s : List Stmt) (m : DS) : Prop := PSs X s (tS X.K W m)
theorem pe_weak {X : Cx} {e : Expr} {t t' : TE} (h : PE X e t) (w : ∀ σ H Q, t' σ H Q → t σ H Q) : PE X e t' := ⟨fun pins s σ H Q I q => h.run pins s σ H Q I (w σ H Q q)⟩
theorem pt_weak {X : Cx} {e : Expr} {t t' : TT} (h : PT X e t) (w : ∀ σ H Q, t' σ H Q → t σ H Q) : PT X e t' := ⟨fun pins s σ H Q I q => h.run pins s σ H Q I (w σ H Q q)⟩
theorem pw_weak {X : Cx} {e : Expr} {t t' : TT} (h : PW X e t) (w : ∀ σ H Q, t' σ H Q → t σ H Q) : PW X e t' := ⟨fun wh pins s σ H Q I q => h.run wh pins s σ H Q I (w σ H Q q)⟩
theorem pa_weak {X : Cx} {e : List Expr} {t t' : TA} (h : PA X e t) (w : ∀ σ H Q, t' σ H Q → t σ H Q) : PA X e t' := ⟨fun p pins s σ H Q I q => h.run p pins s σ H Q I (w σ H Q q)⟩
theorem ps_weak {X : Cx} {e : Stmt} {t t' : TS} (h : PS X e t) (w : ∀ D σ H, t' D σ H → t D σ H) : PS X e t' := ⟨fun pins s σ H D I q => h.run pins s σ H D I (w D σ H q)⟩
theorem pss_weak {X : Cx} {e : List Stmt} {t t' : TS} (h : PSs X e t) (w : ∀ D σ H, t' D σ H → t D σ H) : PSs X e t' := ⟨fun pins s σ H D I q => h.run pins s σ H D I (w D σ H q)⟩
section
variable {K : PySem.W.Frag} {W : WX} {B G H : Hp} {α : List Addr} {σ : L2.St} {ρ : Sg} {β : Type} {P : β → Sg → Hp → List Addr → Hp → Prop} {D : Ends}
theorem bE {m : DE} {k : U → Sg → R β} {Q : VK} (r : Rs K B ρ G α σ H) (h : okP K W B G α σ ((m ρ).bind k) P)
    (hk : ∀ u ρ1 v H1 G1 α1, Gr B G α G1 α1 → Rs K B ρ1 G1 α1 σ H1 → RpU K G1 α1 u v → okP K W B G1 α1 σ (k u ρ1) P → Q v H1) : tE K W m σ H Q := by
  refine ⟨B, ρ, G, α, r, ?_⟩
  cases e : m ρ with
  | ok u ρ1 => rw [e] at h; exact fun G1 α1 H1 g r1 v p => hk u ρ1 v H1 G1 α1 g r1 p (okP.shift g h)
  | ex x ρ1 => rw [e] at h; exact h
  | no => rw [e] at h; exact h
theorem bT {m : DT} {k : Bool → Sg → R β} {Q : Bool → Hp → Prop} (r : Rs K B ρ G α σ H) (h : okP K W B G α σ ((m ρ).bind k) P)
    (hk : ∀ b ρ1 H1 G1 α1, Gr B G α G1 α1 → Rs K B ρ1 G1 α1 σ H1 → okP K W B G1 α1 σ (k b ρ1) P → Q b H1) : tT K W m σ H Q := by
  refine ⟨B, ρ, G, α, r, ?_⟩
  cases e : m ρ with
  | ok u ρ1 => rw [e] at h; exact fun G1 α1 H1 g r1 => hk u ρ1 H1 G1 α1 g r1 (okP.shift g h)
  | ex x ρ1 => rw [e] at h; exact h
  | no => rw [e] at h; exact h
theorem bA {m : DA} {k : List U → Sg → R β} {Q : List V → Hp → Prop} (r : Rs K B ρ G α σ H) (h : okP K W B G α σ ((m ρ).bind k) P)
    (hk : ∀ us ρ1 vs H1 G1 α1, Gr B G α G1 α1 → Rs K B ρ1 G1 α1 σ H1 → RpUs K G1 α1 us vs → okP K W B G1 α1 σ (k us ρ1) P → Q vs H1) : tA K W m σ H Q := by
  refine ⟨B, ρ, G, α, r, ?_⟩
  cases e : m ρ with
  | ok u ρ1 => rw [e] at h; exact fun G1 α1 H1 g r1 v p => hk u ρ1 v H1 G1 α1 g r1 p (okP.shift g h)
  | ex x ρ1 => rw [e] at h; exact h
  | no => rw [e] at h; exact h
theorem sE {m : DE} {k : U → Sg → F} {Q : VK} (r : Rs K B ρ G α σ H) (h : okF K W B G α ((m ρ).thn k) D)
    (hk : ∀ u ρ1 v H1 G1 α1, Gr B G α G1 α1 → Rs K B ρ1 G1 α1 σ H1 → RpU K G1 α1 u v → okF K W B G1 α1 (k u ρ1) D → Q v H1) : tE K W m σ H Q := by
  refine ⟨B, ρ, G, α, r, ?_⟩
  cases e : m ρ with
  | ok u ρ1 => rw [e] at h; exact fun G1 α1 H1 g r1 v p => hk u ρ1 v H1 G1 α1 g r1 p (okF.shift g h)
  | ex x ρ1 => rw [e] at h; exact h
  | no => rw [e] at h; exact h
theorem sT {m : DT} {k : Bool → Sg → F} {Q : Bool → Hp → Prop} (r : Rs K B ρ G α σ H) (h : okF K W B G α ((m ρ).thn k) D)
    (hk : ∀ b ρ1 H1 G1 α1, Gr B G α G1 α1 → Rs K B ρ1 G1 α1 σ H1 → okF K W B G1 α1 (k b ρ1) D → Q b H1) : tT K W m σ H Q := by
  refine ⟨B, ρ, G, α, r, ?_⟩
  cases e : m ρ with
  | ok u ρ1 => rw [e] at h; exact fun G1 α1 H1 g r1 => hk u ρ1 H1 G1 α1 g r1 (okF.shift g h)
  | ex x ρ1 => rw [e] at h; exact h
  | no => rw [e] at h; exact h
theorem sA {m : DA} {k : List U → Sg → F} {Q : List V → Hp → Prop} (r : Rs K B ρ G α σ H) (h : okF K W B G α ((m ρ).thn k) D)
    (hk : ∀ us ρ1 vs H1 G1 α1, Gr B G α G1 α1 → Rs K B ρ1 G1 α1 σ H1 → RpUs K G1 α1 us vs → okF K W B G1 α1 (k us ρ1) D → Q vs H1) : tA K W m σ H Q := by
  refine ⟨B, ρ, G, α, r, ?_⟩
  cases e : m ρ with
  | ok u ρ1 => rw [e] at h; exact fun G1 α1 H1 g r1 v p => hk u ρ1 v H1 G1 α1 g r1 p (okF.shift g h)
  | ex x ρ1 => rw [e] at h; exact h
  | no => rw [e] at h; exact h
theorem bS {m : DS} {k : Sg → F} {D' : Ends} (r : Rs K B ρ G α σ H) (h : okF K W B G α ((m ρ).thn k) D) (e1 : D'.rt = D.rt) (e2 : D'.bk = D.bk) (e3 : D'.ct = D.ct)
    (hk : ∀ ρ1 σ1 H1 G1 α1, Gr B G α G1 α1 → Rs K B ρ1 G1 α1 σ1 H1 → okF K W B G1 α1 (k ρ1) D → D'.nx σ1 H1) : tS K W m D' σ H := by
  refine ⟨B, ρ, G, α, r, ?_⟩
  cases e : m ρ with
  | nx ρ1 => rw [e] at h; exact fun G1 α1 σ1 H1 g r1 => hk ρ1 σ1 H1 G1 α1 g r1 (okF.shift g h)
  | rt u ρ1 => rw [e] at h; show ∀ G' α' σ' H' v, _ → _ → _ → D'.rt v H'; rw [e1]; exact h
  | bk ρ1 => rw [e] at h; show ∀ G' α' σ' H', _ → _ → D'.bk σ' H'; rw [e2]; exact h
  | ct ρ1 => rw [e] at h; show ∀ G' α' σ' H', _ → _ → D'.ct σ' H'; rw [e3]; exact h
  | ex x ρ1 => rw [e] at h; exact h
  | no => rw [e] at h; exact h
end
section
variable {X : Cx} {W : WX} {e a b c : Expr} {ma mb mc : DE} {ta tb : DT} {pos : Pos}
def mVar (i : Nat) : DE := fun ρ => match ρ.sl[i]? with
  | some (some u) => .ok u ρ
  | _ => .no
theorem fe_var {x : Str} (i : Nat) (hN : X.N[i]? = some x := by rfl) (hv : Vis X.env.scope x := by first | exact Or.inl rfl | exact Or.inr (Or.inl rfl) | exact Or.inr (Or.inr rfl)) (hd : (x == ("__debug__" : Str)) = false := by decide)
    (hcd : (x == ("__classdict__" : Str)) = false := by decide) : SE X W (.Name x pos) (mVar i) := pe_weak (pe_var hN hv hd hcd) fun σ H Q ⟨B, ρ, G, α, r, h⟩ => by
  unfold mVar at h
  split at h
  · rename_i u e
    obtain ⟨v, e1, e2⟩ := r.sl i u e
    exact ⟨v, e1, h G α H Gr.refl r v e2⟩
  · exact h.elim
def mC (t : T) : DE := fun ρ => .ok (.d t) ρ
theorem tE_C {K : PySem.W.Frag} {t : T} {v : V} (hv : ∀ G, Rp K G t v) (σ : L2.St) (H : Hp) (Q : VK) (h : tE K W (mC t) σ H Q) : tC v σ H Q := by
  obtain ⟨B, ρ, G, α, r, h⟩ := h
  exact h G α H Gr.refl r v (hv G)
theorem fe_int {i : Int} {j} : SE X W (.Constant (.int i) j pos) (mC (.int i)) := pe_weak pe_int (tE_C fun _ => by simp [Rp])
theorem fe_bl {i : Bool} {j} : SE X W (.Constant (.bool i) j pos) (mC (.bl i)) := pe_weak pe_bl (tE_C fun _ => by simp [Rp])
theorem fe_non {j} : SE X W (.Constant .none j pos) (mC .non) := pe_weak pe_non (tE_C fun _ => by simp [Rp])
theorem fe_str {i : Str} {j} : SE X W (.Constant (.str i) j pos) (mC (.str i)) := pe_weak pe_str (tE_C fun _ => by simp [Rp])
def mTest (m : DE) : DT := fun ρ => (m ρ).bind fun u ρ1 => match u with
  | .d (.bl b) => .ok b ρ1
  | _ => .no
theorem tTest_of {K : PySem.W.Frag} {m : DE} {σ : L2.St} {H : Hp} {Q : Bool → Hp → Prop} (h : tT K W (mTest m) σ H Q) : tE K W m σ H fun x H' => ∃ k, x = .bl k ∧ Q k H' := by
  obtain ⟨B, ρ, G, α, r, h⟩ := h
  refine bE r h fun u ρ1 v H1 G1 α1 g r1 p h1 => ?_
  split at h1
  · rename_i b
    have : v = .bl b := by simpa [RpU, Rp] using p
    exact ⟨b, this, h1 G1 α1 H1 Gr.refl r1⟩
  · exact h1.elim
theorem ft_val (h : SE X W e ma) (he : ∀ whole, isTrue e X.env whole = (do let v ← whole; standAt e.pos; holding [v] (truthy v)) := by intro _; rfl) : ST X W e (mTest ma) :=
  pt_weak (pt_val h he) fun σ H Q h => tTest_of h
def mNotT (m : DT) : DT := fun ρ => (m ρ).bind fun b ρ1 => .ok (!b) ρ1
theorem ft_not (h : ST X W a ta) : ST X W (.UnaryOp .Not a pos) (mNotT ta) := pt_weak (pt_not h) fun σ H Q ⟨B, ρ, G, α, r, h⟩ =>
  bT r h fun b ρ1 H1 G1 α1 g r1 h1 => h1 G1 α1 H1 Gr.refl r1
def mAndT (m n : DT) : DT := fun ρ => (m ρ).bind fun b ρ1 => if b = true then n ρ1 else .ok false ρ1
def mOrT (m n : DT) : DT := fun ρ => (m ρ).bind fun b ρ1 => if b = true then .ok true ρ1 else n ρ1
structure SW (X : Cx) (W : WX) (e : Expr) (m : DT) : Prop where
  w : PW X e (tT X.K W m)
theorem SW.pt {m : DT} (h : SW X W e m) : ST X W e m := PW.pt h.w
theorem fw_and1 (h : ST X W a ta) : SW X W (.BoolOp .And [a] pos) ta := ⟨pw_and1 h⟩
theorem fw_or1 (h : ST X W a ta) : SW X W (.BoolOp .Or [a] pos) ta := ⟨pw_or1 h⟩
theorem fw_and {rest : List Expr} (h : ST X W a ta) (g : SW X W (.BoolOp .And (b :: rest) pos) tb) : SW X W (.BoolOp .And (a :: b :: rest) pos) (mAndT ta tb) := ⟨pw_weak (pw_and h g.w) fun σ H Q ⟨B, ρ, G, α, r, h⟩ =>
  bT r h fun b ρ1 H1 G1 α1 g r1 h1 => by
    cases b with
    | true => exact ⟨B, ρ1, G1, α1, r1, h1⟩
    | false => exact h1 G1 α1 H1 Gr.refl r1⟩
theorem fw_or {rest : List Expr} (h : ST X W a ta) (g : SW X W (.BoolOp .Or (b :: rest) pos) tb) : SW X W (.BoolOp .Or (a :: b :: rest) pos) (mOrT ta tb) := ⟨pw_weak (pw_or h g.w) fun σ H Q ⟨B, ρ, G, α, r, h⟩ =>
  bT r h fun b ρ1 H1 G1 α1 g r1 h1 => by
    cases b with
    | true => exact h1 G1 α1 H1 Gr.refl r1
    | false => exact ⟨B, ρ1, G1, α1, r1, h1⟩⟩
def mBAnd (m n : DE) : DE := fun ρ => (m ρ).bind fun u ρ1 => match u with
  | .d (.bl b) => if b = true then n ρ1 else .ok (.d (.bl false)) ρ1
  | _ => .no
def mBOr (m n : DE) : DE := fun ρ => (m ρ).bind fun u ρ1 => match u with
  | .d (.bl b) => if b = true then .ok (.d (.bl true)) ρ1 else n ρ1
  | _ => .no
def mBNot (m : DE) : DE := fun ρ => (m ρ).bind fun u ρ1 => match u with
  | .d (.bl b) => .ok (.d (.bl (!b))) ρ1
  | _ => .no
theorem fe_one {op} (h : SE X W a ma) : SE X W (.BoolOp op [a] pos) ma := pe_one h
theorem fe_and {rest : List Expr} (h : SE X W a ma) (g : SE X W (.BoolOp .And (b :: rest) pos) mb) : SE X W (.BoolOp .And (a :: b :: rest) pos) (mBAnd ma mb) := pe_weak (pe_and h g) fun σ H Q ⟨B, ρ, G, α, r, h⟩ =>
  bE r h fun u ρ1 v H1 G1 α1 g r1 p h1 => by
    split at h1
    · rename_i b
      have e : v = .bl b := by simpa [RpU, Rp] using p
      refine ⟨b, e, ?_⟩
      cases b with
      | true => exact ⟨B, ρ1, G1, α1, r1, h1⟩
      | false => exact h1 G1 α1 H1 Gr.refl r1 _ (by simp [RpU, Rp])
    · exact h1.elim
def mIf (t : DT) (m n : DE) : DE := fun ρ => (t ρ).bind fun b ρ1 => if b = true then m ρ1 else n ρ1
theorem fe_if (hc : ST X W c ta) (h : SE X W a ma) (g : SE X W b mb) : SE X W (.IfExp c a b pos) (mIf ta ma mb) := pe_weak (pe_ifExp hc h g) fun σ H Q ⟨B, ρ, G, α, r, h⟩ =>
  bT r h fun b ρ1 H1 G1 α1 g r1 h1 => by
    cases b with
    | true => exact ⟨B, ρ1, G1, α1, r1, h1⟩
    | false => exact ⟨B, ρ1, G1, α1, r1, h1⟩
def mNx : DS := fun ρ => .nx ρ
def mSeq (m n : DS) : DS := fun ρ => (m ρ).thn n
theorem fss_nil : SSs X W [] mNx := pss_weak pss_nil fun D σ H ⟨B, ρ, G, α, r, h⟩ => h G α σ H Gr.refl r
theorem fss_cons {st : Stmt} {rest : List Stmt} {m n : DS} (h : SS X W st m) (g : SSs X W rest n) : SSs X W (st :: rest) (mSeq m n) := pss_weak (pss_cons h g) fun D σ H ⟨B, ρ, G, α, r, h⟩ =>
  bS r h rfl rfl rfl fun ρ1 σ1 H1 G1 α1 g r1 h1 => ⟨B, ρ1, G1, α1, r1, h1⟩
theorem fss_one {st : Stmt} {m : DS} (h : SS X W st m) : SSs X W [st] m := pss_one h
def mIfS (t : DT) (m n : DS) : DS := fun ρ => (t ρ).thn fun b ρ1 => if b = true then m ρ1 else n ρ1
theorem fs_if {c : Expr} {s1 s2 : List Stmt} {m n : DS} (hc : ST X W c ta) (h : SSs X W s1 m) (g : SSs X W s2 n) : SS X W (.If c s1 s2 pos) (mIfS ta m n) := ps_weak (ps_if hc h g) fun D σ H ⟨B, ρ, G, α, r, h⟩ =>
  sT r h fun b ρ1 H1 G1 α1 g r1 h1 => by
    cases b with
    | true => exact ⟨B, ρ1, G1, α1, r1, h1⟩
    | false => exact ⟨B, ρ1, G1, α1, r1, h1⟩
def mRet (m : DE) : DS := fun ρ => (m ρ).thn fun u ρ1 => .rt u ρ1
theorem fs_ret (h : SE X W e ma) : SS X W (.Return (some e) pos) (mRet ma) := ps_weak (ps_ret h) fun D σ H ⟨B, ρ, G, α, r, h⟩ =>
  sE r h fun u ρ1 v H1 G1 α1 g r1 p h1 => h1 G1 α1 σ H1 v Gr.refl r1 p
def mDrop (m : DE) : DS := fun ρ => (m ρ).thn fun _ ρ1 => .nx ρ1
theorem fs_expr (h : SE X W e ma) (hs : swapsWith e none pos.line X.env = pure false := by rfl) : SS X W (.Expr e pos) (mDrop ma) := ps_weak (ps_expr h hs) fun D σ H ⟨B, ρ, G, α, r, h⟩ =>
  sE r h fun u ρ1 v H1 G1 α1 g r1 p h1 => h1 G1 α1 σ H1 Gr.refl r1
end
end FL
namespace FL
open PySem L2
variable [TabPar]
def Rp1 (K : PySem.W.Frag) (G H : Hp) : T → V → Prop
  | .lst ts, v => ∃ a vs, v = .ref a ∧ H a = some (.lst vs) ∧ Rps K G ts vs
  | .dk ks ts, v => ∃ a vs, v = .ref a ∧ H a = some (.dK (ks.zip vs)) ∧ ks.length = vs.length ∧ Rps K G ts vs
  | .dn w ks ts, v => ∃ a xs kvs vs, v = .ref a ∧ H a = some (keyD w a xs) ∧ KX ks kvs vs xs ∧ Rps K G ks kvs ∧ Rps K G ts vs
  | t, v => Rp K G t v
theorem Rp1.of {K : PySem.W.Frag} {G H : Hp} {t : T} {v : V} (e : Ex G H) (h : Rp K G t v) : Rp1 K G H t v := by
  cases t with
  | lst ts => simp only [Rp] at h; obtain ⟨a, vs, q1, q2, q3⟩ := h; exact ⟨a, vs, q1, e _ _ q2, q3⟩
  | dk ks ts => simp only [Rp] at h; obtain ⟨a, vs, q1, q2, q3, q4⟩ := h; exact ⟨a, vs, q1, e _ _ q2, q3, q4⟩
  | dn w ks ts => simp only [Rp] at h; obtain ⟨a, xs, kvs, vs, q1, q2, q3, q4, q5⟩ := h; exact ⟨a, xs, kvs, vs, q1, e _ _ q2, q3, q4, q5⟩
  | _ => exact h
theorem Rp1.full {K : PySem.W.Frag} {G H : Hp} {t : T} {v : V} (e : Ex G H) (h : Rp1 K G H t v) : Rp K H t v := by
  cases t with
  | lst ts => obtain ⟨a, vs, q1, q2, q3⟩ := h; simp only [Rp]; exact ⟨a, vs, q1, q2, Rps.mono e q3⟩
  | dk ks ts => obtain ⟨a, vs, q1, q2, q3, q4⟩ := h; simp only [Rp]; exact ⟨a, vs, q1, q2, q3, Rps.mono e q4⟩
  | dn w ks ts => obtain ⟨a, xs, kvs, vs, q1, q2, q3, q4, q5⟩ := h; simp only [Rp]; exact ⟨a, xs, kvs, vs, q1, q2, q3, Rps.mono e q4, Rps.mono e q5⟩
  | _ => exact Rp.mono e h
theorem Rp1.tup {K : PySem.W.Frag} {G H : Hp} {ts : List T} {v : V} (h : Rp1 K G H (.tup ts) v) : ∃ a vs, v = .ref a ∧ G a = some (.tup vs) ∧ Rps K G ts vs := by
  have h : Rp K G (.tup ts) v := h
  simpa only [Rp] using h
theorem Rp1.ktp {K : PySem.W.Frag} {G H : Hp} {ts : List T} {v : V} (h : Rp1 K G H (.ktp ts) v) : ∃ a vs, v = .ref a ∧ SqT K G a vs ∧ Rps K G ts vs := by
  have h : Rp K G (.ktp ts) v := h
  simpa only [Rp] using h
/-- what is read of a value, nothing being frozen -/
def pk (st : List Ob) : U → Option T
  | .d t => some t
  | .own i => match st[i]? with
    | some (.frz t) => some t
    | some (.lst ts) => some (.lst ts)
    | some (.dk ks ts) => some (.dk ks ts)
    | some (.dn w ks ts) => some (.dn w ks ts)
    | _ => none
theorem pk_ok {K : PySem.W.Frag} {B G H : Hp} {st : List Ob} {α : List Addr} {u : U} {v : V} {t : T} (r : Rh K B st G α H) (h : RpU K G α u v) (e : pk st u = some t) : Rp1 K G H t v := by
  cases u with
  | d t' => simp only [pk, Option.some.injEq] at e; subst e; exact Rp1.of r.gh h
  | own i =>
    obtain ⟨a, ha, hv⟩ := h
    subst hv
    simp only [pk] at e
    cases e1 : st[i]? with
    | none => rw [e1] at e; cases e
    | some o =>
      rw [e1] at e
      obtain ⟨q1, q2, q3⟩ := r.ow i a o ha e1
      cases o with
      | frz t' => simp only [Option.some.injEq] at e; subst e; exact Rp1.of r.gh q3
      | lst ts => simp only [Option.some.injEq] at e; subst e; obtain ⟨z, vs, z1, z2⟩ := q3; exact ⟨a, vs, rfl, z1, z2⟩
      | dk ks ts => simp only [Option.some.injEq] at e; subst e; obtain ⟨z, vs, z1, z2, z3⟩ := q3; exact ⟨a, vs, rfl, z1, z2, z3⟩
      | dn w ks ts => simp only [Option.some.injEq] at e; subst e; obtain ⟨z, xs, kvs, vs, z1, z2, z3, z4⟩ := q3; exact ⟨a, xs, kvs, vs, rfl, z1, z2, z3, z4⟩
      | obj C ns us => cases e
      | tpo us => cases e
inductive O where
  | d (t : T) | l (ts : List T) | k (ks : List Key) (ts : List T)
def mO (o : Option O) (ρ : Sg) : R U := match o with
  | some (.d t) => .ok (.d t) ρ
  | some (.l ts) => .ok (.own ρ.st.length) ⟨ρ.sl, ρ.st ++ [.lst ts]⟩
  | some (.k ks ts) => .ok (.own ρ.st.length) ⟨ρ.sl, ρ.st ++ [.dk ks ts]⟩
  | none => .no
@[simp] theorem mO_d {t : T} {ρ : Sg} : mO (some (.d t)) ρ = .ok (.d t) ρ := rfl
@[simp] theorem mO_l {ts : List T} {ρ : Sg} : mO (some (.l ts)) ρ = .ok (.own ρ.st.length) ⟨ρ.sl, ρ.st ++ [.lst ts]⟩ := rfl
@[simp] theorem mO_n {ρ : Sg} : mO none ρ = .no := rfl
abbrev EndP (K : PySem.W.Frag) (Q : VK) : U → Sg → Hp → List Addr → Hp → Prop := fun u _ G' α' H' => ∀ v, RpU K G' α' u v → Q v H'
section
variable {K : PySem.W.Frag} {W : WX} {B G H : Hp} {α : List Addr} {σ : L2.St} {ρ : Sg} {Q : VK}
theorem fin_d {t : T} {v : V} (r : Rs K B ρ G α σ H) (h : okP K W B G α σ (mO (some (.d t)) ρ) (EndP K Q)) (hv : Rp K G t v) : Q v H := h G α H Gr.refl r v hv
theorem Rs.newD {p : Addr} {o : HO} (r : Rs K B ρ G α σ H) (hp : H p = none) : Rs K B ρ (L2.upd G p o) α σ (L2.upd H p o) ∧ Gr B G α (L2.upd G p o) α := by
  have g : Gr B G α (L2.upd G p o) α := Gr.new (r.bh.free hp) (r.gh.free hp)
  exact ⟨Rs.mk' r g (r.toRh.newD hp), g⟩
theorem fin_tup {ts : List T} {vs : List V} {p : Addr} (r : Rs K B ρ G α σ H) (h : okP K W B G α σ (mO (some (.d (.tup ts))) ρ) (EndP K Q)) (hv : Rps K G ts vs) (hp : H p = none) : Q (.ref p) (upd H p (.tup vs)) := by
  obtain ⟨r1, g⟩ := r.newD (o := .tup vs) hp
  refine h _ α _ g r1 _ ?_
  show Rp K _ (.tup ts) _
  simp only [Rp]
  exact ⟨p, vs, rfl, upd_same, Rps.mono g.ex hv⟩
theorem Rs.newL {ts : List T} {vs : List V} {p : Addr} (r : Rs K B ρ G α σ H) (hv : Rps K G ts vs) (hp : H p = none) : Rs K B ⟨ρ.sl, ρ.st ++ [.lst ts]⟩ G (α ++ [p]) σ (upd H p (.lst vs)) ∧ Gr B G α G (α ++ [p]) :=
  ⟨Rs.mk' r Gr.own (r.toRh.newO hp ⟨r.gh.free hp, vs, upd_same, hv⟩), Gr.own⟩
theorem own_last (r : Rh K B ρ.st G α H) {p : Addr} : RpU K G (α ++ [p]) (.own ρ.st.length) (.ref p) := ⟨p, by rw [← r.len]; simp, rfl⟩
theorem fin_lst {ts : List T} {vs : List V} {p : Addr} (r : Rs K B ρ G α σ H) (h : okP K W B G α σ (mO (some (.l ts)) ρ) (EndP K Q)) (hv : Rps K G ts vs) (hp : H p = none) : Q (.ref p) (upd H p (.lst vs)) := by
  obtain ⟨r1, g⟩ := r.newL hv hp
  exact h _ _ _ g r1 _ (own_last r.toRh)
end
/-- a two-place operation on data -/
def OpK (K : PySem.W.Frag) (r : R2) (f : T → T → Option O) : Prop := ∀ (W : WX) (B : Hp) (ρ : Sg) (G : Hp) (α : List Addr) (σ : L2.St) (H : Hp) (Q : VK) (x y : T) (v w : V),
  Rs K B ρ G α σ H → Rp1 K G H x v → Rp1 K G H y w → okP K W B G α σ (mO (f x y) ρ) (EndP K Q) → r v w H Q
def mOp (f : T → T → Option O) (ma mb : DE) : DE := fun ρ => (ma ρ).bind fun u ρ1 => (mb ρ1).bind fun w ρ2 => match pk ρ2.st u, pk ρ2.st w with
  | some x, some y => mO (f x y) ρ2
  | _, _ => .no
theorem tOp_of {K : PySem.W.Frag} {W : WX} {r : R2} {f : T → T → Option O} {ma mb : DE} (hr : OpK K r f) (σ : L2.St) (H : Hp) (Q : VK) (h : tE K W (mOp f ma mb) σ H Q) : tOp r (tE K W ma) (tE K W mb) σ H Q := by
  obtain ⟨B, ρ, G, α, rs, h⟩ := h
  refine bE rs h fun u ρ1 v H1 G1 α1 g1 r1 p1 h1 => ?_
  refine bE r1 h1 fun w ρ2 v2 H2 G2 α2 g2 r2 p2 h2 => ?_
  split at h2
  · rename_i x y e1 e2
    exact hr W B ρ2 G2 α2 σ H2 Q x y v v2 r2 (pk_ok r2.toRh (p1.mono g2) e1) (pk_ok r2.toRh p2 e2) h2
  · exact h2.elim
theorem OpK.or {K : PySem.W.Frag} {r r' : R2} {f f' : T → T → Option O} (h : OpK K r f) (h' : OpK K r' f') : OpK K (fun x y H Q => r x y H Q ∨ r' x y H Q) (fun x y => (f x y).or (f' x y)) := by
  intro W B ρ G α σ H Q x y v w rs p1 p2 q
  cases e : f x y with
  | some o => simp only [e, Option.some_or] at q; exact .inl (h W B ρ G α σ H Q x y v w rs p1 p2 (by rw [e]; exact q))
  | none => simp only [e, Option.none_or] at q; exact .inr (h' W B ρ G α σ H Q x y v w rs p1 p2 q)
/-- scalars -/
theorem opk_I {K : PySem.W.Frag} {C : Int → Int → Prop} [hC : ∀ i j, Decidable (C i j)] {g : Int → Int → V} {t : Int → Int → T} (ht : ∀ i j (G : Hp), Rp K G (t i j) (g i j)) :
    OpK K (rI C g) (fun x y => match x, y with | .int i, .int j => if C i j then some (.d (t i j)) else none | _, _ => none) := by
  intro W B ρ G α σ H Q x y v w rs p1 p2 q
  dsimp only at q
  split at q
  · rename_i i j
    split at q
    · rename_i hc
      refine ⟨i, j, ?_, ?_, hc, fin_d rs q (ht i j G)⟩
      · simpa [Rp1, Rp] using p1
      · simpa [Rp1, Rp] using p2
    · exact q.elim
  · exact q.elim
theorem opk_I0 {K : PySem.W.Frag} {g : Int → Int → V} {t : Int → Int → T} (ht : ∀ i j (G : Hp), Rp K G (t i j) (g i j)) :
    OpK K (rI0 g) (fun x y => match x, y with | .int i, .int j => some (.d (t i j)) | _, _ => none) := by
  intro W B ρ G α σ H Q x y v w rs p1 p2 q
  dsimp only at q
  split at q
  · rename_i i j
    refine ⟨i, j, ?_, ?_, fin_d rs q (ht i j G)⟩
    · simpa [Rp1, Rp] using p1
    · simpa [Rp1, Rp] using p2
  · exact q.elim
/-- + -/
def addF (x y : T) : Option O := match x, y with
  | .int i, .int j => some (.d (.int (i + j)))
  | .str a, .str b => if a.length + b.length ≤ sizeLine then some (.d (.str (a ++ b))) else none
  | .tup xs, .tup ys => if xs.length + ys.length ≤ sizeLine then some (.d (.tup (xs ++ ys))) else none
  | .ktp xs, .tup ys => if xs ≠ [] ∧ ys ≠ [] ∧ xs.length + ys.length ≤ sizeLine then some (.d (.tup (xs ++ ys))) else none
  | .ktp xs, .ktp ys => if xs ≠ [] ∧ ys ≠ [] ∧ xs.length + ys.length ≤ sizeLine then some (.d (.tup (xs ++ ys))) else none
  | .lst xs, .lst ys => if xs.length + ys.length ≤ sizeLine then some (.l (xs ++ ys)) else none
  | _, _ => none
def rAddV (K : PySem.W.Frag) : R2 := fun x y H Q => rI0 (fun i j => .int (i + j)) x y H Q ∨ (∃ i j, x = .str i ∧ y = .str j ∧ i.length + j.length ≤ sizeLine ∧ Q (.str (i ++ j)) H) ∨ rCatA K x y H Q ∨ rCat x y H Q
theorem addV_op {X : Cx} : OpR X (binaryOp .Add) (rAddV X.K) := op_add.or (op_add_str.or (op_catA.or op_cat))
theorem addV_ok {K : PySem.W.Frag} : OpK K (rAddV K) addF := by
  intro W B ρ G α σ H Q x y v w rs p1 p2 q
  unfold addF at q
  split at q
  · rename_i i j
    refine .inl ⟨i, j, by simpa [Rp1, Rp] using p1, by simpa [Rp1, Rp] using p2, fin_d rs q (by simp [Rp])⟩
  · rename_i i j
    split at q
    · rename_i hz
      refine .inr (.inl ⟨i, j, by simpa [Rp1, Rp] using p1, by simpa [Rp1, Rp] using p2, hz, fin_d rs q (by simp [Rp])⟩)
    · exact q.elim
  · rename_i xs ys
    split at q
    · rename_i hz
      have p1' := p1; have p2' := p2
      obtain ⟨a, vs, rfl, q2, q3⟩ := p1.tup
      obtain ⟨b, ws, rfl, z2, z3⟩ := p2.tup
      refine .inr (.inr (.inl ⟨a, b, vs, ws, rfl, rfl, SqT.of (rs.gh _ _ q2), SqT.of (rs.gh _ _ z2), by rw [← q3.length, ← z3.length]; exact hz, fun e => ?_, fun _ e => ?_, fun _ _ p hp => fin_tup rs q (q3.append z3) hp⟩))
      · subst e
        have : xs = [] := List.length_eq_zero_iff.mp q3.length
        subst this
        exact fin_d rs q p2'
      · subst e
        have : ys = [] := List.length_eq_zero_iff.mp z3.length
        subst this
        rw [List.append_nil] at q
        exact fin_d rs q p1'
    · exact q.elim
  · rename_i xs ys
    split at q
    · rename_i hz
      obtain ⟨hx, hy, hz⟩ := hz
      obtain ⟨a, vs, rfl, q2, q3⟩ := p1.ktp
      obtain ⟨b, ws, rfl, z2, z3⟩ := p2.tup
      refine .inr (.inr (.inl ⟨a, b, vs, ws, rfl, rfl, rs.gh.t q2, SqT.of (rs.gh _ _ z2), by rw [← q3.length, ← z3.length]; exact hz, fun e => ?_, fun _ e => ?_, fun _ _ p hp => fin_tup rs q (q3.append z3) hp⟩))
      · subst e; exact absurd (List.length_eq_zero_iff.mp q3.length) hx
      · subst e; exact absurd (List.length_eq_zero_iff.mp z3.length) hy
    · exact q.elim
  · rename_i xs ys
    split at q
    · rename_i hz
      obtain ⟨hx, hy, hz⟩ := hz
      obtain ⟨a, vs, rfl, q2, q3⟩ := p1.ktp
      obtain ⟨b, ws, rfl, z2, z3⟩ := p2.ktp
      refine .inr (.inr (.inl ⟨a, b, vs, ws, rfl, rfl, rs.gh.t q2, rs.gh.t z2, by rw [← q3.length, ← z3.length]; exact hz, fun e => ?_, fun _ e => ?_, fun _ _ p hp => fin_tup rs q (q3.append z3) hp⟩))
      · subst e; exact absurd (List.length_eq_zero_iff.mp q3.length) hx
      · subst e; exact absurd (List.length_eq_zero_iff.mp z3.length) hy
    · exact q.elim
  · rename_i xs ys
    split at q
    · rename_i hz
      obtain ⟨a, vs, rfl, q2, q3⟩ := p1
      obtain ⟨b, ws, rfl, z2, z3⟩ := p2
      exact .inr (.inr (.inr ⟨a, b, vs, ws, rfl, rfl, q2, z2, by rw [← q3.length, ← z3.length]; exact hz, fun p hp => fin_lst rs q (q3.append z3) hp⟩))
    · exact q.elim
  · exact q.elim
end FL
namespace FL
open PySem L2
variable [TabPar]
section
variable {X : Cx} {W : WX} {e a b c : Expr} {es : List Expr} {ma mb mc : DE} {da : DA} {pos : Pos} {K : PySem.W.Frag}
def aNil : DA := fun ρ => .ok [] ρ
def aCons (m : DE) (n : DA) : DA := fun ρ => (m ρ).bind fun u ρ1 => (n ρ1).bind fun us ρ2 => .ok (u :: us) ρ2
theorem fa_nil : SA X W [] aNil := pa_weak pa_nil fun σ H Q ⟨B, ρ, G, α, r, h⟩ => h G α H Gr.refl r [] rfl
theorem fa_cons (h : SE X W e ma) (g : SA X W es da) (hs : starEach (e :: es) X.env = (false, eval e X.env) :: starEach es X.env := by rfl) : SA X W (e :: es) (aCons ma da) := pa_weak (pa_cons h g hs) fun σ H Q ⟨B, ρ, G, α, r, h⟩ =>
  bE r h fun u ρ1 v H1 G1 α1 g1 r1 p1 h1 => bA r1 h1 fun us ρ2 vs H2 G2 α2 g2 r2 p2 h2 => h2 G2 α2 H2 Gr.refl r2 _ ⟨v, vs, rfl, p1.mono g2, p2⟩
def mTup (da : DA) : DE := fun ρ => (da ρ).bind fun us ρ1 => match toDs (toD 4) us ρ1.st with
  | some (ts, st) => if ts.length ≤ sizeLine then .ok (.d (.tup ts)) ⟨ρ1.sl, st⟩ else .no
  | none => .no
def mLst (da : DA) : DE := fun ρ => (da ρ).bind fun us ρ1 => match toDs (toD 4) us ρ1.st with
  | some (ts, st) => if ts.length ≤ sizeLine then .ok (.own st.length) ⟨ρ1.sl, st ++ [.lst ts]⟩ else .no
  | none => .no
theorem fe_tup {x1} (h : SA X W es da) : SE X W (.Tuple es x1 pos) (mTup da) := pe_weak (pe_tup h) fun σ H Q ⟨B, ρ, G, α, r, h⟩ =>
  bA r h fun us ρ1 vs H1 G1 α1 g1 r1 p1 h1 => by
    split at h1
    · rename_i ts st e1
      obtain ⟨G2, g2, r2, p2⟩ := toDs_ok (toD_ok 4) r1.toRh p1 e1
      split at h1
      · rename_i hz
        refine ⟨by rw [← p2.length]; exact hz, fun p hp => ?_⟩
        have r2' : Rs X.K B ⟨ρ1.sl, st⟩ G2 α1 σ H1 := Rs.mk' r1 g2 r2
        exact fin_tup (ts := ts) r2' (okP.shift g2 h1) p2 hp
      · exact h1.elim
    · exact h1.elim
theorem fe_lst (h : SA X W es da) : SE X W (.List es pos) (mLst da) := pe_weak (pe_lst h) fun σ H Q ⟨B, ρ, G, α, r, h⟩ =>
  bA r h fun us ρ1 vs H1 G1 α1 g1 r1 p1 h1 => by
    split at h1
    · rename_i ts st e1
      obtain ⟨G2, g2, r2, p2⟩ := toDs_ok (toD_ok 4) r1.toRh p1 e1
      split at h1
      · rename_i hz
        refine ⟨by rw [← p2.length]; exact hz, fun p hp => ?_⟩
        have r2' : Rs X.K B ⟨ρ1.sl, st⟩ G2 α1 σ H1 := Rs.mk' r1 g2 r2
        exact fin_lst (ts := ts) r2' (okP.shift g2 h1) p2 hp
      · exact h1.elim
    · exact h1.elim
theorem fe_bin {op : Operator} {r : R2} {f : T → T → Option O} (ho : OpR X (binaryOp op) r) (hf : OpK X.K r f) (h : SE X W a ma) (g : SE X W b mb) : SE X W (.BinOp a op b pos) (mOp f ma mb) := pe_weak (pe_op ho h g) (tOp_of hf)
theorem fe_cmp {op : CmpOp} {r : R2} {f : T → T → Option O} (ho : OpR X (compareOp op) r) (hf : OpK X.K r f) (h : SE X W a ma) (g : SE X W b mb) (hm : behindInMarks op b = false := by first | exact nobehind _ (by decide) (by decide) | rfl) : SE X W (.Compare a [op] [b] pos) (mOp f ma mb) := pe_weak (pe_cmpR ho h g hm) (tOp_of hf)
def mTOp (f : T → T → Option O) (ma mb : DE) : DT := mTest (mOp f ma mb)
theorem ft_cmp {op : CmpOp} {r : R2} {f : T → T → Option O} (ho : OpR X (compareOp op) r) (hf : OpK X.K r f) (h : SE X W a ma) (g : SE X W b mb) (hm : behindInMarks op b = false := by first | exact nobehind _ (by decide) (by decide) | rfl) : ST X W (.Compare a [op] [b] pos) (mTOp f ma mb) :=
  pt_weak (pt_cmpR ho h g hm) fun σ H Q h => tOp_of hf σ H _ (tTest_of h)
theorem fe_ix {r : R2} {f : T → T → Option O} (ho : IxR X r) (hf : OpK X.K r f) (h : SE X W a ma) (g : SE X W b mb) (hs : PlainIx b := by exact fun _ _ => rfl) : SE X W (.Subscript a b pos) (mOp f ma mb) := pe_weak (pe_ix ho h g hs) (tOp_of hf)
theorem fe_add (h : SE X W a ma) (g : SE X W b mb) : SE X W (.BinOp a .Add b pos) (mOp addF ma mb) := fe_bin addV_op addV_ok h g
def subF (x y : T) : Option O := match x, y with | .int i, .int j => some (.d (.int (i - j))) | _, _ => none
theorem fe_sub (h : SE X W a ma) (g : SE X W b mb) : SE X W (.BinOp a .Sub b pos) (mOp subF ma mb) := fe_bin op_sub (opk_I0 (t := fun i j => .int (i - j)) fun _ _ _ => by simp [Rp]) h g
instance : ∀ i j, Decidable (CMul i j) := fun i j => by unfold CMul; infer_instance
instance : ∀ i j, Decidable (CDivN i j) := fun i j => by unfold CDivN; infer_instance
instance : ∀ i j, Decidable (CPow i j) := fun i j => by unfold CPow; infer_instance
def mulF (x y : T) : Option O := match x, y with | .int i, .int j => if CMul i j then some (.d (.int (i * j))) else none | _, _ => none
theorem fe_mul (h : SE X W a ma) (g : SE X W b mb) : SE X W (.BinOp a .Mult b pos) (mOp mulF ma mb) := fe_bin op_mul (opk_I (t := fun i j => .int (i * j)) fun _ _ _ => by simp [Rp]) h g
def divF (x y : T) : Option O := match x, y with | .int i, .int j => if CDivN i j then some (.d (.int (i.fdiv j))) else none | _, _ => none
theorem fe_div (h : SE X W a ma) (g : SE X W b mb) : SE X W (.BinOp a .FloorDiv b pos) (mOp divF ma mb) := fe_bin op_fdivN (opk_I (t := fun i j => .int (i.fdiv j)) fun _ _ _ => by simp [Rp]) h g
def modF (x y : T) : Option O := match x, y with | .int i, .int j => if j ≠ 0 then some (.d (.int (i.fmod j))) else none | _, _ => none
theorem fe_mod (h : SE X W a ma) (g : SE X W b mb) : SE X W (.BinOp a .Mod b pos) (mOp modF ma mb) := fe_bin op_modN (opk_I (C := fun _ j => j ≠ 0) (t := fun i j => .int (i.fmod j)) fun _ _ _ => by simp [Rp]) h g
def powF (x y : T) : Option O := match x, y with | .int i, .int j => if CPow i j then some (.d (.int (i ^ j.toNat))) else none | _, _ => none
theorem fe_pow (h : SE X W a ma) (g : SE X W b mb) : SE X W (.BinOp a .Pow b pos) (mOp powF ma mb) := fe_bin op_pow (opk_I (t := fun i j => .int (i ^ j.toNat)) fun _ _ _ => by simp [Rp]) h g
def iiF (p : Int → Int → Bool) (x y : T) : Option O := match x, y with | .int i, .int j => some (.d (.bl (p i j))) | _, _ => none
theorem ii_ok {p : Int → Int → Bool} : OpK K (rI0 fun i j => .bl (p i j)) (iiF p) := opk_I0 (t := fun i j => .bl (p i j)) fun _ _ _ => by simp [Rp]
abbrev ltF := iiF fun i j => decide (i < j)
abbrev gtF := iiF fun i j => decide (j < i)
abbrev geF := iiF fun i j => decide (j ≤ i)
theorem ft_lt (h : SE X W a ma) (g : SE X W b mb) : ST X W (.Compare a [.Lt] [b] pos) (mTOp ltF ma mb) := ft_cmp op_lt ii_ok h g
theorem ft_gt (h : SE X W a ma) (g : SE X W b mb) : ST X W (.Compare a [.Gt] [b] pos) (mTOp gtF ma mb) := ft_cmp op_gt ii_ok h g
theorem ft_ge (h : SE X W a ma) (g : SE X W b mb) : ST X W (.Compare a [.GtE] [b] pos) (mTOp geF ma mb) := ft_cmp op_ge ii_ok h g
mutual
def T.py : T → Option PyData
  | .non => some .none
  | .bl b => some (.bool b)
  | .int i => some (.int i)
  | .str x => some (.str x)
  | .tup ts => (T.pys ts).map .tuple
  | .ktp ts => (T.pys ts).map .tuple
  | .lst ts => (T.pys ts).map .list
  | .frl ts => (T.pys ts).map .list
  | _ => none
def T.pys : List T → Option (List PyData)
  | [] => some []
  | t :: ts => match T.py t, T.pys ts with
    | some d, some ds => some (d :: ds)
    | _, _ => none
end
mutual
theorem dp_of {H : Hp} : ∀ {t : T} {v : V} {d : PyData}, Rp K H t v → t.py = some d → Dp K H v d
  | .non, v, d, h, e => by simp only [Rp] at h; simp only [T.py, Option.some.injEq] at e; subst h; subst e; exact .non
  | .bl b, v, d, h, e => by simp only [Rp] at h; simp only [T.py, Option.some.injEq] at e; subst h; subst e; exact .bl b
  | .int b, v, d, h, e => by simp only [Rp] at h; simp only [T.py, Option.some.injEq] at e; subst h; subst e; exact .int b
  | .str b, v, d, h, e => by simp only [Rp] at h; simp only [T.py, Option.some.injEq] at e; subst h; subst e; exact .str b
  | .tup ts, v, d, h, e => by
    simp only [Rp] at h; obtain ⟨a, vs, rfl, q2, q3⟩ := h
    simp only [T.py, Option.map_eq_some_iff] at e; obtain ⟨ds, e1, rfl⟩ := e
    exact .tup (SqT.of q2) (dps_of q3 e1)
  | .ktp ts, v, d, h, e => by
    simp only [Rp] at h; obtain ⟨a, vs, rfl, q2, q3⟩ := h
    simp only [T.py, Option.map_eq_some_iff] at e; obtain ⟨ds, e1, rfl⟩ := e
    exact .tup q2 (dps_of q3 e1)
  | .lst ts, v, d, h, e => by
    simp only [Rp] at h; obtain ⟨a, vs, rfl, q2, q3⟩ := h
    simp only [T.py, Option.map_eq_some_iff] at e; obtain ⟨ds, e1, rfl⟩ := e
    exact .lst (SqL.of q2) (dps_of q3 e1)
  | .frl ts, v, d, h, e => by
    simp only [Rp] at h; obtain ⟨a, vs, rfl, q2, q3⟩ := h
    simp only [T.py, Option.map_eq_some_iff] at e; obtain ⟨ds, e1, rfl⟩ := e
    exact .lst q2 (dps_of q3 e1)
  | .dk _ _, v, d, h, e => by simp [T.py] at e
  | .dt _ _, v, d, h, e => by simp [T.py] at e
  | .dn _ _ _, v, d, h, e => by simp [T.py] at e
  | .obj _ _ _, v, d, h, e => by simp [T.py] at e
theorem dps_of {H : Hp} : ∀ {ts : List T} {vs : List V} {ds : List PyData}, Rps K H ts vs → T.pys ts = some ds → DpAll K H vs ds
  | [], vs, ds, h, e => by simp only [Rps] at h; simp only [T.pys, Option.some.injEq] at e; subst h; subst e; exact .nil
  | t :: ts, vs, ds, h, e => by
    simp only [Rps] at h; obtain ⟨v, ws, rfl, q2, q3⟩ := h
    simp only [T.pys] at e
    split at e
    · rename_i d ds' e1 e2
      simp only [Option.some.injEq] at e; subst e
      exact .cons (dp_of q2 e1) (dps_of q3 e2)
    · cases e
end
/-- scalars compare as they are -/
def scT : T → T → Option Bool
  | .non, .non => some true | .non, .int _ => some false | .int _, .non => some false | .non, .bl _ => some false | .bl _, .non => some false | .non, .str _ => some false | .str _, .non => some false
  | .int i, .int j => some (decide (i = j)) | .bl i, .bl j => some (decide (i = j)) | .str i, .str j => some (decide (i = j))
  | .int _, .str _ => some false | .str _, .int _ => some false | .bl _, .str _ => some false | .str _, .bl _ => some false
  | _, _ => none
theorem scT_ok {G H : Hp} {x y : T} {v w : V} {b : Bool} (h : Rp1 K G H x v) (g : Rp1 K G H y w) (e : scT x y = some b) : scal v w = true ∧ decide (v = w) = b := by
  cases x <;> cases y <;> first
    | (simp only [scT, reduceCtorEq] at e; done)
    | (simp only [scT, Option.some.injEq] at e
       subst e
       simp only [Rp1, Rp] at h g
       subst h; subst g
       exact ⟨rfl, by simp⟩)
def eqB (x y : T) : Option Bool := match scT x y with
  | some b => some b
  | none => match x.py, y.py with
    | some d, some e => if SeqAt.shaped d = true ∧ SeqAt.shaped e = true then some (PyData.eqv d e) else none
    | _, _ => none
def eqF (x y : T) : Option O := (eqB x y).map fun b => .d (.bl b)
def neF (x y : T) : Option O := (eqB x y).map fun b => .d (.bl (!b))
def rEqA (K : PySem.W.Frag) : R2 := fun x y H Q => rEq x y H Q ∨ rEqD K x y H Q
def rNeA (K : PySem.W.Frag) : R2 := fun x y H Q => rNe x y H Q ∨ rNeD K x y H Q
theorem eqA_ok : OpK K (rEqA K) eqF := by
  intro W B ρ G α σ H Q x y v w rs p1 p2 q
  unfold eqF eqB at q
  cases e : scT x y with
  | some b =>
    rw [e] at q
    obtain ⟨h1, h2⟩ := scT_ok p1 p2 e
    exact .inl ⟨h1, by rw [h2]; exact fin_d rs q (by simp [Rp])⟩
  | none =>
    rw [e] at q
    dsimp only at q
    split at q
    · rename_i d d' e1 e2
      split at q
      · rename_i hs
        exact .inr ⟨d, d', dp_of (p1.full rs.gh) e1, dp_of (p2.full rs.gh) e2, hs.1, hs.2, fin_d rs q (by simp [Rp])⟩
      · exact q.elim
    · exact q.elim
theorem neA_ok : OpK K (rNeA K) neF := by
  intro W B ρ G α σ H Q x y v w rs p1 p2 q
  unfold neF eqB at q
  cases e : scT x y with
  | some b =>
    rw [e] at q
    obtain ⟨h1, h2⟩ := scT_ok p1 p2 e
    exact .inl ⟨h1, by rw [h2]; exact fin_d rs q (by simp [Rp])⟩
  | none =>
    rw [e] at q
    dsimp only at q
    split at q
    · rename_i d d' e1 e2
      split at q
      · rename_i hs
        exact .inr ⟨d, d', dp_of (p1.full rs.gh) e1, dp_of (p2.full rs.gh) e2, hs.1, hs.2, fin_d rs q (by simp [Rp])⟩
      · exact q.elim
    · exact q.elim
theorem fe_eq (hu : X.A.units + 64 < cLine) (h : SE X W a ma) (g : SE X W b mb) : SE X W (.Compare a [.Eq] [b] pos) (mOp eqF ma mb) := fe_cmp (op_eq.or (op_eqD hu)) eqA_ok h g
theorem ft_eq (hu : X.A.units + 64 < cLine) (h : SE X W a ma) (g : SE X W b mb) : ST X W (.Compare a [.Eq] [b] pos) (mTOp eqF ma mb) := ft_cmp (op_eq.or (op_eqD hu)) eqA_ok h g
theorem ft_ne (hu : X.A.units + 64 < cLine) (h : SE X W a ma) (g : SE X W b mb) : ST X W (.Compare a [.NotEq] [b] pos) (mTOp neF ma mb) := ft_cmp (op_ne.or (op_neD hu)) neA_ok h g
end
end FL
namespace FL
open PySem L2
variable [TabPar]
section
variable {X : Cx} {W : WX} {e a b c : Expr} {es : List Expr} {ma mb mc : DE} {da : DA} {pos : Pos} {K : PySem.W.Frag}
/-- flat data as values -/
def fv : T → Option V
  | .non => some .non | .bl b => some (.bl b) | .int i => some (.int i) | .str x => some (.str x) | _ => none
def fvs : List T → Option (List V)
  | [] => some []
  | t :: ts => match fv t, fvs ts with
    | some v, some vs => some (v :: vs)
    | _, _ => none
theorem fv_ok {G : Hp} {t : T} {v w : V} (h : Rp K G t v) (e : fv t = some w) : v = w ∧ flatV w = true := by
  cases t <;> simp only [fv, reduceCtorEq, Option.some.injEq] at e <;> (subst e; simp only [Rp] at h; subst h; exact ⟨rfl, rfl⟩)
theorem fvs_ok {G : Hp} : ∀ {ts : List T} {vs ws : List V}, Rps K G ts vs → fvs ts = some ws → vs = ws ∧ ws.all flatV = true
  | [], vs, ws, h, e => by simp only [fvs, Option.some.injEq] at e; simp only [Rps] at h; subst h; subst e; exact ⟨rfl, rfl⟩
  | t :: ts, vs, ws, h, e => by
    simp only [Rps] at h; obtain ⟨v, us, rfl, q2, q3⟩ := h
    simp only [fvs] at e
    split at e
    · rename_i v' vs' e1 e2
      simp only [Option.some.injEq] at e; subst e
      obtain ⟨h1, h2⟩ := fv_ok q2 e1
      obtain ⟨h3, h4⟩ := fvs_ok q3 e2
      subst h1; subst h3
      exact ⟨rfl, by rw [List.all_cons, h2, h4]; rfl⟩
    · cases e
/-- the items of a list or tuple -/
def itm : T → Option (List T)
  | .tup ts => some ts | .ktp ts => some ts | .lst ts => some ts | .frl ts => some ts | _ => none
theorem itm_ok {G H : Hp} {t : T} {v : V} {ts : List T} (g : Ex G H) (h : Rp1 K G H t v) (e : itm t = some ts) : ∃ a vs, v = .ref a ∧ (SqL K H a vs ∨ SqT K H a vs) ∧ Rps K G ts vs := by
  cases t <;> simp only [itm, reduceCtorEq, Option.some.injEq] at e <;> subst e
  · obtain ⟨a, vs, rfl, h1, h2⟩ := h.tup; exact ⟨a, vs, rfl, .inr (SqT.of (g _ _ h1)), h2⟩
  · obtain ⟨a, vs, rfl, h1, h2⟩ := h.ktp; exact ⟨a, vs, rfl, .inr (g.t h1), h2⟩
  · obtain ⟨a, vs, rfl, h1, h2⟩ := h; exact ⟨a, vs, rfl, .inl (SqL.of h1), h2⟩
  · rename_i ts
    have h : Rp K G (.frl ts) v := h
    simp only [Rp] at h; obtain ⟨a, vs, rfl, h1, h2⟩ := h; exact ⟨a, vs, rfl, .inl (g.l h1), h2⟩
def inF (neg : Bool) (x y : T) : Option O := match fv x, (itm y).bind fvs with
  | some v, some ws => some (.d (.bl (if neg then !inV v ws else inV v ws)))
  | _, _ => none
theorem in_ok {neg : Bool} : OpK K (rIn K neg) (inF neg) := by
  intro W B ρ G α σ H Q x y v w rs p1 p2 q
  unfold inF at q
  split at q
  · rename_i v' ws e1 e2
    obtain ⟨ts, e3, e4⟩ := Option.bind_eq_some_iff.mp e2
    obtain ⟨a, vs, rfl, h1, h2⟩ := itm_ok rs.gh p2 e3
    obtain ⟨h3, h4⟩ := fvs_ok h2 e4
    subst h3
    obtain ⟨h5, h6⟩ := fv_ok (p1.full rs.gh) e1
    subst h5
    exact ⟨a, vs, rfl, h1, h6, h4, fin_d rs q (by simp [Rp])⟩
  · exact q.elim
theorem fe_in (h : SE X W a ma) (g : SE X W b mb) (hm : behindInMarks .In b = false := by rfl) : SE X W (.Compare a [.In] [b] pos) (mOp (inF false) ma mb) := fe_cmp op_in_seq in_ok h g hm
theorem ft_in (h : SE X W a ma) (g : SE X W b mb) (hm : behindInMarks .In b = false := by rfl) : ST X W (.Compare a [.In] [b] pos) (mTOp (inF false) ma mb) := ft_cmp op_in_seq in_ok h g hm
def ixF (x y : T) : Option O := match y with
  | .int i => match x with
    | .str z => if z.length ≤ sizeLine then (atI z.cps.toList i).map fun c => .d (.str ⟨#[c]⟩) else none
    | x => (itm x).bind fun ts => (atI ts i).map .d
  | _ => none
theorem atI_rp {G : Hp} {ts : List T} {vs : List V} {i : Int} {t : T} (h : Rps K G ts vs) (e : atI ts i = some t) : ∃ v, atI vs i = some v ∧ Rp K G t v := by
  unfold atI at e ⊢
  rw [← h.length]
  obtain ⟨j, e1, e2⟩ := Option.bind_eq_some_iff.mp e
  obtain ⟨v, e3, e4⟩ := h.get e2
  exact ⟨v, by rw [e1]; exact e3, e4⟩
theorem ix_ok : OpK K (rIx K) ixF := by
  intro W B ρ G α σ H Q x y v w rs p1 p2 q
  unfold ixF at q
  split at q
  · rename_i i
    have hw : w = .int i := by simpa [Rp1, Rp] using p2
    subst hw
    split at q
    · rename_i z
      split at q
      · rename_i hz
        have hv : v = .str z := by simpa [Rp1, Rp] using p1
        subst hv
        cases e : atI z.cps.toList i with
        | none => rw [e] at q; exact q.elim
        | some c => rw [e] at q; exact .inr (.inr ⟨z, i, c, rfl, rfl, hz, e, fin_d rs q (by simp [Rp])⟩)
      · exact q.elim
    · cases e : itm x with
      | none => rw [e] at q; exact q.elim
      | some ts =>
        rw [e] at q
        obtain ⟨a, vs, rfl, h1, h2⟩ := itm_ok rs.gh p1 e
        cases e1 : atI ts i with
        | none => rw [Option.bind_some, e1] at q; exact q.elim
        | some t =>
          rw [Option.bind_some, e1] at q
          obtain ⟨u, h3, h4⟩ := atI_rp h2 e1
          rcases h1 with h1 | h1
          · exact .inl ⟨a, vs, i, u, rfl, rfl, h1, h3, fin_d rs q h4⟩
          · exact .inr (.inl ⟨a, vs, i, u, rfl, rfl, h1, h3, fin_d rs q h4⟩)
  · exact q.elim
abbrev DO := Sg → R (Option Int)
def tO (K : PySem.W.Frag) (W : WX) (m : DO) : TO := fun σ H Q => ∃ B ρ G α, Rs K B ρ G α σ H ∧ okP K W B G α σ (m ρ) fun o _ _ _ H' => Q o H'
def mPN : DO := fun ρ => .ok none ρ
def mPS (m : DE) : DO := fun ρ => (m ρ).bind fun u ρ1 => match u with
  | .d (.int i) => .ok (some i) ρ1
  | _ => .no
abbrev SO (X : Cx) (W : WX) (e : Option Expr) (m : DO) : Prop := PO X e (tO X.K W m)
theorem po_weak {e : Option Expr} {t t' : TO} (h : PO X e t) (w : ∀ σ H Q, t' σ H Q → t σ H Q) : PO X e t' := ⟨fun pins s σ H Q I q => h.run pins s σ H Q I (w σ H Q q)⟩
theorem fo_none : SO X W none mPN := po_weak po_none fun σ H Q ⟨B, ρ, G, α, r, h⟩ => h G α H Gr.refl r
theorem fo_some (h : SE X W a ma) : SO X W (some a) (mPS ma) := po_weak (po_some h) fun σ H Q ⟨B, ρ, G, α, r, h⟩ => bE r h fun u ρ1 v H1 G1 α1 g1 r1 p1 h1 => by
  split at h1
  · rename_i i
    exact ⟨i, by simpa [RpU, Rp] using p1, h1 G1 α1 H1 Gr.refl r1⟩
  · exact h1.elim
theorem bO {W : WX} {B G H : Hp} {α : List Addr} {σ : L2.St} {ρ : Sg} {β : Type} {P : β → Sg → Hp → List Addr → Hp → Prop} {m : DO} {k : Option Int → Sg → R β} {Q : Option Int → Hp → Prop} (r : Rs K B ρ G α σ H) (h : okP K W B G α σ ((m ρ).bind k) P)
    (hk : ∀ b ρ1 H1 G1 α1, Gr B G α G1 α1 → Rs K B ρ1 G1 α1 σ H1 → okP K W B G1 α1 σ (k b ρ1) P → Q b H1) : tO K W m σ H Q := by
  refine ⟨B, ρ, G, α, r, ?_⟩
  cases e : m ρ with
  | ok u ρ1 => rw [e] at h; exact fun G1 α1 H1 g r1 => hk u ρ1 H1 G1 α1 g r1 (okP.shift g h)
  | ex x ρ1 => rw [e] at h; exact h
  | no => rw [e] at h; exact h
def cutT (xs : List T) (lo hi : Option Int) : List T := (xs.drop (HT.sIx xs.length 0 lo)).take (HT.sIx xs.length xs.length hi - HT.sIx xs.length 0 lo)
theorem cut_rp {G : Hp} {ts : List T} {vs : List V} (h : Rps K G ts vs) (lo hi : Option Int) : Rps K G (cutT ts lo hi) (cutV vs lo hi) := by
  unfold cutT cutV
  rw [← h.length]
  exact (h.drop _).take _
theorem cut_all {ts : List T} {lo hi : Option Int} (h : HT.sIx ts.length 0 lo = 0 ∧ HT.sIx ts.length ts.length hi = ts.length) : cutT ts lo hi = ts := by
  unfold cutT
  rw [h.1, h.2]; simp
def slF (x : T) (lo hi : Option Int) : Option O := match x with
  | .tup ts => some (.d (.tup (cutT ts lo hi)))
  | .ktp ts => if HT.sIx ts.length 0 lo = 0 ∧ HT.sIx ts.length ts.length hi = ts.length then some (.d (.ktp ts)) else some (.d (.tup (cutT ts lo hi)))
  | .lst ts => some (.l (cutT ts lo hi))
  | .frl ts => some (.l (cutT ts lo hi))
  | .str z => if z.length ≤ sizeLine then some (.d (.str (cutS z lo hi))) else none
  | _ => none
def rSl (K : PySem.W.Frag) : V → Option Int → Option Int → Hp → VK → Prop := fun x lo hi H Q => rSlA K x lo hi H Q ∨ rSlL K x lo hi H Q ∨ rSlS x lo hi H Q
theorem sl_any : SlR X (rSl X.K) := sl_tupA.or (sl_list.or sl_str)
def mSl (m : DE) (l h : DO) : DE := fun ρ => (m ρ).bind fun u ρ1 => (l ρ1).bind fun lo ρ2 => (h ρ2).bind fun hi ρ3 => match pk ρ3.st u with
  | some x => mO (slF x lo hi) ρ3
  | none => .no
theorem sl_ok {W : WX} {B G H : Hp} {α : List Addr} {σ : L2.St} {ρ : Sg} {Q : VK} {x : T} {v : V} {lo hi : Option Int} (rs : Rs K B ρ G α σ H) (p1 : Rp1 K G H x v) (q : okP K W B G α σ (mO (slF x lo hi) ρ) (EndP K Q)) : rSl K v lo hi H Q := by
  unfold slF at q
  split at q
  · rename_i ts
    have p0 := p1
    obtain ⟨a, vs, rfl, h1, h2⟩ := p1.tup
    refine .inl ⟨a, vs, rfl, SqT.of (rs.gh _ _ h1), fun hw => ?_, fun _ p hp => fin_tup rs q (cut_rp h2 lo hi) hp⟩
    rw [cut_all (by rw [h2.length]; exact hw)] at q
    exact fin_d rs q p0
  · rename_i ts
    have p0 := p1
    obtain ⟨a, vs, rfl, h1, h2⟩ := p1.ktp
    refine .inl ⟨a, vs, rfl, rs.gh.t h1, fun hw => ?_, fun hw p hp => ?_⟩
    · rw [if_pos (by rw [h2.length]; exact hw)] at q
      exact fin_d rs q p0
    · rw [if_neg (by rw [h2.length]; exact hw)] at q
      exact fin_tup rs q (cut_rp h2 lo hi) hp
  · obtain ⟨a, vs, rfl, h1, h2⟩ := p1
    exact .inr (.inl ⟨a, vs, rfl, SqL.of h1, fun p hp => fin_lst rs q (cut_rp h2 lo hi) hp⟩)
  · rename_i ts
    have p1 : Rp K G (.frl ts) v := p1
    simp only [Rp] at p1
    obtain ⟨a, vs, rfl, h1, h2⟩ := p1
    exact .inr (.inl ⟨a, vs, rfl, rs.gh.l h1, fun p hp => fin_lst rs q (cut_rp h2 lo hi) hp⟩)
  · rename_i z
    split at q
    · rename_i hz
      have hv : v = .str z := by simpa [Rp1, Rp] using p1
      subst hv
      exact .inr (.inr ⟨z, rfl, hz, fin_d rs q (by simp [Rp])⟩)
    · exact q.elim
  · exact q.elim
theorem fe_slice {lo hi : Option Expr} {ml mh : DO} {p2 : Pos} (h : SE X W a ma) (hl : SO X W lo ml) (hh : SO X W hi mh) : SE X W (.Subscript a (.Slice lo hi none p2) pos) (mSl ma ml mh) := pe_weak (pe_slice sl_any h hl hh) fun σ H Q ⟨B, ρ, G, α, r, h⟩ =>
  bE r h fun u ρ1 v H1 G1 α1 g1 r1 p1 h1 => bO r1 h1 fun lo ρ2 H2 G2 α2 g2 r2 h2 => bO r2 h2 fun hi ρ3 H3 G3 α3 g3 r3 h3 => by
    split at h3
    · rename_i x e
      exact sl_ok r3 (pk_ok r3.toRh (p1.mono (g2.trans g3)) e) h3
    · exact h3.elim
def pks (st : List Ob) : List U → Option (List T)
  | [] => some []
  | u :: us => match pk st u, pks st us with
    | some t, some ts => some (t :: ts)
    | _, _ => none
def Rp1s (K : PySem.W.Frag) (G H : Hp) : List T → List V → Prop
  | [], vs => vs = []
  | t :: ts, vs => ∃ v ws, vs = v :: ws ∧ Rp1 K G H t v ∧ Rp1s K G H ts ws
theorem pks_ok {B G H : Hp} {st : List Ob} {α : List Addr} (r : Rh K B st G α H) : ∀ {us : List U} {vs : List V} {ts : List T}, RpUs K G α us vs → pks st us = some ts → Rp1s K G H ts vs
  | [], vs, ts, h, e => by simp only [pks, Option.some.injEq] at e; subst e; exact h
  | u :: us, vs, ts, ⟨v, ws, q1, q2, q3⟩, e => by
    simp only [pks] at e
    split at e
    · rename_i t ts' e1 e2
      simp only [Option.some.injEq] at e; subst e
      exact ⟨v, ws, q1, pk_ok r q2 e1, pks_ok r q3 e2⟩
    · cases e
def CaK (K : PySem.W.Frag) (r : List V → Hp → VK → Prop) (f : List T → Option O) : Prop := ∀ (W : WX) (B : Hp) (ρ : Sg) (G : Hp) (α : List Addr) (σ : L2.St) (H : Hp) (Q : VK) (xs : List T) (vs : List V),
  Rs K B ρ G α σ H → Rp1s K G H xs vs → okP K W B G α σ (mO (f xs) ρ) (EndP K Q) → r vs H Q
def mCa (f : List T → Option O) (da : DA) : DE := fun ρ => (da ρ).bind fun us ρ1 => match pks ρ1.st us with
  | some ts => mO (f ts) ρ1
  | none => .no
theorem tCB_of {r : List V → Hp → VK → Prop} {f : List T → Option O} (hr : CaK K r f) (σ : L2.St) (H : Hp) (Q : VK) (h : tE K W (mCa f da) σ H Q) : tCB r (tA K W da) σ H Q := by
  obtain ⟨B, ρ, G, α, rs, h⟩ := h
  refine bA rs h fun us ρ1 vs H1 G1 α1 g1 r1 p1 h1 => ?_
  split at h1
  · rename_i ts e
    exact hr W B ρ1 G1 α1 σ H1 Q ts vs r1 (pks_ok r1.toRh p1 e) h1
  · exact h1.elim
theorem fe_callB {r : List V → Hp → VK → Prop} {f : List T → Option O} {x : Str} {p : Pos} {id : String} (hc : CallR X (.builtin id) r) (hf : CaK X.K r f) (hg : Gl X x) (hm : X.mg x = none) (hv : bootBuiltins x = some (.builtin id)) (ha : SA X W (e :: es) da)
    (hn : x ≠ "__name__" := by decide) (hdb : (x == ("__debug__" : Str)) = false := by decide) (he : starEach (e :: es) X.env = (false, eval e X.env) :: starEach es X.env := by rfl) (hpl : (backTo pos (starEach es X.env)).any (·.1) = false := by rfl) : SE X W (.Call (.Name x p) (e :: es) [] pos) (mCa f da) :=
  pe_weak (pe_callB hc hg hm hv ha hn hdb he hpl) (tCB_of hf)
theorem fe_callTy {r : List V → Hp → VK → Prop} {f : List T → Option O} {x : Str} {p : Pos} {id : String} (hc : CallR X (.type id) r) (hf : CaK X.K r f) (hg : Gl X x) (hm : X.mg x = none) (hv : bootBuiltins x = some (.type id)) (ha : SA X W (e :: es) da)
    (hn : x ≠ "__name__" := by decide) (hdb : (x == ("__debug__" : Str)) = false := by decide) (he : starEach (e :: es) X.env = (false, eval e X.env) :: starEach es X.env := by rfl) (hpl : (backTo pos (starEach es X.env)).any (·.1) = false := by rfl) : SE X W (.Call (.Name x p) (e :: es) [] pos) (mCa f da) :=
  pe_weak (pe_callTy hc hg hm hv ha hn hdb he hpl) (tCB_of hf)
def lenF : List T → Option O
  | [.str z] => if z.length ≤ sizeLine then some (.d (.int z.length)) else none
  | [x] => (itm x).map fun ts => .d (.int ts.length)
  | _ => none
theorem len_ok : CaK K (fun xs H Q => ∃ x n, xs = [x] ∧ LenV K x H n ∧ Q (.int n) H) lenF := by
  intro W B ρ G α σ H Q xs vs rs p q
  unfold lenF at q
  split at q
  · rename_i z
    obtain ⟨v, ws, rfl, q2, rfl⟩ := p
    have hv : v = .str z := by simpa [Rp1, Rp] using q2
    subst hv
    split at q
    · rename_i hz
      exact ⟨_, z.length, rfl, ⟨hz, rfl⟩, fin_d rs q (by simp [Rp])⟩
    · exact q.elim
  · rename_i x hx
    obtain ⟨v, ws, rfl, q2, rfl⟩ := p
    cases e : itm x with
    | none => rw [e] at q; exact q.elim
    | some ts =>
      rw [e] at q
      obtain ⟨a, us, rfl, h1, h2⟩ := itm_ok rs.gh q2 e
      refine ⟨_, ts.length, rfl, ?_, fin_d rs q (by simp [Rp])⟩
      rcases h1 with h1 | h1
      · exact .inl ⟨us, h1, h2.length⟩
      · exact .inr ⟨us, h1, h2.length⟩
  · exact q.elim
theorem fe_len {p : Pos} (hg : Gl X "len") (hm : X.mg "len" = none) (ha : SA X W [e] da) (he : starEach [e] X.env = [(false, eval e X.env)] := by rfl) : SE X W (.Call (.Name "len" p) [e] [] pos) (mCa lenF da) :=
  fe_callB call_len len_ok hg hm PySem.boot_len ha (by decide) (by decide) he rfl
def tupleF : List T → Option O
  | [.tup ts] => some (.d (.tup ts))
  | [.ktp ts] => some (.d (.ktp ts))
  | [.lst ts] => some (.d (.tup ts))
  | [.frl ts] => some (.d (.tup ts))
  | _ => none
theorem tuple_ok : CaK K (fun xs H Q => ∃ p ys, xs = [.ref p] ∧ ((SqL K H p ys ∧ ∀ l, H l = none → Q (.ref l) (upd H l (.tup ys))) ∨ (SqT K H p ys ∧ Q (.ref p) H))) tupleF := by
  intro W B ρ G α σ H Q xs vs rs p q
  unfold tupleF at q
  split at q
  · obtain ⟨v, ws, rfl, q2, rfl⟩ := p
    have q2' := q2
    obtain ⟨a, us, rfl, h1, h2⟩ := q2.tup
    exact ⟨a, us, rfl, .inr ⟨SqT.of (rs.gh _ _ h1), fin_d rs q q2'⟩⟩
  · obtain ⟨v, ws, rfl, q2, rfl⟩ := p
    have q2' := q2
    obtain ⟨a, us, rfl, h1, h2⟩ := q2.ktp
    exact ⟨a, us, rfl, .inr ⟨rs.gh.t h1, fin_d rs q q2'⟩⟩
  · obtain ⟨v, ws, rfl, q2, rfl⟩ := p
    obtain ⟨a, us, rfl, h1, h2⟩ := q2
    exact ⟨a, us, rfl, .inl ⟨SqL.of h1, fun l hl => fin_tup rs q h2 hl⟩⟩
  · rename_i ts
    obtain ⟨v, ws, rfl, q2, rfl⟩ := p
    have q2 : Rp K G (.frl ts) v := q2
    simp only [Rp] at q2
    obtain ⟨a, us, rfl, h1, h2⟩ := q2
    exact ⟨a, us, rfl, .inl ⟨rs.gh.l h1, fun l hl => fin_tup rs q h2 hl⟩⟩
  · exact q.elim
theorem fe_tuple {p : Pos} (hg : Gl X "tuple") (hm : X.mg "tuple" = none) (ha : SA X W [e] da) (he : starEach [e] X.env = [(false, eval e X.env)] := by rfl) : SE X W (.Call (.Name "tuple" p) [e] [] pos) (mCa tupleF da) :=
  fe_callTy call_tuple_of tuple_ok hg hm (by decide +kernel) ha (by decide) (by decide) he rfl
def listF : List T → Option O
  | [x] => (itm x).map .l
  | _ => none
theorem list_ok : CaK K (fun xs H Q => ∃ p ys, xs = [.ref p] ∧ (SqL K H p ys ∨ SqT K H p ys) ∧ ∀ l, H l = none → Q (.ref l) (upd H l (.lst ys))) listF := by
  intro W B ρ G α σ H Q xs vs rs p q
  unfold listF at q
  split at q
  · rename_i x
    obtain ⟨v, ws, rfl, q2, rfl⟩ := p
    cases e : itm x with
    | none => rw [e] at q; exact q.elim
    | some ts =>
      rw [e] at q
      obtain ⟨a, us, rfl, h1, h2⟩ := itm_ok rs.gh q2 e
      exact ⟨a, us, rfl, h1, fun l hl => fin_lst rs q h2 hl⟩
  · exact q.elim
theorem fe_list {p : Pos} (hg : Gl X "list") (hm : X.mg "list" = none) (ha : SA X W [e] da) (he : starEach [e] X.env = [(false, eval e X.env)] := by rfl) : SE X W (.Call (.Name "list" p) [e] [] pos) (mCa listF da) :=
  fe_callTy call_list_of list_ok hg hm (by decide +kernel) ha (by decide) (by decide) he rfl
def intF : List T → Option O
  | [.int i] => some (.d (.int i))
  | [.bl b] => some (.d (.int (if b then 1 else 0)))
  | _ => none
theorem int_ok : CaK K (fun xs H Q => (∃ i, xs = [.int i] ∧ Q (.int i) H) ∨ ∃ k, xs = [.bl k] ∧ Q (.int (if k then 1 else 0)) H) intF := by
  intro W B ρ G α σ H Q xs vs rs p q
  unfold intF at q
  split at q
  · rename_i i
    obtain ⟨v, ws, rfl, q2, rfl⟩ := p
    exact .inl ⟨i, by simpa [Rp1, Rp] using q2, fin_d rs q (by simp [Rp])⟩
  · rename_i i
    obtain ⟨v, ws, rfl, q2, rfl⟩ := p
    exact .inr ⟨i, by simpa [Rp1, Rp] using q2, fin_d rs q (by simp [Rp])⟩
  · exact q.elim
theorem fe_int1 {p : Pos} (hg : Gl X "int") (hm : X.mg "int" = none) (ha : SA X W [e] da) (he : starEach [e] X.env = [(false, eval e X.env)] := by rfl) : SE X W (.Call (.Name "int" p) [e] [] pos) (mCa intF da) :=
  fe_callTy call_int1 int_ok hg hm (by decide +kernel) ha (by decide) (by decide) he rfl
def bls : List T → Option (List Bool)
  | [] => some []
  | .bl b :: ts => (bls ts).map (b :: ·)
  | _ :: _ => none
theorem bls_ok {G : Hp} : ∀ {ts : List T} {vs : List V} {bs : List Bool}, Rps K G ts vs → bls ts = some bs → vs = bs.map V.bl
  | [], vs, bs, h, e => by simp only [bls, Option.some.injEq] at e; subst e; simpa [Rps] using h
  | .bl b :: ts, vs, bs, h, e => by
    simp only [Rps, Rp] at h; obtain ⟨v, us, rfl, rfl, q3⟩ := h
    simp only [bls, Option.map_eq_some_iff] at e
    obtain ⟨bs', e1, rfl⟩ := e
    rw [bls_ok q3 e1]; rfl
  | .non :: ts, vs, bs, h, e => by simp [bls] at e
  | .int _ :: ts, vs, bs, h, e => by simp [bls] at e
  | .str _ :: ts, vs, bs, h, e => by simp [bls] at e
  | .tup _ :: ts, vs, bs, h, e => by simp [bls] at e
  | .ktp _ :: ts, vs, bs, h, e => by simp [bls] at e
  | .lst _ :: ts, vs, bs, h, e => by simp [bls] at e
  | .frl _ :: ts, vs, bs, h, e => by simp [bls] at e
  | .dk _ _ :: ts, vs, bs, h, e => by simp [bls] at e
  | .dt _ _ :: ts, vs, bs, h, e => by simp [bls] at e
  | .dn _ _ _ :: ts, vs, bs, h, e => by simp [bls] at e
  | .obj _ _ _ :: ts, vs, bs, h, e => by simp [bls] at e
def allF (any : Bool) : List T → Option O
  | [.lst ts] => (bls ts).map fun bs => .d (.bl (if any then bs.any id else bs.all id))
  | _ => none
theorem all_ok : CaK K (rAll K) (allF false) := by
  intro W B ρ G α σ H Q xs vs rs p q
  unfold allF at q
  split at q
  · rename_i ts
    obtain ⟨v, ws, rfl, q2, rfl⟩ := p
    obtain ⟨a, us, rfl, h1, h2⟩ := q2
    cases e : bls ts with
    | none => rw [e] at q; exact q.elim
    | some bs =>
      rw [e] at q
      have := bls_ok h2 e
      subst this
      exact ⟨a, bs, rfl, SqL.of h1, fin_d rs q (by simp [Rp])⟩
  · exact q.elim
end
end FL
namespace FL
open PySem L2
variable [TabPar]
/-- what a def computes: from the objects handed on, from the arguments -/
abbrev Fn := List Ob → List U → R U
def okFn (K : PySem.W.Frag) (B G : Hp) (α : List Addr) (r : R U) (Q : VK) (E : XK) : Prop := match r with
  | .ok u ρ => ∀ G' α' H' v, Gr B G α G' α' → Rh K B ρ.st G' α' H' → RpU K G' α' u v → Q v H'
  | .ex x ρ => ∀ G' α' H' d, Gr B G α G' α' → Rh K B ρ.st G' α' H' → Xd K G' H' d x.fs → E (.ref x.C) d H'
  | .no => False
/-- the promise of a def that computes F, of n arguments -/
def spF (K : PySem.W.Frag) (n : Nat) (F : Fn) : Sp := fun vs H Q E => vs.length = n ∧ ∃ B st G α us, Rh K B st G α H ∧ RpUs K G α us vs ∧ okFn K B G α (F st us) Q E
theorem spF_len {K : PySem.W.Frag} {n : Nat} {F : Fn} {ps : List Str} (hn : ps.length = n) (vs : List V) (H : Hp) (Q : VK) (E : XK) (h : spF K n F vs H Q E) : vs.length = ps.length := by rw [hn]; exact h.1
def refU (k : Nat) : U → Bool
  | .d _ => true
  | .own i => decide (i < k)
def refO (k : Nat) : Ob → Bool
  | .obj _ _ us => us.all (refU k)
  | .tpo _ => false
  | _ => true
/-- the store cut back to what was handed on -/
def cutSt (k : Nat) (st : List Ob) : Option (List Ob) := if (st.take k).all (refO k) = true then some (st.take k) else none
/-- a body run; its value is data -/
def runD (m : DS) (n : Nat) : Fn := fun st us => match m ⟨us.map some ++ List.replicate (n - us.length) none, st⟩ with
  | .nx ρ => match cutSt st.length ρ.st with
    | some st' => .ok (.d .non) ⟨[], st'⟩
    | none => .no
  | .rt u ρ => match toD 4 u ρ.st with
    | some (t, st1) => match cutSt st.length st1 with
      | some st' => .ok (.d t) ⟨[], st'⟩
      | none => .no
    | none => .no
  | .ex x ρ => match cutSt st.length ρ.st with
    | some st' => .ex x ⟨[], st'⟩
    | none => .no
  | _ => .no
section
variable {K : PySem.W.Frag} {B G H : Hp} {α : List Addr} {st : List Ob}
theorem RpUs.cut {k : Nat} : ∀ {us : List U} {vs : List V}, us.all (refU k) = true → RpUs K G α us vs → RpUs K G (α.take k) us vs
  | [], _, _, h => h
  | u :: us, _, e, ⟨v, ws, q1, q2, q3⟩ => by
    rw [List.all_cons, Bool.and_eq_true] at e
    refine ⟨v, ws, q1, ?_, RpUs.cut e.2 q3⟩
    cases u with
    | d t => exact q2
    | own i =>
      obtain ⟨a, h1, h2⟩ := q2
      have hi : i < k := of_decide_eq_true e.1
      exact ⟨a, by rw [List.getElem?_take_of_lt hi]; exact h1, h2⟩
theorem Rh.cut {k : Nat} {st' : List Ob} (r : Rh K B st G α H) (e : cutSt k st = some st') : Rh K B st' G (α.take k) H := by
  unfold cutSt at e
  split at e
  · rename_i hc
    simp only [Option.some.injEq] at e; subst e
    refine ⟨r.gh, r.bh, r.tb.sub (fun a h => List.mem_of_mem_take h), by simp [r.len], r.nd.sublist (List.take_sublist _ _), fun i a o e1 e2 => ?_⟩
    have hi : i < k := by
      have := (List.getElem?_eq_some_iff.mp e1).1
      simp at this; omega
    rw [List.getElem?_take_of_lt hi] at e1 e2
    obtain ⟨q1, q2, q3⟩ := r.ow i a o e1 e2
    refine ⟨q1, q2, ?_⟩
    have ho : refO k o = true := by
      rw [List.all_eq_true] at hc
      exact hc o (List.mem_of_getElem? (i := i) (by rw [List.getElem?_take_of_lt hi]; exact e2))
    cases o with
    | obj C ns us =>
      obtain ⟨z, dx, vs, z1, z2, z3⟩ := q3
      exact ⟨z, dx, vs, z1, z2, z3.cut ho⟩
    | frz t => exact q3
    | lst t => exact q3
    | dk k t => exact q3
    | dn w k t => exact q3
    | tpo us => cases ho
  · cases e
theorem Gr.cut {G' : Hp} {α' : List Addr} (g : Gr B G α G' α') : Gr B G α G' (α'.take α.length) := by
  obtain ⟨β, e⟩ := g.al
  exact ⟨g.ex, ⟨[], by rw [e]; simp⟩, g.fr⟩
end
theorem start_sl {K : PySem.W.Frag} {G : Hp} {α : List Addr} : ∀ {us : List U} {vs : List V}, RpUs K G α us vs → ∀ (n i : Nat) (u : U), (us.map some ++ List.replicate n none)[i]? = some (some u) → ∃ v, (vs.map some ++ List.replicate n none)[i]? = some (some v) ∧ RpU K G α u v
  | [], _, h, n, i, u, e => by
    simp only [List.map_nil, List.nil_append, List.getElem?_replicate] at e
    split at e <;> simp at e
  | w :: us, _, ⟨v, ws, q1, q2, q3⟩, n, 0, u, e => by
    subst q1
    simp at e; subst e
    exact ⟨v, by simp, q2⟩
  | w :: us, _, ⟨v, ws, q1, q2, q3⟩, n, i + 1, u, e => by
    subst q1
    simp only [List.map_cons, List.cons_append, List.getElem?_cons_succ] at e ⊢
    exact start_sl q3 n i u e
theorem body_ok {K : PySem.W.Frag} {N : List Str} {m : DS} {n : Nat} {vs : List V} {H : Hp} {Q : VK} {E : XK} (h : spF K n (runD m N.length) vs H Q E) :
    tS K (fun cls d _ H => E cls d H) m { nx := fun _ H' => Q .non H', rt := Q } (L2.start N vs) H := by
  obtain ⟨_, B, st, G, α, us, rh, ru, ho⟩ := h
  have hl := ru.length
  have hk : st.length = α.length := rh.len.symm
  refine ⟨B, ⟨us.map some ++ List.replicate (N.length - us.length) none, st⟩, G, α, { toRh := rh, sll := ?_, sl := fun i u e => ?_ }, ?_⟩
  · simp [L2.start, hl]
  · unfold L2.start
    rw [← hl]
    exact start_sl ru _ i u e
  · unfold runD at ho
    split at ho
    · rename_i ρ e
      rw [e]
      split at ho
      · rename_i st' e1
        rw [hk] at e1
        exact fun G' α' σ' H' g r => ho G' _ H' .non g.cut (r.toRh.cut e1) (by simp [RpU, Rp])
      · exact ho.elim
    · rename_i u ρ e
      rw [e]
      split at ho
      · rename_i t st1 e0
        split at ho
        · rename_i st' e1
          rw [hk] at e1
          intro G' α' σ' H' v g r p
          obtain ⟨G2, g2, r2, p2⟩ := toD_ok 4 r.toRh p e0
          exact ho G2 _ H' v (g.trans g2).cut (r2.cut e1) p2
        · exact ho.elim
      · exact ho.elim
    · rename_i x ρ e
      rw [e]
      split at ho
      · rename_i st' e1
        rw [hk] at e1
        exact fun σ' H' G' α' d g r xd => ho G' _ H' d g.cut (r.toRh.cut e1) xd
      · exact ho.elim
    · exact ho.elim
def adds (acc : List Nat) (i : Nat) : List Nat := if i ∈ acc then acc else acc ++ [i]
def owns : List U → List Nat → List Nat
  | [], acc => acc
  | .own i :: us, acc => owns us (adds acc i)
  | .d _ :: us, acc => owns us acc
def ownsO (a : List Nat) : Option Ob → List Nat
  | some (.obj _ _ us) => owns us a
  | _ => a
/-- with the objects in their fields -/
def reach (st : List Ob) : Nat → List Nat → List Nat
  | 0, acc => acc
  | n + 1, acc => reach st n (acc.foldl (fun a i => ownsO a st[i]?) acc)
def renU (is : List Nat) : U → Option U
  | .d t => some (.d t)
  | .own i => if i ∈ is then some (.own (is.idxOf i)) else none
def renUs (is : List Nat) : List U → Option (List U)
  | [] => some []
  | u :: us => match renU is u, renUs is us with
    | some u, some us => some (u :: us)
    | _, _ => none
def renO (is : List Nat) : Ob → Option Ob
  | .obj C ns us => (renUs is us).map (.obj C ns)
  | .tpo _ => none
  | o => some o
def handOn (st : List Ob) (is : List Nat) : List Nat → Option (List Ob)
  | [] => some []
  | i :: r => match (st[i]?).bind (renO is), handOn st is r with
    | some o, some os => some (o :: os)
    | _, _ => none
def backU (is : List Nat) : U → Option U
  | .d t => some (.d t)
  | .own j => (is[j]?).map .own
def backUs (is : List Nat) : List U → Option (List U)
  | [] => some []
  | u :: us => match backU is u, backUs is us with
    | some u, some us => some (u :: us)
    | _, _ => none
def backO (is : List Nat) : Ob → Option Ob
  | .obj C ns us => (backUs is us).map (.obj C ns)
  | .tpo _ => none
  | o => some o
def handBack (is : List Nat) : List Nat → List Ob → List Ob → Option (List Ob)
  | [], _, st => some st
  | i :: r, o :: os, st => match backO is o with
    | some o' => handBack is r os (st.set i o')
    | none => none
  | _ :: _, [], _ => none
/-- the arguments: as objects of one's own (true), or as data -/
def argC : List Bool → List U → List Ob → Option (List U × List Ob)
  | _, [], st => some ([], st)
  | true :: cs, u :: us, st => match argC cs us st with
    | some (us', st') => some (u :: us', st')
    | none => none
  | false :: cs, u :: us, st => match toD 4 u st with
    | some (t, st1) => match argC cs us st1 with
      | some (us', st') => some (.d t :: us', st')
      | none => none
    | none => none
  | [], u :: us, st => match toD 4 u st with
    | some (t, st1) => match argC [] us st1 with
      | some (us', st') => some (.d t :: us', st')
      | none => none
    | none => none
/-- a call whose value is data -/
def callR (F : Fn) (us : List U) (ρ : Sg) : R U :=
  let is := reach ρ.st 3 (owns us [])
  match handOn ρ.st is is, renUs is us with
  | some os, some us' => match F os us' with
    | .ok u ρ' => match toD 4 u ρ'.st with
      | some (t, st') => match handBack is is st' ρ.st with
        | some st'' => .ok (.d t) ⟨ρ.sl, st''⟩
        | none => .no
      | none => .no
    | .ex x ρ' => match handBack is is ρ'.st ρ.st with
      | some st'' => .ex x ⟨ρ.sl, st''⟩
      | none => .no
    | .no => .no
  | _, _ => .no
def mCall (n : Nat) (F : Fn) (cs : List Bool) (da : DA) : DE := fun ρ => (da ρ).bind fun us ρ1 => match argC cs us ρ1.st with
  | some (us', st) => if us'.length = n then callR F us' ⟨ρ1.sl, st⟩ else .no
  | none => .no
section
variable {K : PySem.W.Frag} {B G H : Hp} {α : List Addr} {st : List Ob}
theorem argC_ok : ∀ {cs : List Bool} {us : List U} {vs : List V} {us' : List U} {st st' : List Ob} {G : Hp}, Rh K B st G α H → RpUs K G α us vs → argC cs us st = some (us', st') → ∃ G', Gr B G α G' α ∧ Rh K B st' G' α H ∧ RpUs K G' α us' vs
  | cs, [], vs, us', st, st', G, r, h, e => by
    have e : argC cs [] st = some ([], st) ∨ True := .inr trivial
    rename_i e'
    have : argC cs [] st = some ([], st) := by cases cs with
      | nil => rfl
      | cons c cs => cases c <;> rfl
    rw [this] at e'
    simp only [Option.some.injEq, Prod.mk.injEq] at e'
    obtain ⟨rfl, rfl⟩ := e'
    exact ⟨G, Gr.refl, r, h⟩
  | true :: cs, u :: us, vs, us', st, st', G, r, ⟨v, ws, q1, q2, q3⟩, e => by
    simp only [argC] at e
    cases e1 : argC cs us st with
    | none => rw [e1] at e; cases e
    | some p =>
      obtain ⟨us2, st2⟩ := p
      rw [e1] at e; dsimp only at e
      simp only [Option.some.injEq, Prod.mk.injEq] at e
      obtain ⟨rfl, rfl⟩ := e
      obtain ⟨G', g, r', p'⟩ := argC_ok r q3 e1
      exact ⟨G', g, r', v, ws, q1, q2.mono g, p'⟩
  | false :: cs, u :: us, vs, us', st, st', G, r, ⟨v, ws, q1, q2, q3⟩, e => by
    simp only [argC] at e
    cases e1 : toD 4 u st with
    | none => rw [e1] at e; cases e
    | some p =>
      obtain ⟨t, st1⟩ := p
      rw [e1] at e; dsimp only at e
      obtain ⟨G1, g1, r1, p1⟩ := toD_ok 4 r q2 e1
      cases e2 : argC cs us st1 with
      | none => rw [e2] at e; cases e
      | some p =>
        obtain ⟨us2, st2⟩ := p
        rw [e2] at e; dsimp only at e
        simp only [Option.some.injEq, Prod.mk.injEq] at e
        obtain ⟨rfl, rfl⟩ := e
        obtain ⟨G', g, r', p'⟩ := argC_ok r1 (q3.mono g1) e2
        exact ⟨G', g1.trans g, r', v, ws, q1, Rp.mono g.ex p1, p'⟩
  | [], u :: us, vs, us', st, st', G, r, ⟨v, ws, q1, q2, q3⟩, e => by
    simp only [argC] at e
    cases e1 : toD 4 u st with
    | none => rw [e1] at e; cases e
    | some p =>
      obtain ⟨t, st1⟩ := p
      rw [e1] at e; dsimp only at e
      obtain ⟨G1, g1, r1, p1⟩ := toD_ok 4 r q2 e1
      cases e2 : argC [] us st1 with
      | none => rw [e2] at e; cases e
      | some p =>
        obtain ⟨us2, st2⟩ := p
        rw [e2] at e; dsimp only at e
        simp only [Option.some.injEq, Prod.mk.injEq] at e
        obtain ⟨rfl, rfl⟩ := e
        obtain ⟨G', g, r', p'⟩ := argC_ok r1 (q3.mono g1) e2
        exact ⟨G', g1.trans g, r', v, ws, q1, Rp.mono g.ex p1, p'⟩
/-- the addresses of the objects handed on -/
def adr (α : List Addr) (is : List Nat) : List Addr := is.map fun i => α.getD i 0
theorem adr_get (is : List Nat) (hin : ∀ i ∈ is, i < α.length) {j i : Nat} (h : is[j]? = some i) : (adr α is)[j]? = α[i]? := by
  have hi := hin i (List.mem_of_getElem? h)
  unfold adr
  rw [List.getElem?_map, h, List.getElem?_eq_getElem hi]
  simp [List.getD, List.getElem?_eq_getElem hi]
theorem idx_get {is : List Nat} {i : Nat} (h : i ∈ is) : is[is.idxOf i]? = some i := by
  rw [List.getElem?_eq_getElem (List.idxOf_lt_length_iff.mpr h)]
  simp
theorem renU_ok {is : List Nat} (hin : ∀ i ∈ is, i < α.length) {u u' : U} {v : V} (h : RpU K G α u v) (e : renU is u = some u') : RpU K G (adr α is) u' v := by
  cases u with
  | d t => simp only [renU, Option.some.injEq] at e; subst e; exact h
  | own i =>
    simp only [renU] at e
    split at e
    · rename_i hm
      simp only [Option.some.injEq] at e; subst e
      obtain ⟨a, h1, h2⟩ := h
      exact ⟨a, by rw [adr_get is hin (idx_get hm)]; exact h1, h2⟩
    · cases e
theorem renUs_ok {is : List Nat} (hin : ∀ i ∈ is, i < α.length) : ∀ {us us' : List U} {vs : List V}, RpUs K G α us vs → renUs is us = some us' → RpUs K G (adr α is) us' vs
  | [], us', vs, h, e => by simp only [renUs, Option.some.injEq] at e; subst e; exact h
  | u :: us, us', vs, ⟨v, ws, q1, q2, q3⟩, e => by
    simp only [renUs] at e
    split at e
    · rename_i u1 us1 e1 e2
      simp only [Option.some.injEq] at e; subst e
      exact ⟨v, ws, q1, renU_ok hin q2 e1, renUs_ok hin q3 e2⟩
    · cases e
theorem renO_ok {is : List Nat} (hin : ∀ i ∈ is, i < α.length) {o o' : Ob} {a : Addr} (h : ObR K G α H a o) (e : renO is o = some o') : ObR K G (adr α is) H a o' := by
  cases o with
  | obj C ns us =>
    simp only [renO, Option.map_eq_some_iff] at e
    obtain ⟨us', e1, rfl⟩ := e
    obtain ⟨z, dx, vs, z1, z2, z3⟩ := h
    exact ⟨z, dx, vs, z1, z2, renUs_ok hin z3 e1⟩
  | frz t => simp only [renO, Option.some.injEq] at e; subst e; exact h
  | lst t => simp only [renO, Option.some.injEq] at e; subst e; exact h
  | dk k t => simp only [renO, Option.some.injEq] at e; subst e; exact h
  | dn w k t => simp only [renO, Option.some.injEq] at e; subst e; exact h
  | tpo us => simp only [renO, reduceCtorEq] at e
theorem handOn_get {is : List Nat} : ∀ {js : List Nat} {os : List Ob} {j : Nat} {o : Ob}, handOn st is js = some os → os[j]? = some o → ∃ i o0, js[j]? = some i ∧ st[i]? = some o0 ∧ renO is o0 = some o
  | [], os, j, o, e, h => by simp only [handOn, Option.some.injEq] at e; subst e; simp at h
  | i :: r, os, j, o, e, h => by
    simp only [handOn] at e
    split at e
    · rename_i o1 os1 e1 e2
      simp only [Option.some.injEq] at e; subst e
      cases j with
      | zero =>
        simp at h; subst h
        obtain ⟨o0, e3, e4⟩ := Option.bind_eq_some_iff.mp e1
        exact ⟨i, o0, by simp, e3, e4⟩
      | succ j =>
        obtain ⟨i', o0, h1, h2, h3⟩ := handOn_get e2 (by simpa using h)
        exact ⟨i', o0, by simpa using h1, h2, h3⟩
    · cases e
theorem handOn_len {is : List Nat} : ∀ {js : List Nat} {os : List Ob}, handOn st is js = some os → os.length = js.length ∧ ∀ i ∈ js, i < st.length
  | [], os, e => by simp only [handOn, Option.some.injEq] at e; subst e; simp
  | i :: r, os, e => by
    simp only [handOn] at e
    split at e
    · rename_i o1 os1 e1 e2
      simp only [Option.some.injEq] at e; subst e
      obtain ⟨h1, h2⟩ := handOn_len e2
      obtain ⟨o0, e3, _⟩ := Option.bind_eq_some_iff.mp e1
      refine ⟨by simp [h1], fun j hj => ?_⟩
      rcases List.mem_cons.mp hj with rfl | hj
      · exact (List.getElem?_eq_some_iff.mp e3).1
      · exact h2 j hj
    · cases e
theorem nodup_adds {acc : List Nat} {i : Nat} (h : acc.Nodup) : (adds acc i).Nodup := by
  unfold adds
  split
  · exact h
  · rename_i hn
    rw [List.nodup_append]
    exact ⟨h, by simp, fun a ha b hb => by rw [List.mem_singleton] at hb; rintro rfl; exact hn (hb ▸ ha)⟩
theorem nodup_owns : ∀ {us : List U} {acc : List Nat}, acc.Nodup → (owns us acc).Nodup
  | [], _, h => h
  | .own i :: us, _, h => nodup_owns (us := us) (nodup_adds h)
  | .d _ :: us, _, h => nodup_owns (us := us) h
theorem nodup_fold {f : List Nat → Nat → List Nat} (hf : ∀ a i, a.Nodup → (f a i).Nodup) : ∀ (l acc : List Nat), acc.Nodup → (l.foldl f acc).Nodup
  | [], _, h => h
  | i :: l, _, h => nodup_fold hf l _ (hf _ i h)
theorem nodup_reach : ∀ {n : Nat} {acc : List Nat}, acc.Nodup → (reach st n acc).Nodup
  | 0, _, h => h
  | n + 1, acc, h => by
    unfold reach
    exact nodup_reach (nodup_fold (fun a i ha => by unfold ownsO; split <;> first | exact nodup_owns ha | exact ha) acc acc h)
theorem nodup_map_on {β γ : Type} {f : β → γ} : ∀ {l : List β}, (∀ x ∈ l, ∀ y ∈ l, f x = f y → x = y) → l.Nodup → (l.map f).Nodup
  | [], _, _ => by simp
  | x :: l, hf, h => by
    rw [List.map_cons, List.nodup_cons]
    rw [List.nodup_cons] at h
    refine ⟨fun hm => ?_, nodup_map_on (fun a ha b hb => hf a (List.mem_cons_of_mem _ ha) b (List.mem_cons_of_mem _ hb)) h.2⟩
    obtain ⟨y, hy, e⟩ := List.mem_map.mp hm
    have := hf y (List.mem_cons_of_mem _ hy) x List.mem_cons_self e
    subst this
    exact h.1 hy
/-- the wall for the callee -/
def wall (H : Hp) (α : List Addr) (is : List Nat) : Hp := fun a => if a ∈ adr α is then none else H a
theorem wall_in {is : List Nat} {a : Addr} (h : a ∈ adr α is) : wall H α is a = none := if_pos h
theorem wall_out {is : List Nat} {a : Addr} (h : a ∉ adr α is) : wall H α is a = H a := if_neg h
theorem Rh.handOn {is : List Nat} {os : List Ob} (r : Rh K B st G α H) (hn : is.Nodup) (e : FL.handOn st is is = some os) : Rh K (wall H α is) os G (adr α is) H := by
  obtain ⟨h1, h2⟩ := handOn_len e
  have hin : ∀ i ∈ is, i < α.length := fun i hi => by rw [r.len]; exact h2 i hi
  refine ⟨r.gh, ⟨fun a o ha _ => ?_, fun {a} ha => by unfold wall; split <;> first | rfl | exact ha, fun a o hp ha => by
    by_cases hm : a ∈ adr α is
    · rw [wall_in hm] at ha; cases ha
    · rw [wall_out hm] at ha
      obtain ⟨_, _, ps, e, _⟩ := r.tb a hp
      rw [ha] at e; exact ⟨ps, Option.some.inj e⟩⟩, r.tb.sub (fun a h => by
    obtain ⟨i, hi, e1⟩ := List.mem_map.mp (show a ∈ is.map _ from h)
    have := hin i hi
    rw [← e1]; simp only [List.getD, List.getElem?_eq_getElem this, Option.getD_some]; exact List.getElem_mem this), by simp [adr, h1], ?_, fun j a o e1 e2 => ?_⟩
  · by_cases hm : a ∈ adr α is
    · rw [wall_in hm] at ha; cases ha
    · rw [wall_out hm] at ha; exact ha
  · unfold adr
    refine nodup_map_on (fun i hi j hj eq => ?_) hn
    have a1 := hin i hi
    have a2 := hin j hj
    simp only [List.getD, List.getElem?_eq_getElem a1, List.getElem?_eq_getElem a2, Option.getD_some] at eq
    exact (List.getElem_inj r.nd).mp eq
  · obtain ⟨i, o0, h3, h4, h5⟩ := handOn_get e e2
    rw [adr_get is hin h3] at e1
    obtain ⟨q1, q2, q3⟩ := r.ow i a o0 e1 h4
    refine ⟨wall_in ?_, q2, renO_ok hin q3 h5⟩
    exact List.mem_of_getElem? (i := j) (by rw [adr_get is hin h3]; exact e1)
end
end FL
namespace FL
open PySem L2 PyProof.Rows
variable [TabPar]
section
variable {K : PySem.W.Frag} {B G G' H H' : Hp} {α α' : List Addr} {st st' st'' : List Ob} {is : List Nat}
theorem handBack_get : ∀ {js : List Nat} {os st st'' : List Ob}, js.Nodup → handBack is js os st = some st'' → st''.length = st.length ∧ (∀ i, i ∉ js → st''[i]? = st[i]?) ∧
    (∀ (j i : Nat), js[j]? = some i → i < st.length → ∃ o o', os[j]? = some o ∧ backO is o = some o' ∧ st''[i]? = some o')
  | [], os, st, st'', _, e => by
    have : st = st'' := by cases os <;> simpa [handBack] using e
    subst this
    exact ⟨rfl, fun _ _ => rfl, fun j i h => by simp at h⟩
  | i :: r, [], st, st'', _, e => by simp [handBack] at e
  | i :: r, o :: os, st, st'', hn, e => by
    simp only [handBack] at e
    split at e
    · rename_i o' e1
      rw [List.nodup_cons] at hn
      obtain ⟨h1, h2, h3⟩ := handBack_get hn.2 e
      rw [List.length_set] at h1
      refine ⟨h1, fun k hk => ?_, fun j k hj hl => ?_⟩
      · rw [List.mem_cons, not_or] at hk
        rw [h2 k hk.2, List.getElem?_set_ne (Ne.symm hk.1)]
      · cases j with
        | zero =>
          simp at hj; subst hj
          exact ⟨o, o', by simp, e1, by rw [h2 _ hn.1, List.getElem?_set_self hl]⟩
        | succ j =>
          obtain ⟨p, p', h4, h5, h6⟩ := h3 j k (by simpa using hj) (by simpa using hl)
          exact ⟨p, p', by simpa using h4, h5, h6⟩
    · cases e
theorem backU_ok (hin : ∀ i ∈ is, i < α.length) {β : List Addr} (ha : α' = adr α is ++ β) {u u' : U} {v : V} (h : RpU K G α' u v) (e : backU is u = some u') : RpU K G α u' v := by
  cases u with
  | d t => simp only [backU, Option.some.injEq] at e; subst e; exact h
  | own j =>
    simp only [backU, Option.map_eq_some_iff] at e
    obtain ⟨i, e1, rfl⟩ := e
    obtain ⟨a, h1, h2⟩ := h
    have hj : j < is.length := (List.getElem?_eq_some_iff.mp e1).1
    rw [ha, List.getElem?_append_left (by simpa [adr] using hj), adr_get is hin e1] at h1
    exact ⟨a, h1, h2⟩
theorem backUs_ok (hin : ∀ i ∈ is, i < α.length) {β : List Addr} (ha : α' = adr α is ++ β) : ∀ {us us' : List U} {vs : List V}, RpUs K G α' us vs → backUs is us = some us' → RpUs K G α us' vs
  | [], us', vs, h, e => by simp only [backUs, Option.some.injEq] at e; subst e; exact h
  | u :: us, us', vs, ⟨v, ws, q1, q2, q3⟩, e => by
    simp only [backUs] at e
    split at e
    · rename_i u1 us1 e1 e2
      simp only [Option.some.injEq] at e; subst e
      exact ⟨v, ws, q1, backU_ok hin ha q2 e1, backUs_ok hin ha q3 e2⟩
    · cases e
theorem backO_ok (hin : ∀ i ∈ is, i < α.length) {β : List Addr} (ha : α' = adr α is ++ β) {o o' : Ob} {a : Addr} (h : ObR K G α' H a o) (e : backO is o = some o') : ObR K G α H a o' := by
  cases o with
  | obj C ns us =>
    simp only [backO, Option.map_eq_some_iff] at e
    obtain ⟨us', e1, rfl⟩ := e
    obtain ⟨z, dx, vs, z1, z2, z3⟩ := h
    exact ⟨z, dx, vs, z1, z2, backUs_ok hin ha z3 e1⟩
  | frz t => simp only [backO, Option.some.injEq] at e; subst e; exact h
  | lst t => simp only [backO, Option.some.injEq] at e; subst e; exact h
  | dk k t => simp only [backO, Option.some.injEq] at e; subst e; exact h
  | dn w k t => simp only [backO, Option.some.injEq] at e; subst e; exact h
  | tpo us => simp only [backO, reduceCtorEq] at e
theorem Rh.back {os : List Ob} (r : Rh K B st G α H) (hn : is.Nodup) (e : FL.handOn st is is = some os) (g : Gr (wall H α is) G (adr α is) G' α') (r' : Rh K (wall H α is) st' G' α' H') (eb : handBack is is st' st = some st'') :
    Gr B G α G' α ∧ Rh K B st'' G' α H' := by
  obtain ⟨h1, h2⟩ := handOn_len e
  have hin : ∀ i ∈ is, i < α.length := fun i hi => by rw [r.len]; exact h2 i hi
  obtain ⟨β, ha⟩ := g.al
  obtain ⟨b1, b2, b3⟩ := handBack_get hn eb
  have hadr : ∀ a, a ∈ adr α is → ∃ (j i : Nat), is[j]? = some i ∧ α[i]? = some a := fun a hm => by
    obtain ⟨j, hj, e1⟩ := List.getElem_of_mem hm
    have hj' : j < is.length := by simpa [adr] using hj
    have e2 : is[j]? = some is[j] := List.getElem?_eq_getElem hj'
    refine ⟨j, is[j], e2, ?_⟩
    rw [← adr_get is hin e2, List.getElem?_eq_getElem hj, e1]
  have bn : ∀ a, a ∈ adr α is → B a = none := fun a hm => by
    obtain ⟨j, i, e1, e2⟩ := hadr a hm
    have hi : i < st.length := by rw [← r.len]; exact (List.getElem?_eq_some_iff.mp e2).1
    exact (r.ow i a _ e2 (List.getElem?_eq_getElem hi)).1
  have fr : ∀ a, G a = none → (∃ u, H a = some u) → a ∉ adr α is → G' a = none := fun a h ⟨u, hu⟩ hm => g.fr a h (by rw [wall_out hm, hu]; simp)
  have gg : Gr B G α G' α := ⟨g.ex, ⟨[], by simp⟩, fun a h hB => by
    cases hb : B a with
    | none => exact absurd hb hB
    | some o => exact fr a h (r.bh.there hb) (fun hm => by rw [bn a hm] at hb; cases hb)⟩
  have nW : ∀ a ∈ α, TabPar.P ≠ some a := fun a ha => r.tb.no ha
  refine ⟨gg, r'.gh, ⟨fun a o hb nP => ?_, fun {a} ha => ?_, r.bh.tt⟩, fun p hp => ⟨(r'.tb p hp).1, (r.tb p hp).2.1, (r'.tb p hp).2.2⟩, by rw [b1]; exact r.len, r.nd, fun i a o e1 e2 => ?_⟩
  · have hm : a ∉ adr α is := fun hm => by rw [bn a hm] at hb; cases hb
    exact r'.bh.keep a o (by rw [wall_out hm]; exact r.bh.keep a o hb nP) nP
  · by_cases hm : a ∈ adr α is
    · exact bn a hm
    · have := r'.bh.free ha
      rw [wall_out hm] at this
      exact r.bh.free this
  · have hi : i < st.length := by rw [← r.len]; exact (List.getElem?_eq_some_iff.mp e1).1
    obtain ⟨q1, q2, q3⟩ := r.ow i a _ e1 (List.getElem?_eq_getElem hi)
    by_cases hm : i ∈ is
    · have hj := idx_get hm
      obtain ⟨o1, o2, c1, c2, c3⟩ := b3 _ _ hj hi
      rw [c3] at e2; cases e2
      have ea : α'[is.idxOf i]? = some a := by
        rw [ha, List.getElem?_append_left (by simpa [adr] using List.idxOf_lt_length_iff.mpr hm), adr_get is hin hj]; exact e1
      obtain ⟨_, d2, d3⟩ := r'.ow _ a o1 ea c1
      exact ⟨q1, d2, backO_ok hin ha d3 c2⟩
    · rw [b2 i hm, List.getElem?_eq_getElem hi] at e2
      cases e2
      have hna : a ∉ adr α is := fun z => by
        obtain ⟨j, i', e3, e4⟩ := hadr a z
        have := nodup_at r.nd e1 e4
        subst this
        exact hm (List.mem_of_getElem? e3)
      obtain ⟨u, hu⟩ := q2
      have hH : H' a = H a := by rw [hu]; exact r'.bh.keep a u (by rw [wall_out hna]; exact hu) (nW a (List.mem_of_getElem? e1))
      exact ⟨q1, ⟨u, by rw [hH]; exact hu⟩, q3.mono gg (fun z => fr a z ⟨u, hu⟩ hna) hH⟩
/-- the promise at a call -/
theorem call_ok {W : WX} {σ : L2.St} {ρ : Sg} {us : List U} {vs : List V} {F : Fn} {Q : VK} (r : Rs K B ρ G α σ H) (h : RpUs K G α us vs) (q : okP K W B G α σ (callR F us ρ) (EndP K Q)) : spF K vs.length F vs H Q (WE W σ) := by
  unfold callR at q
  dsimp only at q
  have hn : (reach ρ.st 3 (owns us [])).Nodup := nodup_reach (nodup_owns (by simp))
  generalize reach ρ.st 3 (owns us []) = is at q hn
  split at q
  · rename_i os us' e1 e2
    obtain ⟨l1, l2⟩ := handOn_len e1
    have hin : ∀ i ∈ is, i < α.length := fun i hi => by rw [r.len]; exact l2 i hi
    refine ⟨rfl, wall H α is, os, G, adr α is, us', r.toRh.handOn hn e1, renUs_ok hin h e2, ?_⟩
    cases eF : F os us' with
    | ok u ρ' =>
      rw [eF] at q
      dsimp only at q
      intro G' α' H' v g r' p
      cases e3 : toD 4 u ρ'.st with
      | none => rw [e3] at q; exact q.elim
      | some tp =>
        obtain ⟨t, s1⟩ := tp
        rw [e3] at q; dsimp only at q
        obtain ⟨G2, g2, r2, p2⟩ := toD_ok 4 r' p e3
        cases e4 : handBack is is s1 ρ.st with
        | none => rw [e4] at q; exact q.elim
        | some s2 =>
          rw [e4] at q; dsimp only at q
          obtain ⟨gg, rr⟩ := r.toRh.back hn e1 (g.trans g2) r2 e4
          exact q G2 α H' gg (Rs.mk' r gg rr) v p2
    | ex x ρ' =>
      rw [eF] at q
      dsimp only at q
      intro G' α' H' d g r' xd
      cases e4 : handBack is is ρ'.st ρ.st with
      | none => rw [e4] at q; exact q.elim
      | some s2 =>
        rw [e4] at q; dsimp only at q
        obtain ⟨gg, rr⟩ := r.toRh.back hn e1 g r' e4
        exact q σ H' G' α d gg (Rs.mk' r gg rr) xd
    | no => rw [eF] at q; exact q.elim
  · exact q.elim
end
/-- an error of a callee reaches what is wanted here -/
def Tk (X : Cx) (W : WX) : Prop := ∀ σ, PassesAt (L2.CX X.prog X.w) X σ (WE W σ)
theorem tk_of {X : Cx} {W : WX} (t : Takes X W) : Tk X W := fun σ => passAt t σ
/-- no error leaves -/
abbrev W0 : WX := fun _ _ _ _ => False
theorem tk0 {X : Cx} : Tk X W0 := fun σ pins H s e s' I c => by
  obtain ⟨_, _, _, _, _, _, _, _, _, _, _, _, z⟩ := c
  exact z.elim
/-- a def that computes F, ready to be called by its name -/
structure Dn (P : Program) (w : World) (K : PySem.W.Frag) (mg : Str → Option Value) (base : Heap) (k : Nat) (x : Str) (n : Nat) (F : Fn) : Prop where
  ex : ∃ (f : Addr) (fd : FuncData) (ps : List Str), FnOk P w K mg base (L2.CX P w) k f fd ps (spF K n F) ∧ mg x = some (.ref f) ∧ PySem.W.keepIn K (.ref f) = true ∧ Binds K fd ps []
section
variable {X : Cx} {W : WX} {e : Expr} {es : List Expr} {da : DA} {pos p : Pos} {k j n : Nat} {x : Str} {F : Fn}
theorem tCallS_of {cs : List Bool} {K : PySem.W.Frag} (σ : L2.St) (H : Hp) (Q : VK) (h : tE K W (mCall n F cs da) σ H Q) : tCallS (spF K n F) (WE W) (tA K W da) σ H Q := by
  obtain ⟨B, ρ, G, α, r, h⟩ := h
  refine bA r h fun us ρ1 vs H1 G1 α1 g1 r1 p1 h1 => ?_
  split at h1
  · rename_i us' st e1
    split at h1
    · rename_i hn
      obtain ⟨G2, g2, r2, p2⟩ := argC_ok r1.toRh p1 e1
      have hl : vs.length = n := by rw [← hn, p2.length]
      have r2' : Rs K B ⟨ρ1.sl, st⟩ G2 α1 σ H1 := Rs.mk' r1 g2 r2
      have := call_ok r2' p2 (okP.shift g2 h1)
      rw [hl] at this
      exact this
    · exact h1.elim
  · exact h1.elim
theorem fe_call (tk : Tk X W) (D : Dn X.prog X.w X.K X.mg X.base k x n F) (cs : List Bool) (hr : Room j X.A) (ha : SA X W (e :: es) da) (hk : k ≤ j := by decide) (hg : Gl X x := by rfl)
    (hdb : (x == ("__debug__" : Str)) = false := by decide) (he : starEach (e :: es) X.env = (false, eval e X.env) :: starEach es X.env := by rfl) (hpl : (backTo pos (starEach es X.env)).any (·.1) = false := by rfl)
    : SE X W (.Call (.Name x p) (e :: es) [] pos) (mCall n F cs da) := by
  obtain ⟨f, fd, ps, fo, hm, hkp, hb⟩ := D.ex
  exact pe_weak (pe_callS fo (hr.mono hk) hg hm hkp hb tk ha hdb he hpl) tCallS_of
end
/-- the context of a def's body -/
abbrev XC (P : Program) (w : World) (K : PySem.W.Frag) (mg : Str → Option Value) (base : Heap) (N : List Str) (qual : Str) (sc : Scope) (f : Addr) (cdv : Value) (A : Around) (outer : List Env) (s : Shared) (H : Hp) (E : XK) : Cx :=
  cxOf (L2.CX P w) P w K mg base N qual sc f cdv A outer s H E
abbrev Wd (E : XK) : WX := fun cls d _ H => E cls d H
end FL
namespace FL
open PySem L2
variable [TabPar]
abbrev DG := U → Sg → R Unit
abbrev DGs := List T → Sg → R Unit
def okG (K : PySem.W.Frag) (W : WX) (B G : Hp) (α : List Addr) (r : R Unit) (Q : L2.St → Hp → Prop) : Prop := match r with
  | .ok _ ρ => ∀ G' α' σ' H', Gr B G α G' α' → Rs K B ρ G' α' σ' H' → Q σ' H'
  | .ex x ρ => xw K W B G α x ρ
  | .no => False
theorem okG.shift {K : PySem.W.Frag} {W : WX} {B G G1 : Hp} {α α1 : List Addr} {r : R Unit} {Q : L2.St → Hp → Prop} (g : Gr B G α G1 α1) (h : okG K W B G α r Q) : okG K W B G1 α1 r Q := by
  cases r with
  | ok b ρ => exact fun G' α' σ' H' g' => h G' α' σ' H' (g.trans g')
  | ex x ρ => exact xw.shift g h
  | no => exact h
def tG (K : PySem.W.Frag) (W : WX) (m : DG) : TG := fun v σ H Q => ∃ B ρ G α u, Rs K B ρ G α σ H ∧ RpU K G α u v ∧ okG K W B G α (m u ρ) Q
def tGs (K : PySem.W.Frag) (W : WX) (m : DGs) : TGs := fun vs σ H Q => ∃ B ρ G α ts, Rs K B ρ G α σ H ∧ Rps K G ts vs ∧ okG K W B G α (m ts ρ) Q
abbrev SG (X : Cx) (W : WX) (e : Expr) (m : DG) : Prop := PG X e (tG X.K W m)
abbrev SGs (X : Cx) (W : WX) (es : List Expr) (m : DGs) : Prop := PGs X es (tGs X.K W m)
theorem pg_weak {X : Cx} {e : Expr} {t t' : TG} (h : PG X e t) (w : ∀ v σ H Q, t' v σ H Q → t v σ H Q) : PG X e t' := ⟨fun pins s σ H v u Q I r q => h.run pins s σ H v u Q I r (w v σ H Q q)⟩
theorem pgs_weak {X : Cx} {e : List Expr} {t t' : TGs} (h : PGs X e t) (w : ∀ v σ H Q, t' v σ H Q → t v σ H Q) : PGs X e t' := ⟨fun pins s σ H v u Q I r q => h.run pins s σ H v u Q I r (w v σ H Q q)⟩
theorem pg_or {X : Cx} {e : Expr} {t t' : TG} (h : PG X e t) (h' : PG X e t') : PG X e (fun v σ H Q => t v σ H Q ∨ t' v σ H Q) := ⟨fun pins s σ H v u Q I r q => by
  rcases q with q | q
  · exact h.run pins s σ H v u Q I r q
  · exact h'.run pins s σ H v u Q I r q⟩
section
variable {X : Cx} {W : WX} {e a b o i v : Expr} {es : List Expr} {ma mb mo mi mv : DE} {da : DA} {g : DG} {gs : DGs} {pos : Pos} {K : PySem.W.Frag}
def gN (i : Nat) : DG := fun u ρ => .ok () ⟨ρ.sl.set i (some u), ρ.st⟩
theorem Rs.store {B G H : Hp} {α : List Addr} {σ : L2.St} {ρ : Sg} {i : Nat} {u : U} {v : V} (r : Rs K B ρ G α σ H) (p : RpU K G α u v) : Rs K B ⟨ρ.sl.set i (some u), ρ.st⟩ G α (σ.set i (some v)) H :=
  { toRh := r.toRh, sll := by simpa using r.sll, sl := fun j w e => by
      by_cases hj : i = j
      · subst hj
        have hl : i < ρ.sl.length := by
          have := (List.getElem?_eq_some_iff.mp e).1
          simpa using this
        rw [List.getElem?_set_self hl] at e; cases e
        exact ⟨v, by rw [List.getElem?_set_self (by rw [← r.sll]; exact hl)], p⟩
      · rw [List.getElem?_set_ne hj] at e
        obtain ⟨w', e1, e2⟩ := r.sl j w e
        exact ⟨w', by rw [List.getElem?_set_ne hj]; exact e1, e2⟩ }
theorem fg_name {x : Str} (i : Nat) (hN : X.N.Nodup) (hi : X.N[i]? = some x := by rfl) (hx : Loc X.env.scope x := by first | exact Or.inl rfl | exact Or.inr rfl) (hf : X.fn x = true ∨ X.env.scope.names.lookup x = some .local := by first | exact .inl rfl | exact .inr rfl) : SG X W (.Name x pos) (gN i) :=
  pg_weak (pg_name hN hi hx hf) fun v σ H Q ⟨B, ρ, G, α, u, r, p, h⟩ => h G α _ H Gr.refl (r.store p)
def gsNil : DGs := fun ts ρ => match ts with | [] => .ok () ρ | _ => .no
def gsCons (g : DG) (gs : DGs) : DGs := fun ts ρ => match ts with
  | t :: ts => (g (.d t) ρ).bind fun _ ρ1 => gs ts ρ1
  | [] => .no
theorem fgs_nil : SGs X W [] gsNil := pgs_weak pgs_nil fun vs σ H Q ⟨B, ρ, G, α, ts, r, p, h⟩ => by
  unfold gsNil at h
  split at h
  · simp only [Rps] at p
    exact ⟨p, h G α σ H Gr.refl r⟩
  · exact h.elim
theorem fgs_cons (h1 : SG X W e g) (h2 : SGs X W es gs) (hs : (assignEach (e :: es) X.env).map (·.2) = assign e X.env :: (assignEach es X.env).map (·.2) := by rfl) : SGs X W (e :: es) (gsCons g gs) :=
  pgs_weak (pgs_cons h1 h2 hs) fun vs σ H Q ⟨B, ρ, G, α, ts, r, p, h⟩ => by
    unfold gsCons at h
    split at h
    · rename_i t ts
      simp only [Rps] at p
      obtain ⟨v, ws, rfl, p1, p2⟩ := p
      refine ⟨v, ws, rfl, B, ρ, G, α, .d t, r, p1, ?_⟩
      cases e1 : g (.d t) ρ with
      | ok _ ρ1 => rw [e1] at h; exact fun G1 α1 σ1 H1 g1 r1 => ⟨B, ρ1, G1, α1, ts, r1, Rps.mono g1.ex p2, okG.shift g1 h⟩
      | ex x ρ1 => rw [e1] at h; exact h
      | no => rw [e1] at h; exact h
    · exact h.elim
def gT (n : Nat) (gs : DGs) : DG := fun u ρ => match (pk ρ.st u).bind itm with
  | some ts => if ts.length = n then gs ts ρ else .no
  | none => .no
theorem fg_tup {k : Nat} {n : Nat} (hc : X.calm = true) (h : SGs X W es gs) (hn : (assignEach es X.env).length = n := by rfl) (hst : (assignEach es X.env).findIdx? (·.1) = none := by rfl) : SG X W (.Tuple es k pos) (gT n gs) :=
  pg_weak (pg_or (pg_tup hc h hn hst) (pg_unl hc h hn hst)) fun v σ H Q ⟨B, ρ, G, α, u, r, p, h⟩ => by
    unfold gT at h
    split at h
    · rename_i ts e1
      split at h
      · rename_i hl
        obtain ⟨t, e2, e3⟩ := Option.bind_eq_some_iff.mp e1
        obtain ⟨a, vs, rfl, h1, h2⟩ := itm_ok r.gh (pk_ok r.toRh p e2) e3
        have hz : vs.length = n := by rw [← h2.length]; exact hl
        rcases h1 with h1 | h1
        · exact .inr ⟨a, vs, rfl, h1, hz, B, ρ, G, α, ts, r, h2, h⟩
        · exact .inl ⟨a, vs, rfl, h1, hz, B, ρ, G, α, ts, r, h2, h⟩
      · exact h.elim
    · exact h.elim
/-- xs[i] = .. of a list of one's own -/
def gIx (mo mi : DE) : DG := fun u ρ => (mo ρ).bind fun o ρ1 => (mi ρ1).bind fun i ρ2 => match o, i with
  | .own j, .d (.int k) => match toD 4 u ρ2.st with
    | some (t, st) => match st[j]? with
      | some (.lst ts) => match ixN ts.length k with
        | some n => .ok () ⟨ρ2.sl, st.set j (.lst (ts.set n t))⟩
        | none => .no
      | _ => .no
    | none => .no
  | _, _ => .no
theorem bEG {K : PySem.W.Frag} {W : WX} {B G H : Hp} {α : List Addr} {σ : L2.St} {ρ : Sg} {m : DE} {k : U → Sg → R Unit} {Q : VK} {P : L2.St → Hp → Prop} (r : Rs K B ρ G α σ H) (h : okG K W B G α ((m ρ).bind k) P)
    (hk : ∀ u ρ1 v H1 G1 α1, Gr B G α G1 α1 → Rs K B ρ1 G1 α1 σ H1 → RpU K G1 α1 u v → okG K W B G1 α1 (k u ρ1) P → Q v H1) : tE K W m σ H Q := by
  refine ⟨B, ρ, G, α, r, ?_⟩
  cases e : m ρ with
  | ok u ρ1 => rw [e] at h; exact fun G1 α1 H1 g r1 v p => hk u ρ1 v H1 G1 α1 g r1 p (okG.shift g h)
  | ex x ρ1 => rw [e] at h; exact h
  | no => rw [e] at h; exact h
theorem fg_ix (ho : SE X W o mo) (hi : SE X W i mi) (ha : ∀ v, assign (.Subscript o i pos) X.env v = (do
      let ov ← holding [v] (eval o X.env)
      let iv ← holding [v, ov] (eval i X.env)
      standAt pos
      holding [v, ov, iv] (setItem ov iv v)
      release [v, ov, iv] []) := by intro _; rfl) : SG X W (.Subscript o i pos) (gIx mo mi) :=
  pg_weak (pg_sub ho hi set_list ha) fun v σ H Q ⟨B, ρ, G, α, u, r, p, h⟩ => by
    refine bEG r h fun o ρ1 ov H1 G1 α1 g1 r1 p1 h1 => bEG r1 h1 fun i ρ2 iv H2 G2 α2 g2 r2 p2 h2 => ?_
    split at h2
    · rename_i j k
      split at h2
      · rename_i t st e1
        obtain ⟨G3, g3, r3, p3⟩ := toD_ok 4 r2.toRh (p.mono (g1.trans g2)) e1
        split at h2
        · rename_i ts e2
          split at h2
          · rename_i n e3
            obtain ⟨a, ha1, rfl⟩ := (p1.mono (g2.trans g3))
            have hi : iv = .int k := by simpa [RpU, Rp] using p2
            subst hi
            obtain ⟨_, _, hz, vs, hv1, hv2⟩ := r3.ow j a _ ha1 e2
            refine ⟨a, vs, k, n, rfl, rfl, hv1, by rw [← hv2.length]; exact e3, ?_⟩
            have r4 := r3.upd (o := .lst (vs.set n v)) (ob := .lst (ts.set n t)) ha1 hz (r3.tb.at hv1 (fun ps e => by cases e) (fun c q e => by unfold LamX.CodeO at e; cases e)) ⟨hz, _, upd_same, Rps.set p3 n hv2⟩
            exact h2 G3 α2 σ _ g3 (Rs.mk' r2 g3 r4)
          · exact h2.elim
        · exact h2.elim
      · exact h2.elim
    · exact h2.elim
def mAsg (m : DE) (g : DG) : DS := fun ρ => (m ρ).thn fun u ρ1 => match g u ρ1 with
  | .ok _ ρ2 => .nx ρ2
  | .ex x ρ2 => .ex x ρ2
  | .no => .no
theorem fs_asg {tg : Expr} (he : SE X W e ma) (hg : SG X W tg g) (hs : swapsWithSole [tg] e pos.line X.env = pure false := by rfl) (hw : swappedStores [tg] e X.env = pure none := by rfl)
    (h1 : (assignEach [tg] X.env).map (·.2) = [assign tg X.env] := by rfl) : SS X W (.Assign [tg] e pos) (mAsg ma g) := ps_weak (ps_asg he hg hs hw h1) fun D σ H ⟨B, ρ, G, α, r, h⟩ =>
  sE r h fun u ρ1 v H1 G1 α1 g1 r1 p1 h1 => ⟨B, ρ1, G1, α1, u, r1, p1, by
    cases e1 : g u ρ1 with
    | ok _ ρ2 => rw [e1] at h1; exact fun G' α' σ' H' g' r' => h1 G' α' σ' H' g' r'
    | ex x ρ2 => rw [e1] at h1; exact h1
    | no => rw [e1] at h1; exact h1⟩
def mSet (i : Nat) (m : DE) : DS := fun ρ => (m ρ).thn fun u ρ1 => .nx ⟨ρ1.sl.set i (some u), ρ1.st⟩
theorem fs_set {x : Str} {pos' : Pos} (i : Nat) (hN : X.N.Nodup) (he : SE X W e ma) (hi : X.N[i]? = some x := by rfl) (hx : Loc X.env.scope x := by first | exact Or.inl rfl | exact Or.inr rfl) (hs : swapsWith e (some (.Name x pos')) pos.line X.env = pure false := by rfl)
    (hf : X.fn x = true ∨ X.env.scope.names.lookup x = some .local := by first | exact .inl rfl | exact .inr rfl) : SS X W (.Assign [.Name x pos'] e pos) (mSet i ma) := ps_weak (ps_set hN hi hx he hs hf) fun D σ H ⟨B, ρ, G, α, r, h⟩ =>
  sE r h fun u ρ1 v H1 G1 α1 g1 r1 p1 h1 => h1 G1 α1 _ H1 Gr.refl (r1.store p1)
def mPar (i j : Nat) (da : DA) : DS := fun ρ => (da ρ).thn fun us ρ1 => match us with
  | [u, w] => .nx ⟨(ρ1.sl.set i (some u)).set j (some w), ρ1.st⟩
  | _ => .no
theorem fs_par {x y : Str} {px py pt : Pos} {kt k2 pt2} (i j : Nat) (hc : X.calm = true) (hN : X.N.Nodup) (ha : SA X W [a, b] da) (hi : X.N[i]? = some x := by rfl) (hj : X.N[j]? = some y := by rfl) (hij : i ≠ j := by decide)
    (hx : X.env.scope.names.lookup x = some .local := by rfl) (hy : X.env.scope.names.lookup y = some .local := by rfl)
    (hw : swappedStores [.Tuple [.Name x px, .Name y py] kt pt] (.Tuple [a, b] k2 pt2) X.env = pure (some [x, y]) := by rfl)
    (hs : swapsWithSole [.Tuple [.Name x px, .Name y py] kt pt] (.Tuple [a, b] k2 pt2) pos.line X.env = pure false := by rfl) :
    SS X W (.Assign [.Tuple [.Name x px, .Name y py] kt pt] (.Tuple [a, b] k2 pt2) pos) (mPar i j da) := ps_weak (ps_par hc hN hi hj hij hx hy ha hw hs) fun D σ H ⟨B, ρ, G, α, r, h⟩ =>
  sA r h fun us ρ1 vs H1 G1 α1 g1 r1 p1 h1 => by
    split at h1
    · obtain ⟨v1, w1, rfl, q1, v2, w2, rfl, q2, rfl⟩ := p1
      exact ⟨v1, v2, rfl, h1 G1 α1 _ H1 Gr.refl ((r1.store q1).store q2)⟩
    · exact h1.elim
theorem tyV_own {B G H : Hp} {α : List Addr} {st : List Ob} {j : Nat} {v : V} {ts : List T} (r : Rh K B st G α H) (p : RpU K G α (.own j) v) (e : st[j]? = some (.lst ts)) : ∃ a vs, v = .ref a ∧ α[j]? = some a ∧ G a = none ∧ H a = some (.lst vs) ∧ Rps K G ts vs := by
  obtain ⟨a, h1, rfl⟩ := p
  obtain ⟨_, _, z, vs, z1, z2⟩ := r.ow j a _ h1 e
  exact ⟨a, vs, rfl, h1, z, z1, z2⟩
def isL (st : List Ob) : U → Bool
  | .own j => match st[j]? with
    | some (.lst _) => true
    | _ => false
  | .d (.lst _) => true
  | _ => false
theorem isL_ok {B G H : Hp} {α : List Addr} {st : List Ob} {u : U} {v : V} (r : Rh K B st G α H) (p : RpU K G α u v) (e : isL st u = true) : tyV K "list" v H := by
  unfold isL at e
  split at e
  · rename_i j
    split at e
    · rename_i ts e1
      obtain ⟨a, vs, rfl, _, _, h, _⟩ := tyV_own r p e1
      exact .inl ⟨rfl, vs, SqL.of h⟩
    · cases e
  · have p : Rp K G (.lst _) v := p
    simp only [Rp] at p
    obtain ⟨a, vs, rfl, h, _⟩ := p
    exact .inl ⟨rfl, vs, SqL.of (r.gh _ _ h)⟩
  · cases e
def mApp (mo me : DE) : DE := fun ρ => (mo ρ).bind fun o ρ1 => if isL ρ1.st o = true then (me ρ1).bind fun u ρ2 => match o with
  | .own j => match toD 4 u ρ2.st with
    | some (t, st) => match st[j]? with
      | some (.lst ts) => if ts.length < sizeLine then .ok (.d .non) ⟨ρ2.sl, st.set j (.lst (ts ++ [t]))⟩ else .no
      | _ => .no
    | none => .no
  | _ => .no else .no
theorem fe_app {apos : Pos} (ho : SE X W o mo) (ha : SE X W e me) (hbase : attributeBase o "append" X.env (eval o X.env) = eval o X.env := by rfl)
    (hfew : ((backTo pos (starEach [e] X.env)).all (fun x => !x.1) && (backToKw pos (keywordEach [] X.env)).all (fun x => x.1.isSome)
      && decide ([e].length + ([] : List Keyword).length + (if ([] : List Keyword).isEmpty then 0 else 1) < 30)) = true := by rfl)
    (hline : (apos.endLine == pos.line) = true := by rfl) (hs : starEach [e] X.env = (false, eval e X.env) :: starEach [] X.env := by rfl) : SE X W (.Call (.Attribute o "append" apos) [e] [] pos) (mApp mo me) :=
  pe_weak (pe_bm PySem.F.plainAttrs_list PySem.F.slot_list_append PySem.F.type_list_append mt_append ho (pa_cons ha pa_nil hs) hbase hfew hline hs rfl) fun σ H Q ⟨B, ρ, G, α, r, h⟩ => by
    refine bE r h fun o ρ1 ov H1 G1 α1 g1 r1 p1 h1 => ?_
    split at h1
    · rename_i hl
      refine ⟨isL_ok r1.toRh p1 hl, ?_⟩
      refine bE r1 h1 fun u ρ2 v H2 G2 α2 g2 r2 p2 h2 => ?_
      show rAppend ov [v] H2 Q
      split at h2
      · rename_i j
        split at h2
        · rename_i t st e1
          obtain ⟨G3, g3, r3, p3⟩ := toD_ok 4 r2.toRh p2 e1
          split at h2
          · rename_i ts e2
            split at h2
            · rename_i hz
              obtain ⟨a, vs, rfl, ha1, hz1, hv1, hv2⟩ := tyV_own r3 (p1.mono (g2.trans g3)) e2
              refine ⟨a, vs, v, rfl, rfl, hv1, by rw [← hv2.length]; exact hz, ?_⟩
              have r4 := r3.upd (o := .lst (vs ++ [v])) (ob := .lst (ts ++ [t])) ha1 hz1 (r3.tb.at hv1 (fun ps e => by cases e) (fun c q e => by unfold LamX.CodeO at e; cases e)) ⟨hz1, _, upd_same, hv2.append (Rps.cons p3 Rps.nil)⟩
              exact h2 G3 α2 _ g3 (Rs.mk' r2 g3 r4) .non (by simp [RpU, Rp])
            · exact h2.elim
          · exact h2.elim
        · exact h2.elim
      · exact h2.elim
    · exact h1.elim
def mExt (mo me : DE) : DE := fun ρ => (mo ρ).bind fun o ρ1 => if isL ρ1.st o = true then (me ρ1).bind fun u ρ2 => match o with
  | .own j => match pk ρ2.st u, ρ2.st[j]? with
    | some (.lst us), some (.lst ts) => if ts.length + us.length ≤ sizeLine then .ok (.d .non) ⟨ρ2.sl, ρ2.st.set j (.lst (ts ++ us))⟩ else .no
    | _, _ => .no
  | _ => .no else .no
theorem fe_ext {apos : Pos} (ho : SE X W o mo) (ha : SE X W e me) (hbase : attributeBase o "extend" X.env (eval o X.env) = eval o X.env := by rfl)
    (hfew : ((backTo pos (starEach [e] X.env)).all (fun x => !x.1) && (backToKw pos (keywordEach [] X.env)).all (fun x => x.1.isSome)
      && decide ([e].length + ([] : List Keyword).length + (if ([] : List Keyword).isEmpty then 0 else 1) < 30)) = true := by rfl)
    (hline : (apos.endLine == pos.line) = true := by rfl) (hs : starEach [e] X.env = (false, eval e X.env) :: starEach [] X.env := by rfl) : SE X W (.Call (.Attribute o "extend" apos) [e] [] pos) (mExt mo me) :=
  pe_weak (pe_bm PySem.F.plainAttrs_list PySem.F.slot_list_extend PySem.F.type_list_extend mt_extend ho (pa_cons ha pa_nil hs) hbase hfew hline hs rfl) fun σ H Q ⟨B, ρ, G, α, r, h⟩ => by
    refine bE r h fun o ρ1 ov H1 G1 α1 g1 r1 p1 h1 => ?_
    split at h1
    · rename_i hl
      refine ⟨isL_ok r1.toRh p1 hl, ?_⟩
      refine bE r1 h1 fun u ρ2 v H2 G2 α2 g2 r2 p2 h2 => ?_
      show rExtend ov [v] H2 Q
      split at h2
      · rename_i j
        split at h2
        · rename_i us ts e1 e2
          split at h2
          · rename_i hz
            obtain ⟨b, ws, rfl, hw1, hw2⟩ := pk_ok r2.toRh p2 e1
            obtain ⟨a, vs, rfl, ha1, hz1, hv1, hv2⟩ := tyV_own r2.toRh (p1.mono g2) e2
            refine ⟨a, b, vs, ws, rfl, rfl, hv1, hw1, by rw [← hv2.length, ← hw2.length]; exact hz, ?_⟩
            have r4 := r2.toRh.upd (o := .lst (vs ++ ws)) (ob := .lst (ts ++ us)) ha1 hz1 (r2.toRh.tb.at hv1 (fun ps e => by cases e) (fun c q e => by unfold LamX.CodeO at e; cases e)) ⟨hz1, _, upd_same, hv2.append hw2⟩
            exact h2 G2 α2 _ Gr.refl (Rs.mk' r2 Gr.refl r4) .non (by simp [RpU, Rp])
          · exact h2.elim
        · exact h2.elim
      · exact h2.elim
    · exact h1.elim
end
end FL
namespace FL
open PySem L2 PyProof.Rows
variable [TabPar]
/-- what a walk gives at a turn: a datum that stands, or a new tuple -/
def Yt (K : PySem.W.Frag) (G : Hp) (ts : List T) : Nat → Hp → V → Hp → Prop := fun i H v H' => ∃ t, ts[i]? = some t ∧
  ((H' = H ∧ Rp K G t v) ∨ ∃ p us vs, t = .tup us ∧ v = .ref p ∧ H p = none ∧ H' = upd H p (.tup vs) ∧ Rps K G us vs)
abbrev WT (K : PySem.W.Frag) (G : Hp) (J : It) (ts : List T) : Prop := Walk J ts.length (fun H => Ex G H) (Yt K G ts)
abbrev DI := Sg → R (List T)
def tI (K : PySem.W.Frag) (W : WX) (m : DI) : TI := fun σ H Q => ∃ B ρ G α, Rs K B ρ G α σ H ∧ okP K W B G α σ (m ρ) fun ts _ G' _ H' => ∀ J, WT K G' J ts → Q J H'
abbrev SI (X : Cx) (W : WX) (tg e : Expr) (m : DI) : Prop := PI X tg e (tI X.K W m)
theorem pi_weak {X : Cx} {tg e : Expr} {t t' : TI} (h : PI X tg e t) (w : ∀ σ H Q, t' σ H Q → t σ H Q) : PI X tg e t' := ⟨fun pins s σ H Q I q => h.run pins s σ H Q I (w σ H Q q)⟩
section
variable {K : PySem.W.Frag} {G : Hp} {a : Addr} {vs : List V} {ts : List T}
theorem wt_list (h : SqL K G a vs) (r : Rps K G ts vs) : WT K G (Itl K a) ts := by
  have e := r.length
  have w := (walk_list (K := K) (a := a) (xs := vs)).mono (G' := fun H => Ex G H) (Y' := Yt K G ts) (fun H g => g.l h) (fun i H x H' hi g y => by
    obtain ⟨t, e1, e2⟩ := r.getV y.2
    exact ⟨t, e1, .inl ⟨y.1, e2⟩⟩)
  rw [← e] at w; exact w
theorem wt_tup (h : SqT K G a vs) (r : Rps K G ts vs) : WT K G (Itt K a) ts := by
  have e := r.length
  have w := (walk_tup (K := K) (a := a) (xs := vs)).mono (G' := fun H => Ex G H) (Y' := Yt K G ts) (fun H g => g.t h) (fun i H x H' hi g y => by
    obtain ⟨t, e1, e2⟩ := r.getV y.2
    exact ⟨t, e1, .inl ⟨y.1, e2⟩⟩)
  rw [← e] at w; exact w
def iota (lo : Int) : Nat → List T
  | 0 => []
  | n + 1 => .int lo :: iota (lo + 1) n
theorem iota_len : ∀ {lo : Int} {n : Nat}, (iota lo n).length = n
  | _, 0 => rfl
  | lo, n + 1 => by simp [iota, iota_len (lo := lo + 1)]
theorem iota_get : ∀ {lo : Int} {n i : Nat}, i < n → (iota lo n)[i]? = some (.int (lo + i))
  | lo, 0, i, h => by omega
  | lo, n + 1, 0, h => by simp [iota]
  | lo, n + 1, i + 1, h => by
    have e : lo + 1 + (i : Int) = lo + ((i + 1 : Nat) : Int) := by omega
    rw [iota, List.getElem?_cons_succ, iota_get (lo := lo + 1) (n := n) (i := i) (by omega), e]
theorem wt_range {lo : Int} {n : Nat} : WT K G (Itr lo n) (iota lo n) := by
  have w := (walk_range (lo := lo) (n := n)).mono (G' := fun H => Ex G H) (Y' := Yt K G (iota lo n)) (fun H g => trivial) (fun i H x H' hi g y => by
    obtain ⟨e1, e2⟩ := y
    exact ⟨_, iota_get hi, .inl ⟨e1, by subst e2; simp [Rp]⟩⟩)
  have e := iota_len (lo := lo) (n := n)
  have e' : WT K G (Itr lo n) (iota lo n) = Walk (Itr lo n) n (fun H => Ex G H) (Yt K G (iota lo n)) := by unfold WT; rw [e]
  rw [e']; exact w
end
/-- a list or a tuple -/
def iAny (K : PySem.W.Frag) (tl : TE) : TI := fun σ H R => tl σ H fun x H1 => ∃ a, x = .ref a ∧ (((∃ xs, SqL K H1 a xs) ∧ R (Itl K a) H1) ∨ ((∃ xs, SqT K H1 a xs) ∧ R (Itt K a) H1))
theorem pi_any {X : Cx} {tg l : Expr} {tl : TE} (hl : PE X l tl) : PI X tg l (iAny X.K tl) := by
  refine ⟨fun pins s σ H R I h => ?_⟩
  refine thn (hl.run pins s σ H _ I h) fun v s1 ⟨x, H1, I1, r1, q1⟩ => ?_
  obtain ⟨a, e, q⟩ := q1
  subst e
  cases r1
  rcases q with ⟨⟨xs, hq⟩, q⟩ | ⟨⟨xs, hq⟩, q⟩
  · obtain ⟨its, rv, p, hz⟩ := I1.list hq
    refine wpAny_pyIter_list p.isList ?_
    refine ⟨s1.heap.objs.size, [s1.heap.objs.size], _, _, H1, rfl, I1.kept (t' := s1.toks) fun b o e => Heap.get?_push_of_some _ e, turn_list a _, ⟨_, Heap.get?_push_size _ rfl, rfl, rfl⟩, fun b hb => ?_, q⟩
    have e : b = s1.heap.objs.size := by simpa using hb
    subst e
    exact I1.fpOk (Nat.le_refl _) (I1.hok.fresh (Nat.le_refl _))
  · obtain ⟨its, rv, p, hz⟩ := I1.tuple hq
    refine wpAny_pyIter_tuple (show s1.heap.IsTuple a its.toArray from p) ?_
    refine ⟨s1.heap.objs.size, [s1.heap.objs.size], _, _, H1, rfl, I1.kept (t' := s1.toks) fun b o e => Heap.get?_push_of_some _ e, turn_tuple a _, ⟨_, Heap.get?_push_size _ rfl, rfl, rfl⟩, fun b hb => ?_, q⟩
    have e : b = s1.heap.objs.size := by simpa using hb
    subst e
    exact I1.fpOk (Nat.le_refl _) (I1.hok.fresh (Nat.le_refl _))
section
variable {X : Cx} {W : WX} {e tg : Expr} {ma : DE} {da : DA} {pos p : Pos}
/-- what is walked stays as it is: it is frozen -/
def iSeq (m : DE) : DI := fun ρ => (m ρ).bind fun u ρ1 => match toD 4 u ρ1.st with
  | some (t, st) => match itm t with
    | some ts => .ok ts ⟨ρ1.sl, st⟩
    | none => .no
  | none => .no
theorem fi_seq (h : SE X W e ma) : SI X W tg e (iSeq ma) := pi_weak (pi_any h) fun σ H Q ⟨B, ρ, G, α, r, h⟩ => by
  refine bE r h fun u ρ1 v H1 G1 α1 g1 r1 p1 h1 => ?_
  split at h1
  · rename_i t st e1
    obtain ⟨G2, g2, r2, p2⟩ := toD_ok 4 r1.toRh p1 e1
    have r2' : Rs X.K B ⟨ρ1.sl, st⟩ G2 α1 σ H1 := Rs.mk' r1 g2 r2
    split at h1
    · rename_i ts e2
      obtain ⟨a, vs, rfl, q1, q2⟩ := itm_ok (Ex.refl G2) (Rp1.of (Ex.refl G2) p2) e2
      refine ⟨a, rfl, ?_⟩
      rcases q1 with q1 | q1
      · exact .inl ⟨⟨vs, r2.gh.l q1⟩, h1 G2 α1 H1 g2 r2' _ (wt_list q1 q2)⟩
      · exact .inr ⟨⟨vs, r2.gh.t q1⟩, h1 G2 α1 H1 g2 r2' _ (wt_tup q1 q2)⟩
    · exact h1.elim
  · exact h1.elim
def iR1 (da : DA) : DI := fun ρ => (da ρ).bind fun us ρ1 => match us with
  | [.d (.int j)] => if -(2 ^ 62) ≤ j ∧ j < 2 ^ 62 then .ok (iota 0 j.toNat) ρ1 else .no
  | _ => .no
theorem fi_range1 (hg : Gl X "range") (hm : X.mg "range" = none) (ha : SA X W [e] da) (hs : starEach [e] X.env = [(false, eval e X.env)] := by rfl) : SI X W tg (.Call (.Name "range" p) [e] [] pos) (iR1 da) := pi_weak (pi_range1 hg hm ha hs) fun σ H Q ⟨B, ρ, G, α, r, h⟩ => by
  refine bA r h fun us ρ1 vs H1 G1 α1 g1 r1 p1 h1 => ?_
  split at h1
  · rename_i j
    obtain ⟨v, ws, rfl, q1, rfl⟩ := p1
    have hv : v = .int j := by simpa [RpU, Rp] using q1
    subst hv
    split at h1
    · rename_i hz
      exact ⟨j, rfl, hz.1, hz.2, h1 G1 α1 H1 Gr.refl r1 _ wt_range⟩
    · exact h1.elim
  · exact h1.elim
end
/-- what a context asks besides -/
structure Ct (X : Cx) (W : WX) : Prop where
  tk : Tk X W
  hp : PassesOwn (model X.prog X.w) X.A X.env X.xe
  ts : Takes X W
def forL (g : DG) (b : DS) : List T → Sg → F
  | [], ρ => .nx ρ
  | t :: ts, ρ => match g (.d t) ρ with
    | .ok _ ρ1 => match b ρ1 with
      | .nx ρ2 => forL g b ts ρ2
      | .ct ρ2 => forL g b ts ρ2
      | .bk ρ2 => .nx ρ2
      | .rt u ρ2 => .rt u ρ2
      | .ex x ρ2 => .ex x ρ2
      | .no => .no
    | .ex x ρ1 => .ex x ρ1
    | .no => .no
def mFor (i : DI) (g : DG) (b : DS) : DS := fun ρ => (i ρ).thn fun ts ρ1 => forL g b ts ρ1
theorem drop_at {β : Type} {l : List β} {i : Nat} {x : β} (h : l[i]? = some x) : l.drop i = x :: l.drop (i + 1) := by
  obtain ⟨h1, h2⟩ := List.getElem?_eq_some_iff.mp h
  rw [List.drop_eq_getElem_cons h1, h2]
section
variable {X : Cx} {W : WX} {e tg iter : Expr} {body : List Stmt} {mi : DI} {g : DG} {b : DS} {pos : Pos}
theorem item_ok {K : PySem.W.Frag} {B G G0 H H' : Hp} {α : List Addr} {σ : L2.St} {ρ : Sg} {ts : List T} {i : Nat} {v : V} (r : Rs K B ρ G α σ H) (g : Ex G0 G) (y : Yt K G0 ts i H v H') :
    ∃ t G', ts[i]? = some t ∧ Gr B G α G' α ∧ Rs K B ρ G' α σ H' ∧ Rp K G' t v := by
  obtain ⟨t, e, y⟩ := y
  rcases y with ⟨rfl, p⟩ | ⟨p, us, vs, rfl, rfl, hp, rfl, q⟩
  · exact ⟨t, G, e, Gr.refl, r, Rp.mono g p⟩
  · obtain ⟨r1, g1⟩ := r.newD (o := .tup vs) hp
    refine ⟨_, _, e, g1, r1, ?_⟩
    simp only [Rp]
    exact ⟨p, vs, rfl, upd_same, Rps.mono (g.trans g1.ex) q⟩
theorem fs_for (hc : X.calm = true) (ct : Ct X W) (hi : SI X W tg iter mi) (hg : SG X W tg g) (hb : SSs X W body b) (hs : ∀ x, foldedSetIterable iter X.env x = pure x := by intro _; rfl) : SS X W (.For tg iter body [] pos) (mFor mi g b) :=
  ps_weak (ps_for ct.hp hc hi hg hb hs) fun D σ H ⟨B, ρ, G, α, r, h⟩ => by
    show tI X.K W mi σ H _
    refine ⟨B, ρ, G, α, r, ?_⟩
    unfold mFor at h
    cases e : mi ρ with
    | ex x ρ1 => rw [e] at h; exact h
    | no => rw [e] at h; exact h
    | ok ts ρ1 =>
      rw [e] at h
      intro G1 α1 H1 g1 r1 J wt
      refine for_it wt (fun i σ' H' => ∃ ρ' G' α', Gr B G1 α1 G' α' ∧ Rs X.K B ρ' G' α' σ' H' ∧ okF X.K W B G' α' (forL g b (ts.drop i) ρ') D) ?_ ?_ ?_ ?_
      · exact ⟨ρ1, G1, α1, Gr.refl, r1, okF.shift g1 h⟩
      · rintro i σ' H' _ ⟨ρ', G', α', g', r', _⟩
        exact g'.ex.trans r'.gh
      · rintro i x σ' H' H'' hi ⟨ρ', G', α', g', r', ho⟩ y
        obtain ⟨t, G2, e1, g2, r2, p2⟩ := item_ok r' g'.ex y
        rw [drop_at e1] at ho
        have ho := okF.shift g2 ho
        refine ⟨B, ρ', G2, α', .d t, r2, p2, ?_⟩
        unfold forL at ho
        cases eg : g (.d t) ρ' with
        | ex x ρ3 => rw [eg] at ho; exact ho
        | no => rw [eg] at ho; exact ho
        | ok _ ρ3 =>
          rw [eg] at ho
          dsimp only at ho
          intro G3 α3 σ3 H3 g3 r3
          refine ⟨B, ρ3, G3, α3, r3, ?_⟩
          have ho := okF.shift g3 ho
          have gg := (g'.trans g2).trans g3
          cases eb : b ρ3 with
          | nx ρ4 => rw [eb] at ho; exact fun G4 α4 σ4 H4 g4 r4 => ⟨ρ4, G4, α4, gg.trans g4, r4, okF.shift g4 ho⟩
          | ct ρ4 => rw [eb] at ho; exact fun G4 α4 σ4 H4 g4 r4 => ⟨ρ4, G4, α4, gg.trans g4, r4, okF.shift g4 ho⟩
          | bk ρ4 => rw [eb] at ho; exact ho
          | rt u ρ4 => rw [eb] at ho; exact ho
          | ex x ρ4 => rw [eb] at ho; exact ho
          | no => rw [eb] at ho; exact ho
      · rintro σ' H' ⟨ρ', G', α', g', r', ho⟩
        rw [List.drop_length] at ho
        exact ho G' α' σ' H' Gr.refl r'
end
end FL
namespace FL
open PySem L2 PyProof.Rows
variable [TabPar]
section
variable {K : PySem.W.Frag} {B G G' H H' : Hp} {α α' : List Addr} {σ : L2.St} {ρ : Sg} {st : List Ob} {p : Addr}
theorem Rh.other {o : HO} (r : Rh K B st G α H) (hB : B p = none) (hG : G p = none) (ha : p ∉ α) (hT : TabW G α (L2.upd H p o)) : Rh K B st G α (L2.upd H p o) := by
  refine ⟨r.gh.mut hG, r.bh.mut hB, hT, r.len, r.nd, fun i a ob e1 e2 => ?_⟩
  obtain ⟨q1, ⟨u, q2⟩, q3⟩ := r.ow i a ob e1 e2
  have ne : a ≠ p := fun z => ha (z ▸ List.mem_of_getElem? e1)
  exact ⟨q1, ⟨u, by rw [upd_ne ne]; exact q2⟩, q3.mono (B := B) Gr.refl (fun z => z) (upd_ne ne)⟩
theorem Rh.adopt {o : HO} {ob : Ob} (r : Rh K B st G α H) (hB : B p = none) (ha : p ∉ α) (ho : H p = some o) (h : ObR K G (α ++ [p]) H p ob) (hP : TabPar.P ≠ some p) : Rh K B (st ++ [ob]) G (α ++ [p]) H := by
  refine ⟨r.gh, r.bh, fun q hq => ⟨(r.tb q hq).1, fun hm => by
    rcases List.mem_append.mp hm with hm | hm
    · exact (r.tb q hq).2.1 hm
    · rw [List.mem_singleton] at hm; exact hP (hm ▸ hq), (r.tb q hq).2.2⟩, by simp [r.len], ?_, fun i a oo e1 e2 => ?_⟩
  · rw [List.nodup_append]
    refine ⟨r.nd, by simp, fun a ha' b hb => ?_⟩
    rw [List.mem_singleton] at hb
    rintro rfl
    exact ha (hb ▸ ha')
  · by_cases hi : i < α.length
    · rw [List.getElem?_append_left hi] at e1
      rw [List.getElem?_append_left (by rw [← r.len]; exact hi)] at e2
      obtain ⟨q1, q2, q3⟩ := r.ow i a oo e1 e2
      exact ⟨q1, q2, q3.mono (B := B) Gr.own (fun z => z) rfl⟩
    · have hi' : i = α.length := by
        have := (List.getElem?_eq_some_iff.mp e1).1
        simp at this; omega
      subst hi'
      have e3 : p = a := by simpa using e1
      have e4 : ob = oo := by
        rw [r.len] at e2
        simpa using e2
      subst e3; subst e4
      exact ⟨hB, ⟨o, ho⟩, h⟩
/-- a wall more -/
theorem Rs.wall {o : HO} (r : Rs K B ρ G α σ H) (hp : H p = some o) (ha : p ∉ α) (hn : ∀ ps, o ≠ .tbl ps := by intro ps e; first | cases e | (unfold keyD at e; cases e)) : Rs K (L2.upd B p o) ρ G α σ H := by
  have ow : ∀ (i : Nat) (a : Addr) (ob : Ob), α[i]? = some a → ρ.st[i]? = some ob → L2.upd B p o a = none ∧ (∃ u, H a = some u) ∧ ObR K G α H a ob := fun i a ob e1 e2 => by
    obtain ⟨q1, q2, q3⟩ := r.ow i a ob e1 e2
    have ne : a ≠ p := fun z => ha (z ▸ List.mem_of_getElem? e1)
    exact ⟨by rw [upd_ne ne]; exact q1, q2, q3⟩
  have bw : Wb (L2.upd B p o) H := ⟨fun a u e nP => by
    by_cases z : a = p
    · subst z; rw [upd_same] at e; rw [← e]; exact hp
    · rw [upd_ne z] at e; exact r.bh.keep a u e nP, fun {a} e => by
    by_cases z : a = p
    · subst z; rw [hp] at e; cases e
    · rw [upd_ne z]; exact r.bh.free e, fun a u hq e => by
    by_cases z : a = p
    · subst z; exact absurd hq (r.tb.np hp hn)
    · rw [upd_ne z] at e; exact r.bh.tt a u hq e⟩
  exact { gh := r.gh, bh := bw, tb := r.tb, len := r.len, nd := r.nd, sll := r.sll, sl := r.sl, ow := ow }
theorem Rs.unwall {o : HO} (hB : B p = none) (r : Rs K (L2.upd B p o) ρ G α σ H) (ht : ∀ ps, o ≠ .tbl ps := by intro ps e; first | cases e | (unfold keyD at e; cases e)) : Rs K B ρ G α σ H ∧ p ∉ α ∧ H p = some o := by
  have nP : TabPar.P ≠ some p := fun hq => by
    obtain ⟨ps, e⟩ := r.bh.tt p o hq upd_same
    exact ht ps e
  have hn : p ∉ α := fun hm => by
    obtain ⟨i, hi, e⟩ := List.getElem_of_mem hm
    have hl : i < ρ.st.length := by rw [← r.len]; exact hi
    have := (r.ow i p _ (by rw [List.getElem?_eq_getElem hi, e]) (List.getElem?_eq_getElem hl)).1
    rw [upd_same] at this; cases this
  have ow : ∀ (i : Nat) (a : Addr) (ob : Ob), α[i]? = some a → ρ.st[i]? = some ob → B a = none ∧ (∃ u, H a = some u) ∧ ObR K G α H a ob := fun i a ob e1 e2 => by
    obtain ⟨q1, q2, q3⟩ := r.ow i a ob e1 e2
    have ne : a ≠ p := fun z => hn (z ▸ List.mem_of_getElem? e1)
    exact ⟨by rw [upd_ne ne] at q1; exact q1, q2, q3⟩
  have bw : Wb B H := ⟨fun a u e nq => r.bh.keep a u (by rw [upd_ne (ne_of_none e hB)]; exact e) nq, fun {a} e => by
    by_cases z : a = p
    · subst z; exact hB
    · have := r.bh.free e
      rw [upd_ne z] at this; exact this, fun a u hq e => r.bh.tt a u hq (by rw [upd_ne (ne_of_none e hB)]; exact e)⟩
  exact ⟨{ gh := r.gh, bh := bw, tb := r.tb, len := r.len, nd := r.nd, sll := r.sll, sl := r.sl, ow := ow }, hn, r.bh.keep _ _ upd_same nP⟩
theorem Gr.unwall {o : HO} (hB : B p = none) (g : Gr (L2.upd B p o) G α G' α') : Gr B G α G' α' ∧ (G p = none → G' p = none) :=
  ⟨⟨g.ex, g.al, fun a h n => g.fr a h (by
    by_cases z : a = p
    · subst z; exact absurd hB n
    · rw [upd_ne z]; exact n)⟩, fun h => g.fr p h (by rw [upd_same]; simp)⟩
end
/-- the slots of a block's own names forgotten -/
def wipeL (sl : List (Option U)) : List Nat → List (Option U)
  | [] => sl
  | v :: vs => (wipeL sl vs).set v none
theorem wipeL_len {sl : List (Option U)} : ∀ {vs : List Nat}, (wipeL sl vs).length = sl.length
  | [] => rfl
  | v :: vs => by unfold wipeL; rw [List.length_set, wipeL_len]
theorem wipeL_some {sl : List (Option U)} {i : Nat} {u : U} : ∀ {vs : List Nat}, (wipeL sl vs)[i]? = some (some u) → sl[i]? = some (some u) ∧ i ∉ vs
  | [], h => ⟨h, by simp⟩
  | v :: vs, h => by
    unfold wipeL at h
    by_cases hi : v = i
    · subst hi
      by_cases hv : v < (wipeL sl vs).length
      · rw [List.getElem?_set_self hv] at h; cases h
      · rw [List.getElem?_eq_none (by simpa using hv)] at h; cases h
    · rw [List.getElem?_set_ne hi] at h
      obtain ⟨h1, h2⟩ := wipeL_some h
      exact ⟨h1, by rw [List.mem_cons, not_or]; exact ⟨Ne.symm hi, h2⟩⟩
theorem wipe_out {σ : L2.St} {i : Nat} : ∀ {vs : List Nat}, i ∉ vs → (wipe σ vs)[i]? = σ[i]?
  | [], _ => rfl
  | v :: vs, h => by
    rw [List.mem_cons, not_or] at h
    unfold wipe
    rw [List.getElem?_set_ne (Ne.symm h.1), wipe_out h.2]
theorem wipe_set {σ : L2.St} {i : Nat} {x : Option V} : ∀ {vs : List Nat}, i ∈ vs → wipe (σ.set i x) vs = wipe σ vs
  | v :: vs, h => by
    unfold wipe
    by_cases hv : v = i
    · subst hv
      by_cases hm : v ∈ vs
      · rw [wipe_set hm]
      · clear h
        induction vs generalizing σ with
        | nil => unfold wipe; rw [List.set_set]
        | cons w vs ih =>
          rw [List.mem_cons, not_or] at hm
          unfold wipe
          rw [List.set_comm _ _ (Ne.symm hm.1), ih hm.2, List.set_comm _ _ (Ne.symm hm.1)]
    · rcases List.mem_cons.mp h with rfl | h
      · exact absurd rfl hv
      · rw [wipe_set h]
theorem Rs.wipe {K : PySem.W.Frag} {B G H : Hp} {α : List Addr} {σ : L2.St} {sl : List (Option U)} {st : List Ob} (r : Rs K B ⟨sl, st⟩ G α σ H) (vs : List Nat) : Rs K B ⟨wipeL sl vs, st⟩ G α (L2.wipe σ vs) H :=
  { toRh := r.toRh, sll := by show (wipeL sl vs).length = _; rw [wipeL_len, wipe_length]; exact r.sll, sl := fun i u e => by
      obtain ⟨h1, h2⟩ := wipeL_some e
      obtain ⟨v, h3, h4⟩ := r.sl i u h1
      exact ⟨v, by rw [wipe_out h2]; exact h3, h4⟩ }
theorem wipe_wipe (σ : L2.St) : ∀ vs : List Nat, L2.wipe (L2.wipe σ vs) vs = L2.wipe σ vs := fun vs => by
  have key : ∀ ws : List Nat, (∀ i ∈ ws, i ∈ vs) → L2.wipe (L2.wipe σ ws) vs = L2.wipe σ vs := by
    intro ws
    induction ws with
    | nil => intro _; rfl
    | cons w ws ih =>
      intro h
      show L2.wipe ((L2.wipe σ ws).set w none) vs = _
      rw [wipe_set (h w List.mem_cons_self), ih fun i hi => h i (List.mem_cons_of_mem _ hi)]
  exact key vs fun _ h => h
/-- a target that stores the block's own names alone -/
def tGv (K : PySem.W.Frag) (vs : List Nat) (m : DG) : TG := fun v σ H Q => ∃ B ρ G α u, Rs K B ρ G α σ H ∧ RpU K G α u v ∧ okG K W0 B G α (m u ρ) fun σ' H' => L2.wipe σ' vs = L2.wipe σ vs → Q σ' H'
def tGvs (K : PySem.W.Frag) (vs : List Nat) (m : DGs) : TGs := fun ws σ H Q => ∃ B ρ G α ts, Rs K B ρ G α σ H ∧ Rps K G ts ws ∧ okG K W0 B G α (m ts ρ) fun σ' H' => L2.wipe σ' vs = L2.wipe σ vs → Q σ' H'
section
variable {X : Cx} {W : WX} {e a b o i v : Expr} {es : List Expr} {g : DG} {gs : DGs} {pos : Pos} {vs : List Nat}
theorem fgv_name {x : Str} (i : Nat) (hN : X.N.Nodup) (hv : i ∈ vs := by decide) (hi : X.N[i]? = some x := by rfl) (hx : Loc X.env.scope x := by first | exact Or.inl rfl | exact Or.inr rfl) (hf : X.fn x = true ∨ X.env.scope.names.lookup x = some .local := by first | exact .inl rfl | exact .inr rfl) : PG X (.Name x pos) (tGv X.K vs (gN i)) :=
  pg_weak (pg_name hN hi hx hf) fun v σ H Q ⟨B, ρ, G, α, u, r, p, h⟩ => h G α _ H Gr.refl (r.store p) (wipe_set hv)
theorem fgvs_nil : PGs X [] (tGvs X.K vs gsNil) := pgs_weak pgs_nil fun ws σ H Q ⟨B, ρ, G, α, ts, r, p, h⟩ => by
  unfold gsNil at h
  split at h
  · simp only [Rps] at p
    exact ⟨p, h G α σ H Gr.refl r rfl⟩
  · exact h.elim
theorem fgvs_cons (h1 : PG X e (tGv X.K vs g)) (h2 : PGs X es (tGvs X.K vs gs)) (hs : (assignEach (e :: es) X.env).map (·.2) = assign e X.env :: (assignEach es X.env).map (·.2) := by rfl) : PGs X (e :: es) (tGvs X.K vs (gsCons g gs)) :=
  pgs_weak (pgs_cons h1 h2 hs) fun ws σ H Q ⟨B, ρ, G, α, ts, r, p, h⟩ => by
    unfold gsCons at h
    split at h
    · rename_i t ts
      simp only [Rps] at p
      obtain ⟨v, ws, rfl, p1, p2⟩ := p
      refine ⟨v, ws, rfl, B, ρ, G, α, .d t, r, p1, ?_⟩
      cases e1 : g (.d t) ρ with
      | ok _ ρ1 =>
        rw [e1] at h
        intro G1 α1 σ1 H1 g1 r1 w1
        refine ⟨B, ρ1, G1, α1, ts, r1, Rps.mono g1.ex p2, ?_⟩
        have h := okG.shift g1 (Q := fun σ' H' => L2.wipe σ' vs = L2.wipe σ vs → Q σ' H') (r := gs ts ρ1) (W := W0) h
        rw [w1]; exact h
      | ex x ρ1 => rw [e1] at h; exact h
      | no => rw [e1] at h; exact h
    · exact h.elim
theorem fgv_tup {k : Nat} {n : Nat} (hc : X.calm = true) (h : PGs X es (tGvs X.K vs gs)) (hn : (assignEach es X.env).length = n := by rfl) (hst : (assignEach es X.env).findIdx? (·.1) = none := by rfl) : PG X (.Tuple es k pos) (tGv X.K vs (gT n gs)) :=
  pg_weak (pg_or (pg_tup hc h hn hst) (pg_unl hc h hn hst)) fun v σ H Q ⟨B, ρ, G, α, u, r, p, h⟩ => by
    unfold gT at h
    split at h
    · rename_i ts e1
      split at h
      · rename_i hl
        obtain ⟨t, e2, e3⟩ := Option.bind_eq_some_iff.mp e1
        obtain ⟨a, ws, rfl, h1, h2⟩ := itm_ok r.gh (pk_ok r.toRh p e2) e3
        have hz : ws.length = n := by rw [← h2.length]; exact hl
        rcases h1 with h1 | h1
        · exact .inr ⟨a, ws, rfl, h1, hz, B, ρ, G, α, ts, r, h2, h⟩
        · exact .inl ⟨a, ws, rfl, h1, hz, B, ρ, G, α, ts, r, h2, h⟩
      · exact h.elim
    · exact h.elim
end
def mYes : DT := fun ρ => .ok true ρ
abbrev SQ (X : Cx) (W : WX) (ifs : List Expr) (m : DT) : Prop := PTs X ifs (tT X.K W m)
theorem fq_nil {X : Cx} {W : WX} : SQ X W [] mYes := ⟨fun pins s σ H Q I ⟨B, ρ, G, α, r, h⟩ => pts_nil.run pins s σ H Q I (h G α H Gr.refl r)⟩
theorem fq_one {X : Cx} {W : WX} {c : Expr} {m : DT} (h : ST X W c m) : SQ X W [c] m := pts_one h
/-- the items that a comprehension makes -/
def lcL (g : DG) (t : DT) (e : DE) (vs : List Nat) (sl : List (Option U)) : List T → List T → List Ob → R (List T)
  | [], acc, st => .ok acc ⟨sl, st⟩
  | x :: xs, acc, st => match g (.d x) ⟨wipeL sl vs, st⟩ with
    | .ok _ ρ1 => match t ρ1 with
      | .ok true ρ2 => match e ρ2 with
        | .ok u ρ3 => match toD 4 u ρ3.st with
          | some (y, st') => if acc.length < sizeLine then lcL g t e vs sl xs (acc ++ [y]) st' else .no
          | none => .no
        | _ => .no
      | .ok false ρ2 => lcL g t e vs sl xs acc ρ2.st
      | _ => .no
    | _ => .no
def mLc (i : DI) (g : DG) (t : DT) (e : DE) (vs : List Nat) : DE := fun ρ => (i ρ).bind fun ts ρ1 => (lcL g t e vs ρ1.sl ts [] ρ1.st).bind fun acc ρ2 => .ok (.own ρ2.st.length) ⟨ρ2.sl, ρ2.st ++ [.lst acc]⟩
theorem tLc_of {K : PySem.W.Frag} {W : WX} {mi : DI} {g : DG} {t : DT} {e : DE} {vs : List Nat} {σ : L2.St} {H : Hp} {Q : VK} (h : tE K W (mLc mi g t e vs) σ H Q) : tLc (tI K W mi) (tGv K vs g) (tT K W0 t) (tE K W0 e) vs σ H Q := by
  obtain ⟨B, ρ, G, α, r, h⟩ := h
  unfold mLc at h
  refine ⟨B, ρ, G, α, r, ?_⟩
  cases e0 : mi ρ with
  | ex x ρ1 => rw [e0] at h; exact h
  | no => rw [e0] at h; exact h
  | ok ts ρ1 =>
    rw [e0] at h
    intro G1 α1 H1 g1 r1 J wt D hD
    have hBD := r1.bh.free hD
    refine lc_it wt (fun i H' => ∃ acc ws st' G' α', Gr B G1 α1 G' α' ∧ Rs K B ⟨ρ1.sl, st'⟩ G' α' σ H' ∧ H' D = some (.lst ws) ∧ Rps K G' acc ws ∧ D ∉ α' ∧ G' D = none ∧
      okP K W B G' α' σ ((lcL g t e vs ρ1.sl (ts.drop i) acc st').bind fun acc ρ2 => .ok (.own ρ2.st.length) ⟨ρ2.sl, ρ2.st ++ [.lst acc]⟩) (EndP K Q)) ?_ ?_ ?_ ?_
    · have hn := r1.toRh.nin hD
      exact ⟨[], [], ρ1.st, G1, α1, Gr.refl, { toRh := r1.toRh.other hBD (r1.gh.free hD) hn (r1.tb.new hD), sll := r1.sll, sl := r1.sl }, upd_same, Rps.nil, hn, r1.gh.free hD, okP.shift g1 h⟩
    · rintro i H' _ ⟨acc, ws, st', G', α', g', r', _⟩
      exact g'.ex.trans r'.gh
    · rintro i x H' H'' hi ⟨acc, ws, st', G', α', g', r', hDw, hacc, hDn, hGD, ho⟩ y
      obtain ⟨tt, G2, e1, g2, r2, p2⟩ := item_ok (r'.wall hDw hDn) g'.ex y
      rw [drop_at e1] at ho
      unfold lcL at ho
      refine ⟨upd B D (.lst ws), ⟨wipeL ρ1.sl vs, st'⟩, G2, α', .d tt, r2.wipe vs, p2, ?_⟩
      cases eg : g (.d tt) ⟨wipeL ρ1.sl vs, st'⟩ with
      | ex x ρ3 => rw [eg] at ho; exact ho.elim
      | no => rw [eg] at ho; exact ho.elim
      | ok _ ρ3 =>
        rw [eg] at ho
        dsimp only at ho
        intro G3 α3 σ3 H3 g3 r3 hw3
        have hw : L2.wipe (L2.wipe σ vs) vs = L2.wipe σ vs := wipe_wipe σ vs
        refine ⟨hw3.trans hw, upd B D (.lst ws), ρ3, G3, α3, r3, ?_⟩
        have back : ∀ {ρ4 : Sg} {G4 : Hp} {α4 : List Addr} {H4 : Hp} {σ4 : L2.St}, Gr (upd B D (.lst ws)) G3 α3 G4 α4 → Rs K (upd B D (.lst ws)) ρ4 G4 α4 σ4 H4 →
            Gr B G1 α1 G4 α4 ∧ Gr B G' α' G4 α4 ∧ Rs K B ⟨ρ1.sl, ρ4.st⟩ G4 α4 σ H4 ∧ H4 D = some (.lst ws) ∧ D ∉ α4 ∧ G4 D = none ∧ Rps K G4 acc ws := fun {ρ4 G4 α4 H4 σ4} g4 r4 => by
          obtain ⟨ga, gb⟩ := Gr.unwall hBD ((g2.trans g3).trans g4)
          obtain ⟨ra, rb, rc⟩ := Rs.unwall hBD r4
          exact ⟨g'.trans ga, ga, { toRh := ra.toRh, sll := r'.sll, sl := fun i u e => let ⟨v, h1, h2⟩ := r'.sl i u e; ⟨v, h1, h2.mono ga⟩ }, rc, rb, gb hGD, Rps.mono ga.ex hacc⟩
        cases et : t ρ3 with
        | ex x ρ4 => rw [et] at ho; exact ho.elim
        | no => rw [et] at ho; exact ho.elim
        | ok b ρ4 =>
          rw [et] at ho
          intro G4 α4 H4 g4 r4
          cases b with
          | false =>
            dsimp only at ho
            obtain ⟨q1, q2, q3, q4, q5, q6, q7⟩ := back g4 r4
            exact ⟨acc, ws, ρ4.st, G4, α4, q1, q3, q4, q7, q5, q6, okP.shift q2 ho⟩
          | true =>
            dsimp only at ho
            show tE K W0 e σ3 H4 _
            refine ⟨upd B D (.lst ws), ρ4, G4, α4, r4, ?_⟩
            cases ee : e ρ4 with
            | ex x ρ5 => rw [ee] at ho; exact ho.elim
            | no => rw [ee] at ho; exact ho.elim
            | ok u ρ5 =>
              rw [ee] at ho
              dsimp only at ho
              intro G5 α5 H5 g5 r5 v p5
              cases ed : toD 4 u ρ5.st with
              | none => rw [ed] at ho; exact ho.elim
              | some ys =>
                obtain ⟨yy, st6⟩ := ys
                rw [ed] at ho
                dsimp only at ho
                split at ho
                · rename_i hz
                  obtain ⟨G6, g6, r6, p6⟩ := toD_ok 4 r5.toRh p5 ed
                  have r6' : Rs K (upd B D (.lst ws)) ⟨ρ5.sl, st6⟩ G6 α5 σ3 H5 := Rs.mk' r5 g6 r6
                  obtain ⟨q1, q2, q3, q4, q5, q6, q7⟩ := back ((g4.trans g5).trans g6) r6'
                  refine ⟨ws, q4, by rw [← q7.length]; exact hz, acc ++ [yy], ws ++ [v], st6, G6, α5, q1, { toRh := q3.toRh.other hBD q6 q5 (q3.tb.at q4 (fun ps e => by cases e) (fun c qq e => by unfold LamX.CodeO at e; cases e)), sll := q3.sll, sl := q3.sl }, upd_same, q7.append (Rps.cons p6 Rps.nil), q5, q6, okP.shift q2 ho⟩
                · exact ho.elim
    · rintro H' ⟨acc, ws, st', G', α', g', r', hDw, hacc, hDn, hGD, ho⟩
      rw [List.drop_length] at ho
      have r2 := r'.toRh.adopt (ob := .lst acc) hBD hDn hDw ⟨hGD, ws, hDw, hacc⟩ (r'.tb.np hDw (fun ps e => by cases e))
      exact ho G' (α' ++ [D]) H' Gr.own (Rs.mk' r' Gr.own r2) _ (own_last r'.toRh)
section
variable {X : Cx} {W : WX} {elt tg iter : Expr} {ifs : List Expr} {scope : Scope} {own : List (Str × Nat)} {pos : Pos} {mi : DI} {g : DG} {t : DT} {m : DE}
theorem fe_lc (own : List (Str × Nat)) (hc : X.calm = true) (hN : X.N.Nodup) (hi : SI X W tg iter mi) (ok : BlkOk X.N X.env.scope scope own)
    (hg : ∀ (s : Shared) (H : Hp) (C : Addr) (cl : List (Str × Addr)) (fp : List Addr), PG (X.blk s H scope (compEnvC scope cl C X.env) fp) tg (tGv X.K (own.map (·.2)) g)) (ht : ∀ (s : Shared) (H : Hp) (C : Addr) (cl : List (Str × Addr)) (fp : List Addr), SQ (X.blk s H scope (compEnvC scope cl C X.env) fp) W0 ifs t)
    (he : ∀ (s : Shared) (H : Hp) (C : Addr) (cl : List (Str × Addr)) (fp : List Addr), SE (X.blk s H scope (compEnvC scope cl C X.env) fp) W0 elt m) (hs : ∀ x, foldedSetIterable iter X.env x = pure x := by intro _; rfl) :
    SE X W (.ListComp elt [⟨tg, iter, ifs, 0⟩] scope pos) (mLc mi g t m (own.map (·.2))) := pe_weak (pe_lc hc hN hi ok hg ht he hs) fun _ _ _ h => tLc_of h
theorem fs_setLc {y : Str} {py spos : Pos} (i : Nat) (own : List (Str × Nat)) (hc : X.calm = true) (hN : X.N.Nodup) (hsw : swapsWith (.ListComp elt [⟨tg, iter, ifs, 0⟩] scope pos) (some (.Name y py)) spos.line X.env = pure true) (hi : SI X W tg iter mi) (ok : BlkOk X.N X.env.scope scope own)
    (hg : ∀ (s : Shared) (H : Hp) (C : Addr) (cl : List (Str × Addr)) (fp : List Addr), PG (X.blk s H scope (compEnvC scope cl C X.env) fp) tg (tGv X.K (own.map (·.2)) g)) (ht : ∀ (s : Shared) (H : Hp) (C : Addr) (cl : List (Str × Addr)) (fp : List Addr), SQ (X.blk s H scope (compEnvC scope cl C X.env) fp) W0 ifs t)
    (he : ∀ (s : Shared) (H : Hp) (C : Addr) (cl : List (Str × Addr)) (fp : List Addr), SE (X.blk s H scope (compEnvC scope cl C X.env) fp) W0 elt m) (hy : X.N[i]? = some y := by rfl) (hyl : X.env.scope.names.lookup y = some .local := by rfl) (hs : ∀ x, foldedSetIterable iter X.env x = pure x := by intro _; rfl) :
    SS X W (.Assign [.Name y py] (.ListComp elt [⟨tg, iter, ifs, 0⟩] scope pos) spos) (mSet i (mLc mi g t m (own.map (·.2)))) := ps_weak (ps_setLc hc hN hy hyl hsw hi ok hg ht he hs) fun D σ H ⟨B, ρ, G, α, r, h⟩ => by
  show tLc (tI X.K W mi) (tGv X.K (own.map (·.2)) g) (tT X.K W0 t) (tE X.K W0 m) (own.map (·.2)) σ H fun x H1 => gName i x σ H1 D.nx
  refine tLc_of (W := W) (e := m) (t := t) ?_
  exact sE r h fun u ρ1 v H1 G1 α1 g1 r1 p1 h1 => h1 G1 α1 _ H1 Gr.refl (r1.store p1)
end
end FL
namespace FL
open PySem L2 PyProof.Rows
variable [TabPar]
set_option maxHeartbeats 1000000 in
theorem meets_enum1 {v : Value} {o : Obj} {H : Heap → Prop} (B : Begins v o H) :
    Meets (Builtin.«enumerate.__new__» ⟨[.type "enumerate", v], []⟩) (fun _ R s => H s.heap ∧
      R (.ok (.ret (.ref (s.heap.push o).objs.size))) { s with heap := (s.heap.push o).push { cls := .type "enumerate", data := .fields #[.none, .bool false, .ref s.heap.objs.size, rawInt 0, .none, .none] } }) :=
  .of_wp fun prog w A R s h => by
    obtain ⟨hp, g, d, tk, os⟩ := s; obtain ⟨h1, h⟩ := h
    have hsub := sub_enumerate
    have q1 : ∀ {A' : Around} {E : Value → Shared → Prop} {Q : Value → Shared → Prop}, Q (.ref hp.objs.size) ⟨hp.push o, g, d, tk, os⟩ → wpAny (model prog w) A' (pyIter v) Q E ⟨hp, g, d, tk, os⟩ :=
      fun q => B.iter prog w _ _ ⟨hp, g, d, tk, os⟩ _ h1 q
    wp_walk using q1
    refine wpAny_stack_any fun st => wpAny_pure ?_
    split
    · rename_i c _ _ _ _ _
      cases (c == Value.type "enumerate")
      · wp_walk using q1
        exact ⟨_, rfl, h⟩
      · wp_walk using q1
        exact ⟨_, rfl, h⟩
    · wp_walk using q1
      exact ⟨_, rfl, h⟩
theorem call_enum1 {prog : Program} {w : World} {A : Around} {E : Value → Shared → Prop} {s : Shared} {v : Value} {o : Obj} {H : Heap → Prop} {Q : Value → Shared → Prop} (B : Begins v o H) (h1 : H s.heap)
    (h : ∀ h', IsEnum h' (s.heap.objs.size + 1) s.heap.objs.size 0 .none → h'.get? s.heap.objs.size = some o → h'.objs.size = s.heap.objs.size + 2 →
      (∀ b o, s.heap.get? b = some o → h'.get? b = some o) → Q (.ref (s.heap.objs.size + 1)) { s with heap := h' }) :
    wpAny (model prog w) A (call (.type "enumerate") [v]) Q E s := by
  refine callType_new F.called_enumerate (by decide) (F.typeCall_enumerate_1 _) (F.newCall_enumerate_1 _) (fun obj => F.args_object_init_2 obj _) F.entry_enumerate_new
    (meets_enum1 B) ⟨h1, ?_⟩
  have hz : (s.heap.push o).objs.size = s.heap.objs.size + 1 := Heap.size_push ..
  show _ ∧ _
  rw [hz]
  have he : IsEnum ((s.heap.push o).push { cls := .type "enumerate", data := .fields #[.none, .bool false, .ref s.heap.objs.size, rawInt 0, .none, .none] }) (s.heap.objs.size + 1) s.heap.objs.size 0 .none := by
    have := Heap.get?_push_size (s.heap.push o) (o := { cls := .type "enumerate", data := .fields #[.none, .bool false, .ref s.heap.objs.size, rawInt 0, .none, .none] }) rfl
    rw [hz] at this; exact this
  refine ⟨⟨_, he, rfl⟩, h _ he (Heap.get?_push_of_some _ (Heap.get?_push_size _ B.free)) (by rw [Heap.size_push, hz]) fun b o x => Heap.get?_push_of_some _ (Heap.get?_push_of_some _ x)⟩
/-- the tuple at a as it stands at each turn -/
def Itet (K : PySem.W.Frag) (a : Addr) : It :=
  ⟨fun i H => ∃ (xs : List V) (x : V), SqT K H a xs ∧ xs[i]? = some x, fun i H v H' => ∃ T x, v = .ref T ∧ H T = none ∧ H' = upd H T (.tup [.int (i : Nat), x]) ∧ ∀ xs, SqT K H a xs → xs[i]? = some x, fun i H => ∃ xs : List V, SqT K H a xs ∧ xs.length = i⟩
theorem turn_enumT {P : Program} {w : World} {K : PySem.W.Frag} {elts : List Expr} {kk : Nat} {tpos : Pos} (a e it : Addr) (hne : a ≠ it) (hae : a ≠ e) :
    Turn P w K (.Tuple elts kk tpos) (Itet K a) [e, it] e (fun i h => (∃ old, IsEnum h e it ((i : Nat) : Int) old) ∧ h.IsTupleIter it a i ∧ e ≠ it) where
  mem := by simp
  obj := fun i h st b hb => by
    obtain ⟨⟨old, he⟩, ⟨o, ho, hc, hd⟩, _⟩ := st
    have e' : b = e ∨ b = it := by simpa using hb
    rcases e' with z | z
    · rw [z]; exact ⟨_, he, fun v q => nomatch q⟩
    · rw [z]; exact ⟨o, ho, fun v q => by rw [hd] at q; cases q⟩
  keep := fun i h h' st k => let ⟨⟨old, he⟩, hi, hne⟩ := st; ⟨⟨old, k e (by simp) _ he⟩, hi.at fun o q => k it (by simp) o q, hne⟩
  item := by
    intro X hP hw hK hc i pins s σ H E I hf st hg
    subst hP hw hK
    obtain ⟨⟨old, he⟩, hit, hne'⟩ := st
    obtain ⟨xs, x, hq, hx⟩ := hg
    obtain ⟨its, rv, p, hz⟩ := I.tuple hq
    obtain ⟨u, hu, ru⟩ := rv.get hx
    have hel : e < s.heap.objs.size := Heap.lt_size he
    have hil : it < s.heap.objs.size := by obtain ⟨_, q, _⟩ := hit; exact Heap.lt_size q
    have hlt : i < its.toArray.size := by
      have := (List.getElem?_eq_some_iff.mp hu).1
      simpa using this
    have D : Draws X.prog X.w X.A.in1 it [it, a] its.toArray.size (fun i v => its.toArray[i]? = some v) (fun i h => h.IsTupleIter it a i ∧ h.IsTuple a its.toArray) := Draws.tuple (show X.A.in1.handled = none from I.ok.hd hc) it a hne its.toArray
    refine wpAny_pyNext_enum_itemD D he ⟨hit, p⟩ hlt hne' (by simp [hne', Ne.symm hae]) fun x' h' tk hP ho hst hT hsz hk => ?_
    have hx' : x' = u := by
      have h1 : its.toArray[i]? = some u := by simpa using hu
      rw [h1] at hP; exact (Option.some.inj hP).symm
    subst hx'
    refine ⟨_, rfl, wpAny_letOwnedTupleGo_enum (s := { s with heap := h', toks := tk + 1 }) ho fun h'' he' sb => ?_⟩
    have hT2 : h''.get? s.heap.objs.size = some { cls := .type "tuple", data := .seq #[.int i tk, x'] } := (sb.2 _ (Nat.ne_of_gt hel)).trans hT
    have new : ObjOk X.prog X.w (upd H s.heap.objs.size (.tup [.int (i : Nat), x])) h'' s.heap.objs.size (.tup [.int (i : Nat), x]) :=
      ⟨by show 2 ≤ sizeLine; decide, [.int i tk, x'], .cons ⟨_, rfl⟩ (.cons ru .nil), ⟨_, hT2, rfl, _, rfl⟩⟩
    have I1 : Inv X pins σ (upd H s.heap.objs.size (.tup [.int (i : Nat), x])) { s with heap := h'', toks := tk + 1 } :=
      I.turnedNew (ch := [e, it]) (fun b ob hb q => (sb.2 b (fun z => hb (by simp [z]))).trans (hk b ob (fun z => hb (by simp [z])) (fun z => hb (by simp [z])) q)) hf (Nat.le_refl _) new
    refine ⟨.ref s.heap.objs.size, _, I1, rfl, ⟨_, x, rfl, I.hok.fresh (Nat.le_refl _), rfl, fun ys hy => by rw [I.tuple_inj hy hq]; exact hx⟩, ⟨⟨x', ?_⟩, hst.1.at fun o q => (sb.2 it (Ne.symm hne')).trans q, hne'⟩, fun b hb => ?_⟩
    · have e1 : ((i + 1 : Nat) : Int) = (i : Int) + 1 := by omega
      rw [e1]; exact he'
    · have hb' : b < s.heap.objs.size := by
        have e' : b = e ∨ b = it := by simpa using hb
        rcases e' with z | z
        · rw [z]; exact hel
        · rw [z]; exact hil
      rw [upd_ne (Nat.ne_of_lt hb')]
      exact (hf b hb).1
  done := by
    intro X hP hw hK hc i pins s σ H E I hf st hg
    subst hP hw hK
    obtain ⟨⟨old, he⟩, hit, hne'⟩ := st
    obtain ⟨xs, hq, hx⟩ := hg
    obtain ⟨its, rv, p, hz⟩ := I.tuple hq
    obtain ⟨f0, f1, f2, f3, f4, f5⟩ := hf it (by simp)
    have hl := rv.length
    have D : Draws X.prog X.w X.A.in1 it [it, a] its.toArray.size (fun i v => its.toArray[i]? = some v) (fun i h => h.IsTupleIter it a i ∧ h.IsTuple a its.toArray) := Draws.tuple (show X.A.in1.handled = none from I.ok.hd hc) it a hne its.toArray
    have hi : i = its.toArray.size := by rw [← hx, hl]; simp
    exact wpAny_pyNext_enum_endD D he (by rw [← hi]; exact ⟨hit, p⟩) fun h' eb => ⟨rfl, I.turned (t' := s.toks) (fun b o hb q => eb b o hb q) f0 f1 f3 f4 f5⟩
  self := fun A i s Q E st h => let ⟨⟨_, he⟩, _⟩ := st; wpAny_pyIter_enum he h
/-- enumerate of a list or a tuple -/
def iEnumA (K : PySem.W.Frag) (ta : TA) : TI := fun σ H R => ta σ H fun vs H1 => ∃ a, vs = [.ref a] ∧ (((∃ xs, SqL K H1 a xs) ∧ R (Ite K a) H1) ∨ ((∃ xs, SqT K H1 a xs) ∧ R (Itet K a) H1))
theorem pi_enumA {X : Cx} {e : Expr} {ta : TA} {p pos tpos : Pos} {elts : List Expr} {kk : Nat} (hg : Gl X "enumerate") (hm : X.mg "enumerate" = none) (ha : PA X [e] ta) (hs : starEach [e] X.env = [(false, eval e X.env)] := by rfl) :
    PI X (.Tuple elts kk tpos) (.Call (.Name "enumerate" p) [e] [] pos) (iEnumA X.K ta) := by
  refine ⟨fun pins s σ H R I h => ?_⟩
  refine Call_ (ld_blt I hg hm boot_enumerate (PyProof.Rows.callWith_type1 (thn (ha.run pos pins s σ H _ I h) fun us s1 ⟨vs, H1, I1, r1, q1⟩ => ?_) hs rfl))
  obtain ⟨a, ex, q⟩ := q1
  subst ex
  cases r1 with
  | cons r rr =>
    cases rr
    cases r
    have fpo : ∀ b ∈ [s1.heap.objs.size + 1, s1.heap.objs.size], FpOk X pins H1 b := fun b hb => by
      have e' : b = s1.heap.objs.size + 1 ∨ b = s1.heap.objs.size := by simpa using hb
      have hle : s1.heap.objs.size ≤ b := by
        rcases e' with z | z
        · rw [z]; exact Nat.le_add_right _ _
        · rw [z]; exact Nat.le_refl _
      exact I1.fpOk hle (I1.hok.fresh hle)
    rcases q with ⟨⟨xs, hq⟩, q⟩ | ⟨⟨xs, hq⟩, q⟩
    · obtain ⟨its, rv, p', hz⟩ := I1.list hq
      refine call_enumerate_list p'.isList fun h' he hit hsz hk => wpAny_pyIter_enum he ?_
      have I2 : Inv X pins σ H1 { s1 with heap := h' } := I1.kept (t' := s1.toks) hk
      exact ⟨s1.heap.objs.size + 1, [s1.heap.objs.size + 1, s1.heap.objs.size], _, _, H1, rfl, I2, turn_enum a (s1.heap.objs.size + 1) s1.heap.objs.size, ⟨⟨.none, he⟩, hit, Nat.succ_ne_self _⟩, fpo, q⟩
    · obtain ⟨its, rv, p', hz⟩ := I1.tuple hq
      have hlt : a < s1.heap.objs.size := p'.lt
      refine call_enum1 (begins_tuple a its.toArray) (show s1.heap.IsTuple a its.toArray from p') fun h' he hit hsz hk => wpAny_pyIter_enum he ?_
      have I2 : Inv X pins σ H1 { s1 with heap := h' } := I1.kept (t' := s1.toks) hk
      exact ⟨s1.heap.objs.size + 1, [s1.heap.objs.size + 1, s1.heap.objs.size], _, _, H1, rfl, I2, turn_enumT a (s1.heap.objs.size + 1) s1.heap.objs.size (Nat.ne_of_lt hlt) (Nat.ne_of_lt (Nat.lt_succ_of_lt hlt)), ⟨⟨.none, he⟩, ⟨_, hit, rfl, rfl⟩, Nat.succ_ne_self _⟩, fpo, q⟩
def enumT (n : Int) : List T → List T
  | [] => []
  | t :: ts => .tup [.int n, t] :: enumT (n + 1) ts
theorem enumT_len : ∀ {n : Int} {ts : List T}, (enumT n ts).length = ts.length
  | _, [] => rfl
  | n, t :: ts => by simp [enumT, enumT_len (n := n + 1)]
theorem enumT_get : ∀ {n : Int} {ts : List T} {i : Nat} {t : T}, ts[i]? = some t → (enumT n ts)[i]? = some (.tup [.int (n + i), t])
  | n, [], i, t, h => by simp at h
  | n, u :: ts, 0, t, h => by simp at h; subst h; simp [enumT]
  | n, u :: ts, i + 1, t, h => by
    have e : n + 1 + (i : Int) = n + ((i + 1 : Nat) : Int) := by omega
    rw [enumT, List.getElem?_cons_succ, enumT_get (n := n + 1) (by simpa using h), e]
section
variable {K : PySem.W.Frag} {G : Hp} {a : Addr} {vs : List V} {ts : List T}
theorem wt_enumL (h : SqL K G a vs) (r : Rps K G ts vs) : WT K G (Ite K a) (enumT 0 ts) := by
  have e := r.length
  have w : Walk (Ite K a) vs.length (fun H => Ex G H) (Yt K G (enumT 0 ts)) := ⟨fun i H hi g => ⟨vs, vs[i], g.l h, by simp [hi]⟩, fun H g => ⟨vs, g.l h, Nat.le_refl _⟩, fun i H v H' hi g y => by
    obtain ⟨p, x, rfl, hp, rfl, hx⟩ := y
    obtain ⟨t, e1, e2⟩ := r.getV (hx vs (g.l h))
    refine ⟨_, enumT_get e1, .inr ⟨p, _, _, rfl, rfl, hp, rfl, Rps.cons (by simp [Rp]) (Rps.cons e2 Rps.nil)⟩⟩⟩
  unfold WT; rw [enumT_len, e]; exact w
theorem wt_enumT (h : SqT K G a vs) (r : Rps K G ts vs) : WT K G (Itet K a) (enumT 0 ts) := by
  have e := r.length
  have w : Walk (Itet K a) vs.length (fun H => Ex G H) (Yt K G (enumT 0 ts)) := ⟨fun i H hi g => ⟨vs, vs[i], g.t h, by simp [hi]⟩, fun H g => ⟨vs, g.t h, rfl⟩, fun i H v H' hi g y => by
    obtain ⟨p, x, rfl, hp, rfl, hx⟩ := y
    obtain ⟨t, e1, e2⟩ := r.getV (hx vs (g.t h))
    refine ⟨_, enumT_get e1, .inr ⟨p, _, _, rfl, rfl, hp, rfl, Rps.cons (by simp [Rp]) (Rps.cons e2 Rps.nil)⟩⟩⟩
  unfold WT; rw [enumT_len, e]; exact w
end
def iEnumD (da : DA) : DI := fun ρ => (da ρ).bind fun us ρ1 => match us with
  | [u] => match toD 4 u ρ1.st with
    | some (t, st) => match itm t with
      | some ts => .ok (enumT 0 ts) ⟨ρ1.sl, st⟩
      | none => .no
    | none => .no
  | _ => .no
theorem fi_enum {X : Cx} {W : WX} {e : Expr} {da : DA} {p pos tpos : Pos} {elts : List Expr} {kk : Nat} (hg : Gl X "enumerate") (hm : X.mg "enumerate" = none) (ha : SA X W [e] da) (hs : starEach [e] X.env = [(false, eval e X.env)] := by rfl) :
    SI X W (.Tuple elts kk tpos) (.Call (.Name "enumerate" p) [e] [] pos) (iEnumD da) := pi_weak (pi_enumA hg hm ha hs) fun σ H Q ⟨B, ρ, G, α, r, h⟩ => by
  refine bA r h fun us ρ1 vs H1 G1 α1 g1 r1 p1 h1 => ?_
  split at h1
  · rename_i u
    obtain ⟨v, _, rfl, q1, rfl⟩ := p1
    split at h1
    · rename_i t st e1
      obtain ⟨G2, g2, r2, p2⟩ := toD_ok 4 r1.toRh q1 e1
      have r2' : Rs X.K B ⟨ρ1.sl, st⟩ G2 α1 σ H1 := Rs.mk' r1 g2 r2
      split at h1
      · rename_i ts e2
        obtain ⟨a, ws, rfl, q1, q2⟩ := itm_ok (Ex.refl G2) (Rp1.of (Ex.refl G2) p2) e2
        refine ⟨a, rfl, ?_⟩
        rcases q1 with q1 | q1
        · exact .inl ⟨⟨ws, r2.gh.l q1⟩, h1 G2 α1 H1 g2 r2' _ (wt_enumL q1 q2)⟩
        · exact .inr ⟨⟨ws, r2.gh.t q1⟩, h1 G2 α1 H1 g2 r2' _ (wt_enumT q1 q2)⟩
      · exact h1.elim
    · exact h1.elim
  · exact h1.elim
end FL
namespace FL
open PySem L2 PyProof.Rows
variable [TabPar]
section
variable {X : Cx} {pins : List (Addr × Obj)} {σ : L2.St} {H : Hp} {s : Shared}
mutual
theorem nk_is (I : Inv X pins σ H s) : ∀ {t : T} {v : V} {u : Value} {k : NestedKey}, Rp X.K H t v → RelV v u → t.nk = some k → NestedIs s.heap k u
  | .non, v, u, k, h, r, e => by
    simp only [Rp] at h; simp only [T.nk, Option.some.injEq] at e; subst h; subst e; cases r; exact .none
  | .bl b, v, u, k, h, r, e => by
    simp only [Rp] at h; simp only [T.nk, Option.some.injEq] at e; subst h; subst e; cases r; exact .bool rfl
  | .int i, v, u, k, h, r, e => by
    simp only [Rp] at h; simp only [T.nk, Option.some.injEq] at e; subst h; subst e; obtain ⟨t, rfl⟩ := r; exact .int _ _
  | .str i, v, u, k, h, r, e => by
    simp only [Rp] at h; simp only [T.nk, Option.some.injEq] at e; subst h; subst e; obtain ⟨t, rfl⟩ := r; exact .text _ _
  | .tup ts, v, u, k, h, r, e => by
    simp only [Rp] at h
    obtain ⟨a, vs, rfl, h1, h2⟩ := h
    simp only [T.nk, Option.map_eq_some_iff] at e
    obtain ⟨ks, e1, rfl⟩ := e
    cases r
    obtain ⟨_, its, rv, o, ho, hc, n, hd⟩ := (show ObjOk X.prog X.w H s.heap a (.tup vs) from I.hok a _ h1)
    exact .tup ho hc hd (by simpa using nks_is I h2 rv e1)
  | .ktp ts, v, u, k, h, r, e => by
    simp only [Rp] at h
    obtain ⟨a, vs, rfl, h1, h2⟩ := h
    simp only [T.nk, Option.map_eq_some_iff] at e
    obtain ⟨ks, e1, rfl⟩ := e
    cases r
    obtain ⟨its, rv, ⟨o, ho, hc, n, hd⟩, hz⟩ := I.tuple h1
    exact .tup ho hc hd (by simpa using nks_is I h2 rv e1)
  | .lst ts, v, u, k, h, r, e => by simp [T.nk] at e
  | .frl ts, v, u, k, h, r, e => by simp [T.nk] at e
  | .dk _ _, v, u, k, h, r, e => by simp [T.nk] at e
  | .dt _ _, v, u, k, h, r, e => by simp [T.nk] at e
  | .dn _ _ _, v, u, k, h, r, e => by simp [T.nk] at e
  | .obj _ _ _, v, u, k, h, r, e => by simp [T.nk] at e
theorem nks_is (I : Inv X pins σ H s) : ∀ {ts : List T} {vs : List V} {us : List Value} {ks : List NestedKey}, Rps X.K H ts vs → Vals vs us → T.nks ts = some ks → NestedAll s.heap ks us
  | [], vs, us, ks, h, r, e => by
    simp only [Rps] at h; simp only [T.nks, Option.some.injEq] at e; subst h; subst e; cases r; exact .nil
  | t :: ts, vs, us, ks, h, r, e => by
    simp only [Rps] at h
    obtain ⟨v, ws, rfl, h1, h2⟩ := h
    simp only [T.nks] at e
    split at e
    · rename_i k ks' e1 e2
      simp only [Option.some.injEq] at e; subst e
      cases r with
      | cons r1 r2 => exact .cons (nk_is I h1 r1 e1) (nks_is I h2 r2 e2)
    · cases e
end
end
/-- pairs of a key, a tuple, and anything -/
def prs : List T → Option (List NestedKey × List T × List T)
  | [] => some ([], [], [])
  | .tup [.tup k, v] :: r => match (T.tup k).nk, prs r with
    | some q, some (qs, ks, vs) => some (q :: qs, .tup k :: ks, v :: vs)
    | _, _ => none
  | _ :: _ => none
/-- dict(xs), xs a list of pairs whose keys are tuples, all different -/
def dictF : List T → Option O
  | [.lst ts] => match prs ts with
    | some (qs, ks, vs) => if qs.Nodup ∧ (∀ q ∈ qs, q.depth ≤ 8) ∧ ts.length ≤ sizeLine then some (.d (.dt ks vs)) else none
    | none => none
  | _ => none
def rDictL (K : PySem.W.Frag) : List V → Hp → VK → Prop := fun xs H Q => ∃ (a : Addr) (ts : List T) (vs : List V) (qs : List NestedKey) (ks vv : List T) (G : Hp), xs = [V.ref a] ∧ H a = some (.lst vs) ∧ Ex G H ∧ Rps K G ts vs ∧ prs ts = some (qs, ks, vv) ∧ qs.Nodup ∧ (∀ q ∈ qs, q.depth ≤ 8) ∧ ts.length ≤ sizeLine ∧
  ∀ (d : Addr) (es : Array DictEntry) (ep : Nat) (kv wv : List V), H d = none → Rps K G ks kv → Rps K G vv wv → ER es kv wv → Q (.ref d) (upd H d (rawD d es ep))
theorem storedAll_nodup : ∀ (ps xs : List (NestedKey × Addr × Value)), (xs ++ ps).map (·.1) |>.Nodup → storedAllH xs ps = xs ++ ps
  | [], xs, _ => by simp [storedAllH]
  | p :: ps, xs, h => by
    have hn : atKey xs p.1 = none := by
      cases e : atKey xs p.1 with
      | none => rfl
      | some q =>
        exfalso
        have hm : p.1 ∈ xs.map (·.1) := by
          have : ∀ l : List (NestedKey × Addr × Value), atKey l p.1 = some q → p.1 ∈ l.map (·.1) := by
            intro l
            induction l with
            | nil => intro z; simp [atKey] at z
            | cons x l ih =>
              intro z
              by_cases hx : x.1 = p.1
              · simp [hx]
              · simp only [atKey] at z
                have := ih (by simpa [atKey, hx] using z)
                simp [this]
          exact this xs e
        rw [List.map_append, List.nodup_append] at h
        exact h.2.2 _ hm _ (by simp) rfl
    show storedAllH (storedH xs p.1 p.2.1 p.2.2) ps = _
    rw [storedH_new hn, storedAll_nodup ps (xs ++ [(p.1, p.2.1, p.2.2)]) (by simpa using h)]
    simp
/-- a pair as it lies -/
structure PrE where
  q : NestedKey
  b : Addr
  c : Addr
  y : V
  u : Value
section
variable {X : Cx} {pins : List (Addr × Obj)} {σ : L2.St} {H G : Hp} {s : Shared}
theorem prs_data (I : Inv X pins σ H s) (g : Ex G H) : ∀ {ts : List T} {vs : List V} {its : List Value} {qs : List NestedKey} {ks vv : List T}, Rps X.K G ts vs → Vals vs its → prs ts = some (qs, ks, vv) → (∀ q ∈ qs, q.depth ≤ 8) →
    ∃ L : List PrE, (∀ e ∈ L, H e.b = some (.tup [.ref e.c, e.y]) ∧ PairAt s.heap e.b (.ref e.c) e.u ∧ RelV e.y e.u ∧ (nestedKind X.prog X.w).is s.heap e.q e.c) ∧ qs = L.map (·.q) ∧ vs = L.map (fun e => V.ref e.b) ∧ its = L.map (fun e => Value.ref e.b) ∧ Rps X.K G ks (L.map fun e => V.ref e.c) ∧ Rps X.K G vv (L.map (·.y))
  | [], vs, its, qs, ks, vv, h, r, e, _ => by
    simp only [prs, Option.some.injEq, Prod.mk.injEq] at e
    obtain ⟨rfl, rfl, rfl⟩ := e
    simp only [Rps] at h; subst h; cases r
    exact ⟨[], by simp, rfl, rfl, rfl, Rps.nil, Rps.nil⟩
  | t :: ts, vs, its, qs, ks, vv, h, r, e, hd => by
    simp only [Rps] at h
    obtain ⟨v, ws, rfl, h1, h2⟩ := h
    unfold prs at e
    split at e
    · cases ‹_ = []›
    · rename_i k w r' heq
      simp only [List.cons.injEq] at heq
      obtain ⟨rfl, rfl⟩ := heq
      split at e
      · rename_i q qs' ks' vs' e1 e2
        simp only [Option.some.injEq, Prod.mk.injEq] at e
        obtain ⟨rfl, rfl, rfl⟩ := e
        cases r with
        | cons r1 r2 =>
          obtain ⟨L, l1, l2, l3, l4, l5, l6⟩ := prs_data I g h2 r2 e2 (fun q hq => hd q (List.mem_cons_of_mem _ hq))
          simp only [Rp] at h1
          obtain ⟨b, us, rfl, h3, h4⟩ := h1
          simp only [Rps] at h4
          obtain ⟨x, _, rfl, h5, y, _, rfl, h6, rfl⟩ := h4
          have h5' := h5
          simp only [Rp] at h5
          obtain ⟨c, cs, rfl, h7, h8⟩ := h5
          have hb := g _ _ h3
          obtain ⟨_, its', rv, o, ho, hc, n, hdt⟩ := (show ObjOk X.prog X.w H s.heap b (.tup [.ref c, y]) from I.hok b _ hb)
          cases r1
          cases rv with
          | cons ra rb =>
            cases rb with
            | cons rb rc =>
              cases rc
              cases ra
              rename_i u
              refine ⟨⟨q, b, c, y, u⟩ :: L, fun e he => ?_, by simp [l2], by simp [l3], by simp [l4], ?_, ?_⟩
              · rcases List.mem_cons.mp he with rfl | he
                · exact ⟨hb, .inl ⟨o, ho, hc, n, hdt⟩, rb, nk_is I (Rp.mono g h5') (show RelV (.ref c) (.ref c) from rfl) e1, hd q (by simp)⟩
                · exact l1 e he
              · exact Rps.cons h5' l5
              · exact Rps.cons h6 l6
      · cases e
    · cases e
theorem dictL_op (hc : X.calm = true) (hu : X.A.units + 64 < cLine) : CallR X (.type "dict") (rDictL X.K) := by
  intro pins s σ H xs us Q I r h
  obtain ⟨a, ts, vs, qs, ks, vv, G, rfl, hl, g, hr, hp, hnd, hdp, hz, q⟩ := h
  obtain ⟨u, rfl, rx⟩ := vals1 r
  cases rx
  obtain ⟨its, rv, ⟨o, n, ho, hc1, hc2, hc3⟩, _⟩ := I.list (SqL.of hl)
  obtain ⟨L, l1, l2, l3, l4, l5, l6⟩ := prs_data I g hr rv hp hdp
  have hlen : L.length = ts.length := by rw [hr.length, l3]; simp
  have P := PairArg.list (prog := X.prog) (w := X.w) a its.toArray (fun j => ((L.map (·.b))[j]?).getD 0) (L.map fun e => (Value.ref e.c, e.u))
  have ok : PlainSeq "list" s.heap a its.toArray ∧ PairItems s.heap its.toArray (fun j => ((L.map (·.b))[j]?).getD 0) (L.map fun e => (Value.ref e.c, e.u)) := by
    refine ⟨⟨o, n, ho, hc1, hc2, hc3⟩, by simp [l4], fun j k v hj => ?_⟩
    rw [List.getElem?_map, Option.map_eq_some_iff] at hj
    obtain ⟨e, he, e2⟩ := hj
    obtain ⟨rfl, rfl⟩ := Prod.mk.inj e2
    obtain ⟨_, h2, _⟩ := l1 e (List.mem_of_getElem? he)
    have eb : ((L.map (·.b))[j]?).getD 0 = e.b := by rw [List.getElem?_map, he]; rfl
    refine ⟨?_, by show PairAt s.heap (((L.map (·.b))[j]?).getD 0) _ _; rw [eb]; exact h2⟩
    show its.toArray[j]? = some (.ref (((L.map (·.b))[j]?).getD 0))
    rw [eb, l4]
    simp [he]
  have hn : (L.map fun e => (Value.ref e.c, e.u)).length ≤ sizeLine := by rw [List.length_map, hlen]; exact hz
  refine call_dict_pairsH (knd := nestedKind X.prog X.w) (ps := L.map fun e => (e.q, e.c, e.u)) P (I.ok.hd hc) (by show X.A.in1.in1.units + 8 < cLine; show X.A.units + 1 + 1 + 8 < cLine; omega) ok ⟨by simp, fun i key v hi => ?_⟩ (fun h' hk x hx => ?_) hn fun h' tk hd hk => ?_
  · have hi : (L.map fun e => (Value.ref e.c, e.u))[i]? = some (key, v) := hi
    rw [List.getElem?_map, Option.map_eq_some_iff] at hi
    obtain ⟨e, he, e2⟩ := hi
    obtain ⟨rfl, rfl⟩ := Prod.mk.inj e2
    exact ⟨e.q, e.c, by simp [he], rfl⟩
  · obtain ⟨e, he, rfl⟩ := List.mem_map.mp hx
    exact nestedKind_stays.stays (fun b ob vs n h1 _ => hk b ob (Nat.ne_of_lt (Heap.lt_size h1)) (by simp) h1) (l1 e he).2.2.2
  · have kept : ∀ b o, s.heap.get? b = some o → h'.get? b = some o := fun b o e => hk b o (by simp) e
    rw [storedAll_nodup _ _ (by simpa [Function.comp_def, l2] using hnd), List.nil_append] at hd
    obtain ⟨es, ep, hraw, hsz, hent⟩ := hd.raw
    rw [List.length_map] at hsz
    have hsys : ((s.heap.objs.size : Addr) == sysModules) = false := by
      cases hb : ((s.heap.objs.size : Addr) == sysModules) with
      | false => rfl
      | true => exact absurd (beq_iff_eq.mp hb) (Ne.symm (Nat.ne_of_lt (Inv.big I)))
    have new : ObjOk X.prog X.w (upd H s.heap.objs.size (rawD s.heap.objs.size es ep)) h' s.heap.objs.size (rawD s.heap.objs.size es ep) := by
      refine ⟨⟨hraw, hsys, by rw [hsz, hlen]; exact hz⟩, ?_, fun h1 h2 p kp => ⟨p.1.at kp, p.2⟩⟩
      obtain ⟨od, hod, _⟩ := hraw
      exact ⟨od, hod⟩
    refine ⟨.ref s.heap.objs.size, _, I.laid (t' := tk) kept (Nat.le_refl _) new, rfl, q _ es ep _ _ (I.hok.fresh (Nat.le_refl _)) l5 l6 ⟨by simp [hsz], by simp, fun i hi k v h1 h2 => ?_⟩⟩
    obtain ⟨y, e1, e2, e3, _⟩ := hent i hi
    rw [List.getElem?_map, Option.map_eq_some_iff] at e1 h1 h2
    obtain ⟨e, he, rfl⟩ := e1
    obtain ⟨e', he', rfl⟩ := h1
    obtain ⟨e'', he'', rfl⟩ := h2
    rw [he] at he' he''
    cases he'; cases he''
    exact ⟨by rw [e2]; rfl, by rw [e3]; exact (l1 e (List.mem_of_getElem? he)).2.2.1⟩
end
end FL
namespace FL
open PySem L2 PyProof.Rows
variable [TabPar]
section
variable {X : Cx} {W : WX} {e : Expr} {da : DA} {p pos : Pos} {K : PySem.W.Frag}
theorem dict_ok : CaK K (rDictL K) dictF := by
  intro W B ρ G α σ H Q xs vs rs p q
  unfold dictF at q
  split at q
  · rename_i ts
    obtain ⟨v, ws, rfl, q2, rfl⟩ := p
    obtain ⟨a, us, rfl, h1, h2⟩ := q2
    split at q
    · rename_i qs ks vv e1
      split at q
      · rename_i hc
        refine ⟨a, ts, us, qs, ks, vv, G, rfl, h1, rs.gh, h2, e1, hc.1, hc.2.1, hc.2.2, fun d es ep kv wv hd r1 r2 er => ?_⟩
        obtain ⟨r3, g⟩ := rs.newD (o := rawD d es ep) hd
        refine q _ α _ g r3 _ ?_
        show Rp K _ (.dt ks vv) _
        simp only [Rp]
        exact ⟨d, es, ep, kv, wv, rfl, upd_same, er, Rps.mono g.ex r1, Rps.mono g.ex r2⟩
      · exact q.elim
    · exact q.elim
  · exact q.elim
theorem fe_dict (hc : X.calm = true) (hu : X.A.units + 64 < cLine) (hg : Gl X "dict") (hm : X.mg "dict" = none) (ha : SA X W [e] da) (he : starEach [e] X.env = [(false, eval e X.env)] := by rfl) : SE X W (.Call (.Name "dict" p) [e] [] pos) (mCa dictF da) :=
  fe_callTy (dictL_op hc hu) dict_ok hg hm (by decide +kernel) ha (by decide) (by decide) he rfl
end
def Itir (d : Addr) (es : Array DictEntry) (ep : Nat) (ks vs : List V) : It :=
  ⟨fun i H => H d = some (rawD d es ep) ∧ i < es.size, fun i H x H' => ∃ p k v, x = .ref p ∧ ks[i]? = some k ∧ vs[i]? = some v ∧ H p = none ∧ H' = upd H p (.tup [k, v]), fun i H => H d = some (rawD d es ep) ∧ es.size ≤ i⟩
def Itvr (d : Addr) (es : Array DictEntry) (ep : Nat) (vs : List V) : It :=
  ⟨fun i H => H d = some (rawD d es ep) ∧ i < es.size, fun i H x H' => H' = H ∧ vs[i]? = some x, fun i H => H d = some (rawD d es ep) ∧ es.size ≤ i⟩
theorem rawD_at {P : Program} {w : World} {H : Hp} {h : Heap} {d : Addr} {es : Array DictEntry} {ep : Nat} (ok : HOk P w H h) (e : H d = some (rawD d es ep)) : h.DictRaw d es ep ∧ (d == sysModules) = false ∧ es.size ≤ sizeLine := (ok d _ e).1
theorem ER.at {es : Array DictEntry} {ks vs : List V} (er : ER es ks vs) {i : Nat} (hi : i < es.size) : ∃ k v, ks[i]? = some k ∧ vs[i]? = some v ∧ RelV k es[i].key ∧ RelV v es[i].val := by
  obtain ⟨h1, h2, h3⟩ := er
  have a1 : i < ks.length := by omega
  have a2 : i < vs.length := by omega
  obtain ⟨q1, q2⟩ := h3 i hi ks[i] vs[i] (List.getElem?_eq_getElem a1) (List.getElem?_eq_getElem a2)
  exact ⟨_, _, List.getElem?_eq_getElem a1, List.getElem?_eq_getElem a2, q1, q2⟩
section
variable {P : Program} {w : World} {K : PySem.W.Frag} {d : Addr} {es : Array DictEntry} {ep : Nat} {ks vs : List V}
theorem turn_itemsR {elts : List Expr} {kk : Nat} {tpos : Pos} (it : Addr) (er : ER es ks vs) :
    Turn P w K (.Tuple elts kk tpos) (Itir d es ep ks vs) [it] it (fun i h => ∃ ok ov, IsItemIter h it d i es.size ep ok ov) where
  mem := by simp
  obj := fun i h st b hb => by
    have e : b = it := by simpa using hb
    subst e
    obtain ⟨ok, ov, e⟩ := st
    exact ⟨_, e, fun v z => by cases z⟩
  keep := fun i h h' st k => let ⟨ok, ov, e⟩ := st; ⟨ok, ov, k it (by simp) _ e⟩
  item := by
    intro X hP hw hK hc i pins s σ H E I hf st hg
    subst hP hw hK
    obtain ⟨hd, hi⟩ := hg
    obtain ⟨hraw, _, _⟩ := rawD_at I.hok hd
    obtain ⟨k, v, hk1, hv1, rk, rv⟩ := er.at hi
    obtain ⟨ok, ov, he⟩ := st
    have hlt : it < s.heap.objs.size := Heap.lt_size he
    refine wpAny_pyNext_items_item_raw he hraw hi fun h' ho hT hz hk => ?_
    refine ⟨_, rfl, wpAny_letOwnedTupleGo_items (s := { s with heap := h' }) ho fun h'' he' sb => ?_⟩
    have hT2 : h''.get? s.heap.objs.size = some { cls := .type "tuple", data := .seq #[es[i].key, es[i].val] } := (sb.2 _ (Nat.ne_of_gt hlt)).trans hT
    have new : ObjOk X.prog X.w (upd H s.heap.objs.size (.tup [k, v])) h'' s.heap.objs.size (.tup [k, v]) :=
      ⟨by show 2 ≤ sizeLine; decide, [es[i].key, es[i].val], .cons rk (.cons rv .nil), ⟨_, hT2, rfl, _, rfl⟩⟩
    have I1 : Inv X pins σ (upd H s.heap.objs.size (.tup [k, v])) { s with heap := h'' } :=
      I.turnedNew (t' := s.toks) (ch := [it]) (fun b ob hb e => (sb.2 b (by simpa using hb)).trans (hk b ob (by simpa using hb) e)) hf (Nat.le_refl _) new
    refine ⟨.ref s.heap.objs.size, _, I1, rfl, ⟨_, k, v, rfl, hk1, hv1, I.hok.fresh (Nat.le_refl _), rfl⟩, ⟨_, _, he'⟩, fun b hb => ?_⟩
    have e : b = it := by simpa using hb
    rw [e, upd_ne (Nat.ne_of_lt hlt)]
    exact (hf it (by simp)).1
  done := by
    intro X hP hw hK hc i pins s σ H E I hf st hg
    subst hP hw hK
    obtain ⟨hd, hi⟩ := hg
    obtain ⟨f0, f1, f2, f3, f4, f5⟩ := hf it (by simp)
    obtain ⟨hraw, _, _⟩ := rawD_at I.hok hd
    obtain ⟨ok, ov, he⟩ := st
    exact wpAny_pyNext_items_end_raw (I.ok.hd hc) he hraw hi fun h' eb => ⟨rfl, I.turned (t' := s.toks) (fun b ob hb e => eb b ob hb e) f0 f1 f3 f4 f5⟩
  self := fun A i s Q E st h => let ⟨_, _, e⟩ := st; wpAny_pyIter_itemiter e h
theorem turn_valsR {tg : Expr} (it : Addr) (er : ER es ks vs) : Turn P w K tg (Itvr d es ep vs) [it] it (fun i h => h.IsValIter it d i es.size ep) where
  mem := by simp
  obj := fun i h st b hb => by
    have e : b = it := by simpa using hb
    subst e
    obtain ⟨oi, e, c, dd⟩ := st
    exact ⟨oi, e, fun v z => by rw [dd] at z; cases z⟩
  keep := fun i h h' st k => st.at fun oi e => k it (by simp) oi e
  item := by
    intro X hP hw hK hc i pins s σ H E I hf st hg
    subst hP hw hK
    obtain ⟨hd, hi⟩ := hg
    obtain ⟨f0, f1, f2, f3, f4, f5⟩ := hf it (by simp)
    obtain ⟨hraw, _, _⟩ := rawD_at I.hok hd
    obtain ⟨k, v, hk1, hv1, rk, rv⟩ := er.at hi
    refine wpAny_pyNext_values_item_raw st hraw hi fun h' st' sb => ?_
    have I1 : Inv X pins σ H { s with heap := h' } := I.turned (t' := s.toks) (fun b ob hb e => (sb.2 b hb).trans e) f0 f1 f3 f4 f5
    obtain ⟨oi, e, c, dd⟩ := id st'
    exact ⟨_, rfl, go_of (s := { s with heap := h' }) e c dd (by decide) ⟨v, H, I1, rv, ⟨rfl, hv1⟩, st', fun b hb => (hf b hb).1⟩⟩
  done := by
    intro X hP hw hK hc i pins s σ H E I hf st hg
    subst hP hw hK
    obtain ⟨hd, hi⟩ := hg
    obtain ⟨f0, f1, f2, f3, f4, f5⟩ := hf it (by simp)
    obtain ⟨hraw, _, _⟩ := rawD_at I.hok hd
    exact wpAny_pyNext_values_end_raw (I.ok.hd hc) st hraw hi fun h' eb => ⟨rfl, I.turned (t' := s.toks) (fun b ob hb e => eb b ob hb e) f0 f1 f3 f4 f5⟩
  self := fun A i s Q E st h => wpAny_pyIter_valiter st h
end
section
variable {X : Cx} {tg e : Expr} {apos cpos : Pos} {td : TE}
def iItR (td : TE) : TI := fun σ H R => td σ H fun x H1 => ∃ d es ep ks vs, x = .ref d ∧ H1 d = some (rawD d es ep) ∧ ER es ks vs ∧ R (Itir d es ep ks vs) H1
def iVaR (td : TE) : TI := fun σ H R => td σ H fun x H1 => ∃ d es ep ks vs, x = .ref d ∧ H1 d = some (rawD d es ep) ∧ ER es ks vs ∧ R (Itvr d es ep vs) H1
theorem pi_itemsR {elts : List Expr} {kk : Nat} {tpos : Pos} (he : PE X e td) (hbase : attributeBase e "items" X.env (eval e X.env) = eval e X.env := by rfl) (hline : (apos.endLine == cpos.line) = true := by rfl) :
    PI X (.Tuple elts kk tpos) (.Call (.Attribute e "items" apos) [] [] cpos) (iItR td) := by
  refine ⟨fun pins s σ H R I h => ?_⟩
  refine wpAny_Call_method (T := "dict") (id := "dict.items") hbase rfl hline F.plainAttrs_dict F.slot_dict_items F.type_dict_items (thn (he.run pins s σ H _ I h) fun u s1 ⟨x, H1, I1, rx, d, es, ep, ks, vs, ex, hd, er, q⟩ => ?_)
  subst ex
  obtain rfl : u = Value.ref d := rx
  obtain ⟨hraw, hs, hz⟩ := rawD_at I1.hok hd
  have I2 : Inv X pins σ H1 { s1 with heap := s1.heap.push { cls := .type "dict_items", data := .fields #[.ref d] } } := I1.kept (t' := s1.toks) fun b ob q => Heap.get?_push_of_some _ q
  refine ⟨hraw.typeIs, ?_, ?_⟩
  · obtain ⟨o, ho, hx, _⟩ := hraw
    exact fun b hb => by cases hb; exact ⟨o, ho, hx.2.1⟩
  have hraw2 : (s1.heap.push { cls := .type "dict_items", data := .fields #[.ref d] }).DictRaw d es ep := hraw.at fun o e => Heap.get?_push_of_some _ e
  have fin : wpAny (model X.prog X.w) X.A (pyIter (.ref s1.heap.objs.size)) (PIE X pins σ (.Tuple elts kk tpos) R) X.xe { s1 with heap := s1.heap.push { cls := .type "dict_items", data := .fields #[.ref d] } } :=
    wpAny_pyIter_items_raw (d := d) ⟨_, Heap.get?_push_size _ rfl, rfl, rfl⟩ hraw2 (pi_one (tk := s1.toks) I2 _ (turn_itemsR _ er) ⟨.none, .none, Heap.get?_push_size _ rfl⟩ q)
  show wpAny _ _ (callWith cpos (.builtin "dict.items") [.ref d] [] []) _ X.xe s1
  exact method_meetsIn F.slot_dict_items F.entry_dict_items rfl (PySem.evalArgs_none ⟨rfl, hraw.typeIs, F.args_dict_items_1 _, _, meets_dict_items_raw d hs, ⟨es, ep, hraw⟩, fin⟩)
theorem pi_valuesR (he : PE X e td) (hbase : attributeBase e "values" X.env (eval e X.env) = eval e X.env := by rfl) (hline : (apos.endLine == cpos.line) = true := by rfl) :
    PI X tg (.Call (.Attribute e "values" apos) [] [] cpos) (iVaR td) := by
  refine ⟨fun pins s σ H R I h => ?_⟩
  refine wpAny_Call_method (T := "dict") (id := "dict.values") hbase rfl hline F.plainAttrs_dict F.slot_dict_values F.type_dict_values (thn (he.run pins s σ H _ I h) fun u s1 ⟨x, H1, I1, rx, d, es, ep, ks, vs, ex, hd, er, q⟩ => ?_)
  subst ex
  obtain rfl : u = Value.ref d := rx
  obtain ⟨hraw, hs, hz⟩ := rawD_at I1.hok hd
  have I2 : Inv X pins σ H1 { s1 with heap := s1.heap.push { cls := .type "dict_values", data := .fields #[.ref d] } } := I1.kept (t' := s1.toks) fun b ob q => Heap.get?_push_of_some _ q
  refine ⟨hraw.typeIs, ?_, ?_⟩
  · obtain ⟨o, ho, hx, _⟩ := hraw
    exact fun b hb => by cases hb; exact ⟨o, ho, hx.2.1⟩
  have hraw2 : (s1.heap.push { cls := .type "dict_values", data := .fields #[.ref d] }).DictRaw d es ep := hraw.at fun o e => Heap.get?_push_of_some _ e
  have fin : wpAny (model X.prog X.w) X.A (pyIter (.ref s1.heap.objs.size)) (PIE X pins σ tg R) X.xe { s1 with heap := s1.heap.push { cls := .type "dict_values", data := .fields #[.ref d] } } :=
    wpAny_pyIter_values_raw (d := d) ⟨_, Heap.get?_push_size _ rfl, rfl, rfl⟩ hraw2 (pi_one (tk := s1.toks) I2 _ (turn_valsR _ er) ⟨_, Heap.get?_push_size _ rfl, rfl, rfl⟩ q)
  show wpAny _ _ (callWith cpos (.builtin "dict.values") [.ref d] [] []) _ X.xe s1
  exact method_meetsIn F.slot_dict_values F.entry_dict_values rfl (PySem.evalArgs_none ⟨rfl, hraw.typeIs, F.args_dict_values_1 _, _, meets_dict_values_raw d hs, ⟨es, ep, hraw⟩, fin⟩)
end
def pairT : List T → List T → List T
  | k :: ks, v :: vs => .tup [k, v] :: pairT ks vs
  | _, _ => []
theorem pairT_get : ∀ {ks vs : List T} {i : Nat} {k v : T}, ks[i]? = some k → vs[i]? = some v → (pairT ks vs)[i]? = some (.tup [k, v])
  | [], _, i, k, v, h, _ => by simp at h
  | _ :: _, [], i, k, v, _, h => by simp at h
  | a :: ks, b :: vs, 0, k, v, h, g => by simp at h g; subst h; subst g; simp [pairT]
  | a :: ks, b :: vs, i + 1, k, v, h, g => by simpa [pairT] using pairT_get (by simpa using h) (by simpa using g)
theorem pairT_len : ∀ {ks vs : List T}, ks.length = vs.length → (pairT ks vs).length = vs.length
  | [], [], _ => rfl
  | a :: ks, b :: vs, h => by simp [pairT, pairT_len (by simpa using h)]
section
variable {K : PySem.W.Frag} {G : Hp} {d : Addr} {es : Array DictEntry} {ep : Nat} {kv vv : List V} {ks vs : List T}
theorem wt_itemsR (h : G d = some (rawD d es ep)) (er : ER es kv vv) (r1 : Rps K G ks kv) (r2 : Rps K G vs vv) : WT K G (Itir d es ep kv vv) (pairT ks vs) := by
  have l1 := r1.length
  have l2 := r2.length
  have e : (pairT ks vs).length = es.size := by rw [pairT_len (by rw [l1, l2]; exact er.2.1), l2, er.1]; exact er.2.1.symm
  have w : Walk (Itir d es ep kv vv) es.size (fun H => Ex G H) (Yt K G (pairT ks vs)) := ⟨fun i H hi g => ⟨g _ _ h, hi⟩, fun H g => ⟨g _ _ h, Nat.le_refl _⟩, fun i H x H' hi g y => by
    obtain ⟨p, k, v, rfl, e1, e2, hp, rfl⟩ := y
    obtain ⟨k', e3, e4⟩ := r1.getV e1
    obtain ⟨v', e5, e6⟩ := r2.getV e2
    exact ⟨_, pairT_get e3 e5, .inr ⟨p, _, _, rfl, rfl, hp, rfl, Rps.cons e4 (Rps.cons e6 Rps.nil)⟩⟩⟩
  unfold WT; rw [e]; exact w
theorem wt_valuesR (h : G d = some (rawD d es ep)) (er : ER es kv vv) (r2 : Rps K G vs vv) : WT K G (Itvr d es ep vv) vs := by
  have l2 := r2.length
  have e : vs.length = es.size := by rw [l2, er.1]; exact er.2.1.symm
  have w : Walk (Itvr d es ep vv) es.size (fun H => Ex G H) (Yt K G vs) := ⟨fun i H hi g => ⟨g _ _ h, hi⟩, fun H g => ⟨g _ _ h, Nat.le_refl _⟩, fun i H x H' hi g y => by
    obtain ⟨rfl, e1⟩ := y
    obtain ⟨k', e3, e4⟩ := r2.getV e1
    exact ⟨_, e3, .inl ⟨rfl, e4⟩⟩⟩
  unfold WT; rw [e]; exact w
end
def iItD (m : DE) : DI := fun ρ => (m ρ).bind fun u ρ1 => match u with
  | .d (.dt ks vs) => .ok (pairT ks vs) ρ1
  | _ => .no
def iVaD (m : DE) : DI := fun ρ => (m ρ).bind fun u ρ1 => match u with
  | .d (.dt ks vs) => .ok vs ρ1
  | _ => .no
section
variable {X : Cx} {W : WX} {tg e : Expr} {apos cpos : Pos} {ma : DE}
theorem fi_items {elts : List Expr} {kk : Nat} {tpos : Pos} (he : SE X W e ma) (hbase : attributeBase e "items" X.env (eval e X.env) = eval e X.env := by rfl) (hline : (apos.endLine == cpos.line) = true := by rfl) :
    SI X W (.Tuple elts kk tpos) (.Call (.Attribute e "items" apos) [] [] cpos) (iItD ma) := pi_weak (pi_itemsR he hbase hline) fun σ H Q ⟨B, ρ, G, α, r, h⟩ => bE r h fun u ρ1 v H1 G1 α1 g1 r1 p1 h1 => by
  split at h1
  · rename_i ks vs
    have p1 : Rp X.K G1 (.dt ks vs) v := p1
    simp only [Rp] at p1
    obtain ⟨d, es, ep, kv, vv, rfl, q2, q3, q4, q5⟩ := p1
    exact ⟨d, es, ep, kv, vv, rfl, r1.gh _ _ q2, q3, h1 G1 α1 H1 Gr.refl r1 _ (wt_itemsR q2 q3 q4 q5)⟩
  · exact h1.elim
theorem fi_values (he : SE X W e ma) (hbase : attributeBase e "values" X.env (eval e X.env) = eval e X.env := by rfl) (hline : (apos.endLine == cpos.line) = true := by rfl) :
    SI X W tg (.Call (.Attribute e "values" apos) [] [] cpos) (iVaD ma) := pi_weak (pi_valuesR he hbase hline) fun σ H Q ⟨B, ρ, G, α, r, h⟩ => bE r h fun u ρ1 v H1 G1 α1 g1 r1 p1 h1 => by
  split at h1
  · rename_i ks vs
    have p1 : Rp X.K G1 (.dt ks vs) v := p1
    simp only [Rp] at p1
    obtain ⟨d, es, ep, kv, vv, rfl, q2, q3, q4, q5⟩ := p1
    exact ⟨d, es, ep, kv, vv, rfl, r1.gh _ _ q2, q3, h1 G1 α1 H1 Gr.refl r1 _ (wt_valuesR q2 q3 q5)⟩
  · exact h1.elim
end
end FL
namespace FL
open PySem L2 PyProof.Rows
variable [TabPar]
section
variable {X : Cx} {W : WX} {e a b c i o v : Expr} {es : List Expr} {ma mb mc mi mo mv : DE} {da : DA} {ta : DT} {p p' pos : Pos} {K : PySem.W.Frag}
def mNo : DS := fun _ => .no
theorem fs_never {st : Stmt} : SS X W st mNo := ps_weak ps_never fun D σ H ⟨B, ρ, G, α, r, h⟩ => h
inductive Kd where
  | non | bl | int | str | tup | lst | dct | obj
def T.kd : T → Kd
  | .non => .non | .bl _ => .bl | .int _ => .int | .str _ => .str | .tup _ => .tup | .ktp _ => .tup | .lst _ => .lst | .frl _ => .lst | .dk _ _ => .dct | .dt _ _ => .dct | .dn _ _ _ => .dct | .obj _ _ _ => .obj
def Kd.name : Kd → String
  | .non => "NoneType" | .bl => "bool" | .int => "int" | .str => "str" | .tup => "tuple" | .lst => "list" | .dct => "dict" | .obj => "object"
/-- the answer -/
def isiB (n : String) : Kd → Option Bool
  | .obj => none
  | k => kitB k.name n
theorem sq_ty {G H : Hp} {a : Addr} {xs : List V} (g : Ex G H) (h : SqT K G a xs) : TyX K H (.ref a) (.type "tuple") := by
  rcases h with (h | ⟨o, h⟩) | ⟨o, its, n, h, hc, _⟩
  · exact .base (.tup (g _ _ h))
  · exact .fTuple (g _ _ h)
  · exact .kTuple h hc
theorem sl_ty {G H : Hp} {a : Addr} {xs : List V} (g : Ex G H) (h : SqL K G a xs) : TyX K H (.ref a) (.type "list") := by
  rcases h with (h | ⟨o, h⟩) | ⟨o, its, n, h, hc, _⟩
  · exact .base (.lst (g _ _ h))
  · exact .base (.frz (g _ _ h))
  · exact .kList h hc
def isDt : T → Bool
  | .dt _ _ => true | .dn _ _ _ => true | _ => false
theorem ty_of {G H : Hp} {t : T} {v : V} (g : Ex G H) (h : Rp1 K G H t v) (hn : t.kd ≠ .obj) (hd : isDt t = false) : TyX K H v (.type t.kd.name) := by
  cases t with
  | non => have : v = .non := by simpa [Rp1, Rp] using h
           subst this; exact .base .non
  | bl b => have : v = .bl b := by simpa [Rp1, Rp] using h
            subst this; exact .base (.bl b)
  | int b => have : v = .int b := by simpa [Rp1, Rp] using h
             subst this; exact .base (.int b)
  | str b => have : v = .str b := by simpa [Rp1, Rp] using h
             subst this; exact .base (.str b)
  | tup ts => obtain ⟨a, vs, rfl, h1, _⟩ := h.tup; exact sq_ty g (SqT.of h1)
  | ktp ts => obtain ⟨a, vs, rfl, h1, _⟩ := h.ktp; exact sq_ty g h1
  | lst ts => obtain ⟨a, vs, rfl, h1, _⟩ := h; exact .base (.lst h1)
  | frl ts => have h : Rp K G (.frl ts) v := h
              simp only [Rp] at h; obtain ⟨a, vs, rfl, h1, _⟩ := h; exact sl_ty g h1
  | dk ks ts => obtain ⟨a, vs, rfl, h1, _⟩ := h; exact .base (.dK h1)
  | dt ks ts => cases hd
  | dn w ks ts => cases hd
  | obj C ns ts => exact absurd rfl hn
def mIsi (n : String) (m : DE) : DE := fun ρ => (m ρ).bind fun u ρ1 => match pk ρ1.st u with
  | some t => if isDt t = true then .no else match isiB n t.kd with
    | some b => .ok (.d (.bl b)) ρ1
    | none => .no
  | none => .no
theorem fe_isi {x : Str} {n : String} {p2 : Pos} (hg : Gl X "isinstance") (hm : X.mg "isinstance" = none) (hgx : Gl X x) (hmx : X.mg x = none) (hv : bootBuiltins x = some (.type n)) (he : SE X W e ma) (hs : starEach [e, .Name x p2] X.env = (false, eval e X.env) :: starEach [.Name x p2] X.env := by rfl)
    (hnx : x ≠ "__name__" := by decide) (hdx : (x == ("__debug__" : Str)) = false := by decide) : SE X W (.Call (.Name "isinstance" p) [e, .Name x p2] [] pos) (mIsi n ma) :=
  pe_weak (pe_callB call_isi hg hm (by decide +kernel) (pa_cons he (pa_cons (pe_bltn (v := .ty n) hgx hmx hv rfl hnx hdx) pa_nil) hs) (by decide) (by decide) hs rfl) fun σ H Q ⟨B, ρ, G, α, r, h⟩ => by
    refine bE r h fun u ρ1 v H1 G1 α1 g1 r1 p1 h1 => ?_
    split at h1
    · rename_i t e1
      split at h1
      · exact h1.elim
      · rename_i hd
        split at h1
        · rename_i b e2
          have p2 := pk_ok r1.toRh p1 e1
          have hk : t.kd ≠ .obj := fun z => by rw [z] at e2; cases e2
          have hdt : isDt t = false := by simpa using hd
          refine ⟨v, .ty n, _, .type n, b, rfl, .ty n, ty_of r1.gh p2 hk hdt, ?_, h1 G1 α1 H1 Gr.refl r1 _ (by simp [RpU, Rp])⟩
          have e3 : kitB t.kd.name n = some b := by
            revert e2 hk
            cases t.kd <;> intro e2 hk <;> first | exact e2 | exact absurd rfl hk
          exact kit_ty e3
        · exact h1.elim
    · exact h1.elim
theorem fe_glob {x : Str} {u : Value} {v : V} {t : T} (hg : Gl X x) (hm : X.mg x = some u) (r : RelV v u) (ht : Rp X.K (fun _ => none) t v) (hd : (x == ("__debug__" : Str)) = false := by decide) : SE X W (.Name x pos) (mC t) :=
  pe_weak (pe_glob hg hm r hd) (tE_C fun G => Rp.mono (fun a o h => by cases h) ht)
def whileF (t : DT) (b : DS) : Nat → Sg → F
  | 0, _ => .no
  | n + 1, ρ => (t ρ).thn fun c ρ1 => if c = true then match b ρ1 with
      | .nx ρ2 => whileF t b n ρ2
      | .ct ρ2 => whileF t b n ρ2
      | .bk ρ2 => .nx ρ2
      | .rt u ρ2 => .rt u ρ2
      | .ex x ρ2 => .ex x ρ2
      | .no => .no
    else .nx ρ1
def mWhile (n : Nat) (t : DT) (b : DS) : DS := fun ρ => whileF t b n ρ
theorem fs_while {body : List Stmt} {b : DS} (n : Nat) (ct : Ct X W) (hc : ST X W c ta) (hb : SSs X W body b) : SS X W (.While c body [] pos) (mWhile n ta b) := ps_weak (ps_while ct.hp hc hb) fun D σ H ⟨B, ρ, G, α, r, h⟩ => by
  refine ⟨fun m σ' H' => ∃ ρ' G' α', Gr B G α G' α' ∧ Rs X.K B ρ' G' α' σ' H' ∧ okF X.K W B G' α' (whileF ta b m ρ') D, ⟨n, ρ, G, α, Gr.refl, r, h⟩, ?_⟩
  rintro m σ' H' ⟨ρ', G', α', g', r', ho⟩
  cases m with
  | zero => exact ho.elim
  | succ m =>
    refine sT r' ho fun c ρ1 H1 G1 α1 g1 r1 h1 => ?_
    cases c with
    | false => exact h1 G1 α1 σ' H1 Gr.refl r1
    | true =>
      rw [if_pos rfl] at h1 ⊢
      refine ⟨fun σ2 H2 => ∃ ρ2 G2 α2, Gr B G α G2 α2 ∧ Rs X.K B ρ2 G2 α2 σ2 H2 ∧ okF X.K W B G2 α2 (whileF ta b m ρ2) D, fun σ2 H2 q => ⟨m, Nat.lt_succ_self m, q⟩, B, ρ1, G1, α1, r1, ?_⟩
      have gg := g'.trans g1
      cases eb : b ρ1 with
      | nx ρ4 => rw [eb] at h1; exact fun G4 α4 σ4 H4 g4 r4 => ⟨ρ4, G4, α4, gg.trans g4, r4, okF.shift g4 h1⟩
      | ct ρ4 => rw [eb] at h1; exact fun G4 α4 σ4 H4 g4 r4 => ⟨ρ4, G4, α4, gg.trans g4, r4, okF.shift g4 h1⟩
      | bk ρ4 => rw [eb] at h1; exact h1
      | rt u ρ4 => rw [eb] at h1; exact h1
      | ex x ρ4 => rw [eb] at h1; exact h1
      | no => rw [eb] at h1; exact h1
end
end FL
namespace FL
open PySem L2 PyProof.Rows
variable [TabPar]
def dkGet : List Key → List T → Key → Option T
  | k :: ks, t :: ts, q => if k = q then some t else dkGet ks ts q
  | _, _, _ => none
def dkPut : List Key → List T → Key → T → List Key × List T
  | k :: ks, t :: ts, q, x => if k = q then (k :: ks, x :: ts) else ((k :: (dkPut ks ts q x).1), t :: (dkPut ks ts q x).2)
  | _, _, q, x => ([q], [x])
section
variable {K : PySem.W.Frag} {G : Hp}
theorem dkGet_ok : ∀ {ks : List Key} {ts : List T} {vs : List V} {q : Key} {t : T}, Rps K G ts vs → dkGet ks ts q = some t → ∃ v, valV (ks.zip vs) q = some v ∧ Rp K G t v
  | [], _, _, _, _, _, e => by simp [dkGet] at e
  | k :: ks, [], _, _, _, _, e => by simp [dkGet] at e
  | k :: ks, u :: ts, vs, q, t, h, e => by
    simp only [Rps] at h
    obtain ⟨v, ws, rfl, h1, h2⟩ := h
    simp only [dkGet] at e
    by_cases hk : k = q
    · rw [if_pos hk] at e; cases e
      exact ⟨v, valV_pos (p := (k, v)) hk, h1⟩
    · rw [if_neg hk] at e
      obtain ⟨w, h3, h4⟩ := dkGet_ok h2 e
      exact ⟨w, by rw [List.zip_cons_cons, valV_neg (p := (k, v)) hk]; exact h3, h4⟩
theorem putK_cons {k q : Key} {v x : V} {r : List (Key × V)} (hn : ∀ p ∈ r, p.1 ≠ k) : putK ((k, v) :: r) q x = if k = q then (k, x) :: r else (k, v) :: putK r q x := by
  unfold putK
  by_cases hk : k = q
  · subst hk
    have h1 : r.map (fun kv => if kv.1 = k then (kv.1, x) else kv) = r := by
      rw [List.map_congr_left (g := id) fun p hp => by rw [if_neg (hn p hp)]; rfl]; simp
    simp [h1]
  · rw [if_neg hk]
    by_cases ha : (r.any fun kv => decide (kv.1 = q)) = true
    · rw [if_pos (by rw [List.any_cons, ha, Bool.or_true]), if_pos ha]
      simp [hk]
    · rw [if_neg (by rw [List.any_cons]; simpa [hk] using ha), if_neg ha]
      rfl
theorem dkPut_ok : ∀ {ks : List Key} {ts : List T} {vs : List V} {q : Key} {t : T} {v : V}, ks.Nodup → ks.length = vs.length → Rps K G ts vs → Rp K G t v →
    ∃ vs', putK (ks.zip vs) q v = (dkPut ks ts q t).1.zip vs' ∧ (dkPut ks ts q t).1.length = vs'.length ∧ Rps K G (dkPut ks ts q t).2 vs' ∧ (dkPut ks ts q t).1.length ≤ ks.length + 1
  | [], ts, vs, q, t, v, _, hl, h, hv => by
    have : vs = [] := List.length_eq_zero_iff.mp hl.symm
    subst this
    have ht : ts = [] := List.length_eq_zero_iff.mp h.length
    subst ht
    exact ⟨[v], by simp [putK, dkPut], by simp [dkPut], Rps.cons hv Rps.nil, by simp [dkPut]⟩
  | k :: ks, [], vs, q, t, v, _, hl, h, hv => by
    simp only [Rps] at h; subst h; simp at hl
  | k :: ks, u :: ts, vs, q, t, v, hn, hl, h, hv => by
    simp only [Rps] at h
    obtain ⟨w, ws, rfl, h1, h2⟩ := h
    rw [List.nodup_cons] at hn
    have hne : ∀ p ∈ ks.zip ws, p.1 ≠ k := fun p hp e => by
      have := (List.of_mem_zip (show (p.1, p.2) ∈ ks.zip ws from hp)).1
      rw [e] at this
      exact hn.1 this
    rw [List.zip_cons_cons, putK_cons hne]
    simp only [dkPut]
    by_cases hk : k = q
    · rw [if_pos hk, if_pos hk]
      exact ⟨v :: ws, by simp, by simpa using hl, Rps.cons hv h2, by simp⟩
    · rw [if_neg hk, if_neg hk]
      obtain ⟨vs', e1, e2, e3, e4⟩ := dkPut_ok (q := q) hn.2 (by simpa using hl) h2 hv
      exact ⟨w :: vs', by simp [e1], by simpa using e2, Rps.cons h1 e3, by simpa using e4⟩
end
def keyT : T → Option Key
  | .int i => some (.inl i)
  | .str x => some (.inr x)
  | _ => none
theorem keyT_ok {K : PySem.W.Frag} {G H : Hp} {t : T} {v : V} {q : Key} (h : Rp1 K G H t v) (e : keyT t = some q) : v = kV q := by
  cases t <;> simp only [keyT, reduceCtorEq, Option.some.injEq] at e <;> (subst e; simp only [Rp1, Rp] at h; subst h; rfl)
section
variable {X : Cx} {W : WX} {e a b c i o v : Expr} {es : List Expr} {ma mb mc mi mo mv : DE} {da : DA} {p p' pos : Pos} {K : PySem.W.Frag}
theorem ix_dict (hu : X.A.units + 1 < cLine) : IxR X (fun x y H Q => ∃ a v, x = V.ref a ∧ DGet H a y (some v) ∧ Q v H) := by
  intro value slice pins s σ H x y v u Q I rx ry h hs
  obtain ⟨a, w, rfl, g, q⟩ := h
  obtain rfl : v = Value.ref a := rx
  exact tail_any (dict_typeIs I g) slot_dict_getitem.lookup (d_getItem hu I g ry fun w' s3 I3 rw' => ⟨w, H, I3, rw', q⟩) hs
def ixDF (x y : T) : Option O := match x with
  | .dk ks ts => (keyT y).bind fun q => (dkGet ks ts q).map .d
  | _ => none
theorem ixD_ok : OpK K (fun x y H Q => ∃ a v, x = V.ref a ∧ DGet H a y (some v) ∧ Q v H) ixDF := by
  intro W B ρ G α σ H Q x y v w rs p1 p2 q
  unfold ixDF at q
  split at q
  · rename_i ks ts
    obtain ⟨a, vs, rfl, h1, h2, h3⟩ := p1
    cases e : keyT y with
    | none => rw [e] at q; exact q.elim
    | some k =>
      rw [e, Option.bind_some] at q
      cases e1 : dkGet ks ts k with
      | none => rw [e1] at q; exact q.elim
      | some t =>
        rw [e1] at q
        have := keyT_ok p2 e
        subst this
        obtain ⟨z, h4, h5⟩ := dkGet_ok h3 e1
        exact ⟨a, z, rfl, by have := DGet.k (k := k) h1; rw [h4] at this; exact this, fin_d rs q h5⟩
  · exact q.elim
def ixAF (x y : T) : Option O := (ixF x y).or (ixDF x y)
theorem fe_ixA (hu : X.A.units + 1 < cLine) (h : SE X W a ma) (g : SE X W b mb) (hs : PlainIx b := by exact fun _ _ => rfl) : SE X W (.Subscript a b pos) (mOp ixAF ma mb) := fe_ix (ix_seq.or (ix_dict hu)) (ix_ok.or ixD_ok) h g hs
structure KTab (K : PySem.W.Frag) (w : World) (a : Addr) (tab : List (Str × Int)) : Prop where
  at_ : ∀ z i, (z, i) ∈ tab → KDct K w a z (.int i)
  low : (a == sysModules) = false
  miss : ∀ z, (∀ p ∈ tab, p.1 ≠ z) → KMiss K w a z
def kIn (tab : List (Str × Int)) (t : T) : Option Bool := match t with
  | .str z => some (tab.any fun p => decide (p.1 = z))
  | _ => none
def mInK (tab : List (Str × Int)) (m : DE) : DE := fun ρ => (m ρ).bind fun u ρ1 => match u with
  | .d t => match kIn tab t with
    | some b => .ok (.d (.bl b)) ρ1
    | none => .no
  | _ => .no
theorem fe_inK {x : Str} {d : Addr} {tab : List (Str × Int)} {p2 : Pos} (kt : KTab X.K X.w d tab) (hg : Gl X x) (hm : X.mg x = some (.ref d)) (he : SE X W e ma) (hdx : (x == ("__debug__" : Str)) = false := by decide) (hb : behindInMarks .In (.Name x p2) = false := by rfl) : SE X W (.Compare e [.In] [.Name x p2] pos) (mInK tab ma) := by
  have op : OpR X (compareOp .In) (fun y z H Q => ∃ (s : Str), y = .str s ∧ z = .ref d ∧ ((∃ i : Int, KDct X.K X.w d s (.int i) ∧ Q (.bl true) H) ∨ (KMiss X.K X.w d s ∧ Q (.bl false) H))) := by
    intro pins s σ H y z v u Q I ry rz h
    obtain ⟨k, rfl, rfl, h⟩ := h
    obtain ⟨t, rfl⟩ := ry
    obtain rfl : u = Value.ref d := rz
    rcases h with ⟨i, ⟨es, n, u0, hl, hk, e, ru⟩, q⟩ | ⟨⟨es, n, hl, hk, _, e⟩, q⟩
    · have hm := PySem.W.mapOf_K (prog := X.prog) (w := X.w) I.kIn hl hk
      refine wpAny_in_of (strKind_is X.prog X.w k t) kt.low hm ?_
      rw [PySem.W.find_K hl e]
      exact ⟨.bl true, H, I.tok _, rfl, q⟩
    · have hm := PySem.W.mapOf_K (prog := X.prog) (w := X.w) I.kIn hl hk
      refine wpAny_in_of (strKind_is X.prog X.w k t) kt.low hm ?_
      rw [PySem.W.find_K hl e]
      exact ⟨.bl false, H, I.tok _, rfl, q⟩
  refine pe_weak (pe_cmpR op he (pe_glob (v := .ref d) hg hm rfl hdx) hb) fun σ H Q ⟨B, ρ, G, α, r, h⟩ => ?_
  refine bE r h fun u ρ1 v H1 G1 α1 g1 r1 p1 h1 => ?_
  split at h1
  · rename_i t
    split at h1
    · rename_i b e1
      unfold kIn at e1
      split at e1
      · rename_i z
        simp only [Option.some.injEq] at e1
        refine ⟨z, by simpa [RpU, Rp] using p1, rfl, ?_⟩
        cases ha : (tab.any fun p => decide (p.1 = z)) with
        | true =>
          rw [ha] at e1; subst e1
          obtain ⟨⟨z', i⟩, hm1, hm2⟩ := List.any_eq_true.mp ha
          have hz : z' = z := of_decide_eq_true hm2
          subst hz
          exact .inl ⟨i, kt.at_ _ _ hm1, h1 G1 α1 H1 Gr.refl r1 _ (by simp [RpU, Rp])⟩
        | false =>
          rw [ha] at e1; subst e1
          refine .inr ⟨kt.miss z fun p hp he => ?_, h1 G1 α1 H1 Gr.refl r1 _ (by simp [RpU, Rp])⟩
          rw [List.any_eq_false] at ha
          exact ha p hp (decide_eq_true he)
      · cases e1
    · exact h1.elim
  · exact h1.elim
def kIx (tab : List (Str × Int)) (t : T) : Option Int := match t with
  | .str z => (tab.find? (fun p => decide (p.1 = z))).map (·.2)
  | _ => none
def mIxK (tab : List (Str × Int)) (m : DE) : DE := fun ρ => (m ρ).bind fun u ρ1 => match u with
  | .d t => match kIx tab t with
    | some i => .ok (.d (.int i)) ρ1
    | none => .no
  | _ => .no
theorem fe_ixK {x : Str} {d : Addr} {tab : List (Str × Int)} {p2 : Pos} (kt : KTab X.K X.w d tab) (hg : Gl X x) (hm : X.mg x = some (.ref d)) (he : SE X W e ma) (hdx : (x == ("__debug__" : Str)) = false := by decide) (hs : PlainIx e := by exact fun _ _ => rfl) : SE X W (.Subscript (.Name x p2) e pos) (mIxK tab ma) :=
  pe_weak (pe_ix ix_kdict (pe_glob (v := .ref d) hg hm rfl hdx) he hs) fun σ H Q ⟨B, ρ, G, α, r, h⟩ => by
    refine bE r h fun u ρ1 v H1 G1 α1 g1 r1 p1 h1 => ?_
    split at h1
    · rename_i t
      split at h1
      · rename_i i e1
        unfold kIx at e1
        split at e1
        · rename_i z
          obtain ⟨⟨z', i'⟩, hm1, rfl⟩ := Option.map_eq_some_iff.mp e1
          have hz : z' = z := by simpa using List.find?_some hm1
          subst hz
          exact ⟨d, z', .int i', rfl, by simpa [RpU, Rp] using p1, kt.at_ _ _ (List.mem_of_find?_eq_some hm1), h1 G1 α1 H1 Gr.refl r1 _ (by simp [RpU, Rp])⟩
        · cases e1
      · exact h1.elim
    · exact h1.elim
def tPd (K : PySem.W.Frag) (W : WX) (ks : List Str) (da : DA) (σ : L2.St) (H : Hp) (Q : List (V × V) → Hp → Prop) : Prop := ∃ B ρ G α, Rs K B ρ G α σ H ∧ okP K W B G α σ (da ρ) fun us _ G' α' H' => ∀ vs, RpUs K G' α' us vs → Q ((ks.map V.str).zip vs) H'
structure SPs (X : Cx) (W : WX) (pos : Pos) (keys : List (Option Expr)) (values : List Expr) (ks : List Str) (da : DA) : Prop where
  ex : ∃ trs, PPs X pos keys values trs ∧ ∀ σ H Q, tPd X.K W ks da σ H Q → tPairs trs σ H Q
theorem sps_nil : SPs X W pos [] [] [] aNil := ⟨[], pps_nil, fun σ H Q ⟨B, ρ, G, α, r, h⟩ => h G α H Gr.refl r [] rfl⟩
theorem sps_cons {k : Str} {j} {kp : Pos} {keys : List (Option Expr)} {values : List Expr} {ks : List Str} (hv : SE X W v mv) (hr : SPs X W pos keys values ks da) : SPs X W pos (some (.Constant (.str k) j kp) :: keys) (v :: values) (k :: ks) (aCons mv da) := by
  obtain ⟨trs, h1, h2⟩ := hr.ex
  refine ⟨_, pps_cons pe_str hv h1, fun σ H Q ⟨B, ρ, G, α, r, h⟩ => ?_⟩
  show tC (V.str k) σ H _
  show tE X.K W mv σ H _
  refine bE r h fun u ρ1 w H1 G1 α1 g1 r1 p1 h1 => ?_
  refine h2 σ H1 _ ⟨B, ρ1, G1, α1, r1, ?_⟩
  cases e : da ρ1 with
  | ex x ρ2 => rw [e] at h1; exact h1
  | no => rw [e] at h1; exact h1
  | ok us ρ2 =>
    rw [e] at h1
    exact fun G2 α2 H2 g2 r2 vs p2 => h1 G2 α2 H2 g2 r2 _ ⟨w, vs, rfl, p1.mono g2, p2⟩
def mDisp (ks : List Str) (da : DA) : DE := fun ρ => (da ρ).bind fun us ρ1 => match toDs (toD 4) us ρ1.st with
  | some (ts, st) => if ts.length = ks.length ∧ ks.Nodup ∧ ks.length ≤ 15 then .ok (.own st.length) ⟨ρ1.sl, st ++ [.dk (ks.map .inr) ts]⟩ else .no
  | none => .no
theorem mergeK_nodup : ∀ (more kvs : List (Key × V)), ((kvs ++ more).map (·.1)).Nodup → mergeK kvs more = kvs ++ more
  | [], kvs, _ => by simp [mergeK]
  | p :: more, kvs, h => by
    have hn : (kvs.any fun kv => decide (kv.1 = p.1)) = false := by
      rw [List.any_eq_false]
      intro x hx e
      have e : x.1 = p.1 := of_decide_eq_true e
      rw [List.map_append, List.nodup_append] at h
      exact h.2.2 _ (List.mem_map_of_mem hx) p.1 (by simp) e
    show mergeK (putK kvs p.1 p.2) more = _
    have : putK kvs p.1 p.2 = kvs ++ [(p.1, p.2)] := by unfold putK; rw [if_neg (by rw [hn]; simp)]
    rw [this, mergeK_nodup more _ (by simpa using h)]
    simp
theorem fe_disp {keys : List (Option Expr)} {values : List Expr} {ks : List Str} (h : SPs X W pos keys values ks da) (hall : keys.all (·.isSome) = true := by rfl) (hl : keys.length = values.length := by rfl) (h0 : keys ≠ [] := by intro z; cases z)
    (h15 : keys.length ≤ 15 := by decide) : SE X W (.Dict keys values pos) (mDisp ks da) := by
  obtain ⟨trs, h1, h2⟩ := h.ex
  refine pe_weak (pe_disp h1 hall hl h0 h15) fun σ H Q ⟨B, ρ, G, α, r, h⟩ p hp => ?_
  have hB := r.bh.free hp
  have hG := r.gh.free hp
  have hα := r.toRh.nin hp
  have rw1 : Rs X.K B ρ G α σ (upd H p (.dK [])) := { toRh := r.toRh.other hB hG hα (r.tb.new hp), sll := r.sll, sl := r.sl }
  refine h2 σ _ _ ⟨upd B p (.dK []), ρ, G, α, rw1.wall upd_same hα, ?_⟩
  unfold mDisp at h
  cases e : da ρ with
  | ex x ρ1 =>
    rw [e] at h
    intro σ' H' G' α' d g' r' xd
    obtain ⟨ga, _⟩ := Gr.unwall hB g'
    exact h σ' H' G' α' d ga (Rs.unwall hB r').1 xd
  | no => rw [e] at h; exact h
  | ok us ρ1 =>
    rw [e] at h
    intro G1 α1 H1 g1 r1 vs p1
    rw [R.bind_ok] at h
    split at h
    · rename_i ts st e1
      split at h
      · rename_i hc
        obtain ⟨hz, hnd, h15'⟩ := hc
        obtain ⟨G2, g2, r2, p2⟩ := toDs_ok (toD_ok 4) r1.toRh p1 e1
        have r2' : Rs X.K (upd B p (.dK [])) ⟨ρ1.sl, st⟩ G2 α1 σ H1 := Rs.mk' r1 g2 r2
        obtain ⟨ga, gb⟩ := Gr.unwall hB (g1.trans g2)
        obtain ⟨ra, rb, rc⟩ := Rs.unwall hB r2'
        have hlen : ks.length = vs.length := by rw [← hz, p2.length]
        have hkv : ((ks.map (Sum.inr : Str → Key)).zip vs).map (·.1) = ks.map .inr := by rw [List.map_fst_zip]; simp [hlen]
        have hnd2 : (ks.map (Sum.inr : Str → Key)).Nodup := nodup_map_on (fun a _ b _ q => Sum.inr.inj q) hnd
        refine ⟨rc, (ks.map .inr).zip vs, ?_, by simp [List.length_zip]; omega, ?_⟩
        · rw [← List.map_id vs, List.zip_map, List.zip_map, List.map_map]
          simp [Function.comp_def, Prod.map, kV]
        · rw [mergeK_nodup _ [] (by rw [List.nil_append, hkv]; exact hnd2), List.nil_append]
          have r3 := (ra.toRh.other (o := .dK ((ks.map .inr).zip vs)) hB (gb hG) rb (ra.tb.at rc (fun ps e => by cases e) (fun c qq e => by unfold LamX.CodeO at e; cases e))).adopt (ob := .dk (ks.map .inr) ts) hB rb upd_same ⟨gb hG, vs, upd_same, by simp [hlen], p2⟩ (ra.tb.np rc (fun ps e => by cases e))
          have r5 := Rs.mk' (ρ := ⟨ρ1.sl, st⟩) ra Gr.own r3
          exact h G2 (α1 ++ [p]) _ (ga.trans Gr.own) r5 _ (own_last (ρ := ⟨ρ1.sl, st⟩) ra.toRh)
      · exact h.elim
    · exact h.elim
theorem set_dict (hu : X.A.units + 1 < cLine) : PSet X (fun o i v H Q => ∃ a H4, o = V.ref a ∧ DPut H a i v H4 ∧ Q H4) := by
  intro pins s σ H o i v ov iv u Q I ro ri rv h
  obtain ⟨a, H4, rfl, g, q⟩ := h
  obtain rfl : ov = Value.ref a := ro
  exact d_setItem hu I g ri rv fun s4 I4 => ⟨H4, I4, q⟩
def gDix (mo mi : DE) : DG := fun u ρ => (mo ρ).bind fun o ρ1 => (mi ρ1).bind fun i ρ2 => match o, i with
  | .own j, .d k => match toD 4 u ρ2.st, keyT k with
    | some (t, st), some q => match st[j]? with
      | some (.dk ks ts) => if ks.Nodup ∧ ks.length < sizeLine then .ok () ⟨ρ2.sl, st.set j (.dk (dkPut ks ts q t).1 (dkPut ks ts q t).2)⟩ else .no
      | _ => .no
    | _, _ => .no
  | _, _ => .no
theorem fg_dix (hu : X.A.units + 1 < cLine) (ho : SE X W o mo) (hi : SE X W i mi) (ha : ∀ v, assign (.Subscript o i pos) X.env v = (do
      let ov ← holding [v] (eval o X.env)
      let iv ← holding [v, ov] (eval i X.env)
      standAt pos
      holding [v, ov, iv] (setItem ov iv v)
      release [v, ov, iv] []) := by intro _; rfl) : SG X W (.Subscript o i pos) (gDix mo mi) :=
  pg_weak (pg_sub ho hi (set_dict hu) ha) fun v σ H Q ⟨B, ρ, G, α, u, r, p, h⟩ => by
    refine bEG r h fun o ρ1 ov H1 G1 α1 g1 r1 p1 h1 => bEG r1 h1 fun i ρ2 iv H2 G2 α2 g2 r2 p2 h2 => ?_
    split at h2
    · rename_i j k
      split at h2
      · rename_i t st q e1 e1'
        obtain ⟨G3, g3, r3, p3⟩ := toD_ok 4 r2.toRh (p.mono (g1.trans g2)) e1
        split at h2
        · rename_i ks ts e2
          split at h2
          · rename_i hc
            obtain ⟨a, ha1, rfl⟩ := (p1.mono (g2.trans g3))
            have hi := keyT_ok (Rp1.of r2.gh (show Rp X.K G2 k iv from p2)) e1'
            subst hi
            obtain ⟨_, _, hz, vs, hv1, hv2, hv3⟩ := r3.ow j a _ ha1 e2
            obtain ⟨vs', q1, q2, q3, q4⟩ := dkPut_ok (q := q) hc.1 hv2 hv3 p3
            refine ⟨a, _, rfl, DPut.k hv1 (by rw [List.length_zip]; omega), ?_⟩
            rw [q1]
            have r4 := r3.upd (o := .dK ((dkPut ks ts q t).1.zip vs')) (ob := .dk (dkPut ks ts q t).1 (dkPut ks ts q t).2) ha1 hz (r3.tb.at hv1 (fun ps e => by cases e) (fun c qq e => by unfold LamX.CodeO at e; cases e)) ⟨hz, _, upd_same, q2, q3⟩
            exact h2 G3 α2 σ _ g3 (Rs.mk' r2 g3 r4)
          · exact h2.elim
        · exact h2.elim
      · exact h2.elim
    · exact h2.elim
end
end FL
namespace FL
open PySem L2 PyProof.Rows
variable [TabPar]
section
variable {X : Cx} {CX : CXT} {k : Nat} {f C : Addr} {fd : FuncData} {ps : List Str} {sp : Sp} {E : L2.St → XK} {x m : Str} {p pos apos : Pos} {e o : Expr} {es : List Expr} {ta : TE} {t : TA}
def tMakeS (C : Addr) (sp : Sp) (E : L2.St → XK) (t : TA) : TE := fun σ H Q => t σ H fun vs H1 => ∀ x dx, H1 x = none → H1 dx = none → dx ≠ x →
  sp (.ref x :: vs) (upd (upd H1 dx (.own x)) x (.ins C dx [])) (fun v H2 => v = .non ∧ Q (.ref x) H2) (E σ)
theorem run_makeS {pins : List (Addr × Obj)} {σ : L2.St} {H : Hp} {s : Shared} {Q : VK} {us : List Value} {vs : List V} (M : Mk X.K C f) (F : FnOk X.prog X.w X.K X.mg X.base CX k f fd ps sp) (hr : Room (k + 1) X.A) (hb : Binds X.K fd ps [])
    (hx : PassesAt CX X σ (E σ)) (I : Inv X pins σ H s) (r : Vals vs us)
    (h : ∀ x dx, H x = none → H dx = none → dx ≠ x → sp (.ref x :: vs) (upd (upd H dx (.own x)) x (.ins C dx [])) (fun v H2 => v = .non ∧ Q (.ref x) H2) (E σ)) :
    wpAny (model X.prog X.w) X.A (call (.ref C) us) (EP X pins σ Q) X.xe s := by
  have hq := h (s.heap.objs.size + 1) s.heap.objs.size (I.hok.fresh (Nat.le_succ _)) (I.hok.fresh (Nat.le_refl _)) (Nat.ne_of_lt (Nat.lt_succ_self _))
  have I2 := Inv.made (C := C) I
  have r2 : Vals (V.ref (s.heap.objs.size + 1) :: vs) (Value.ref (s.heap.objs.size + 1) :: us) := .cons rfl r
  have hl : (Value.ref (s.heap.objs.size + 1) :: us).length = ps.length := by
    have e := r2.length
    rw [F.len _ _ _ _ hq] at e
    exact e.symm
  have hb' := hb _ (Value.ref (s.heap.objs.size + 1) :: us) I2.kIn (by rw [List.append_nil]; exact hl)
  rw [List.append_nil] at hb'
  refine wpAny_call (make_map (f := f) I.kIn M.makes M.init (beq_iff_eq.mp M.fn) (codeAny_mono (F.run _ X.stack _ _ ⟨Value.ref (s.heap.objs.size + 1) :: us, []⟩ (Value.ref (s.heap.objs.size + 1) :: us) _ _ (E σ) (hr.make C us [])
    (I2.env0.make C us []) hb' r2 hq) fun r s' hq' => ?_))
  cases r with
  | error e => exact hx pins _ _ e s' I2 hq'
  | ok fl =>
    cases fl with
    | ret u =>
      obtain ⟨v, H', I3, rv, ev, q3⟩ := I2.after hq'
      subst ev
      exact ⟨rv, ⟨V.ref (s.heap.objs.size + 1), H', I3, rfl, q3⟩⟩
    | next => exact False.elim hq'
    | brk => exact False.elim hq'
    | cont => exact False.elim hq'
theorem pe_makeS (M : Mk X.K C f) (F : FnOk X.prog X.w X.K X.mg X.base CX k f fd ps sp) (hr : Room (k + 1) X.A) (hg : Gl X x) (hm : X.mg x = some (.ref C)) (hb : Binds X.K fd ps []) (hx : ∀ σ, PassesAt CX X σ (E σ))
    (ha : PA X (e :: es) t) (hdb : (x == ("__debug__" : Str)) = false := by decide) (he : starEach (e :: es) X.env = (false, eval e X.env) :: starEach es X.env := by rfl) (hpl : (backTo pos (starEach es X.env)).any (·.1) = false := by rfl) :
    PE X (.Call (.Name x p) (e :: es) [] pos) (tMakeS C sp E t) := by
  refine ⟨fun pins s σ H Q I h => ?_⟩
  refine wpAny_Call_Name_kw (ld_glob I hg hm ?_ hdb)
  refine PySem.W.callWith_K (h₀ := X.base) I.ok.mod.kin M.kp (thn (ha.run pos pins s σ H _ I h) fun us s1 ⟨vs, H1, I1, r, q⟩ => ⟨I1.kIn, ?_⟩) he hpl
  exact run_makeS M F hr hb (hx σ) I1 r q
def tMethS (C : Addr) (m : Str) (sp : Sp) (E : L2.St → XK) (ta : TE) (t : TA) : TE := fun σ H Q => ta σ H fun x H1 => ∃ a dx fs, x = .ref a ∧ H1 a = some (.ins C dx fs) ∧ fs.lookup m = none ∧
  t σ H1 fun vs H2 => sp (x :: vs) H2 Q (E σ)
theorem pe_methS {pl : Sem Bool} (he : PE X o ta) (c : Cls X.K C) (hm : Meth X.K C m f) (F : FnOk X.prog X.w X.K X.mg X.base CX k f fd ps sp) (hr : Room k X.A) (hb : Binds X.K fd ps []) (hx : ∀ σ, PassesAt CX X σ (E σ)) (ha : PA X (e :: es) t)
    (hst : starEach (e :: es) X.env = (false, eval e X.env) :: starEach es X.env := by rfl) (hpl : (backTo pos (starEach es X.env)).any (·.1) = false := by rfl)
    (ht : eval (.Call (.Attribute o m apos) (e :: es) [] pos) X.env = (do
      let ov ← eval o X.env
      standAt apos.atName
      let (f, first) ← holding [ov] (getMethod ov m pl)
      callWith pos f first (backTo pos (starEach (e :: es) X.env)) (backToKw pos (keywordEach [] X.env))) := by rfl) :
    PE X (.Call (.Attribute o m apos) (e :: es) [] pos) (tMethS C m sp E ta t) := by
  refine ⟨fun pins s σ H Q I h => ?_⟩
  refine PySem.W.methodCall_KW (pl := pl) (thn (he.run pins s σ H _ I h) fun u s1 ⟨x, H1, I1, rx, a, dx, fs, ex, ea, l, q⟩ => ?_) ht
  subst ex
  obtain rfl : u = Value.ref a := rx
  refine getmeth_ok I1 ea c hm l ?_
  refine PySem.W.callWith_K (first := [.ref a]) (h₀ := X.base) I.ok.mod.kin hm.kp (thn (ha.run pos pins s1 σ H1 _ I1 q) fun us s2 ⟨vs, H2, I2, r, q2⟩ => ⟨I2.kIn, ?_⟩) hst hpl
  exact run_fnS (us := .ref a :: us) (vs := .ref a :: vs) F hr hb (hx σ) I2 (.cons rfl r) q2
end
def fAt : List Str → List U → Str → Option U
  | n :: ns, u :: us, f => if n = f then some u else fAt ns us f
  | _, _, _ => none
def fPut : List Str → List U → Str → U → List Str × List U
  | n :: ns, u :: us, f, x => if n = f then (n :: ns, x :: us) else (n :: (fPut ns us f x).1, u :: (fPut ns us f x).2)
  | _, _, f, x => ([f], [x])
section
variable {K : PySem.W.Frag} {G : Hp} {α : List Addr}
theorem lookup_cons' {f g : Str} {v : V} {r : List (Str × V)} : ((g, v) :: r).lookup f = if g = f then some v else r.lookup f := by
  rw [List.lookup_cons]
  by_cases h : g = f
  · subst h; simp
  · have : (f == g) = false := by simpa using (Ne.symm h)
    rw [this, if_neg h]
theorem fAt_ok : ∀ {ns : List Str} {us : List U} {vs : List V} {f : Str} {u : U}, RpUs K G α us vs → fAt ns us f = some u → ∃ v, (ns.zip vs).lookup f = some v ∧ RpU K G α u v
  | [], _, _, _, _, _, e => by simp [fAt] at e
  | n :: ns, [], _, _, _, _, e => by simp [fAt] at e
  | n :: ns, u :: us, _, f, x, ⟨v, ws, q1, q2, q3⟩, e => by
    subst q1
    simp only [fAt] at e
    rw [List.zip_cons_cons, lookup_cons']
    by_cases h : n = f
    · rw [if_pos h] at e ⊢; cases e; exact ⟨v, rfl, q2⟩
    · rw [if_neg h] at e ⊢; exact fAt_ok q3 e
theorem fNone_ok : ∀ {ns : List Str} {vs : List V} {f : Str}, f ∉ ns → (ns.zip vs).lookup f = none
  | [], _, _, _ => rfl
  | n :: ns, [], _, _ => rfl
  | n :: ns, v :: vs, f, h => by
    rw [List.mem_cons, not_or] at h
    rw [List.zip_cons_cons, lookup_cons', if_neg (Ne.symm h.1)]
    exact fNone_ok h.2
theorem fPut_ok : ∀ {ns : List Str} {us : List U} {vs : List V} {f : Str} {u : U} {v : V}, ns.length = vs.length → RpUs K G α us vs → RpU K G α u v →
    ∃ vs', putF f v (ns.zip vs) = (fPut ns us f u).1.zip vs' ∧ (fPut ns us f u).1.length = vs'.length ∧ RpUs K G α (fPut ns us f u).2 vs'
  | [], [], vs, f, u, v, hl, h, hv => by
    cases h
    exact ⟨[v], by simp [putF, fPut], by simp [fPut], v, [], rfl, hv, rfl⟩
  | [], x :: us, vs, f, u, v, hl, ⟨w, ws, q1, q2, q3⟩, hv => by subst q1; simp at hl
  | n :: ns, [], vs, f, u, v, hl, h, hv => by cases h; simp at hl
  | n :: ns, x :: us, vs, f, u, v, hl, ⟨w, ws, q1, q2, q3⟩, hv => by
    subst q1
    rw [List.zip_cons_cons]
    simp only [putF, fPut]
    by_cases h : n = f
    · rw [if_pos h, if_pos h]
      exact ⟨v :: ws, by simp, by simpa using hl, v, ws, rfl, hv, q3⟩
    · rw [if_neg h, if_neg h]
      obtain ⟨vs', e1, e2, e3⟩ := fPut_ok (f := f) (by simpa using hl) q3 hv
      exact ⟨w :: vs', by simp [e1], by simpa using e2, w, vs', rfl, q2, e3⟩
end
/-- an instance of the class at C: its fields -/
def insOf (C : Addr) (st : List Ob) : U → Option (List Str × List U)
  | .d (.obj D ns ts) => if D = C then some (ns, ts.map .d) else none
  | .own j => match st[j]? with
    | some (.obj D ns us) => if D = C then some (ns, us) else none
    | some (.frz (.obj D ns ts)) => if D = C then some (ns, ts.map .d) else none
    | _ => none
  | _ => none
theorem insOf_ok {K : PySem.W.Frag} {B G H : Hp} {α : List Addr} {st : List Ob} {C : Addr} {u : U} {v : V} {ns : List Str} {us : List U} (r : Rh K B st G α H) (p : RpU K G α u v) (e : insOf C st u = some (ns, us)) :
    ∃ a dx vs, v = .ref a ∧ H a = some (.ins C dx (ns.zip vs)) ∧ ns.length = vs.length ∧ RpUs K G α us vs := by
  unfold insOf at e
  split at e
  · rename_i D ns' ts
    split at e
    · rename_i hD
      subst hD
      simp only [Option.some.injEq, Prod.mk.injEq] at e
      obtain ⟨rfl, rfl⟩ := e
      have p : Rp K G (.obj D ns' ts) v := p
      simp only [Rp] at p
      obtain ⟨a, dx, vs, rfl, h1, h2, h3⟩ := p
      exact ⟨a, dx, vs, rfl, r.gh _ _ h1, h2, RpUs.ofRps h3⟩
    · cases e
  · rename_i j
    obtain ⟨a, ha, rfl⟩ := p
    split at e
    · rename_i D ns' us' e1
      split at e
      · rename_i hD
        subst hD
        simp only [Option.some.injEq, Prod.mk.injEq] at e
        obtain ⟨rfl, rfl⟩ := e
        obtain ⟨_, _, z, dx, vs, z1, z2, z3⟩ := r.ow j a _ ha e1
        exact ⟨a, dx, vs, rfl, z1, z2, z3⟩
      · cases e
    · rename_i D ns' ts e1
      split at e
      · rename_i hD
        subst hD
        simp only [Option.some.injEq, Prod.mk.injEq] at e
        obtain ⟨rfl, rfl⟩ := e
        obtain ⟨_, _, z⟩ := r.ow j a _ ha e1
        have z : Rp K G (.obj D ns' ts) (.ref a) := z
        simp only [Rp] at z
        obtain ⟨b, dx, vs, e2, h1, h2, h3⟩ := z
        cases e2
        exact ⟨a, dx, vs, rfl, r.gh _ _ h1, h2, RpUs.ofRps h3⟩
      · cases e
    · cases e
  · cases e
section
variable {X : Cx} {W : WX} {o e : Expr} {es : List Expr} {mo mv : DE} {da : DA} {pos pos' p apos : Pos} {f m x : Str} {C : Addr} {k j n : Nat} {F : Fn}
def mFld (C : Addr) (f : Str) (m : DE) : DE := fun ρ => (m ρ).bind fun u ρ1 => match insOf C ρ1.st u with
  | some (ns, us) => match fAt ns us f with
    | some w => .ok w ρ1
    | none => .no
  | none => .no
theorem fe_fld (c : Cls X.K C) (na : NoAttr X.K C f) (he : SE X W e mo) (hb : attributeBase e f X.env (eval e X.env) = eval e X.env := by rfl) : SE X W (.Attribute e f pos) (mFld C f mo) := pe_weak (pe_fld he hb) fun σ H Q ⟨B, ρ, G, α, r, h⟩ =>
  bE r h fun u ρ1 v H1 G1 α1 g1 r1 p1 h1 => by
    split at h1
    · rename_i ns us e1
      obtain ⟨a, dx, vs, rfl, h2, h3, h4⟩ := insOf_ok r1.toRh p1 e1
      split at h1
      · rename_i w e2
        obtain ⟨y, h5, h6⟩ := fAt_ok h4 e2
        exact ⟨a, C, dx, _, y, rfl, h2, c, na, h5, h1 G1 α1 H1 Gr.refl r1 y h6⟩
      · exact h1.elim
    · exact h1.elim
def mSetF (fz : Bool) (C : Addr) (f : Str) (mo mv : DE) : DS := fun ρ => (mv ρ).thn fun u ρ1 => (mo ρ1).thn fun o ρ2 => match o with
  | .own j => match (if fz = true then (toD 4 u ρ2.st).map fun q => (U.d q.1, q.2) else some (u, ρ2.st)) with
    | some (w, st) => match st[j]? with
      | some (.obj D ns us) => if D = C ∧ ns.length < 1000 then .nx ⟨ρ2.sl, st.set j (.obj C (fPut ns us f w).1 (fPut ns us f w).2)⟩ else .no
      | _ => .no
    | none => .no
  | _ => .no
theorem fs_setF (fz : Bool) (c : Cls X.K C) (na : NoAttr X.K C f) (ho : SE X W o mo) (hv : SE X W e mv) (hs : swapsWith e (some (.Attribute o f pos')) pos.line X.env = pure false := by rfl) : SS X W (.Assign [.Attribute o f pos'] e pos) (mSetF fz C f mo mv) := ps_weak (ps_fld ho hv hs) fun D σ H ⟨B, ρ, G, α, r, h⟩ => by
  refine sE r h fun u ρ1 v H1 G1 α1 g1 r1 p1 h1 => sE r1 h1 fun o ρ2 ov H2 G2 α2 g2 r2 p2 h2 => ?_
  split at h2
  · rename_i j
    split at h2
    · rename_i w st e1
      have key : ∃ G3, Gr B G2 α2 G3 α2 ∧ Rh X.K B st G3 α2 H2 ∧ RpU X.K G3 α2 w v := by
        cases fz with
        | true =>
          rw [if_pos rfl] at e1
          cases ed : toD 4 u ρ2.st with
          | none => rw [ed] at e1; cases e1
          | some q =>
            obtain ⟨t, st'⟩ := q
            rw [ed] at e1
            simp only [Option.map_some, Option.some.injEq, Prod.mk.injEq] at e1
            obtain ⟨rfl, rfl⟩ := e1
            obtain ⟨G3, g3, r3, p3⟩ := toD_ok 4 r2.toRh (p1.mono g2) ed
            exact ⟨G3, g3, r3, p3⟩
        | false =>
          rw [if_neg (by decide)] at e1
          simp only [Option.some.injEq, Prod.mk.injEq] at e1
          obtain ⟨rfl, rfl⟩ := e1
          exact ⟨G2, Gr.refl, r2.toRh, p1.mono g2⟩
      obtain ⟨G3, g3, r3, p3⟩ := key
      split at h2
      · rename_i D' ns us e2
        split at h2
        · rename_i hc
          obtain ⟨rfl, hl⟩ := hc
          obtain ⟨a, ha1, rfl⟩ := p2
          obtain ⟨_, _, z, dx, vs, z1, z2, z3⟩ := r3.ow j a _ ha1 e2
          obtain ⟨vs', q1, q2, q3⟩ := fPut_ok (f := f) z2 z3 p3
          refine ⟨a, D', dx, _, rfl, z1, c, na, by rw [List.length_zip]; omega, ?_⟩
          rw [q1]
          have r4 := r3.upd (o := .ins D' dx ((fPut ns us f w).1.zip vs')) (ob := .obj D' (fPut ns us f w).1 (fPut ns us f w).2) ha1 z (r3.tb.at z1 (fun ps e => by cases e) (fun c qq e => by unfold LamX.CodeO at e; cases e)) ⟨z, dx, vs', upd_same, q2, q3⟩
          exact h2 G3 α2 σ _ g3 (Rs.mk' r2 g3 r4)
        · exact h2.elim
      · exact h2.elim
    · exact h2.elim
  · exact h2.elim
structure Mn (P : Program) (w : World) (K : PySem.W.Frag) (mg : Str → Option Value) (base : Heap) (k : Nat) (C : Addr) (m : Str) (n : Nat) (F : Fn) : Prop where
  ex : ∃ (f : Addr) (fd : FuncData) (ps : List Str), FnOk P w K mg base (L2.CX P w) k f fd ps (spF K n F) ∧ Cls K C ∧ Meth K C m f ∧ Binds K fd ps []
def mMeth (C : Addr) (m : Str) (n : Nat) (F : Fn) (cs : List Bool) (mo : DE) (da : DA) : DE := fun ρ => (mo ρ).bind fun o ρ1 => match insOf C ρ1.st o with
  | some (ns, _) => if m ∈ ns then .no else (da ρ1).bind fun us ρ2 => match argC cs (o :: us) ρ2.st with
    | some (us', st) => if us'.length = n then callR F us' ⟨ρ2.sl, st⟩ else .no
    | none => .no
  | none => .no
theorem tMethS_of {K : PySem.W.Frag} {cs : List Bool} {σ : L2.St} {H : Hp} {Q : VK} (h : tE K W (mMeth C m n F cs mo da) σ H Q) : tMethS C m (spF K n F) (WE W) (tE K W mo) (tA K W da) σ H Q := by
  obtain ⟨B, ρ, G, α, r, h⟩ := h
  refine bE r h fun o ρ1 ov H1 G1 α1 g1 r1 p1 h1 => ?_
  split at h1
  · rename_i ns us0 e0
    obtain ⟨a, dx, vs0, rfl, z1, z2, z3⟩ := insOf_ok r1.toRh p1 e0
    split at h1
    · exact h1.elim
    · rename_i hm
      refine ⟨a, dx, _, rfl, z1, fNone_ok hm, ?_⟩
      refine bA r1 h1 fun us ρ2 vs H2 G2 α2 g2 r2 p2 h2 => ?_
      split at h2
      · rename_i us' st e1
        split at h2
        · rename_i hn
          obtain ⟨G3, g3, r3, p3⟩ := argC_ok r2.toRh (show RpUs K G2 α2 (o :: us) (.ref a :: vs) from ⟨_, _, rfl, p1.mono g2, p2⟩) e1
          have hl : (V.ref a :: vs).length = n := by rw [← hn, p3.length]
          have r3' : Rs K B ⟨ρ2.sl, st⟩ G3 α2 σ H2 := Rs.mk' r2 g3 r3
          have := call_ok r3' p3 (okP.shift g3 h2)
          rw [hl] at this
          exact this
        · exact h2.elim
      · exact h2.elim
  · exact h1.elim
theorem fe_meth {pl : Sem Bool} (tk : Tk X W) (M : Mn X.prog X.w X.K X.mg X.base k C m n F) (cs : List Bool) (hr : Room j X.A) (ho : SE X W o mo) (ha : SA X W (e :: es) da) (hk : k ≤ j := by decide)
    (hst : starEach (e :: es) X.env = (false, eval e X.env) :: starEach es X.env := by rfl) (hpl : (backTo pos (starEach es X.env)).any (·.1) = false := by rfl)
    (ht : eval (.Call (.Attribute o m apos) (e :: es) [] pos) X.env = (do
      let ov ← eval o X.env
      standAt apos.atName
      let (f, first) ← holding [ov] (getMethod ov m pl)
      callWith pos f first (backTo pos (starEach (e :: es) X.env)) (backToKw pos (keywordEach [] X.env))) := by rfl) : SE X W (.Call (.Attribute o m apos) (e :: es) [] pos) (mMeth C m n F cs mo da) := by
  obtain ⟨f, fd, ps, fo, c, hm, hb⟩ := M.ex
  exact pe_weak (pe_methS (pl := pl) ho c hm fo (hr.mono hk) hb tk ha hst hpl ht) fun _ _ _ h => tMethS_of h
end
end FL
namespace FL
open PySem L2 PyProof.Rows
variable [TabPar]
section
variable {K : PySem.W.Frag} {B G G' H H' : Hp} {α α' : List Addr} {st st' st'' os : List Ob} {is : List Nat}
theorem ObR.data {o : Ob} {a : Addr} (h : refO 0 o = true) (r : ObR K G α H a o) : ObR K G α' H a o := by
  cases o with
  | obj C ns us =>
    obtain ⟨z, dx, vs, z1, z2, z3⟩ := r
    refine ⟨z, dx, vs, z1, z2, ?_⟩
    have h : us.all (refU 0) = true := h
    clear z1 z2
    induction us generalizing vs with
    | nil => exact z3
    | cons u us ih =>
      rw [List.all_cons, Bool.and_eq_true] at h
      obtain ⟨v, ws, q1, q2, q3⟩ := z3
      refine ⟨v, ws, q1, ?_, ih h.2 _ q3 h.2⟩
      cases u with
      | d t => exact q2
      | own i => simp [refU] at h
  | frz t => exact r
  | lst t => exact r
  | dk k t => exact r
  | dn w k t => exact r
  | tpo us => cases h
/-- behind a call that made an object -/
theorem Rh.backN {ob : Ob} {a : Addr} (r : Rh K B st G α H) (hn : is.Nodup) (e : FL.handOn st is is = some os) (g : Gr (wall H α is) G (adr α is) G' α') (r' : Rh K (wall H α is) st' G' α' H') (eb : handBack is is st' st = some st'')
    (ha : α'[is.length]? = some a) (ho : st'[is.length]? = some ob) (hd : refO 0 ob = true) : Gr B G α G' (α ++ [a]) ∧ Rh K B (st'' ++ [ob]) G' (α ++ [a]) H' := by
  obtain ⟨gg, rr⟩ := r.back hn e g r' eb
  obtain ⟨q1, ⟨u, q2⟩, q3⟩ := r'.ow _ a ob ha ho
  obtain ⟨β, hα⟩ := g.al
  have hna : a ∉ adr α is := fun hm => by
    obtain ⟨i, hi, ei⟩ := List.getElem_of_mem hm
    have hi' : i < is.length := by simpa [adr] using hi
    have := nodup_at r'.nd ha (i := is.length) (j := i) (by rw [hα, List.getElem?_append_left hi, List.getElem?_eq_getElem hi, ei])
    omega
  have hH : H a = none := by
    cases h : H a with
    | none => rfl
    | some o => rw [wall_out hna, h] at q1; cases q1
  have hB : B a = none := r.bh.free hH
  have hα' : a ∉ α := fun hm => by
    obtain ⟨i, hi, ei⟩ := List.getElem_of_mem hm
    obtain ⟨u, hu⟩ := r.there (i := i) (a := a) (by rw [List.getElem?_eq_getElem hi, ei])
    rw [hH] at hu; cases hu
  exact ⟨gg.trans Gr.own, rr.adopt hB hα' q2 (q3.data hd) (r'.tb.no (List.mem_of_getElem? ha))⟩
end
/-- the value of a call: data, or an object newly made -/
def behind (F : Fn) (is : List Nat) (os : List Ob) (us : List U) (ρ : Sg) : R U := match F os us with
  | .ok (.own j) ρ' => if j = is.length then match ρ'.st[j]? with
    | some ob => if refO 0 ob = true then match handBack is is ρ'.st ρ.st with
      | some s2 => .ok (.own s2.length) ⟨ρ.sl, s2 ++ [ob]⟩
      | none => .no
      else .no
    | none => .no
    else .no
  | .ok (.d t) ρ' => .no
  | .ex x ρ' => match handBack is is ρ'.st ρ.st with
    | some s2 => .ex x ⟨ρ.sl, s2⟩
    | none => .no
  | .no => .no
/-- a call whose value is an object newly made -/
def callN (F : Fn) (us : List U) (ρ : Sg) : R U :=
  let is := reach ρ.st 3 (owns us [])
  match handOn ρ.st is is, renUs is us with
  | some os, some us' => behind F is os us' ρ
  | _, _ => .no
def mCallN (n : Nat) (F : Fn) (cs : List Bool) (da : DA) : DE := fun ρ => (da ρ).bind fun us ρ1 => match argC cs us ρ1.st with
  | some (us', st) => if us'.length = n then callN F us' ⟨ρ1.sl, st⟩ else .no
  | none => .no
/-- C(..): the callee's own object is the last one -/
def newR (C : Addr) (F : Fn) (us : List U) (ρ : Sg) : R U :=
  let is := reach ρ.st 3 (owns us [])
  match handOn ρ.st is is, renUs is us with
  | some os, some us' => behind (fun os us => match F (os ++ [.obj C [] []]) (.own is.length :: us) with
    | .ok (.d .non) ρ' => .ok (.own is.length) ρ'
    | .ok _ _ => .no
    | .ex x ρ' => .ex x ρ'
    | .no => .no) is os us' ρ
  | _, _ => .no
def mNew (C : Addr) (n : Nat) (F : Fn) (cs : List Bool) (da : DA) : DE := fun ρ => (da ρ).bind fun us ρ1 => match argC cs us ρ1.st with
  | some (us', st) => if us'.length + 1 = n then newR C F us' ⟨ρ1.sl, st⟩ else .no
  | none => .no
section
variable {K : PySem.W.Frag} {B G H : Hp} {α : List Addr} {W : WX} {σ : L2.St} {ρ : Sg} {us : List U} {vs : List V} {F : Fn} {Q : VK}
theorem callN_ok (r : Rs K B ρ G α σ H) (h : RpUs K G α us vs) (q : okP K W B G α σ (callN F us ρ) (EndP K Q)) : spF K vs.length F vs H Q (WE W σ) := by
  unfold callN at q
  dsimp only at q
  have hn : (reach ρ.st 3 (owns us [])).Nodup := nodup_reach (nodup_owns (by simp))
  generalize reach ρ.st 3 (owns us []) = is at q hn
  split at q
  · rename_i os us' e1 e2
    obtain ⟨l1, l2⟩ := handOn_len e1
    have hin : ∀ i ∈ is, i < α.length := fun i hi => by rw [r.len]; exact l2 i hi
    refine ⟨rfl, wall H α is, os, G, adr α is, us', r.toRh.handOn hn e1, renUs_ok hin h e2, ?_⟩
    unfold behind at q
    cases eF : F os us' with
    | ok u ρ' =>
      rw [eF] at q
      cases u with
      | d t => exact q.elim
      | own j =>
        dsimp only at q
        split at q
        · rename_i hj
          subst hj
          split at q
          · rename_i ob eo
            split at q
            · rename_i hd
              split at q
              · rename_i s2 e4
                intro G' α' H' v g r' p
                obtain ⟨a, p1, p2⟩ := p
                obtain ⟨gg, rr⟩ := r.toRh.backN hn e1 g r' e4 p1 eo hd
                have hl := rr.len
                simp only [List.length_append, List.length_singleton] at hl
                exact q G' _ H' gg (Rs.mk' r gg rr) v ⟨a, by rw [show s2.length = α.length by omega]; simp, p2⟩
              · exact q.elim
            · exact q.elim
          · exact q.elim
        · exact q.elim
    | ex x ρ' =>
      rw [eF] at q
      dsimp only at q
      intro G' α' H' d g r' xd
      cases e4 : handBack is is ρ'.st ρ.st with
      | none => rw [e4] at q; exact q.elim
      | some s2 =>
        rw [e4] at q; dsimp only at q
        obtain ⟨gg, rr⟩ := r.toRh.back hn e1 g r' e4
        exact q σ H' G' α d gg (Rs.mk' r gg rr) xd
    | no => rw [eF] at q; exact q.elim
  · exact q.elim
theorem newR_ok {C : Addr} (r : Rs K B ρ G α σ H) (h : RpUs K G α us vs) (q : okP K W B G α σ (newR C F us ρ) (EndP K Q)) :
    ∀ x dx, H x = none → H dx = none → dx ≠ x → spF K (vs.length + 1) F (.ref x :: vs) (L2.upd (L2.upd H dx (.own x)) x (.ins C dx [])) (fun v H2 => v = .non ∧ Q (.ref x) H2) (WE W σ) := by
  intro x dx hx hdx hne
  unfold newR at q
  dsimp only at q
  have hn : (reach ρ.st 3 (owns us [])).Nodup := nodup_reach (nodup_owns (by simp))
  generalize reach ρ.st 3 (owns us []) = is at q hn
  split at q
  · rename_i os us' e1 e2
    obtain ⟨l1, l2⟩ := handOn_len e1
    have hin : ∀ i ∈ is, i < α.length := fun i hi => by rw [r.len]; exact l2 i hi
    have r0 := r.toRh.handOn hn e1
    have hA : (adr α is).length = is.length := by simp [adr]
    have nin : ∀ p, H p = none → p ∉ adr α is := fun p hp hm => by
      obtain ⟨i, hi, ei⟩ := List.getElem_of_mem hm
      obtain ⟨u, hu⟩ := r0.there (i := i) (a := p) (by rw [List.getElem?_eq_getElem hi, ei])
      rw [hp] at hu; cases hu
    have r1 : Rh K (wall H α is) os G (adr α is) (L2.upd H dx (.own x)) := r0.other (by rw [wall_out (nin _ hdx)]; exact hdx) (r.gh.free hdx) (nin _ hdx) (r0.tb.new hdx)
    have hx1 : (L2.upd H dx (.own x)) x = none := by rw [upd_ne (Ne.symm hne)]; exact hx
    have r2 := r1.newO (o := .ins C dx []) (ob := .obj C [] []) hx1 ⟨r.gh.free hx, dx, [], by rw [upd_same]; rfl, rfl, rfl⟩
    have p2 := (renUs_ok hin h e2).mono (B := wall H α is) (Gr.own (B := wall H α is) (G := G) (α := adr α is) (a := x))
    refine ⟨rfl, wall H α is, os ++ [.obj C [] []], G, adr α is ++ [x], .own is.length :: us', r2, ⟨_, _, rfl, ⟨x, by rw [← hA]; simp, rfl⟩, p2⟩, ?_⟩
    unfold behind at q
    dsimp only at q
    cases eF : F (os ++ [.obj C [] []]) (.own is.length :: us') with
    | ok u ρ' =>
      rw [eF] at q
      cases u with
      | own j => exact q.elim
      | d t =>
        cases t with
        | non =>
          dsimp only at q
          rw [if_pos rfl] at q
          split at q
          · rename_i ob eo
            split at q
            · rename_i hd
              split at q
              · rename_i s2 e4
                intro G' α' H' v g r' p
                have p : v = V.non := by simpa [RpU, Rp] using p
                subst p
                refine ⟨rfl, ?_⟩
                have g' := Gr.own.trans g
                have ex : α'[is.length]? = some x := g.get (by rw [← hA]; simp)
                obtain ⟨gg, rr⟩ := r.toRh.backN hn e1 g' r' e4 ex eo hd
                have hl := rr.len
                simp only [List.length_append, List.length_singleton] at hl
                exact q G' _ H' gg (Rs.mk' r gg rr) (.ref x) ⟨x, by rw [show s2.length = α.length by omega]; simp, rfl⟩
              · exact q.elim
            · exact q.elim
          · exact q.elim
        | _ => exact q.elim
    | ex x' ρ' =>
      rw [eF] at q
      dsimp only at q
      intro G' α' H' d g r' xd
      cases e4 : handBack is is ρ'.st ρ.st with
      | none => rw [e4] at q; exact q.elim
      | some s2 =>
        rw [e4] at q; dsimp only at q
        obtain ⟨gg, rr⟩ := r.toRh.back hn e1 (Gr.own.trans g) r' e4
        exact q σ H' G' α d gg (Rs.mk' r gg rr) xd
    | no => rw [eF] at q; exact q.elim
  · exact q.elim
end
section
variable {X : Cx} {W : WX} {e : Expr} {es : List Expr} {da : DA} {pos p : Pos} {k j n : Nat} {x : Str} {F : Fn} {C : Addr}
theorem fe_callN (tk : Tk X W) (D : Dn X.prog X.w X.K X.mg X.base k x n F) (cs : List Bool) (hr : Room j X.A) (ha : SA X W (e :: es) da) (hk : k ≤ j := by decide) (hg : Gl X x := by rfl)
    (hdb : (x == ("__debug__" : Str)) = false := by decide) (he : starEach (e :: es) X.env = (false, eval e X.env) :: starEach es X.env := by rfl) (hpl : (backTo pos (starEach es X.env)).any (·.1) = false := by rfl)
    : SE X W (.Call (.Name x p) (e :: es) [] pos) (mCallN n F cs da) := by
  obtain ⟨f, fd, ps, fo, hm, hkp, hb⟩ := D.ex
  exact pe_weak (pe_callS fo (hr.mono hk) hg hm hkp hb tk ha hdb he hpl) fun σ H Q ⟨B, ρ, G, α, r, h⟩ => by
    refine bA r h fun us ρ1 vs H1 G1 α1 g1 r1 p1 h1 => ?_
    split at h1
    · rename_i us' st e1
      split at h1
      · rename_i hn
        obtain ⟨G2, g2, r2, p2⟩ := argC_ok r1.toRh p1 e1
        have hl : vs.length = n := by rw [← hn, p2.length]
        have r2' : Rs X.K B ⟨ρ1.sl, st⟩ G2 α1 σ H1 := Rs.mk' r1 g2 r2
        have := callN_ok r2' p2 (okP.shift g2 h1)
        rw [hl] at this
        exact this
      · exact h1.elim
    · exact h1.elim
/-- a class whose instances are made by F -/
structure Cn (P : Program) (w : World) (K : PySem.W.Frag) (mg : Str → Option Value) (base : Heap) (k : Nat) (x : Str) (C : Addr) (n : Nat) (F : Fn) : Prop where
  ex : ∃ (f : Addr) (fd : FuncData) (ps : List Str), FnOk P w K mg base (L2.CX P w) k f fd ps (spF K n F) ∧ mg x = some (.ref C) ∧ Mk K C f ∧ Binds K fd ps []
theorem fe_new (tk : Tk X W) (D : Cn X.prog X.w X.K X.mg X.base k x C n F) (cs : List Bool) (hr : Room j X.A) (ha : SA X W (e :: es) da) (hk : k + 1 ≤ j := by decide) (hg : Gl X x := by rfl)
    (hdb : (x == ("__debug__" : Str)) = false := by decide) (he : starEach (e :: es) X.env = (false, eval e X.env) :: starEach es X.env := by rfl) (hpl : (backTo pos (starEach es X.env)).any (·.1) = false := by rfl)
    : SE X W (.Call (.Name x p) (e :: es) [] pos) (mNew C n F cs da) := by
  obtain ⟨f, fd, ps, fo, hm, mk, hb⟩ := D.ex
  exact pe_weak (pe_makeS mk fo (hr.mono hk) hg hm hb tk ha hdb he hpl) fun σ H Q ⟨B, ρ, G, α, r, h⟩ => by
    refine bA r h fun us ρ1 vs H1 G1 α1 g1 r1 p1 h1 => ?_
    split at h1
    · rename_i us' st e1
      split at h1
      · rename_i hn
        obtain ⟨G2, g2, r2, p2⟩ := argC_ok r1.toRh p1 e1
        have hl : vs.length + 1 = n := by rw [← hn, p2.length]
        have r2' : Rs X.K B ⟨ρ1.sl, st⟩ G2 α1 σ H1 := Rs.mk' r1 g2 r2
        have := newR_ok (C := C) r2' p2 (okP.shift g2 h1)
        rw [hl] at this
        exact this
      · exact h1.elim
    · exact h1.elim
end
/-- a body run; its value is an object newly made -/
def runN (m : DS) (n : Nat) : Fn := fun st us => match m ⟨us.map some ++ List.replicate (n - us.length) none, st⟩ with
  | .rt (.own j) ρ => match ρ.st[j]? with
    | some ob => if refO 0 ob = true ∧ st.length ≤ j then match cutSt st.length ρ.st with
      | some st' => .ok (.own st.length) ⟨[], st' ++ [ob]⟩
      | none => .no
      else .no
    | none => .no
  | .ex x ρ => match cutSt st.length ρ.st with
    | some st' => .ex x ⟨[], st'⟩
    | none => .no
  | _ => .no
theorem Rh.cutN {K : PySem.W.Frag} {B G H : Hp} {α : List Addr} {st st' : List Ob} {k j : Nat} {a : Addr} {ob : Ob} (r : Rh K B st G α H) (e : cutSt k st = some st') (hj : st[j]? = some ob) (ha : α[j]? = some a) (hk : k ≤ j) (hd : refO 0 ob = true) : Rh K B (st' ++ [ob]) G (α.take k ++ [a]) H := by
  have r1 := r.cut e
  obtain ⟨q1, ⟨u, q2⟩, q3⟩ := r.ow j a ob ha hj
  refine r1.adopt q1 (fun hm => ?_) q2 (q3.data hd) (r.tb.no (List.mem_of_getElem? ha))
  obtain ⟨i, hi, ei⟩ := List.getElem_of_mem hm
  have hi2 : i < k := by rw [List.length_take] at hi; omega
  have e3 : α[i]? = some a := by
    have := List.getElem?_eq_getElem hi
    rw [ei, List.getElem?_take_of_lt hi2] at this
    exact this
  have := nodup_at r.nd e3 ha
  omega
theorem bodyN_ok {K : PySem.W.Frag} {N : List Str} {m : DS} {n : Nat} {vs : List V} {H : Hp} {Q : VK} {E : XK} (h : spF K n (runN m N.length) vs H Q E) :
    tS K (fun cls d _ H => E cls d H) m { nx := fun _ H' => Q .non H', rt := Q } (L2.start N vs) H := by
  obtain ⟨_, B, st, G, α, us, rh, ru, ho⟩ := h
  have hl := ru.length
  have hk : st.length = α.length := rh.len.symm
  refine ⟨B, ⟨us.map some ++ List.replicate (N.length - us.length) none, st⟩, G, α, { toRh := rh, sll := ?_, sl := fun i u e => ?_ }, ?_⟩
  · simp [L2.start, hl]
  · unfold L2.start
    rw [← hl]
    exact start_sl ru _ i u e
  · unfold runN at ho
    split at ho
    · rename_i j ρ e
      rw [e]
      split at ho
      · rename_i ob e0
        split at ho
        · rename_i hc
          split at ho
          · rename_i st' e1
            intro G' α' σ' H' v g r p
            obtain ⟨a, p1, p2⟩ := p
            have rN := r.toRh.cutN e1 e0 p1 hc.2 hc.1
            obtain ⟨β, eβ⟩ := g.al
            rw [hk] at rN
            have et : α'.take α.length = α := by rw [eβ]; simp
            refine ho G' _ H' v ⟨g.ex, ⟨[a], ?_⟩, g.fr⟩ rN ⟨a, ?_, p2⟩
            · rw [et]
            · rw [et, hk]; simp
          · exact ho.elim
        · exact ho.elim
      · exact ho.elim
    · rename_i x ρ e
      rw [e]
      split at ho
      · rename_i st' e1
        rw [hk] at e1
        exact fun σ' H' G' α' d g r xd => ho G' _ H' d g.cut (r.toRh.cut e1) xd
      · exact ho.elim
    · exact ho.elim
section
variable {P : Program} {w : World} {K : PySem.W.Frag} {mg : Str → Option Value} {base : Heap} {x qual : Str} {st : Stmt} {f : Addr} {fd : FuncData} {N ps : List Str} {k n : Nat} {m : DS}
/-- a body in its context -/
abbrev Body (P : Program) (w : World) (K : PySem.W.Frag) (mg : Str → Option Value) (base : Heap) (N : List Str) (qual : Str) (f : Addr) (k : Nat) (sc : Scope) (b : List Stmt) (m : DS) : Prop :=
  ∀ (cdv : Value) (A : Around) (outer : List Env) (s : Shared) (H : Hp) (E : XK), Room k (XC P w K mg base N qual sc f cdv A outer s H E).A → Ct (XC P w K mg base N qual sc f cdv A outer s H E) (Wd E) →
      SSs (XC P w K mg base N qual sc f cdv A outer s H E) (Wd E) b m
theorem fn_denC (Fu : Fun K x qual st f fd) (S : FnScope N ps (defScope st)) (hn : ps.length = n) (hb : Body P w K mg base N qual f k (defScope st) (defBody st) m) : FnOk P w K mg base (L2.CX P w) (k + 1) f fd ps (spF K n (runD m N.length)) :=
  Fu.okX S (spF_len hn) fun cdv A outer s H vs Q E hr h => ⟨tS K (Wd E) m, hb cdv A outer s H E hr ⟨tk_of (takes_of rfl rfl rfl rfl), passes_of rfl, takes_of rfl rfl rfl rfl⟩, body_ok h⟩
theorem fn_denN (Fu : Fun K x qual st f fd) (S : FnScope N ps (defScope st)) (hn : ps.length = n) (hb : Body P w K mg base N qual f k (defScope st) (defBody st) m) : FnOk P w K mg base (L2.CX P w) (k + 1) f fd ps (spF K n (runN m N.length)) :=
  Fu.okX S (spF_len hn) fun cdv A outer s H vs Q E hr h => ⟨tS K (Wd E) m, hb cdv A outer s H E hr ⟨tk_of (takes_of rfl rfl rfl rfl), passes_of rfl, takes_of rfl rfl rfl rfl⟩, bodyN_ok h⟩
end
end FL
namespace FL
open PySem L2 PyProof.Rows StX
variable [TabPar]
section
variable {X : Cx} {W : WX} {e o a b : Expr} {es : List Expr} {me mo ma mb : DE} {da : DA} {p pos apos : Pos}
theorem RpUs.app {K : PySem.W.Frag} {G : Hp} {α : List Addr} : ∀ {us us' : List U} {vs vs' : List V}, RpUs K G α us vs → RpUs K G α us' vs' → RpUs K G α (us ++ us') (vs ++ vs')
  | [], _, _, _, h, g => by cases h; exact g
  | u :: us, _, _, _, ⟨v, ws, q1, q2, q3⟩, g => by subst q1; exact ⟨v, _, rfl, q2, RpUs.app q3 g⟩
theorem fe_all (hc : X.calm = true) (hg : Gl X "all") (hm : X.mg "all" = none) (ha : SA X W [e] da) (he : starEach [e] X.env = [(false, eval e X.env)] := by rfl) : SE X W (.Call (.Name "all" p) [e] [] pos) (mCa (allF false) da) :=
  fe_callB (cr_all hc) all_ok hg hm (by decide +kernel) ha (by decide) (by decide) he rfl
end
end FL
namespace FL
open PySem L2 PyProof.Rows
variable [TabPar]
theorem in_it {J1 : It} {n1 : Nat} {G1 : Hp → Prop} {Y1 : Nat → Hp → V → Hp → Prop} (w : Walk J1 n1 G1 Y1) {A : V → Hp → (Hp → Prop) → Prop} {H4 : Hp} {Nx : Hp → Prop} (Pv : Nat → Hp → Prop) (h0 : Pv 0 H4) (hG : ∀ i H, i ≤ n1 → Pv i H → G1 H)
    (hs : ∀ i x H H', i < n1 → Pv i H → Y1 i H x H' → A x H' (Pv (i + 1))) (hd : ∀ H, Pv n1 H → Nx H) :
    ∃ W1 : Nat → Nat → Hp → Prop, (∃ m, W1 0 m H4) ∧ ∀ j k H, W1 j k H →
      (J1.stop j H ∧ Nx H) ∨ (J1.go j H ∧ ∃ Nx1 : Hp → Prop, (∀ H', Nx1 H' → ∃ k', k' < k ∧ W1 (j + 1) k' H') ∧ ∀ x H', J1.yld j H x H' → A x H' Nx1) := by
  refine ⟨fun i m H => m = n1 - i ∧ i ≤ n1 ∧ Pv i H, ⟨n1, by simp, Nat.zero_le _, h0⟩, ?_⟩
  rintro i m H ⟨rfl, hi, p⟩
  by_cases hlt : i < n1
  · refine .inr ⟨w.goes i H hlt (hG i H hi p), Pv (i + 1), fun H' p' => ⟨n1 - (i + 1), by omega, rfl, hlt, p'⟩, fun x H' y => hs i x H H' hlt p (w.yields i H x H' hlt (hG i H hi p) y)⟩
  · have e : i = n1 := by omega
    subst e
    exact .inl ⟨w.stops H (hG i H hi p), hd H p⟩
section
variable {K : PySem.W.Frag} {W : WX} {β : Type}
/-- where a comprehension stands that has gone through i items -/
def LcI (K : PySem.W.Frag) (W : WX) (B G1 : Hp) (α1 : List Addr) (σ σo : L2.St) (D : Addr) (sl : List (Option U)) (ts : List T) (f : List T → List T → List Ob → R β) (P : β → Sg → Hp → List Addr → Hp → Prop) (i : Nat) (H' : Hp) : Prop :=
  ∃ acc ws st' G' α', Gr B G1 α1 G' α' ∧ Rs K B ⟨sl, st'⟩ G' α' σ H' ∧ H' D = some (.lst ws) ∧ Rps K G' acc ws ∧ D ∉ α' ∧ G' D = none ∧ okP K W B G' α' σo (f (ts.drop i) acc st') P
/-- beside the comprehension's own list -/
theorem lc_back {B G1 G' G4 : Hp} {α1 α' α4 : List Addr} {σ σ4 : L2.St} {D : Addr} {sl : List (Option U)} {st' : List Ob} {ρ4 : Sg} {H' H4 : Hp} {ws : List V} {acc : List T} (hBD : B D = none) (hGD : G' D = none) (g' : Gr B G1 α1 G' α') (r' : Rs K B ⟨sl, st'⟩ G' α' σ H') (hacc : Rps K G' acc ws)
    (g4 : Gr (L2.upd B D (.lst ws)) G' α' G4 α4) (r4 : Rs K (L2.upd B D (.lst ws)) ρ4 G4 α4 σ4 H4) :
    Gr B G1 α1 G4 α4 ∧ Gr B G' α' G4 α4 ∧ Rs K B ⟨sl, ρ4.st⟩ G4 α4 σ H4 ∧ H4 D = some (.lst ws) ∧ D ∉ α4 ∧ G4 D = none ∧ Rps K G4 acc ws := by
  obtain ⟨ga, gb⟩ := Gr.unwall hBD g4
  obtain ⟨ra, rb, rc⟩ := Rs.unwall hBD r4
  exact ⟨g'.trans ga, ga, { toRh := ra.toRh, sll := r'.sll, sl := fun i u e => let ⟨v, h1, h2⟩ := r'.sl i u e; ⟨v, h1, h2.mono ga⟩ }, rc, rb, gb hGD, Rps.mono ga.ex hacc⟩
theorem lc_step {B G1 : Hp} {α1 : List Addr} {σ σo : L2.St} {D : Addr} {g : DG} {t : DT} {e : DE} {vs : List Nat} {sl : List (Option U)} {ts : List T} {k : List T → Sg → R β} {P : β → Sg → Hp → List Addr → Hp → Prop} {i : Nat} {x : V} {H' H'' : Hp} (hBD : B D = none)
    (h : LcI K W B G1 α1 σ σo D sl ts (fun xs acc st => (lcL g t e vs sl xs acc st).bind k) P i H') (y : Yt K G1 ts i H' x H'') :
    tGv K vs g x (L2.wipe σ vs) H'' fun σ2 H2 => L2.wipe σ2 vs = L2.wipe σ vs ∧ tT K W0 t σ2 H2 fun b H3 => if b = true then tE K W0 e σ2 H3 fun y H4 => ∃ acc, H4 D = some (.lst acc) ∧ acc.length < sizeLine ∧
      LcI K W B G1 α1 σ σo D sl ts (fun xs acc st => (lcL g t e vs sl xs acc st).bind k) P (i + 1) (L2.upd H4 D (.lst (acc ++ [y]))) else LcI K W B G1 α1 σ σo D sl ts (fun xs acc st => (lcL g t e vs sl xs acc st).bind k) P (i + 1) H3 := by
  obtain ⟨acc, ws, st', G', α', g', r', hDw, hacc, hDn, hGD, ho⟩ := h
  obtain ⟨tt, G2, e1, g2, r2, p2⟩ := item_ok (r'.wall hDw hDn) g'.ex y
  dsimp only at ho
  rw [drop_at e1] at ho
  unfold lcL at ho
  refine ⟨L2.upd B D (.lst ws), ⟨wipeL sl vs, st'⟩, G2, α', .d tt, r2.wipe vs, p2, ?_⟩
  cases eg : g (.d tt) ⟨wipeL sl vs, st'⟩ with
  | ex x ρ3 => rw [eg] at ho; exact ho.elim
  | no => rw [eg] at ho; exact ho.elim
  | ok _ ρ3 =>
    rw [eg] at ho
    dsimp only at ho
    intro G3 α3 σ3 H3 g3 r3 hw3
    refine ⟨hw3.trans (wipe_wipe σ vs), L2.upd B D (.lst ws), ρ3, G3, α3, r3, ?_⟩
    cases et : t ρ3 with
    | ex x ρ4 => rw [et] at ho; exact ho.elim
    | no => rw [et] at ho; exact ho.elim
    | ok b ρ4 =>
      rw [et] at ho
      intro G4 α4 H4 g4 r4
      cases b with
      | false =>
        dsimp only at ho
        obtain ⟨q1, q2, q3, q4, q5, q6, q7⟩ := lc_back hBD hGD g' r' hacc ((g2.trans g3).trans g4) r4
        exact ⟨acc, ws, ρ4.st, G4, α4, q1, q3, q4, q7, q5, q6, okP.shift q2 ho⟩
      | true =>
        dsimp only at ho
        show tE K W0 e σ3 H4 _
        refine ⟨L2.upd B D (.lst ws), ρ4, G4, α4, r4, ?_⟩
        cases ee : e ρ4 with
        | ex x ρ5 => rw [ee] at ho; exact ho.elim
        | no => rw [ee] at ho; exact ho.elim
        | ok u ρ5 =>
          rw [ee] at ho
          dsimp only at ho
          intro G5 α5 H5 g5 r5 v p5
          cases ed : toD 4 u ρ5.st with
          | none => rw [ed] at ho; exact ho.elim
          | some ys =>
            obtain ⟨yy, st6⟩ := ys
            rw [ed] at ho
            dsimp only at ho
            split at ho
            · rename_i hz
              obtain ⟨G6, g6, r6, p6⟩ := toD_ok 4 r5.toRh p5 ed
              have r6' : Rs K (L2.upd B D (.lst ws)) ⟨ρ5.sl, st6⟩ G6 α5 σ3 H5 := Rs.mk' r5 g6 r6
              obtain ⟨q1, q2, q3, q4, q5, q6, q7⟩ := lc_back hBD hGD g' r' hacc ((((g2.trans g3).trans g4).trans g5).trans g6) r6'
              refine ⟨ws, q4, by rw [← q7.length]; exact hz, acc ++ [yy], ws ++ [v], st6, G6, α5, q1, { toRh := q3.toRh.other hBD q6 q5 (q3.tb.at q4 (fun ps e => by cases e) (fun c qq e => by unfold LamX.CodeO at e; cases e)), sll := q3.sll, sl := q3.sl }, upd_same, q7.append (Rps.cons p6 Rps.nil), q5, q6, okP.shift q2 ho⟩
            · exact ho.elim
def lcL2 (g : DG) (t : DT) (mi1 : DI) (g1 : DG) (t1 : DT) (e : DE) (vs vs1 : List Nat) (sl : List (Option U)) : List T → List T → List Ob → R (List T)
  | [], acc, st => .ok acc ⟨sl, st⟩
  | x :: xs, acc, st => match g (.d x) ⟨wipeL sl vs, st⟩ with
    | .ok _ ρ1 => match t ρ1 with
      | .ok true ρ2 => match mi1 ρ2 with
        | .ok ts1 ρ3 => (lcL g1 t1 e vs1 ρ3.sl ts1 acc ρ3.st).bind fun acc1 ρ4 => lcL2 g t mi1 g1 t1 e vs vs1 sl xs acc1 ρ4.st
        | _ => .no
      | .ok false ρ2 => lcL2 g t mi1 g1 t1 e vs vs1 sl xs acc ρ2.st
      | _ => .no
    | _ => .no
def mLc2 (i : DI) (g : DG) (t : DT) (mi1 : DI) (g1 : DG) (t1 : DT) (e : DE) (vs vs1 : List Nat) : DE := fun ρ => (i ρ).bind fun ts ρ1 => (lcL2 g t mi1 g1 t1 e vs vs1 ρ1.sl ts [] ρ1.st).bind fun acc ρ2 => .ok (.own ρ2.st.length) ⟨ρ2.sl, ρ2.st ++ [.lst acc]⟩
theorem tLc2_of {mi mi1 : DI} {g g1 : DG} {t t1 : DT} {e : DE} {vs vs1 : List Nat} {σ : L2.St} {H : Hp} {Q : VK} (h : tE K W (mLc2 mi g t mi1 g1 t1 e vs vs1) σ H Q) :
    tLc2 (tI K W mi) (tGv K vs g) (tT K W0 t) (tI K W0 mi1) (tGv K vs1 g1) (tT K W0 t1) (tE K W0 e) vs vs1 σ H Q := by
  obtain ⟨B, ρ, G, α, r, h⟩ := h
  unfold mLc2 at h
  refine ⟨B, ρ, G, α, r, ?_⟩
  cases e0 : mi ρ with
  | ex x ρ1 => rw [e0] at h; exact h
  | no => rw [e0] at h; exact h
  | ok ts ρ1 =>
    rw [e0] at h
    intro G1 α1 H1 gr1 r1 J wt D hD
    have hBD := r1.bh.free hD
    refine in_it wt (LcI K W B G1 α1 σ σ D ρ1.sl ts (fun xs acc st => (lcL2 g t mi1 g1 t1 e vs vs1 ρ1.sl xs acc st).bind fun acc ρ2 => .ok (.own ρ2.st.length) ⟨ρ2.sl, ρ2.st ++ [.lst acc]⟩) (EndP K Q)) ?_ ?_ ?_ ?_
    · have hn := r1.toRh.nin hD
      exact ⟨[], [], ρ1.st, G1, α1, Gr.refl, { toRh := r1.toRh.other hBD (r1.gh.free hD) hn (r1.tb.new hD), sll := r1.sll, sl := r1.sl }, upd_same, Rps.nil, hn, r1.gh.free hD, okP.shift gr1 h⟩
    · rintro i H' _ ⟨acc, ws, st', G', α', g', r', _⟩
      exact g'.ex.trans r'.gh
    · rintro i x H' H'' hi ⟨acc, ws, st', G', α', g', r', hDw, hacc, hDn, hGD, ho⟩ y
      obtain ⟨tt, G2, e1, g2, r2, p2⟩ := item_ok (r'.wall hDw hDn) g'.ex y
      dsimp only at ho
      rw [drop_at e1] at ho
      unfold lcL2 at ho
      refine ⟨L2.upd B D (.lst ws), ⟨wipeL ρ1.sl vs, st'⟩, G2, α', .d tt, r2.wipe vs, p2, ?_⟩
      cases eg : g (.d tt) ⟨wipeL ρ1.sl vs, st'⟩ with
      | ex x ρ3 => rw [eg] at ho; exact ho.elim
      | no => rw [eg] at ho; exact ho.elim
      | ok _ ρ3 =>
        rw [eg] at ho
        dsimp only at ho
        intro G3 α3 σ3 H3 g3 r3 hw3
        refine ⟨hw3.trans (wipe_wipe σ vs), L2.upd B D (.lst ws), ρ3, G3, α3, r3, ?_⟩
        cases et : t ρ3 with
        | ex x ρ4 => rw [et] at ho; exact ho.elim
        | no => rw [et] at ho; exact ho.elim
        | ok b ρ4 =>
          rw [et] at ho
          intro G4 α4 H4 g4 r4
          cases b with
          | false =>
            dsimp only at ho
            obtain ⟨q1, q2, q3, q4, q5, q6, q7⟩ := lc_back hBD hGD g' r' hacc ((g2.trans g3).trans g4) r4
            exact ⟨acc, ws, ρ4.st, G4, α4, q1, q3, q4, q7, q5, q6, okP.shift q2 ho⟩
          | true =>
            dsimp only at ho
            show tI K W0 mi1 σ3 H4 _
            refine ⟨L2.upd B D (.lst ws), ρ4, G4, α4, r4, ?_⟩
            cases ei : mi1 ρ4 with
            | ex x ρ5 => rw [ei] at ho; exact ho.elim
            | no => rw [ei] at ho; exact ho.elim
            | ok ts1 ρ5 =>
              rw [ei] at ho
              dsimp only at ho
              intro G5 α5 H5 g5 r5 J1 wt1
              have gAll := ((g2.trans g3).trans g4).trans g5
              obtain ⟨q1, q2, q3, q4, q5, q6, q7⟩ := lc_back hBD hGD g' r' hacc gAll r5
              obtain ⟨r5', _, _⟩ := Rs.unwall hBD r5
              refine in_it (A := fun x H' Nx1 => tGv K vs1 g1 x (L2.wipe σ3 vs1) H' fun σ5 H5 => L2.wipe σ5 vs1 = L2.wipe σ3 vs1 ∧ tT K W0 t1 σ5 H5 fun b H6 => if b = true then tE K W0 e σ5 H6 fun y H7 => ∃ acc, H7 D = some (.lst acc) ∧ acc.length < sizeLine ∧ Nx1 (L2.upd H7 D (.lst (acc ++ [y]))) else Nx1 H6)
                wt1 (LcI K W B G5 α5 σ3 σ D ρ5.sl ts1 (fun xs acc st => (lcL g1 t1 e vs1 ρ5.sl xs acc st).bind fun acc1 ρ6 => (lcL2 g t mi1 g1 t1 e vs vs1 ρ1.sl (ts.drop (i + 1)) acc1 ρ6.st).bind fun acc ρ2 => .ok (.own ρ2.st.length) ⟨ρ2.sl, ρ2.st ++ [.lst acc]⟩) (EndP K Q)) ?_ ?_ ?_ ?_
              · refine ⟨acc, ws, ρ5.st, G5, α5, Gr.refl, r5', q4, q7, q5, q6, ?_⟩
                dsimp only
                rw [List.drop_zero]
                have := okP.shift q2 ho
                cases el : lcL g1 t1 e vs1 ρ5.sl ts1 acc ρ5.st with
                | ok a ρ6 =>
                  rw [el] at this
                  dsimp only [R.bind_ok] at this ⊢
                  cases e7 : lcL2 g t mi1 g1 t1 e vs vs1 ρ1.sl (ts.drop (i + 1)) a ρ6.st with
                  | ok a2 ρ7 => rw [e7] at this; exact this
                  | ex x ρ7 => rw [e7] at this; exact this
                  | no => rw [e7] at this; exact this
                | ex x ρ6 => rw [el] at this; exact this
                | no => rw [el] at this; exact this
              · rintro j H' _ ⟨acc, ws, st', G', α', g', r', _⟩
                exact g'.ex.trans r'.gh
              · rintro j x H' H'' hj hI yy
                exact lc_step hBD hI yy
              · rintro H' ⟨acc6, ws6, st6, G6, α6, g6, r6, hD6, hacc6, hDn6, hGD6, ho6⟩
                dsimp only at ho6
                rw [List.drop_length] at ho6
                refine ⟨acc6, ws6, st6, G6, α6, q1.trans g6, { toRh := r6.toRh, sll := q3.sll, sl := fun i u e => let ⟨v, h1, h2⟩ := q3.sl i u e; ⟨v, h1, h2.mono g6⟩ }, hD6, hacc6, hDn6, hGD6, ?_⟩
                dsimp only
                exact ho6
    · rintro H' ⟨acc, ws, st', G', α', g', r', hDw, hacc, hDn, hGD, ho⟩
      dsimp only at ho
      rw [List.drop_length] at ho
      have r2 := r'.toRh.adopt (ob := .lst acc) hBD hDn hDw ⟨hGD, ws, hDw, hacc⟩ (r'.tb.np hDw (fun ps e => by cases e))
      exact ho G' (α' ++ [D]) H' Gr.own (Rs.mk' r' Gr.own r2) _ (own_last r'.toRh)
end
section
variable {X : Cx} {W : WX} {elt tg iter tg1 iter1 : Expr} {ifs ifs1 : List Expr} {scope : Scope} {own : List (Str × Nat)} {pos : Pos} {mi mi1 : DI} {g g1 : DG} {t t1 : DT} {m : DE}
theorem fe_lc2 (own : List (Str × Nat)) (vs1 : List Nat) (hc : X.calm = true) (hN : X.N.Nodup) (hi : SI X W tg iter mi) (ok : BlkOk X.N X.env.scope scope own) (hv : ∀ i ∈ vs1, i ∈ own.map (·.2))
    (hg : ∀ (s : Shared) (H : Hp) (C : Addr) (cl : List (Str × Addr)) (fp : List Addr), PG (X.blk s H scope (compEnvC scope cl C X.env) fp) tg (tGv X.K (own.map (·.2)) g)) (ht : ∀ (s : Shared) (H : Hp) (C : Addr) (cl : List (Str × Addr)) (fp : List Addr), SQ (X.blk s H scope (compEnvC scope cl C X.env) fp) W0 ifs t)
    (hi1 : ∀ (s : Shared) (H : Hp) (C : Addr) (cl : List (Str × Addr)) (fp : List Addr), SI (X.blk s H scope (compEnvC scope cl C X.env) fp) W0 tg1 iter1 mi1)
    (hg1 : ∀ (s : Shared) (H : Hp) (C : Addr) (cl : List (Str × Addr)) (fp : List Addr), PG (X.blk s H scope (compEnvC scope cl C X.env) fp) tg1 (tGv X.K vs1 g1)) (ht1 : ∀ (s : Shared) (H : Hp) (C : Addr) (cl : List (Str × Addr)) (fp : List Addr), SQ (X.blk s H scope (compEnvC scope cl C X.env) fp) W0 ifs1 t1)
    (he : ∀ (s : Shared) (H : Hp) (C : Addr) (cl : List (Str × Addr)) (fp : List Addr), SE (X.blk s H scope (compEnvC scope cl C X.env) fp) W0 elt m) (hs : ∀ x, foldedSetIterable iter X.env x = pure x := by intro _; rfl) (hs1 : ∀ env x, foldedSetIterable iter1 env x = pure x := by intro _ _; rfl) :
    SE X W (.ListComp elt [⟨tg, iter, ifs, 0⟩, ⟨tg1, iter1, ifs1, 0⟩] scope pos) (mLc2 mi g t mi1 g1 t1 m (own.map (·.2)) vs1) := pe_weak (pe_lc2 hc hN hi ok hv hg ht hi1 hg1 ht1 he hs hs1) fun _ _ _ h => tLc2_of h
end
end FL
namespace FL
open PySem L2 PyProof.Rows
variable [TabPar]
theorem Rs.ext {K : PySem.W.Frag} {B G H H' : Hp} {α : List Addr} {σ : L2.St} {ρ : Sg} (r : Rs K B ρ G α σ H) (e : Ext H H') : Rs K B ρ G α σ H' := by
  have e' : Ex H H' := fun a o h => e a o h
  have ow : ∀ (i : Nat) (a : Addr) (ob : Ob), α[i]? = some a → ρ.st[i]? = some ob → B a = none ∧ (∃ u, H' a = some u) ∧ ObR K G α H' a ob := fun i a ob e1 e2 => by
    obtain ⟨q1, ⟨u, q2⟩, q3⟩ := r.ow i a ob e1 e2
    exact ⟨q1, ⟨u, e' _ _ q2⟩, q3.mono (B := B) Gr.refl (fun z => z) (by rw [e' _ _ q2, q2])⟩
  exact { gh := r.gh.trans e', bh := ⟨fun a o h n => e' a o (r.bh.keep a o h n), fun {a} h => r.bh.free (e'.free h), r.bh.tt⟩, tb := fun p hp => ⟨(r.tb p hp).1, (r.tb p hp).2.1, (r.tb p hp).2.2.ext e'⟩, len := r.len, nd := r.nd, sll := r.sll, sl := r.sl, ow := ow }
theorem passF {P : Program} {w : World} {X : Cx} : Passes (L2.CX P w) X (fun _ _ _ => False) := fun pins σ H s e s' I c => by
  obtain ⟨_, _, _, _, _, _, _, _, _, _, _, _, z⟩ := c
  exact z.elim
section
variable {X : Cx} {W : WX} {a b e : Expr} {ma mb mo : DE} {k j n : Nat} {C : Addr} {F : Fn} {pos : Pos} {f x : Str}
def isObj (C : Addr) : T → Bool
  | .obj D _ _ => decide (D = C)
  | _ => false
theorem rp_isObj {K : PySem.W.Frag} {G : Hp} {t : T} {v : V} (h : isObj C t = true) (p : Rp K G t v) : ∃ a dx fs, v = .ref a ∧ G a = some (.ins C dx fs) := by
  cases t with
  | obj D ns ts =>
    have : D = C := of_decide_eq_true h
    subst this
    simp only [Rp] at p
    obtain ⟨a, dx, vs, rfl, h1, _⟩ := p
    exact ⟨a, dx, _, rfl, h1⟩
  | _ => cases h
structure Pn (P : Program) (w : World) (K : PySem.W.Frag) (mg : Str → Option Value) (base : Heap) (k : Nat) (C : Addr) (f : Str) (F : Fn) : Prop where
  ex : ∃ (p g : Addr) (fd : FuncData) (ps : List Str), FnOk P w K mg base (L2.CX P w) k g fd ps (spF K 1 F) ∧ Cls K C ∧ PropOf K C f p g ∧ Binds K fd ps []
end
end FL
namespace FL
open PySem L2 PyProof.Rows
variable [TabPar]
theorem huS {A : Around} {k : Nat} (hr : Room k A) : A.units + 1 < cLine := hu_of hr
/-- a constant of the module -/
structure Gk (K : PySem.W.Frag) (mg : Str → Option Value) (x : Str) (t : T) : Prop where
  ex : ∃ (u : Value) (v : V), mg x = some u ∧ RelV v u ∧ Rp K (fun _ => none) t v
/-- a dict of the module, texts to whole numbers -/
structure Gd (K : PySem.W.Frag) (w : World) (mg : Str → Option Value) (x : Str) (tab : List (Str × Int)) : Prop where
  ex : ∃ d : Addr, mg x = some (.ref d) ∧ KTab K w d tab
/-- a class of the module, as isinstance asks for it -/
structure Gc (K : PySem.W.Frag) (mg : Str → Option Value) (x : Str) (C : Addr) : Prop where
  mg_ : mg x = some (.ref C)
  cl : Cls K C
  ha : PySem.W.findIn K (.ref C) "__class__" = some (some (.builtin "object.__class__"))
  hn : PySem.W.specialIn K (.builtin "object.__class__") "__get__" = some (some (.builtin "getset_descriptor.__get__"))
  htk : PySem.W.takesIn K (.builtin "object.__class__") = some true
  hm : PySem.W.mroIn K C (.type "object") = some true
section
variable {X : Cx} {W : WX} {e : Expr} {ma : DE} {x : Str} {pos p p2 : Pos} {C : Addr} {tab : List (Str × Int)} {t : T}
theorem fe_gk (g : Gk X.K X.mg x t) (hg : Gl X x := by rfl) (hd : (x == ("__debug__" : Str)) = false := by decide) : SE X W (.Name x pos) (mC t) := by
  obtain ⟨u, v, h1, h2, h3⟩ := g.ex
  exact fe_glob hg h1 h2 h3 hd
theorem fe_inKd (g : Gd X.K X.w X.mg x tab) (he : SE X W e ma) (hg : Gl X x := by rfl) (hdx : (x == ("__debug__" : Str)) = false := by decide) (hb : behindInMarks .In (.Name x p2) = false := by rfl) : SE X W (.Compare e [.In] [.Name x p2] pos) (mInK tab ma) := by
  obtain ⟨d, h1, h2⟩ := g.ex
  exact fe_inK h2 hg h1 he hdx hb
theorem fe_ixKd (g : Gd X.K X.w X.mg x tab) (he : SE X W e ma) (hg : Gl X x := by rfl) (hdx : (x == ("__debug__" : Str)) = false := by decide) (hs : PlainIx e := by exact fun _ _ => rfl) : SE X W (.Subscript (.Name x p2) e pos) (mIxK tab ma) := by
  obtain ⟨d, h1, h2⟩ := g.ex
  exact fe_ixK h2 hg h1 he hdx hs
def mIsO (C : Addr) (m : DE) : DE := fun ρ => (m ρ).bind fun u ρ1 => match insOf C ρ1.st u with
  | some _ => .ok (.d (.bl true)) ρ1
  | none => .no
theorem fe_isO (g : Gc X.K X.mg x C) (he : SE X W e ma) (hm : X.mg "isinstance" = none) (hg : Gl X "isinstance" := by rfl) (hgx : Gl X x := by rfl) (hs : starEach [e, .Name x p2] X.env = (false, eval e X.env) :: starEach [.Name x p2] X.env := by rfl)
    (hdx : (x == ("__debug__" : Str)) = false := by decide) : SE X W (.Call (.Name "isinstance" p) [e, .Name x p2] [] pos) (mIsO C ma) :=
  pe_weak (pe_callB call_isi hg hm (by decide +kernel) (pa_cons he (pa_cons (pe_glob hgx g.mg_ (v := .ref C) rfl hdx) pa_nil) hs) (by decide) (by decide) hs rfl) fun σ H Q ⟨B, ρ, G, α, r, h⟩ => by
    refine bE r h fun u ρ1 v H1 G1 α1 g1 r1 p1 h1 => ?_
    split at h1
    · rename_i q e1
      obtain ⟨ns, us⟩ := q
      obtain ⟨a, dx, vs, rfl, z1, z2, z3⟩ := insOf_ok r1.toRh p1 e1
      refine ⟨_, _, _, .ref C, true, rfl, .own C, .base (.ins z1 g.cl g.ha g.hn g.htk g.hm), ?_, h1 G1 α1 H1 Gr.refl r1 _ (by simp [RpU, Rp])⟩
      unfold PySem.W.kitOne
      rw [if_pos (by simp)]
    · exact h1.elim
end
/-- a def of the module -/
structure Df (K : PySem.W.Frag) (mg : Str → Option Value) (x : Str) (st : Stmt) (ps : List Str) : Prop where
  ex : ∃ (f : Addr) (fd : FuncData), Fun K x x st f fd ∧ mg x = some (.ref f) ∧ PySem.W.keepIn K (.ref f) = true ∧ Binds K fd ps []
/-- a method -/
structure Dm (K : PySem.W.Frag) (C : Addr) (x qual : Str) (st : Stmt) (ps : List Str) : Prop where
  ex : ∃ (f : Addr) (fd : FuncData), Fun K x qual st f fd ∧ Cls K C ∧ Meth K C x f ∧ Binds K fd ps []
/-- what makes the instances of a class -/
structure Di (K : PySem.W.Frag) (mg : Str → Option Value) (c : Str) (C : Addr) (qual : Str) (st : Stmt) (ps : List Str) : Prop where
  ex : ∃ (f : Addr) (fd : FuncData), Fun K "__init__" qual st f fd ∧ mg c = some (.ref C) ∧ Mk K C f ∧ Binds K fd ps []
/-- a property -/
structure Dp (K : PySem.W.Frag) (C : Addr) (x qual : Str) (st : Stmt) (ps : List Str) : Prop where
  ex : ∃ (p g : Addr) (fd : FuncData), Fun K x qual st g fd ∧ Cls K C ∧ PropOf K C x p g ∧ Binds K fd ps []
def noF : Fn := fun _ _ => .no
section
variable {P : Program} {w : World} {K : PySem.W.Frag} {mg : Str → Option Value} {base : Heap} {x c qual : Str} {st : Stmt} {N ps : List Str} {k k' n : Nat} {m : DS} {C : Addr} {F : Fn}
theorem Df.dn (D : Df K mg x st ps) (S : FnScope N ps (defScope st)) (hn : ps.length = n) (hb : ∀ f, Body P w K mg base N x f k (defScope st) (defBody st) m) : Dn P w K mg base (k + 1) x n (runD m N.length) := by
  obtain ⟨f, fd, h1, h2, h3, h4⟩ := D.ex
  exact ⟨f, fd, ps, fn_denC h1 S hn (hb f), h2, h3, h4⟩
theorem Df.dnN (D : Df K mg x st ps) (S : FnScope N ps (defScope st)) (hn : ps.length = n) (hb : ∀ f, Body P w K mg base N x f k (defScope st) (defBody st) m) : Dn P w K mg base (k + 1) x n (runN m N.length) := by
  obtain ⟨f, fd, h1, h2, h3, h4⟩ := D.ex
  exact ⟨f, fd, ps, fn_denN h1 S hn (hb f), h2, h3, h4⟩
theorem Dm.mn (D : Dm K C x qual st ps) (S : FnScope N ps (defScope st)) (hn : ps.length = n) (hb : ∀ f, Body P w K mg base N qual f k (defScope st) (defBody st) m) : Mn P w K mg base (k + 1) C x n (runD m N.length) := by
  obtain ⟨f, fd, h1, h2, h3, h4⟩ := D.ex
  exact ⟨f, fd, ps, fn_denC h1 S hn (hb f), h2, h3, h4⟩
theorem Di.cn (D : Di K mg c C qual st ps) (S : FnScope N ps (defScope st)) (hn : ps.length = n) (hb : ∀ f, Body P w K mg base N qual f k (defScope st) (defBody st) m) : Cn P w K mg base (k + 1) c C n (runD m N.length) := by
  obtain ⟨f, fd, h1, h2, h3, h4⟩ := D.ex
  exact ⟨f, fd, ps, fn_denC h1 S hn (hb f), h2, h3, h4⟩
theorem noFn {f : Addr} {fd : FuncData} (hn : ps.length = n) : FnOk P w K mg base (L2.CX P w) k f fd ps (spF K n noF) :=
  ⟨fun vs H Q E h => by rw [hn]; exact h.1, fun A outer s H args us vs Q E hr he hb hv h => by
    obtain ⟨_, B, st, G, α, us', h1, h2, h3⟩ := h
    exact h3.elim⟩
theorem Df.dn0 (D : Df K mg x st ps) (hn : ps.length = n) : Dn P w K mg base k x n noF := by
  obtain ⟨f, fd, h1, h2, h3, h4⟩ := D.ex
  exact ⟨f, fd, ps, noFn hn, h2, h3, h4⟩
theorem Dn.mono (D : Dn P w K mg base k x n F) (h : k ≤ k') : Dn P w K mg base k' x n F := by
  obtain ⟨f, fd, ps, h1, h2, h3, h4⟩ := D.ex
  exact ⟨f, fd, ps, h1.mono h, h2, h3, h4⟩
theorem Mn.mono (D : Mn P w K mg base k C x n F) (h : k ≤ k') : Mn P w K mg base k' C x n F := by
  obtain ⟨f, fd, ps, h1, h2, h3, h4⟩ := D.ex
  exact ⟨f, fd, ps, h1.mono h, h2, h3, h4⟩
theorem Cn.mono (D : Cn P w K mg base k x C n F) (h : k ≤ k') : Cn P w K mg base k' x C n F := by
  obtain ⟨f, fd, ps, h1, h2, h3, h4⟩ := D.ex
  exact ⟨f, fd, ps, h1.mono h, h2, h3, h4⟩
theorem Pn.mono (D : Pn P w K mg base k C x F) (h : k ≤ k') : Pn P w K mg base k' C x F := by
  obtain ⟨p, f, fd, ps, h1, h2, h3, h4⟩ := D.ex
  exact ⟨p, f, fd, ps, h1.mono h, h2, h3, h4⟩
end
end FL
namespace FL
open PySem L2 PyProof.Rows
variable [TabPar]
section
variable {K : PySem.W.Frag} {w : World} {h : Heap} {mg : Str → Option Value} {x c qual : Str} {st : Stmt} {ps : List Str} {f C a p : Addr} {od an : Option Addr} {osl : Array (Option Value)} {oc kV dc pm cd ct : Value}
/-- how the arguments of a def are bound -/
abbrev Bnd (x qual : Str) (st : Stmt) (ps : List Str) : Prop := ∀ (kV doc pm : Value) (an : Option Addr) (cdv ct : Value) (us : List Value), us.length = ps.length → bindArgs (PySem.W.fnOf x qual (defArgs st) (defBody st) (defScope st) .none kV doc pm an cdv ct) ⟨us, []⟩ = pure (ps.zip us)
theorem Df.of (X : K.In h) (G : h.Ns mainGlobals mg) (b : Bnd x x st ps) (e1 : PySem.W.nsIn K mainGlobals x = some (some (.ref f))) (e2 : K.lookup f = some ⟨oc, od, .func (PySem.W.fnOf x x (defArgs st) (defBody st) (defScope st) .none kV dc pm an cd ct), osl⟩)
    (e3 : PySem.W.codeIn K cd x = true) (e4 : PySem.W.keepIn K (.ref f) = true) : Df K mg x st ps :=
  ⟨f, _, fun_mk e2 e3 e4, PySem.W.mg_of X G e1, e4, (fun_mk e2 e3 e4).binds b⟩
theorem Dm.of (cl : Cls K C) (b : Bnd x qual st ps) (e1 : PySem.W.findIn K (.ref C) x = some (some (.ref f))) (e2 : K.lookup f = some ⟨oc, od, .func (PySem.W.fnOf x qual (defArgs st) (defBody st) (defScope st) .none kV dc pm an cd ct), osl⟩)
    (e3 : PySem.W.codeIn K cd qual = true) (e4 : PySem.W.keepIn K (.ref f) = true) (e5 : PySem.W.isFn K (.ref f) = true) : Dm K C x qual st ps :=
  ⟨f, _, fun_mk e2 e3 e4, cl, ⟨e1, e5, e4⟩, (fun_mk e2 e3 e4).binds b⟩
theorem Di.of (X : K.In h) (G : h.Ns mainGlobals mg) (b : Bnd "__init__" qual st ps) (e0 : PySem.W.nsIn K mainGlobals c = some (some (.ref C))) (e1 : PySem.W.findIn K (.ref C) "__init__" = some (some (.ref f))) (e2 : K.lookup f = some ⟨oc, od, .func (PySem.W.fnOf "__init__" qual (defArgs st) (defBody st) (defScope st) .none kV dc pm an cd ct), osl⟩)
    (e3 : PySem.W.codeIn K cd qual = true) (e4 : PySem.W.keepIn K (.ref f) = true) (e5 : PySem.W.isFn K (.ref f) = true) (e6 : PySem.W.makesIn K C = true) (e7 : PySem.W.keepIn K (.ref C) = true) : Di K mg c C qual st ps :=
  ⟨f, _, fun_mk e2 e3 e4, PySem.W.mg_of X G e0, ⟨e6, e1, e5, e7⟩, (fun_mk e2 e3 e4).binds b⟩
theorem Dp.of (cl : Cls K C) (b : Bnd x qual st ps) {rest : List Value} (e0 : PySem.W.findIn K (.ref C) x = some (some (.ref p))) (e1 : PySem.W.specialIn K (.ref p) "__get__" = some (some (.builtin "property.__get__"))) (e2' : PySem.W.takesIn K (.ref p) = some true) (e1' : PySem.W.recIn K p "property" = some (.ref f :: rest))
    (e2 : K.lookup f = some ⟨oc, od, .func (PySem.W.fnOf x qual (defArgs st) (defBody st) (defScope st) .none kV dc pm an cd ct), osl⟩) (e3 : PySem.W.codeIn K cd qual = true) (e4 : PySem.W.keepIn K (.ref f) = true) : Dp K C x qual st ps :=
  ⟨p, f, _, fun_mk e2 e3 e4, cl, ⟨e0, e1, e2', _, e1'⟩, (fun_mk e2 e3 e4).binds b⟩
theorem noAttr_of {C : Addr} {x : Str} (e : PySem.W.findIn K (.ref C) x = some none) : NoAttr K C x := e
theorem Gk.tup {ts : List T} {xs : List V} {its : Array Value} {n : Nat} {o2 : Option Addr} {sl : Array (Option Value)} (X : K.In h) (G : h.Ns mainGlobals mg) (e1 : PySem.W.nsIn K mainGlobals x = some (some (.ref a))) (e2 : K.lookup a = some ⟨.type "tuple", o2, .seq its n, sl⟩)
    (v : Vals xs its.toList) (z : its.size ≤ sizeLine) (r : Rps K (fun _ => none) ts xs) : Gk K mg x (.ktp ts) :=
  ⟨.ref a, .ref a, PySem.W.mg_of X G e1, rfl, by simp only [Rp]; exact ⟨a, xs, rfl, .inr ⟨_, its, n, e2, rfl, rfl, z, v⟩, r⟩⟩
theorem Gk.int {i : Int} {t : Tok} (X : K.In h) (G : h.Ns mainGlobals mg) (e1 : PySem.W.nsIn K mainGlobals x = some (some (.int i t))) : Gk K mg x (.int i) :=
  ⟨_, .int i, PySem.W.mg_of X G e1, ⟨t, rfl⟩, by simp [Rp]⟩
theorem Gk.str {i : Str} {t : Tok} (X : K.In h) (G : h.Ns mainGlobals mg) (e1 : PySem.W.nsIn K mainGlobals x = some (some (.str i t))) : Gk K mg x (.str i) :=
  ⟨_, .str i, PySem.W.mg_of X G e1, ⟨t, rfl⟩, by simp [Rp]⟩
theorem isStrOf_lit {z y : Str} {t : Tok} : Value.isStrOf z (.str y t) = decide (y = z) := by
  show (y == z) = decide (y = z)
  by_cases h : y = z
  · subst h; simp
  · simp [h]
def keysIn (tab : List (Str × Int)) (es : List DictEntry) : Bool := es.all fun e => match e.key with
  | .str x _ => tab.any fun p => decide (p.1 = x)
  | _ => false
theorem miss_in {tab : List (Str × Int)} {es : Array DictEntry} {n : Nat} {a : Addr} {z : Str} (e2 : K.lookup a = some ⟨.type "dict", none, .dict es n, #[]⟩) (hk : keysIn tab es.toList = true) (hz : ∀ p ∈ tab, p.1 ≠ z) : PySem.W.nsIn K a z = some none := by
  unfold keysIn at hk
  rw [List.all_eq_true] at hk
  have h1 : es.toList.find? (·.key.isStr z) = none := by
    rw [List.find?_eq_none]
    intro e he hs
    have := hk e he
    split at this
    · rename_i x t ek
      rw [ek, PySem.W.isStr_of, isStrOf_lit] at hs
      obtain ⟨p, hp, h2⟩ := List.any_eq_true.mp this
      exact hz p hp ((of_decide_eq_true h2).trans (of_decide_eq_true hs))
    · cases this
  have h2 : es.toList.any (·.refKey) = false := by
    rw [List.any_eq_false]
    intro e he hr
    have := hk e he
    split at this
    · rename_i x t ek
      unfold DictEntry.refKey at hr
      rw [ek] at hr
      cases hr
    · cases this
  unfold PySem.W.nsIn
  rw [e2]
  simp only [h1, h2]
  rfl
theorem Gd.of {tab : List (Str × Int)} {es : Array DictEntry} {n : Nat} (X : K.In h) (G : h.Ns mainGlobals mg) (e1 : PySem.W.nsIn K mainGlobals x = some (some (.ref a))) (e2 : K.lookup a = some ⟨.type "dict", none, .dict es n, #[]⟩) (hk : PySem.W.KeysLit w.params es.toList)
    (hl : (a == sysModules) = false) (hat : ∀ z i, (z, i) ∈ tab → ∃ t, PySem.W.nsIn K a z = some (some (.int i t))) (hks : keysIn tab es.toList = true) : Gd K w mg x tab :=
  ⟨a, PySem.W.mg_of X G e1, ⟨fun z i hm => let ⟨t, e⟩ := hat z i hm; ⟨es, n, .int i t, e2, hk, e, ⟨t, rfl⟩⟩, hl, fun z hz => ⟨es, n, e2, hk, hl, miss_in e2 hks hz⟩⟩⟩
end
/-- what is asked of law -/
def spL (K : PySem.W.Frag) : Sp := fun vs H Q _ => ∃ (a : Addr) (ns : List Int), vs = [.ref a] ∧ SqL K H a (ns.map V.int) ∧ ns.length ≤ 63 ∧ (∀ z ∈ ns, Builtin.Int.intBits z ≤ 1048576) ∧ (∀ p, TabPar.P = some p → LamX.TabS H p lamQ) ∧ ∀ H', Q (.bl true) H'
theorem rps_ints {K : PySem.W.Frag} {G : Hp} : ∀ ns : List Int, Rps K G (ns.map T.int) (ns.map V.int)
  | [] => by simp [Rps]
  | y :: ys => by simp only [List.map_cons, Rps]; exact ⟨_, _, rfl, by simp [Rp], rps_ints ys⟩
open Classical in
/-- all but the table -/
noncomputable def gOf (H : Hp) : Hp := fun a => if TabPar.P = some a then none else H a
open Classical in
theorem spL_of {K : PySem.W.Frag} {F : Fn} (hF : ∀ ns : List Int, ns.length ≤ 63 → (∀ z ∈ ns, Builtin.Int.intBits z ≤ 1048576) → ∃ ρ, F [] [.d (.frl (ns.map .int))] = .ok (.d (.bl true)) ρ) {vs : List V} {H : Hp} {Q : VK} {E : XK} (h : spL K vs H Q E) : spF K 1 F vs H Q E := by
  obtain ⟨a, ns, rfl, hS, hl, hb, hT, q⟩ := h
  have cls : ∀ b u, H b = some u → (∀ ps, u ≠ .tbl ps) → TabPar.P ≠ some b := fun b u e n hp => by
    obtain ⟨ps, e1, _⟩ := hT b hp
    rw [e] at e1; exact n ps (Option.some.inj e1)
  have gx : Ex (gOf H) H := fun b u e => by
    unfold gOf at e
    split at e
    · cases e
    · exact e
  have gb : ∀ b u, H b = some u → (∀ ps, u ≠ .tbl ps) → gOf H b = some u := fun b u e n => by
    unfold gOf
    rw [if_neg (cls b u e n)]; exact e
  refine ⟨rfl, H, [], gOf H, [], [.d (.frl (ns.map .int))], ⟨gx, ⟨fun _ _ h _ => h, fun {_} h => h, fun p o hp e => (by
    obtain ⟨ps, e1, _⟩ := hT p hp
    rw [e] at e1; exact ⟨ps, Option.some.inj e1⟩)⟩, fun p hp => ⟨by unfold gOf; rw [if_pos hp], by simp, hT p hp⟩, rfl, by simp, fun i a o e1 e2 => by simp at e1⟩, ⟨_, _, rfl, ?_, rfl⟩, ?_⟩
  · show Rp K (gOf H) (.frl (ns.map .int)) (.ref a)
    simp only [Rp]
    refine ⟨a, _, rfl, ?_, rps_ints ns⟩
    rcases hS with (h | ⟨o, h⟩) | h
    · exact .inl (.inl (gb _ _ h fun ps e => by cases e))
    · exact .inl (.inr ⟨o, gb _ _ h fun ps e => by cases e⟩)
    · exact .inr h
  · obtain ⟨ρ, e⟩ := hF ns hl hb
    rw [e]
    intro G' α' H' v g' r' p
    have hv : v = .bl true := by simpa [RpU, Rp] using p
    subst hv
    exact q H'
end FL
namespace FL
open PySem L2 PyProof.Rows
variable [TabPar]
section
variable {m n ma mb me : DE} {t t1 t2 : DT} {s1 s2 : DS} {da : DA} {ρ : Sg} {sl : List (Option U)} {st : List Ob} {u : U} {us : List U} {F : Fn} {f : T → T → Option O} {g : List T → Option O}
@[simp] theorem ev_seq : mSeq s1 s2 ρ = (s1 ρ).thn s2 := rfl
@[simp] theorem ev_nx : mNx ρ = .nx ρ := rfl
@[simp] theorem ev_ret : mRet m ρ = (m ρ).thn fun u ρ1 => .rt u ρ1 := rfl
@[simp] theorem ev_drop : mDrop m ρ = (m ρ).thn fun _ ρ1 => .nx ρ1 := rfl
@[simp] theorem ev_ifs : mIfS t s1 s2 ρ = (t ρ).thn fun b ρ1 => if b = true then s1 ρ1 else s2 ρ1 := rfl
@[simp] theorem ev_if : mIf t m n ρ = (t ρ).bind fun b ρ1 => if b = true then m ρ1 else n ρ1 := rfl
@[simp] theorem ev_c {x : T} : mC x ρ = .ok (.d x) ρ := rfl
@[simp] theorem ev_notT : mNotT t ρ = (t ρ).bind fun b ρ1 => .ok (!b) ρ1 := rfl
@[simp] theorem ev_andT : mAndT t1 t2 ρ = (t1 ρ).bind fun b ρ1 => if b = true then t2 ρ1 else .ok false ρ1 := rfl
@[simp] theorem ev_orT : mOrT t1 t2 ρ = (t1 ρ).bind fun b ρ1 => if b = true then .ok true ρ1 else t2 ρ1 := rfl
/-- a value seen as a truth -/
def tstK : U → Sg → R Bool
  | .d (.bl b), ρ => .ok b ρ
  | _, _ => .no
@[simp] theorem tstK_b {b : Bool} : tstK (.d (.bl b)) ρ = .ok b ρ := rfl
@[simp] theorem ev_test : mTest m ρ = (m ρ).bind tstK := by
  unfold mTest
  congr 1
  funext u ρ1
  cases u with
  | own i => rfl
  | d t => cases t <;> rfl
@[simp] theorem ev_aNil : aNil ρ = .ok [] ρ := rfl
@[simp] theorem ev_aCons : aCons m da ρ = (m ρ).bind fun u ρ1 => (da ρ1).bind fun us ρ2 => .ok (u :: us) ρ2 := rfl
@[simp] theorem ev_set {i : Nat} : mSet i m ρ = (m ρ).thn fun u ρ1 => .nx ⟨ρ1.sl.set i (some u), ρ1.st⟩ := rfl
/-- two values looked at -/
def opK (f : T → T → Option O) (u w : U) (ρ : Sg) : R U := match pk ρ.st u, pk ρ.st w with
  | some x, some y => mO (f x y) ρ
  | _, _ => .no
@[simp] theorem ev_op : mOp f ma mb ρ = (ma ρ).bind fun u ρ1 => (mb ρ1).bind fun w ρ2 => opK f u w ρ2 := rfl
@[simp] theorem opK_d {x y : T} : opK f (.d x) (.d y) ρ = mO (f x y) ρ := rfl
@[simp] theorem ev_top : mTOp f ma mb ρ = ((ma ρ).bind fun u ρ1 => (mb ρ1).bind fun w ρ2 => opK f u w ρ2).bind tstK := ev_test
def isiK (n : String) (u : U) (ρ : Sg) : R U := match pk ρ.st u with
  | some t => if isDt t = true then .no else match isiB n t.kd with
    | some b => .ok (.d (.bl b)) ρ
    | none => .no
  | none => .no
@[simp] theorem ev_isi {n : String} : mIsi n m ρ = (m ρ).bind fun u ρ1 => isiK n u ρ1 := rfl
@[simp] theorem isi_str_str {x : Str} : isiK "str" (.d (.str x)) ρ = .ok (.d (.bl true)) ρ := by
  have : isiB "str" .str = some true := by decide +kernel
  simp [isiK, pk, isDt, T.kd, this]
@[simp] theorem isi_str_tup {x : List T} : isiK "str" (.d (.tup x)) ρ = .ok (.d (.bl false)) ρ := by
  have : isiB "str" .tup = some false := by decide +kernel
  simp [isiK, pk, isDt, T.kd, this]
@[simp] theorem isi_tup_str {x : Str} : isiK "tuple" (.d (.str x)) ρ = .ok (.d (.bl false)) ρ := by
  have : isiB "tuple" .str = some false := by decide +kernel
  simp [isiK, pk, isDt, T.kd, this]
@[simp] theorem isi_tup_tup {x : List T} : isiK "tuple" (.d (.tup x)) ρ = .ok (.d (.bl true)) ρ := by
  have : isiB "tuple" .tup = some true := by decide +kernel
  simp [isiK, pk, isDt, T.kd, this]
def andK (n : DE) (u : U) (ρ : Sg) : R U := match u with
  | .d (.bl b) => if b = true then n ρ else .ok (.d (.bl false)) ρ
  | _ => .no
@[simp] theorem andK_t : andK n (.d (.bl true)) ρ = n ρ := rfl
@[simp] theorem andK_f : andK n (.d (.bl false)) ρ = .ok (.d (.bl false)) ρ := rfl
@[simp] theorem andK_b {b : Bool} : andK n (.d (.bl b)) ρ = if b = true then n ρ else .ok (.d (.bl false)) ρ := rfl
@[simp] theorem ev_and : mBAnd m n ρ = (m ρ).bind fun u ρ1 => andK n u ρ1 := rfl
def orK (n : DE) (u : U) (ρ : Sg) : R U := match u with
  | .d (.bl b) => if b = true then .ok (.d (.bl true)) ρ else n ρ
  | _ => .no
@[simp] theorem orK_b {b : Bool} : orK n (.d (.bl b)) ρ = if b = true then .ok (.d (.bl true)) ρ else n ρ := rfl
@[simp] theorem ev_or : mBOr m n ρ = (m ρ).bind fun u ρ1 => orK n u ρ1 := rfl
def notK : U → Sg → R U
  | .d (.bl b), ρ => .ok (.d (.bl (!b))) ρ
  | _, _ => .no
@[simp] theorem notK_b {b : Bool} : notK (.d (.bl b)) ρ = .ok (.d (.bl (!b))) ρ := rfl
def caK (g : List T → Option O) (us : List U) (ρ : Sg) : R U := match pks ρ.st us with
  | some ts => mO (g ts) ρ
  | none => .no
@[simp] theorem ev_ca : mCa g da ρ = (da ρ).bind fun us ρ1 => caK g us ρ1 := rfl
@[simp] theorem caK_d {x : T} : caK g [.d x] ρ = mO (g [x]) ρ := rfl
@[simp] theorem ev_pN : mPN ρ = .ok none ρ := rfl
def psK : U → Sg → R (Option Int)
  | .d (.int i), ρ => .ok (some i) ρ
  | _, _ => .no
@[simp] theorem psK_i {i : Int} : psK (.d (.int i)) ρ = .ok (some i) ρ := rfl
def slK (lo hi : Option Int) (u : U) (ρ : Sg) : R U := match pk ρ.st u with
  | some x => mO (slF x lo hi) ρ
  | none => .no
@[simp] theorem slK_d {x : T} {lo hi : Option Int} : slK lo hi (.d x) ρ = mO (slF x lo hi) ρ := rfl
@[simp] theorem ev_sl {l h : DO} : mSl m l h ρ = (m ρ).bind fun u ρ1 => (l ρ1).bind fun lo ρ2 => (h ρ2).bind fun hi ρ3 => slK lo hi u ρ3 := rfl
/-- a call, its arguments there -/
def callK (n : Nat) (F : Fn) (cs : List Bool) (us : List U) (ρ : Sg) : R U := match argC cs us ρ.st with
  | some (us', st) => if us'.length = n then callR F us' ⟨ρ.sl, st⟩ else .no
  | none => .no
@[simp] theorem ev_call {n : Nat} {cs : List Bool} : mCall n F cs da ρ = (da ρ).bind fun us ρ1 => callK n F cs us ρ1 := rfl
/-- of data alone -/
theorem argC_data : ∀ (cs : List Bool) (ts : List T) (st : List Ob), argC cs (ts.map .d) st = some (ts.map .d, st)
  | cs, [], st => by cases cs with
    | nil => rfl
    | cons c cs => cases c <;> rfl
  | [], t :: ts, st => by simp [argC, toD, argC_data [] ts]
  | true :: cs, t :: ts, st => by simp [argC, argC_data cs ts]
  | false :: cs, t :: ts, st => by simp [argC, toD, argC_data cs ts]
theorem owns_data : ∀ (ts : List T) (acc : List Nat), owns (ts.map .d) acc = acc
  | [], _ => rfl
  | t :: ts, acc => by simp [owns, owns_data ts]
theorem renUs_data {is : List Nat} : ∀ ts : List T, renUs is (ts.map .d) = some (ts.map .d)
  | [] => rfl
  | t :: ts => by simp [renUs, renU, renUs_data ts]
/-- what a def of data tells -/
def dataF (F : Fn) (ts : List T) : Option T := match F [] (ts.map .d) with
  | .ok (.d t) ⟨_, []⟩ => some t
  | _ => none
theorem callR_data {ts : List T} {t : T} (h : dataF F ts = some t) : callR F (ts.map .d) ρ = .ok (.d t) ρ := by
  unfold dataF at h
  split at h
  · rename_i t' sl e
    simp only [Option.some.injEq] at h; subst h
    have hr : ∀ n, reach ρ.st n [] = [] := fun n => by induction n with
      | zero => rfl
      | succ n ih => simp [reach, ih]
    simp [callR, owns_data, hr, handOn, renUs_data, e, toD, handBack]
  · cases h
theorem callK_data {n : Nat} {cs : List Bool} {us : List U} {ts : List T} {t : T} (h : dataF F ts = some t) (e : us = ts.map .d := by rfl) (hn : ts.length = n := by rfl) : callK n F cs us ρ = .ok (.d t) ρ := by
  subst e
  unfold callK
  rw [argC_data]
  simp [hn, callR_data h]
/-- what comes of a body run on data alone -/
def resD : _root_.FL.F → Option T
  | .rt u ρ => (toD 4 u ρ.st).map (·.1)
  | .nx _ => some .non
  | _ => none
@[simp] theorem resD_rt {t : T} : resD (.rt (.d t) ρ) = some t := rfl
@[simp] theorem resD_nx : resD (.nx ρ) = some .non := rfl
theorem dataF_run {s : DS} {N : Nat} {ts : List T} : dataF (runD s N) ts = resD (s ⟨(ts.map .d).map some ++ List.replicate (N - ts.length) none, []⟩) := by
  unfold dataF runD
  rw [List.length_map]
  cases e : s ⟨(ts.map .d).map some ++ List.replicate (N - ts.length) none, []⟩ with
  | nx ρ => simp [resD, cutSt]
  | rt u ρ =>
    simp only [resD]
    cases e2 : toD 4 u ρ.st with
    | none => simp
    | some p => simp [cutSt]
  | bk ρ => rfl
  | ct ρ => rfl
  | ex x ρ => simp [resD, cutSt]
  | no => rfl
@[simp] theorem toD_d {n : Nat} {t : T} : toD n (.d t) st = some (t, st) := by cases n <;> rfl
end
theorem ev_var {i : Nat} {u : U} {sl : List (Option U)} {st : List Ob} (h : sl[i]? = some (some u)) : mVar i ⟨sl, st⟩ = .ok u ⟨sl, st⟩ := by simp [mVar, h]
@[simp] theorem ev_var0 {u : U} {sl : List (Option U)} {st : List Ob} : mVar 0 ⟨some u :: sl, st⟩ = .ok u ⟨some u :: sl, st⟩ := rfl
@[simp] theorem ev_var1 {a : Option U} {u : U} {sl : List (Option U)} {st : List Ob} : mVar 1 ⟨a :: some u :: sl, st⟩ = .ok u ⟨a :: some u :: sl, st⟩ := rfl
@[simp] theorem ev_var2 {a b : Option U} {u : U} {sl : List (Option U)} {st : List Ob} : mVar 2 ⟨a :: b :: some u :: sl, st⟩ = .ok u ⟨a :: b :: some u :: sl, st⟩ := rfl
@[simp] theorem ev_var3 {a b c : Option U} {u : U} {sl : List (Option U)} {st : List Ob} : mVar 3 ⟨a :: b :: c :: some u :: sl, st⟩ = .ok u ⟨a :: b :: c :: some u :: sl, st⟩ := rfl
@[simp] theorem ev_var4 {a b c d : Option U} {u : U} {sl : List (Option U)} {st : List Ob} : mVar 4 ⟨a :: b :: c :: d :: some u :: sl, st⟩ = .ok u ⟨a :: b :: c :: d :: some u :: sl, st⟩ := rfl
@[simp] theorem ev_var5 {a b c d e : Option U} {u : U} {sl : List (Option U)} {st : List Ob} : mVar 5 ⟨a :: b :: c :: d :: e :: some u :: sl, st⟩ = .ok u ⟨a :: b :: c :: d :: e :: some u :: sl, st⟩ := rfl
@[simp] theorem ev_var6 {a b c d e f : Option U} {u : U} {sl : List (Option U)} {st : List Ob} : mVar 6 ⟨a :: b :: c :: d :: e :: f :: some u :: sl, st⟩ = .ok u ⟨a :: b :: c :: d :: e :: f :: some u :: sl, st⟩ := rfl
@[simp] theorem ev_var7 {a b c d e f g : Option U} {u : U} {sl : List (Option U)} {st : List Ob} : mVar 7 ⟨a :: b :: c :: d :: e :: f :: g :: some u :: sl, st⟩ = .ok u ⟨a :: b :: c :: d :: e :: f :: g :: some u :: sl, st⟩ := rfl
theorem in_strs : ∀ ws : List Str, fvs (ws.map .str) = some (ws.map .str)
  | [] => rfl
  | w :: ws => by simp [fvs, fv, in_strs ws]
end FL
namespace FL
open PySem L2 PyProof.Rows
variable [TabPar]
section
variable {m n ma mb me : DE} {t t1 t2 : DT} {s1 s2 : DS} {da : DA} {ρ : Sg} {sl : List (Option U)} {st : List Ob} {u : U} {us : List U} {F : Fn} {f : T → T → Option O} {g : List T → Option O}
@[simp] theorem ev_not : mBNot m ρ = (m ρ).bind fun u ρ1 => notK u ρ1 := by
  unfold mBNot
  first | rfl | (congr 1; funext u ρ1; cases u with | own i => rfl | d t => cases t <;> rfl)
@[simp] theorem ev_pS : mPS m ρ = (m ρ).bind fun u ρ1 => psK u ρ1 := by
  unfold mPS
  first | rfl | (congr 1; funext u ρ1; cases u with | own i => rfl | d t => cases t <;> rfl)
@[simp] theorem ev_gN {i : Nat} : gN i u ρ = .ok () ⟨ρ.sl.set i (some u), ρ.st⟩ := rfl
def seqK (u : U) (ρ : Sg) : R (List T) := match toD 4 u ρ.st with
  | some (t, st) => match itm t with
    | some ts => .ok ts ⟨ρ.sl, st⟩
    | none => .no
  | none => .no
@[simp] theorem ev_iSeq : iSeq m ρ = (m ρ).bind seqK := rfl
theorem seqK_d {t : T} {ts : List T} (h : itm t = some ts) : seqK (.d t) ρ = .ok ts ρ := by
  simp [seqK, h]
@[simp] theorem seqK_tup {ts : List T} : seqK (.d (.tup ts)) ρ = .ok ts ρ := by simp [seqK, itm]
@[simp] theorem seqK_lst {ts : List T} : seqK (.d (.lst ts)) ρ = .ok ts ρ := by simp [seqK, itm]
@[simp] theorem seqK_ktp {ts : List T} : seqK (.d (.ktp ts)) ρ = .ok ts ρ := by simp [seqK, itm]
@[simp] theorem ev_iEnum : iEnumD da ρ = (da ρ).bind fun us ρ1 => match us with
  | [u] => (seqK u ρ1).bind fun ts ρ2 => .ok (enumT 0 ts) ρ2
  | _ => .no := by
  unfold iEnumD
  congr 1
  funext us ρ1
  cases us with
  | nil => rfl
  | cons u us => cases us with
    | nil =>
      simp only [seqK]
      cases toD 4 u ρ1.st with
      | none => rfl
      | some p =>
        dsimp only
        cases itm p.1 <;> rfl
    | cons v us => rfl
@[simp] theorem ev_for {mi : DI} {gg : DG} {b : DS} : mFor mi gg b ρ = (mi ρ).thn fun ts ρ1 => forL gg b ts ρ1 := rfl
@[simp] theorem ev_lc {mi : DI} {gg : DG} {vs : List Nat} : mLc mi gg t me vs ρ = (mi ρ).bind fun ts ρ1 => (lcL gg t me vs ρ1.sl ts [] ρ1.st).bind fun acc ρ2 => .ok (.own ρ2.st.length) ⟨ρ2.sl, ρ2.st ++ [.lst acc]⟩ := rfl
/-- each item data, the store as it was -/
theorem lc_map {gg : DG} {vs : List Nat} {h : T → T} : ∀ (ts acc : List T), (∀ x ∈ ts, ∃ ρ1 sl2, gg (.d x) ⟨wipeL sl vs, st⟩ = .ok () ρ1 ∧ me ρ1 = .ok (.d (h x)) ⟨sl2, st⟩) → acc.length + ts.length ≤ sizeLine →
    lcL gg mYes me vs sl ts acc st = .ok (acc ++ ts.map h) ⟨sl, st⟩
  | [], acc, _, _ => by simp [lcL]
  | x :: ts, acc, hx, hl => by
    obtain ⟨ρ1, sl2, h1, h2⟩ := hx x List.mem_cons_self
    simp only [List.length_cons] at hl
    have hlt : acc.length < sizeLine := by omega
    simp only [lcL, h1, mYes, h2, toD_d, if_pos hlt]
    rw [lc_map ts (acc ++ [h x]) (fun y hy => hx y (List.mem_cons_of_mem _ hy)) (by simp; omega)]
    simp
/-- displays of data -/
def tupK (us : List U) (ρ : Sg) : R U := match toDs (toD 4) us ρ.st with
  | some (ts, st) => if ts.length ≤ sizeLine then .ok (.d (.tup ts)) ⟨ρ.sl, st⟩ else .no
  | none => .no
def lstK (us : List U) (ρ : Sg) : R U := match toDs (toD 4) us ρ.st with
  | some (ts, st) => if ts.length ≤ sizeLine then .ok (.own st.length) ⟨ρ.sl, st ++ [.lst ts]⟩ else .no
  | none => .no
@[simp] theorem ev_tup : mTup da ρ = (da ρ).bind tupK := rfl
@[simp] theorem ev_lst : mLst da ρ = (da ρ).bind lstK := rfl
@[simp] theorem tupK_0 : tupK [] ρ = .ok (.d (.tup [])) ρ := rfl
@[simp] theorem tupK_1 {a : T} : tupK [.d a] ρ = .ok (.d (.tup [a])) ρ := rfl
@[simp] theorem tupK_2 {a b : T} : tupK [.d a, .d b] ρ = .ok (.d (.tup [a, b])) ρ := rfl
@[simp] theorem tupK_3 {a b c : T} : tupK [.d a, .d b, .d c] ρ = .ok (.d (.tup [a, b, c])) ρ := rfl
@[simp] theorem tupK_4 {a b c d : T} : tupK [.d a, .d b, .d c, .d d] ρ = .ok (.d (.tup [a, b, c, d])) ρ := rfl
@[simp] theorem lstK_0 : lstK [] ρ = .ok (.own ρ.st.length) ⟨ρ.sl, ρ.st ++ [.lst []]⟩ := rfl
@[simp] theorem lstK_1 {a : T} : lstK [.d a] ρ = .ok (.own ρ.st.length) ⟨ρ.sl, ρ.st ++ [.lst [a]]⟩ := rfl
@[simp] theorem lstK_2 {a b : T} : lstK [.d a, .d b] ρ = .ok (.own ρ.st.length) ⟨ρ.sl, ρ.st ++ [.lst [a, b]]⟩ := rfl
@[simp] theorem lstK_3 {a b c : T} : lstK [.d a, .d b, .d c] ρ = .ok (.own ρ.st.length) ⟨ρ.sl, ρ.st ++ [.lst [a, b, c]]⟩ := rfl
@[simp] theorem lstK_4 {a b c d : T} : lstK [.d a, .d b, .d c, .d d] ρ = .ok (.own ρ.st.length) ⟨ρ.sl, ρ.st ++ [.lst [a, b, c, d]]⟩ := rfl
end
section
variable {F : Fn} {cs : List Bool} {ρ : Sg} {a b c d : T}
def callX (n : Nat) (F : Fn) (cs : List Bool) (us : List U) (ρ : Sg) : R U := callK n F cs us ρ
def datK (o : Option T) (r : R U) (ρ : Sg) : R U := match o with
  | some t => .ok (.d t) ρ
  | none => r
@[simp] theorem datK_s {t : T} {r : R U} : datK (some t) r ρ = .ok (.d t) ρ := rfl
theorem callK_any {n : Nat} {ts : List T} (hn : ts.length = n) : callK n F cs (ts.map .d) ρ = datK (dataF F ts) (callX n F cs (ts.map .d) ρ) ρ := by
  cases e : dataF F ts with
  | none => rfl
  | some t => exact callK_data e rfl hn
@[simp] theorem callK_1 : callK 1 F cs [.d a] ρ = datK (dataF F [a]) (callX 1 F cs [.d a] ρ) ρ := callK_any (ts := [a]) rfl
@[simp] theorem callK_2 : callK 2 F cs [.d a, .d b] ρ = datK (dataF F [a, b]) (callX 2 F cs [.d a, .d b] ρ) ρ := callK_any (ts := [a, b]) rfl
@[simp] theorem callK_3 : callK 3 F cs [.d a, .d b, .d c] ρ = datK (dataF F [a, b, c]) (callX 3 F cs [.d a, .d b, .d c] ρ) ρ := callK_any (ts := [a, b, c]) rfl
@[simp] theorem callK_4 : callK 4 F cs [.d a, .d b, .d c, .d d] ρ = datK (dataF F [a, b, c, d]) (callX 4 F cs [.d a, .d b, .d c, .d d] ρ) ρ := callK_any (ts := [a, b, c, d]) rfl
end
@[simp] theorem sl_tup1 {a : T} {ts : List T} : slF (.tup (a :: ts)) (some 1) none = some (.d (.tup ts)) := by
  simp [slF, cutT, HT.sIx]
@[simp] theorem sl_tup2 {a b : T} {ts : List T} : slF (.tup (a :: b :: ts)) (some 2) none = some (.d (.tup ts)) := by
  simp [slF, cutT, HT.sIx]
@[simp] theorem sl_lst1 {a : T} {ts : List T} : slF (.lst (a :: ts)) (some 1) none = some (.l ts) := by
  simp [slF, cutT, HT.sIx]
theorem map_inj_on {α β : Type} {g : α → β} (hg : ∀ a b, g a = g b → a = b) : ∀ {l r : List α}, l.map g = r.map g → l = r
  | [], [], _ => rfl
  | [], _ :: _, h => by simp at h
  | _ :: _, [], h => by simp at h
  | a :: l, b :: r, h => by
    simp only [List.map_cons, List.cons.injEq] at h
    rw [hg _ _ h.1, map_inj_on hg h.2]
theorem ofS_inj {a b : String} (h : Str.ofString a = Str.ofString b) : a = b := by
  rw [Str.ofString_eq_toList, Str.ofString_eq_toList] at h
  injection h with h
  injection h with h
  have hc : ∀ x y : Char, x.toNat = y.toNat → x = y := fun x y e => by
    apply Char.ext
    exact UInt32.toNat_inj.mp e
  exact String.toList_inj.mp (map_inj_on hc h)
@[simp] theorem ofS_eq {a b : String} : (Str.ofString a = Str.ofString b) = (a = b) := propext ⟨ofS_inj, fun h => by rw [h]⟩
@[simp] theorem ixN_z {n : Nat} : ixN (n + 1) 0 = some 0 := by simp [ixN]
@[simp] theorem atI_0 {α : Type} {a : α} {l : List α} : atI (a :: l) 0 = some a := by simp [atI]
@[simp] theorem atI_1 {α : Type} {a b : α} {l : List α} : atI (a :: b :: l) 1 = some b := by
  have : (1 : Int) < (l.length : Int) + 1 + 1 := by omega
  simp [atI, ixN, this]
@[simp] theorem atI_2 {α : Type} {a b c : α} {l : List α} : atI (a :: b :: c :: l) 2 = some c := by
  have : (2 : Int) < (l.length : Int) + 1 + 1 + 1 := by omega
  simp [atI, ixN, this]
@[simp] theorem atI_3 {α : Type} {a b c d : α} {l : List α} : atI (a :: b :: c :: d :: l) 3 = some d := by
  have : (3 : Int) < (l.length : Int) + 1 + 1 + 1 + 1 := by omega
  simp [atI, ixN, this]
@[simp] theorem ixA_tup {ts : List T} {i : Int} {x : T} (h : atI ts i = some x) : ixAF (.tup ts) (.int i) = some (.d x) := by simp [ixAF, ixF, itm, h]
@[simp] theorem ixA_lst {ts : List T} {i : Int} {x : T} (h : atI ts i = some x) : ixAF (.lst ts) (.int i) = some (.d x) := by simp [ixAF, ixF, itm, h]
@[simp] theorem eq_str {a b : Str} : eqF (.str a) (.str b) = some (.d (.bl (decide (a = b)))) := rfl
@[simp] theorem eq_int {a b : Int} : eqF (.int a) (.int b) = some (.d (.bl (decide (a = b)))) := rfl
@[simp] theorem ne_str {a b : Str} : neF (.str a) (.str b) = some (.d (.bl (!decide (a = b)))) := rfl
@[simp] theorem ne_int {a b : Int} : neF (.int a) (.int b) = some (.d (.bl (!decide (a = b)))) := rfl
@[simp] theorem eqV_str (a b : Str) : eqV (.str a) (.str b) = decide (a = b) := by
  show (a == b) = decide (a = b)
  by_cases h : a = b
  · subst h; simp
  · simp [h]
theorem inV_strs (s : Str) (ws : List Str) : inV (.str s) (ws.map .str) = decide (s ∈ ws) := by
  unfold inV
  induction ws with
  | nil => simp
  | cons w ws ih => rw [List.map_cons, List.any_cons, ih]; simp [eq_comm]
/-- a text among texts -/
theorem in_str {s : Str} {ws : List Str} {w : T} {ng : Bool} (hw : itm w = some (ws.map .str)) : inF ng (.str s) w = some (.d (.bl (if ng = true then !decide (s ∈ ws) else decide (s ∈ ws)))) := by
  simp [inF, fv, hw, in_strs, inV_strs]
end FL
namespace FL
open PySem L2 PyProof.Rows
variable [TabPar]
/-- S.__init__ of a class S of the module that has none of its own -/
structure Dv (K : PySem.W.Frag) (mg : Str → Option Value) (x : Str) (C : Addr) : Prop where
  mg_ : mg x = some (.ref C)
  sp : PySem.W.specialIn K (.ref C) "__getattribute__" = some (some (.builtin "type.__getattribute__"))
  ty : PySem.W.typeIn K (.ref C) = some (.type "type")
  rd : PySem.W.readsIn K C (.type "type") = true
  fc : PySem.W.findCls K (.ref C) (.type "type") "__init__" = some (.val (.builtin "ValueError.__init__"))
section
variable {X : Cx} {o e : Expr} {es : List Expr} {to te : TE} {ta : TA} {f x : Str} {p p' p1 p2 pos : Pos} {C : Addr}
theorem pe_veinitC {pl : Sem Bool} (V : Dv X.K X.mg x C) (hg : Gl X x) (ha : PA X (e :: es) ta) (hdb : (x == ("__debug__" : Str)) = false := by decide)
    (hc : eval (.Call (.Attribute (.Name x p1) "__init__" p2) (e :: es) [] pos) X.env = (do
      let ov ← eval (.Name x p1) X.env
      standAt p2.atName
      let (f, first) ← holding [ov] (getMethod ov "__init__" pl)
      callWith pos f first (backTo pos (starEach (e :: es) X.env)) (backToKw pos (keywordEach [] X.env))) := by rfl)
    (he : starEach (e :: es) X.env = (false, eval e X.env) :: starEach es X.env := by rfl) (hpl : (backTo pos (starEach es X.env)).any (·.1) = false := by rfl) :
    PE X (.Call (.Attribute (.Name x p1) "__init__" p2) (e :: es) [] pos) (tVeI X.K ta) := by
  refine ⟨fun pins s σ H Q I h => ?_⟩
  refine PySem.W.methodCall_KW (ld_glob I hg V.mg_ ?_ hdb) hc
  obtain ⟨m, fr⟩ := I.fr
  refine PySem.W.method_of_cls fr I.ok.mod.kin V.sp (PySem.W.cls_val fr I.ok.mod.kin V.ty V.rd V.fc (by decide +kernel) ?_)
  show wpAny _ _ (callWith pos (Value.builtin "ValueError.__init__") [] (backTo pos (starEach (e :: es) X.env)) []) _ _ _
  refine PyProof.Rows.callWith_method1 (thn (ha.run pos pins _ σ H _ (I.tok _) h) fun us s1 ⟨vs, H1, I1, r1, a, C, ws, ev, hl, T, ea, q⟩ => ?_) he hpl
  subst ev
  cases r1 with
  | @cons _ u0 _ ur ra rw' =>
    obtain rfl : u0 = Value.ref a := ra
    have hlen : ur.length ≤ sizeLine := by
      rw [← Paired.length rw', sizeLine_eq]
      omega
    exact oinit_ok T I1 ea hlen fun s' J => ⟨.non, H1, J, rfl, q⟩
end
end FL
namespace FL
open PySem L2 PyProof.Rows
variable [TabPar]
/-- an error class of the module, as an except clause and isinstance ask for it -/
structure Ec (K : PySem.W.Frag) (mg : Str → Option Value) (x : Str) (C : Addr) : Prop where
  mg_ : mg x = some (.ref C)
  ty : PySem.W.typeIn K (.ref C) = some (.type "type")
  xf : XfC K C
  ha : PySem.W.findIn K (.ref C) "__class__" = some (some (.builtin "object.__class__"))
  hn : PySem.W.specialIn K (.builtin "object.__class__") "__get__" = some (some (.builtin "getset_descriptor.__get__"))
  htk : PySem.W.takesIn K (.builtin "object.__class__") = some true
  hm : PySem.W.mroIn K C (.type "object") = some true
/-- D stands below S, or not -/
def Below (K : PySem.W.Frag) (D S : Addr) (b : Bool) : Prop := PySem.W.subIn K (.ref D) (.ref S) = some b
section
variable {K : PySem.W.Frag} {mg : Str → Option Value} {x y : Str} {C D S : Addr} {b : Bool}
theorem Ec.cls (E : Ec K mg x C) : (PySem.W.clsIn K C).isSome = true := by
  obtain ⟨cd, hc, _⟩ := PySem.W.any_some E.xf.hdC
  rw [hc]; rfl
theorem Ec.exm (E : Ec K mg x C) (h : Below K D C b) : PySem.W.exmOne K (.ref D) (.ref C) = some b := PySem.W.exm_ref E.xf.exC E.xf.hdC E.ty h
theorem Ec.kit (E : Ec K mg x S) (h : Below K D S b) : PySem.W.kitCls K (.ref D) (.ref S) = some b := by
  have e := E.exm h
  unfold PySem.W.exmOne at e
  rw [if_pos (by rw [E.xf.exC]; rfl)] at e
  exact e
end
/-- isinstance(e, c), e the error that the suite holds -/
def rIsX (K : PySem.W.Frag) (D a : Addr) (d : Option Addr) : List V → Hp → VK → Prop := fun xs H Q => ∃ (c : V) (cv : Value) (b : Bool), xs = [.ref a, c] ∧ (∀ u, RelV c u → u = cv) ∧ PySem.W.kitOne K (.ref D) cv = some b ∧ (d = none ∨ ∃ dd fs, d = some dd ∧ H dd = some (.xd fs)) ∧ Q (.bl b) H
theorem call_isX {X : Cx} {x : Str} {a D : Addr} {d : Option Addr} {oe : Obj} {pn : List (Addr × Obj)} (C : Ec X.K X.mg x D) (hz : Zc (.ref D) d oe) (hf : ∃ vs, oe.data = .fields vs) : CallR (X.suite a ((a, oe) :: pn)) (.builtin "isinstance") (rIsX X.K D a d) := by
  intro pins s σ H xs us Q I r h
  obtain ⟨c, cv, b, rfl, hcv, e, hd, q⟩ := h
  cases r with
  | cons rx rr =>
    cases rr with
    | cons rt rr =>
      cases rr
      cases rx
      have ec := hcv _ rt
      subst ec
      obtain ⟨hget, _⟩ := I.pin (a, oe) (List.mem_append.mpr (.inl List.mem_cons_self))
      obtain ⟨vs, hv⟩ := hf
      have J : ∃ od, PySem.W.InstAt s.heap a oe D od := by
        rcases hd with rfl | ⟨dd, fs, rfl, ea⟩
        · exact ⟨none, hget, hz.1, by unfold PySem.W.notCls; rw [hv] <;> rfl, by rw [hz.2]; trivial⟩
        · have hx : ObjOk X.prog X.w H s.heap dd (.xd fs) := I.hok dd _ ea
          obtain ⟨mA, hns, hr⟩ := hx
          obtain ⟨od, ho, hl⟩ := lookIn_ns hns
          exact ⟨some od, hget, hz.1, by unfold PySem.W.notCls; rw [hv] <;> rfl, by rw [hz.2]; exact ho⟩
      obtain ⟨od, J⟩ := J
      exact PySem.W.kia_one (PySem.W.kitx_exc C.cls C.xf.ga C.xf.gg C.xf.exC C.ha C.hn C.htk C.hm) I.kIn J e (fun z => nomatch z) fun tk => ⟨.bl b, H, I.kept (t' := tk) fun _ _ z => z, rfl, q⟩
def tEh (K : PySem.W.Frag) (i : Nat) (a : Addr) (cls : Value) (d : Option Addr) (x : Xn) (m : DE) : TE := fun σ H Q => cls = .ref x.C ∧ σ[i]? = some (some (.ref a)) ∧
  ∃ B ρ G α, Rs K B ρ G α σ H ∧ Xd K G H d x.fs ∧ okP K W0 B G α σ (m ρ) fun u _ G' α' H' => ∀ v, RpU K G' α' u v → Q v H'
def SEh (X : Cx) (i : Nat) (e : Expr) (m : Xn → DE) : Prop := ∀ (a : Addr) (oe : Obj) (cls : Value) (d : Option Addr) (pn : List (Addr × Obj)) (x : Xn), Zc cls d oe → (∃ vs, oe.data = .fields vs) →
  PE (X.suite a ((a, oe) :: pn)) e (tEh X.K i a cls d x (m x))
theorem Xd.mono {K : PySem.W.Frag} {G G' H H' : Hp} {d : Option Addr} {fs : List (Str × T)} (e : Ex G G') (h : Xd K G H d fs) : Xd K G' H' d fs := by
  rcases h with h | ⟨dd, vs, h1, h2, h3, h4⟩
  · exact .inl h
  · exact .inr ⟨dd, vs, h1, e _ _ h2, h3, Rps.mono e h4⟩
section
variable {X : Cx} {i : Nat} {e e1 e2 c : Expr} {m m1 m2 : Xn → DE} {n f y : Str} {pos p p2 : Pos} {C S : Addr}
/-- isinstance(e, S) -/
def hIs (C : Addr) (b : Bool) : Xn → DE := fun x ρ => if x.C = C then .ok (.d (.bl b)) ρ else .no
theorem h_isi {b : Bool} {ps : Pos} {z : Str} (E : Ec X.K X.mg y C) (E2 : Ec X.K X.mg z S) (hs : Below X.K C S b) (hm : X.mg "isinstance" = none) (hCS : C ≠ S ∨ b = true) (hN : X.N[i]? = some n := by rfl) (hv : Vis X.env.scope n := by first | exact Or.inl rfl | exact Or.inr (Or.inl rfl) | exact Or.inr (Or.inr rfl)) (hd : (n == ("__debug__" : Str)) = false := by decide)
    (hcd : (n == ("__classdict__" : Str)) = false := by decide) (hdz : (z == ("__debug__" : Str)) = false := by decide) (hg : Gl X "isinstance" := by rfl) (hgz : Gl X z := by rfl) (hst : starEach [.Name n p, .Name z p2] X.env = (false, eval (.Name n p) X.env) :: starEach [.Name z p2] X.env := by rfl) :
    SEh X i (.Call (.Name "isinstance" ps) [.Name n p, .Name z p2] [] pos) (hIs C b) := fun a oe cls d pn x hz hf => by
  by_cases hC : cls = .ref C
  · subst hC
    refine pe_weak (pe_callB (X := X.suite a ((a, oe) :: pn)) (call_isX E hz hf) hg hm (by decide +kernel) (pa_cons (pe_var (X := X.suite a ((a, oe) :: pn)) hN hv hd hcd) (pa_cons (pe_glob (X := X.suite a ((a, oe) :: pn)) hgz E2.mg_ (v := .ref S) rfl hdz) pa_nil) hst) (by decide) (by decide) hst rfl) fun σ H Q ⟨ec, es, B, ρ, G, α, r, xd, q⟩ => ?_
    unfold hIs at q
    split at q
    · refine ⟨.ref a, es, .ref S, .ref S, b, rfl, fun u hu => hu, ?_, ?_, q G α H Gr.refl r _ (by simp [RpU, Rp])⟩
      · unfold PySem.W.kitOne
        split
        · rename_i h
          have h2 : Value.ref C = Value.ref S := beq_iff_eq.mp h
          rcases hCS with h3 | h3
          · exact absurd (Value.ref.inj h2) h3
          · rw [h3]
        · exact E2.kit hs
      · rcases xd with ⟨_, h1⟩ | ⟨dd, vs, h1, h2, _⟩
        · exact .inl h1
        · exact .inr ⟨dd, _, h1, r.gh _ _ h2⟩
    · exact q.elim
  · refine ⟨fun pins s σ H Q I h => ?_⟩
    obtain ⟨ec, es, B, ρ, G, α, r, xd, q⟩ := h
    unfold hIs at q
    split at q
    · rename_i h; exact absurd (by rw [ec, h]) hC
    · exact q.elim
end
end FL
namespace FL
open PySem L2 PyProof.Rows
variable [TabPar]
section
variable {X : Cx} {i : Nat} {e e1 e2 c : Expr} {m m1 m2 : Xn → DE} {n f y : Str} {pos p p2 : Pos} {C S : Addr}
def tH (K : PySem.W.Frag) (i : Nat) (a : Addr) (cls : Value) (d : Option Addr) (m : Xn → DS) : TS := fun D σ H => ∃ x B ρ G α, cls = .ref x.C ∧ σ[i]? = some (some (.ref a)) ∧ Rs K B ρ G α σ H ∧ Xd K G H d x.fs ∧ okF K W0 B G α (m x ρ) D
def SH (X : Cx) (i : Nat) (b : List Stmt) (m : Xn → DS) : Prop := ∀ (a : Addr) (oe : Obj) (cls : Value) (d : Option Addr) (pn : List (Addr × Obj)), Zc cls d oe → (∃ vs, oe.data = .fields vs) → PSs (X.suite a ((a, oe) :: pn)) b (tH X.K i a cls d m)
theorem sh_set {x : Str} {pos' : Pos} (j : Nat) (hN : X.N.Nodup) (he : SEh X i e m) (hi : X.N[j]? = some x := by rfl) (hx : Loc X.env.scope x := by first | exact Or.inl rfl | exact Or.inr rfl) (hs : swapsWith e (some (.Name x pos')) pos.line X.env = pure false := by rfl)
    (hf : X.env.scope.names.lookup x = some .local := by rfl) : SH X i [.Assign [.Name x pos'] e pos] (fun x => mSet j (m x)) := fun a oe cls d pn hz hf2 => by
  refine pss_one ?_
  refine ⟨fun pins s σ H D I h => ?_⟩
  obtain ⟨x, B, ρ, G, α, ec, es, r, xd, q⟩ := h
  refine (ps_weak (ps_set (X := X.suite a ((a, oe) :: pn)) hN hi hx (he a oe cls d pn x hz hf2) hs (.inr hf)) (t' := fun D σ H => ∃ B ρ G α, cls = .ref x.C ∧ σ[i]? = some (some (.ref a)) ∧ Rs X.K B ρ G α σ H ∧ Xd X.K G H d x.fs ∧ okF X.K W0 B G α (mSet j (m x) ρ) D) ?_).run pins s σ H D I ⟨B, ρ, G, α, ec, es, r, xd, q⟩
  rintro D σ H ⟨B, ρ, G, α, ec, es, r, xd, q⟩
  refine ⟨ec, es, B, ρ, G, α, r, xd, ?_⟩
  unfold mSet at q
  cases e : m x ρ with
  | ok u ρ1 => rw [e] at q; exact fun G1 α1 H1 g r1 v p => q G1 α1 _ H1 g (r1.store p)
  | ex x ρ1 => rw [e] at q; exact q
  | no => rw [e] at q; exact q
def clrF (i : Nat) : _root_.FL.F → _root_.FL.F
  | .nx ρ => .nx ⟨ρ.sl.set i none, ρ.st⟩
  | .bk ρ => .bk ⟨ρ.sl.set i none, ρ.st⟩
  | .ct ρ => .ct ⟨ρ.sl.set i none, ρ.st⟩
  | .rt u ρ => .rt u ρ
  | .ex x ρ => .no
  | .no => .no
def tabF : List (Addr × Bool) → Addr → Option Bool
  | [], _ => none
  | (D, b) :: r, C => if D = C then some b else tabF r C
def mTry (tab : List (Addr × Bool)) (i : Nat) (mb : DS) (mh : Xn → DS) : DS := fun ρ => match mb ρ with
  | .ex x ρ1 => match tabF tab x.C with
    | some true => if i < ρ1.sl.length then clrF i (mh x ⟨ρ1.sl.set i none, ρ1.st⟩) else .no
    | some false => .ex x ρ1
    | none => .no
  | .nx ρ1 => .nx ρ1
  | .rt u ρ1 => .rt u ρ1
  | .bk ρ1 => .bk ρ1
  | .ct ρ1 => .ct ρ1
  | .no => .no
theorem tabF_ok {K : PySem.W.Frag} {C : Addr} : ∀ {tab : List (Addr × Bool)} {D : Addr} {b : Bool}, (∀ q ∈ tab, Below K q.1 C q.2) → tabF tab D = some b → Below K D C b
  | [], _, _, _, e => by simp [tabF] at e
  | (D', b') :: r, D, b, h, e => by
    simp only [tabF] at e
    split at e
    · rename_i hD
      simp only [Option.some.injEq] at e
      subst hD; subst e
      exact h _ List.mem_cons_self
    · exact tabF_ok (fun q hq => h q (List.mem_cons_of_mem _ hq)) e
theorem Rs.unset {K : PySem.W.Frag} {B G H : Hp} {α : List Addr} {σ : L2.St} {ρ : Sg} {i : Nat} {o : Option V} (r : Rs K B ρ G α σ H) : Rs K B ⟨ρ.sl.set i none, ρ.st⟩ G α (σ.set i o) H :=
  { toRh := r.toRh, sll := by simpa using r.sll, sl := fun j w e => by
      by_cases hj : i = j
      · subst hj
        have hl : i < ρ.sl.length := by
          have := (List.getElem?_eq_some_iff.mp e).1
          simpa using this
        rw [List.getElem?_set_self hl] at e; cases e
      · rw [List.getElem?_set_ne hj] at e ⊢
        exact r.sl j w e }
end
section
variable {X : Cx} {W : WX} {x n : Str} {C : Addr} {body suite : List Stmt} {b₀ : Stmt} {np pos pos' : Pos} {mb : DS} {mh : Xn → DS}
theorem fs_try (i : Nat) (tab : List (Addr × Bool)) (ct : Ct X W) (hN : X.N.Nodup) (E : Ec X.K X.mg x C) (ht : ∀ q ∈ tab, Below X.K q.1 C q.2)
    (hb : ∀ (W' : WX) (pn : List (Addr × Obj)) (xe : Value → Shared → Prop), Ct (X.tr pn xe) W' → SSs (X.tr pn xe) W' body mb) (hh : SH X i (b₀ :: suite) mh)
    (hi : X.N[i]? = some n := by rfl) (hs : X.stack = X.env :: X.outer := by rfl) (hf : X.env.frame = some X.env.locals := by rfl) (hln : X.env.kindOf n = some .local := by rfl) (hg : Gl X x := by rfl) (hdb : (x == ("__debug__" : Str)) = false := by decide) :
    SS X W (.Try body [.ExceptHandler (some (.Name x np)) (some n) (b₀ :: suite) pos'] [] [] pos) (mTry tab i mb mh) :=
  ps_weak (ps_try_as (tb := fun W' => tS X.K W' mb) (ts := fun a cls d => tH X.K i a cls d mh) hs hf hN hi hln ⟨hg, hdb, .inl E.mg_⟩ ct.ts (fun W' pn xe t p => hb W' pn xe ⟨tk_of t, p, t⟩) hh) fun D σ H ⟨B, ρ, G, α, r, h⟩ => by
    refine ⟨B, ρ, G, α, r, ?_⟩
    unfold mTry at h
    cases e : mb ρ with
    | nx ρ1 => rw [e] at h; exact h
    | rt u ρ1 => rw [e] at h; exact h
    | bk ρ1 => rw [e] at h; exact h
    | ct ρ1 => rw [e] at h; exact h
    | no => rw [e] at h; exact h
    | ex y ρ1 =>
      rw [e] at h
      dsimp only at h
      intro σ' H' G' α' d g r' xd
      cases et : tabF tab y.C with
      | none => rw [et] at h; exact h.elim
      | some b =>
        rw [et] at h
        refine ⟨b, E.exm (tabF_ok ht et), fun hb2 a ha => ?_, fun hb2 => ?_⟩
        · subst hb2
          dsimp only at h
          split at h
          · rename_i hl
            have hlen : i < σ'.length := by rw [← r'.sll]; exact hl
            refine ⟨y, B, ⟨ρ1.sl.set i none, ρ1.st⟩, G', α', rfl, by rw [List.getElem?_set_self hlen], r'.unset, xd, ?_⟩
            cases em : mh y ⟨ρ1.sl.set i none, ρ1.st⟩ with
            | nx ρ2 => rw [em] at h; exact fun G1 α1 σ1 H1 g1 r1 => h G1 α1 _ H1 (g.trans g1) r1.unset
            | bk ρ2 => rw [em] at h; exact fun G1 α1 σ1 H1 g1 r1 => h G1 α1 _ H1 (g.trans g1) r1.unset
            | ct ρ2 => rw [em] at h; exact fun G1 α1 σ1 H1 g1 r1 => h G1 α1 _ H1 (g.trans g1) r1.unset
            | rt u ρ2 => rw [em] at h; exact fun G1 α1 σ1 H1 v g1 r1 p => h G1 α1 σ1 H1 v (g.trans g1) r1 p
            | ex z ρ2 => rw [em] at h; exact h.elim
            | no => rw [em] at h; exact h.elim
          · exact h.elim
        · subst hb2
          exact h σ' H' G' α' d g r' xd
end
end FL
namespace FL
open PySem L2 PyProof.Rows
end FL
namespace FL
open PySem L2 PyProof.Rows
variable [TabPar]
/-- __init__ of an error of the module -/
structure Dxi (K : PySem.W.Frag) (C : Addr) (qual : Str) (st : Stmt) (ps : List Str) : Prop where
  ex : ∃ (f : Addr) (fd : FuncData), Fun K "__init__" qual st f fd ∧ Binds K fd ps [] ∧ PySem.W.findIn K (.ref C) "__init__" = some (some (.ref f)) ∧ PySem.W.typeIn K (.ref f) = some (.type "function")
section
variable {P : PySem.Program} {w : World} {K : PySem.W.Frag} {mg : Str → Option Value} {base : Heap} {f x y par qual msg : Str} {st : Stmt} {C CS : Addr}
theorem oex_of {nm q : Str} {N : Addr} {bs bm : List Value} {sn : List Str} {sub : List Value} {ab : Bool} {col : Option Bool} {dd : Option Addr} {k0 k1 k2 k3 k5 : Option Value} (l : K.lookup C = some (excClassObj nm q C N bs bm true sn sub ab col dd k0 k1 k2 k3 k5 "ValueError.__new__")) (r : PySem.HandSPX.refsVE bm = true)
    (sa : PySem.W.findIn K (.ref C) "__setattr__" = some (some (.builtin "object.__setattr__"))) (exC : PySem.W.subIn K (.ref C) (.type "BaseException") = some true) (tyC : PySem.W.typeIn K (.ref C) = some (.type "type")) (kC : PySem.W.keepIn K (.ref C) = true) : OexC K C :=
  ⟨⟨_, _, _, _, _, _, _, _, _, _, _, _, _, _, _, l, r⟩, sa, exC, tyC, kC⟩
theorem below_of {D S : Addr} {b : Bool} (h : PySem.W.subIn K (.ref D) (.ref S) = some b) : Below K D S b := h
theorem dxi_of {h : Heap} {fa : Addr} {od an : Option Addr} {osl : Array (Option Value)} {oc kV dc pm cd ct : Value} {ps : List Str} (b : Bnd "__init__" qual st ps) (e1 : PySem.W.findIn K (.ref C) "__init__" = some (some (.ref fa))) (e2 : K.lookup fa = some ⟨oc, od, .func (PySem.W.fnOf "__init__" qual (defArgs st) (defBody st) (defScope st) .none kV dc pm an cd ct), osl⟩)
    (e3 : PySem.W.codeIn K cd qual = true) (e4 : PySem.W.keepIn K (.ref fa) = true) (e5 : PySem.W.typeIn K (.ref fa) = some (.type "function")) : Dxi K C qual st ps :=
  ⟨fa, _, fun_mk e2 e3 e4, (fun_mk e2 e3 e4).binds b, e1, e5⟩
end
end FL
namespace FL
open PySem L2 PyProof.Rows
end FL
namespace FL
open PySem L2 PyProof.Rows
end FL
namespace FL
open PySem L2 PyProof.Rows PySem.Spec GenW
end FL
namespace FL
open PySem L2 PyProof.Rows PySem.Spec GenW
variable [TabPar]
/-- how a generator's statement ends: all that is out so far -/
inductive FG where
  | nx (ts : List T) (ρ : Sg) | bk (ts : List T) (ρ : Sg) | ct (ts : List T) (ρ : Sg) | rt (ts : List T) (ρ : Sg) | no
abbrev DGn := List T → Sg → FG
def okY (K : PySem.W.Frag) (B G : Hp) (α : List Addr) (f : FG) (D : GEnds) : Prop := match f with
  | .nx ts ρ => ∀ G' α' σ' H' ys, Gr B G α G' α' → Rs K B ρ G' α' σ' H' → Rps K G' ts ys → D.nx ys σ' H'
  | .bk ts ρ => ∀ G' α' σ' H' ys, Gr B G α G' α' → Rs K B ρ G' α' σ' H' → Rps K G' ts ys → D.bk ys σ' H'
  | .ct ts ρ => ∀ G' α' σ' H' ys, Gr B G α G' α' → Rs K B ρ G' α' σ' H' → Rps K G' ts ys → D.ct ys σ' H'
  | .rt ts ρ => ∀ G' α' σ' H' ys, Gr B G α G' α' → Rs K B ρ G' α' σ' H' → Rps K G' ts ys → D.rt ys .non H'
  | .no => False
def tGn (K : PySem.W.Frag) (m : DGn) : TGn := fun D ys σ H => ∃ B ρ G α ts, Rs K B ρ G α σ H ∧ Rps K G ts ys ∧ okY K B G α (m ts ρ) D
abbrev SGns (X : Cx) (sts : List Stmt) (m : DGn) : Prop := GSs X sts (tGn X.K m)
def R.thG {β : Type} (r : R β) (k : β → Sg → FG) : FG := match r with
  | .ok b ρ => k b ρ | _ => .no
@[simp] theorem R.thG_ok {β : Type} {b : β} {ρ : Sg} {k : β → Sg → FG} : (R.ok b ρ).thG k = k b ρ := rfl
/-- all that it hands out -/
abbrev FnG := List U → Option (List T)
def runG (m : DGn) (n : Nat) : FnG := fun us => match m [] ⟨us.map some ++ List.replicate (n - us.length) none, []⟩ with
  | .nx ts _ => some ts
  | .rt ts _ => some ts
  | _ => none
/-- its promise: arguments that are data -/
def spGF (K : PySem.W.Frag) (n : Nat) (F : FnG) : SpG := fun vs H cont E => vs.length = n ∧ ∃ G us, Rh K H [] G [] H ∧ RpUs K G [] us vs ∧ match F us with
  | some ts => ∀ G' α' st' H' ys, Gr H G [] G' α' → Rh K H st' G' α' H' → Rps K G' ts ys → cont ys H'
  | none => False
section
variable {P : Program} {w : World} {K : PySem.W.Frag} {mg : Str → Option Value} {base : Heap} {x qual : Str} {st : Stmt} {f : Addr} {fd : FuncData} {N ps : List Str} {k n : Nat} {m : DGn} {dvs : List V} {kws : List (Str × V)}
abbrev XG (P : Program) (w : World) (K : PySem.W.Frag) (mg : Str → Option Value) (base : Heap) (N : List Str) (qual : Str) (sc : Scope) (f : Addr) (cdv : Value) (A : Around) (outer : List Env) (s : Shared) (H : Hp) (E : XK) (pn : List (Addr × Obj)) : Cx :=
  gcxOf P w K mg base N qual sc f cdv A outer s H E pn
abbrev BodyG (P : Program) (w : World) (K : PySem.W.Frag) (mg : Str → Option Value) (base : Heap) (N : List Str) (qual : Str) (f : Addr) (k : Nat) (sc : Scope) (b : List Stmt) (m : DGn) : Prop :=
  ∀ (cdv : Value) (A : Around) (outer : List Env) (s : Shared) (H : Hp) (E : XK) (pn : List (Addr × Obj)), Room k (XG P w K mg base N qual sc f cdv A outer s H E pn).A → Ct (XG P w K mg base N qual sc f cdv A outer s H E pn) (Wd E) →
      SGns (XG P w K mg base N qual sc f cdv A outer s H E pn) b m
theorem gn_den (Fu : FunD K x qual (defArgs st) (defBody st) (defScope st) dvs kws f fd) (S : GScope N ps (defScope st)) (hn : ps.length = n) (hb : BodyG P w K mg base N qual f k (defScope st) (defBody st) m) :
    GFn P w K mg base (k + 1) f fd ps (spGF K n (runG m N.length)) := by
  obtain ⟨oc, od, dV, kV, doc, pm, an, cdv, ct, osl, rfl, lk, hcd, _, _⟩ := Fu.ex
  refine gfn_of lk hcd S (fun vs H Q E h => by rw [hn]; exact h.1) fun A outer s H vs Q E pn hr hsp => ?_
  refine ⟨tGn K m, hb cdv A outer s H E pn hr ⟨tk_of takes_gcx, owns_gcx, takes_gcx⟩, ?_⟩
  obtain ⟨_, G, us, rh, ru, ho⟩ := hsp
  have hl := ru.length
  refine ⟨H, ⟨us.map some ++ List.replicate (N.length - us.length) none, []⟩, G, [], [], { toRh := rh, sll := ?_, sl := fun i u e => ?_ }, Rps.nil, ?_⟩
  · simp [L2.start, hl]
  · unfold L2.start
    rw [← hl]
    exact start_sl ru _ i u e
  · unfold runG at ho
    show okY K H G [] (m [] ⟨us.map some ++ List.replicate (N.length - us.length) none, []⟩) _
    cases e0 : m [] ⟨us.map some ++ List.replicate (N.length - us.length) none, []⟩ with
    | nx ts ρ => rw [e0] at ho; exact fun G' α' σ' H' ys g r p => ho G' α' ρ.st H' ys g r.toRh p
    | rt ts ρ => rw [e0] at ho; exact fun G' α' σ' H' ys g r p => ⟨rfl, ho G' α' ρ.st H' ys g r.toRh p⟩
    | bk ts ρ => rw [e0] at ho; exact ho.elim
    | ct ts ρ => rw [e0] at ho; exact ho.elim
    | no => rw [e0] at ho; exact ho.elim
end
/-- a method that is a generator def, called with n values behind self; dts: what its defaults are -/
structure MnG (P : Program) (w : World) (K : PySem.W.Frag) (mg : Str → Option Value) (base : Heap) (k : Nat) (C : Addr) (m : Str) (n : Nat) (dts : List T) (F : FnG) : Prop where
  ex : ∃ (f : Addr) (fd : FuncData) (ps : List Str) (dvs : List V) (ds : List Value), GFn P w K mg base k f fd ps (spGF K n F) ∧ Cls K C ∧ Meth K C m f ∧ Vals dvs ds ∧ Binds K fd ps ds ∧ Rps K (fun _ => none) dts dvs
/-- a generator method as the module holds it -/
structure DmG (K : PySem.W.Frag) (C : Addr) (x qual : Str) (st : Stmt) (ps : List Str) (dts : List T) : Prop where
  ex : ∃ (f : Addr) (fd : FuncData) (dvs : List V), FunD K x qual (defArgs st) (defBody st) (defScope st) dvs [] f fd ∧ Cls K C ∧ Meth K C x f ∧ Rps K (fun _ => none) dts dvs ∧ (∃ ds, Vals dvs ds ∧ Binds K fd ps ds) ∧ Binds K fd ps []
section
variable {P : Program} {w : World} {K : PySem.W.Frag} {mg : Str → Option Value} {base : Heap} {x qual : Str} {st : Stmt} {N ps : List Str} {k n : Nat} {m : DGn} {C : Addr} {dts : List T}
theorem DmG.mn (D : DmG K C x qual st ps dts) (S : GScope N ps (defScope st)) (hn : ps.length = n) (hb : ∀ f, BodyG P w K mg base N qual f k (defScope st) (defBody st) m) : MnG P w K mg base (k + 1) C x n [] (runG m N.length) := by
  obtain ⟨f, fd, dvs, h1, h2, h3, h4, h5, h6⟩ := D.ex
  exact ⟨f, fd, ps, [], [], gn_den h1 S hn (hb f), h2, h3, .nil, h6, Rps.nil⟩
theorem MnG.mono {k' : Nat} {F : FnG} (D : MnG P w K mg base k C x n dts F) (h : k ≤ k') : MnG P w K mg base k' C x n dts F := by
  obtain ⟨f, fd, ps, dvs, ds, h1, h2, h3, h4, h5, h6⟩ := D.ex
  refine ⟨f, fd, ps, dvs, ds, ⟨h1.len, fun A outer s H args us vs Q E hr e0 hb hv q => ?_⟩, h2, h3, h4, h5, h6⟩
  refine codeAny_mono (h1.run A outer s H args us vs Q E (hr.mono h) e0 hb hv q) fun r s' z => ?_
  cases r with
  | error e => exact z
  | ok fl =>
    cases fl with
    | ret u =>
      obtain ⟨a, g, c, z1, z2, z3, z4, z5, z6, z7, z8, z9, z10⟩ := z
      exact ⟨a, g, c, z1, z2, z3, z4, z5, z6, z7, z8, z9, fun A' S s2 hr' => z10 A' S s2 (hr'.mono h)⟩
    | next => exact z
    | brk => exact z
    | cont => exact z
end
/-- one default that is None -/
abbrev BndD (x qual : Str) (st : Stmt) (ps : List Str) (j : Nat) : Prop := ∀ (T : Addr) (kV doc pm : Value) (an : Option Addr) (cdv ct : Value) (us its : List Value), us.length + (1 - j) = ps.length → its.length = 1 →
      ∃ k, bindArgs (PySem.W.fnOf x qual (defArgs st) (defBody st) (defScope st) (.ref T) kV doc pm an cdv ct) ⟨us, []⟩ = seqItems? (.ref T) >>= k ∧ k (some its.toArray) = pure (ps.zip (us ++ its.drop j))
theorem DmG.of {K : PySem.W.Frag} {C f Tt : Addr} {x qual : Str} {st : Stmt} {ps : List Str} {od an : Option Addr} {osl : Array (Option Value)} {oc kV dc pm cd ct : Value} {oT : Obj} {m : Nat} (cl : Cls K C) (b1 : BndD x qual st ps 1) (b0 : BndD x qual st ps 0) (hp : 1 ≤ ps.length)
    (e1 : PySem.W.findIn K (.ref C) x = some (some (.ref f))) (e2 : K.lookup f = some ⟨oc, od, .func (PySem.W.fnOf x qual (defArgs st) (defBody st) (defScope st) (.ref Tt) kV dc pm an cd ct), osl⟩)
    (e3 : PySem.W.codeIn K cd qual = true) (e4 : PySem.W.keepIn K (.ref f) = true) (e5 : PySem.W.isFn K (.ref f) = true) (e6 : K.lookup Tt = some oT) (e7 : oT.data = .seq #[.none] m) : DmG K C x qual st ps [.non] := by
  have F : FunD K x qual (defArgs st) (defBody st) (defScope st) [.non] [] f (PySem.W.fnOf x qual (defArgs st) (defBody st) (defScope st) (.ref Tt) kV dc pm an cd ct) :=
    ⟨⟨oc, od, .ref Tt, kV, dc, pm, an, cd, ct, osl, rfl, e2, e3, .inr ⟨by simp, Tt, oT, [.none], m, rfl, e6, e7, .cons rfl .nil⟩, .inl rfl⟩, e4⟩
  refine ⟨f, _, [.non], F, cl, ⟨e1, e5, e4⟩, Rps.cons (by simp [Rp]) Rps.nil, ?_, ?_⟩
  · exact F.binds1 (ps.length - 1) 0 (by simp) (by simp; omega) fun T kV doc pm an cdv ct us its h1 h2 => b0 T kV doc pm an cdv ct us its (by omega) h2
  · obtain ⟨ds, h1, h2⟩ := F.binds1 ps.length 1 (by simp) (by simp) fun T kV doc pm an cdv ct us its h1 h2 => b1 T kV doc pm an cdv ct us its (by omega) h2
    have : ds = [] := by
      have := h1.length
      exact List.eq_nil_of_length_eq_zero (by simpa using this.symm)
    subst this
    exact h2
end FL
namespace FL
open PySem L2 PyProof.Rows
variable [TabPar]
theorem fin_dk {K : PySem.W.Frag} {W : WX} {B G H : Hp} {α : List Addr} {σ : L2.St} {ρ : Sg} {Q : VK} {ks : List Key} {ts : List T} {vs : List V} {p : Addr} (r : Rs K B ρ G α σ H) (h : okP K W B G α σ (mO (some (.k ks ts)) ρ) (EndP K Q)) (hv : Rps K G ts vs) (hl : ks.length = vs.length) (hp : H p = none) : Q (.ref p) (upd H p (.dK (ks.zip vs))) := by
  have gq : G p = none := r.gh.free hp
  have r3 := r.toRh.newO (o := .dK (ks.zip vs)) (ob := .dk ks ts) hp ⟨gq, vs, upd_same, hl, hv⟩
  refine h G (α ++ [p]) (upd H p (.dK (ks.zip vs))) Gr.own (Rs.mk' r Gr.own r3) (.ref p) ⟨p, ?_, rfl⟩
  rw [← r.len]
  simp
def copyF : List T → Option O
  | [.dk ks ts] => some (.k ks ts)
  | _ => none
section
variable {X : Cx} {W : WX} {e a b o : Expr} {ma mb mo : DE} {da : DA} {p pos : Pos} {K : PySem.W.Frag}
theorem copy_ok : CaK K (fun xs H Q => ∃ (a : Addr) (kvs : List (Key × V)), xs = [.ref a] ∧ Rd H a (.dK kvs) ∧ ∀ p, H p = none → Q (.ref p) (upd H p (.dK kvs))) copyF := by
  intro W B ρ G α σ H Q xs vs rs p q
  unfold copyF at q
  split at q
  · rename_i ks ts
    obtain ⟨v, ws, rfl, q2, rfl⟩ := p
    obtain ⟨a, us, rfl, h1, h2, h3⟩ := q2
    exact ⟨a, _, rfl, .inl h1, fun l hl => fin_dk rs q h3 h2 hl⟩
  · exact q.elim
theorem fe_copy (hg : Gl X "dict") (hm : X.mg "dict" = none) (ha : SA X W [e] da) (he : starEach [e] X.env = [(false, eval e X.env)] := by rfl) : SE X W (.Call (.Name "dict" p) [e] [] pos) (mCa copyF da) :=
  fe_callTy call_dictD copy_ok hg hm (by decide +kernel) ha (by decide) (by decide) he rfl
structure Gz (K : PySem.W.Frag) (C : Addr) : Prop where
  is : PySem.W.kitOne K (.type "tuple") (.ref C) = some false
  nf : PySem.W.notFirst K C (.type "tuple") = true
def isTupT : T → Bool
  | .tup _ => true | .ktp _ => true | _ => false
def asBl : R U → Option Bool
  | .ok (.d (.bl b)) ⟨[], []⟩ => some b
  | _ => none
theorem asBl_eq {r : R U} {b : Bool} (h : asBl r = some b) : r = .ok (.d (.bl b)) ⟨[], []⟩ := by
  unfold asBl at h
  split at h
  · rename_i b'
    simp only [Option.some.injEq] at h
    subst h
    rfl
  · cases h
def mEqA (C : Addr) (F : Fn) (ma mb : DE) : DE := fun ρ => (ma ρ).bind fun u ρ1 => (mb ρ1).bind fun w ρ2 => match toD 4 u ρ2.st with
  | some (tx, st1) => match toD 4 w st1 with
    | some (ty, st2) => if isObj C tx = true ∧ (isObj C ty = true ∨ isTupT ty = true) then match asBl (F [] [.d tx, .d ty]) with
      | some b => .ok (.d (.bl b)) ⟨ρ2.sl, st2⟩
      | none => .no
      else .no
    | none => .no
  | none => .no
/-- what is asked of the two -/
def rEqO (X : Cx) (C : Addr) (F : Fn) : R2 := fun x y H Q => ∃ a dx fs G tx ty b, x = .ref a ∧ H a = some (.ins C dx fs) ∧ ((∃ c dy gs, y = .ref c ∧ H c = some (.ins C dy gs)) ∨ (∃ c ys, y = .ref c ∧ SqT X.K H c ys)) ∧ Ex G H ∧ Rp X.K G tx x ∧ Rp X.K G ty y ∧ F [] [.d tx, .d ty] = .ok (.d (.bl b)) ⟨[], []⟩ ∧ ∀ H', Ext H H' → Q (.bl b) H'
theorem op_eqO {k j : Nat} {C : Addr} {F : Fn} (z : Gz X.K C) (M : Mn X.prog X.w X.K X.mg X.base k C "__eq__" 2 F) (hr : Room j X.A) (hk : k ≤ j) (hP : TabPar.P = none) : OpR X (compareOp .Eq) (rEqO X C F) := by
  intro pins s σ H x y v u Q I rx ry h
  obtain ⟨a, dx, fs, G, tx, ty, b, rfl, ha, hy, ge, p1, p2, eF, q⟩ := h
  obtain ⟨f, fd, ps, fo, c, mt, bd⟩ := M.ex
  have fo := fo.mono hk
  obtain rfl : v = Value.ref a := rx
  obtain ⟨mA, J, _⟩ := ins_get I.hok ha
  obtain ⟨od, J, _⟩ := J.look
  obtain ⟨m, hF⟩ := I.fr
  have room := hr
  have key : ∀ {tb : Value}, PySem.W.Looks (model X.prog X.w) s.heap (typeOf u) tb → PySem.W.notFirst X.K C tb = true → wpAny (model X.prog X.w) X.A (compareOp .Eq (.ref a) u) (EP X pins σ Q) X.xe s := fun {tb} hl hn => by
    refine PySem.W.cmp_K (op := .Eq) (tb := tb) room.units0 hF I.ok.mod.kin J hl hn mt.at_ mt.fn ?_
    have hsp : spF X.K 2 F [.ref a, y] H (fun v H' => v = .bl b ∧ Ext H H') (fun _ _ _ => False) := by
      refine ⟨rfl, H, [], G, [], [.d tx, .d ty], ⟨ge, ⟨fun _ _ h _ => h, fun {_} h => h, fun p o hp _ => (by rw [hP] at hp; cases hp)⟩, fun p hp => (by rw [hP] at hp; cases hp), rfl, by simp, fun i a o e1 e2 => by simp at e1⟩, ⟨_, _, rfl, p1, _, _, rfl, p2, rfl⟩, ?_⟩
      rw [eF]
      intro G' α' H' v g' r' p
      have hv : v = .bl b := by simpa [RpU, Rp] using p
      exact ⟨hv, fun a o h => r'.bh.keep a o h (by rw [hP]; exact fun z => by cases z)⟩
    have hl := fo.len _ _ _ _ hsp
    have r2 : Vals [V.ref a, y] [Value.ref a, u] := .cons rfl (.cons ry .nil)
    refine wpAny_call (codeAny_mono (fo.run X.A X.stack s H ⟨[.ref a, u], []⟩ [.ref a, u] [.ref a, y] _ (fun _ _ _ => False) room I.env0 (by
      have := bd s [.ref a, u] I.kIn (by simpa using hl)
      simpa using this) r2 hsp) fun r s' hq => ?_)
    cases r with
    | error e => exact passF (P := X.prog) (w := X.w) pins σ H s e s' I hq
    | ok fl =>
      cases fl with
      | ret w =>
        obtain ⟨z, H', I', rz, ez, ex⟩ := I.after hq
        subst ez
        cases rz
        exact ⟨.bl b, H', I', rfl, q H' ex⟩
      | next => exact False.elim hq
      | brk => exact False.elim hq
      | cont => exact False.elim hq
  rcases hy with ⟨c2, dy, gs, rfl, hc⟩ | ⟨c2, ys, rfl, hc⟩
  · obtain rfl : u = Value.ref c2 := ry
    obtain ⟨mB, J', _⟩ := ins_get I.hok hc
    obtain ⟨od', J', _⟩ := J'.look
    exact key J'.type (by simp [PySem.W.notFirst])
  · obtain rfl : u = Value.ref c2 := ry
    obtain ⟨its, rv, ⟨o, ho, hcl, _⟩, hz⟩ := I.tuple hc
    refine key (tb := .type "tuple") (fun A' Q' E' s' k q => wpAny_typeOf_ref (o := o) (k _ _ ho) (by rw [hcl]; exact q)) z.nf
theorem tEqO_of {k j : Nat} {C : Addr} {F : Fn} {σ : L2.St} {H : Hp} {Q : VK} (h : tE X.K W (mEqA C F ma mb) σ H Q) : tE X.K W ma σ H fun x H1 => tE X.K W mb σ H1 fun y H2 => rEqO X C F x y H2 Q := by
  obtain ⟨B, ρ, G, α, r, h⟩ := h
  refine bE r h fun u ρ1 v H1 G1 α1 g1 r1 p1 h1 => bE r1 h1 fun w ρ2 y H2 G2 α2 g2 r2 p2 h2 => ?_
  split at h2
  · rename_i tx st1 e1
    obtain ⟨G3, g3, r3, p3⟩ := toD_ok 4 r2.toRh (p1.mono g2) e1
    split at h2
    · rename_i ty st2 e2
      obtain ⟨G4, g4, r4, p4⟩ := toD_ok 4 r3 (p2.mono g3) e2
      split at h2
      · rename_i hc
        split at h2
        · rename_i b eF
          have p3' := Rp.mono g4.ex p3
          obtain ⟨a1, d1, f1, rfl, q1⟩ := rp_isObj hc.1 p3'
          refine ⟨a1, d1, f1, G4, tx, ty, b, rfl, r4.gh _ _ q1, ?_, r4.gh, p3', p4, asBl_eq eF, fun H' ex => ?_⟩
          · rcases hc.2 with hc2 | hc2
            · obtain ⟨a2, d2, f2, rfl, q2⟩ := rp_isObj hc2 p4
              exact .inl ⟨a2, d2, f2, rfl, r4.gh _ _ q2⟩
            · cases ty with
              | tup ts => simp only [Rp] at p4; obtain ⟨a2, vs, rfl, q2, _⟩ := p4; exact .inr ⟨a2, vs, rfl, r4.gh.t (SqT.of q2)⟩
              | ktp ts => simp only [Rp] at p4; obtain ⟨a2, vs, rfl, q2, _⟩ := p4; exact .inr ⟨a2, vs, rfl, r4.gh.t q2⟩
              | _ => cases hc2
          · have r4' : Rs X.K B ⟨ρ2.sl, st2⟩ G4 α2 σ H2 := Rs.mk' r2 (g3.trans g4) r4
            exact h2 G4 α2 H' (g3.trans g4) (r4'.ext ex) _ (by simp [RpU, Rp])
        · exact h2.elim
      · exact h2.elim
    · exact h2.elim
  · exact h2.elim
theorem ft_eqA {k j : Nat} {C : Addr} {F : Fn} (z : Gz X.K C) (M : Mn X.prog X.w X.K X.mg X.base k C "__eq__" 2 F) (hr : Room j X.A) (ha : SE X W a ma) (hb : SE X W b mb) (hk : k ≤ j := by decide) (hm : behindInMarks .Eq b = false := by first | exact nobehind _ (by decide) (by decide) | rfl) (hP : TabPar.P = none := by first | rfl | assumption) : ST X W (.Compare a [.Eq] [b] pos) (mTest (mEqA C F ma mb)) :=
  pt_weak (pt_cmpR (op_eqO z M hr hk hP) ha hb hm) fun σ H Q h => tEqO_of (k := k) (j := j) (tTest_of h)
end
end FL
namespace FL
open PySem L2 PyProof.Rows
variable [TabPar]
section
variable {X : Cx} {W : WX} {e a b o : Expr} {ma mb mo : DE} {da : DA} {p pos p2 p3 p4 : Pos} {K : PySem.W.Frag} {C : Addr}
def mNeg (m : DE) : DE := fun ρ => (m ρ).bind fun u ρ1 => match u with
  | .d (.int i) => .ok (.d (.int (-i))) ρ1
  | _ => .no
theorem fe_neg (he : SE X W e ma) : SE X W (.UnaryOp .USub e pos) (mNeg ma) := pe_weak (pe_un un_neg he) fun σ H Q ⟨B, ρ, G, α, r, h⟩ =>
  bE r h fun u ρ1 v H1 G1 α1 g1 r1 p1 h1 => by
    split at h1
    · rename_i i
      have hv : v = .int i := by simpa [RpU, Rp] using p1
      subst hv
      exact ⟨i, rfl, h1 G1 α1 H1 Gr.refl r1 _ (by simp [RpU, Rp])⟩
    · exact h1.elim
end
theorem Gz.of {K : PySem.W.Frag} {C : Addr} (e1 : PySem.W.isClsIn K C = true) (e2 : PySem.W.typeIn K (.ref C) = some (.type "type")) (e3 : PySem.W.subIn K (.type "tuple") (.ref C) = some false) : Gz K C := by
  refine ⟨?_, ?_⟩
  · unfold PySem.W.kitOne PySem.W.kitCls
    rw [if_neg (by simp)]
    dsimp only
    unfold PySem.W.isClsIn at e1
    rw [e1, e2, if_pos (by simp)]
    exact e3
  · unfold PySem.W.notFirst
    rw [e3]
    simp
end FL
namespace FL
open PySem L2 PyProof.Rows
end FL
namespace FL
open PySem L2 PyProof.Rows
end FL
namespace FL
open PySem L2 PyProof.Rows
variable [TabPar]
def shU (n : Nat) : U → U
  | .d t => .d t
  | .own i => .own (n + i)
def shO (n : Nat) : Ob → Ob
  | .obj C ns us => .obj C ns (us.map (shU n))
  | .tpo us => .tpo (us.map (shU n))
  | o => o
section
variable {K : PySem.W.Frag} {B B' G G' H H' : Hp} {α β : List Addr} {W : WX} {σ : L2.St} {ρ : Sg} {st : List Ob} {us : List U} {vs : List V} {F : Fn} {Q : VK} {C : Addr} {ts : List T}
theorem RpU.sh {u : U} {v : V} (h : RpU K G β u v) : RpU K G (α ++ β) (shU α.length u) v := by
  cases u with
  | d t => exact h
  | own i =>
    obtain ⟨a, e, q⟩ := h
    exact ⟨a, by rw [List.getElem?_append_right (by omega)]; simpa using e, q⟩
theorem RpUs.sh : ∀ {us : List U} {vs : List V}, RpUs K G β us vs → RpUs K G (α ++ β) (us.map (shU α.length)) vs
  | [], _, h => h
  | u :: us, _, ⟨v, ws, q1, q2, q3⟩ => ⟨v, ws, q1, q2.sh, RpUs.sh q3⟩
theorem ObR.sh {a : Addr} {o : Ob} (h : ObR K G β H a o) : ObR K G (α ++ β) H a (shO α.length o) := by
  cases o with
  | obj C ns us =>
    obtain ⟨z, dx, vs, z1, z2, z3⟩ := h
    exact ⟨z, dx, vs, z1, z2, z3.sh⟩
  | frz t => exact h
  | lst t => exact h
  | dk k t => exact h
  | dn w k t => exact h
  | tpo us =>
    obtain ⟨z, vs, z1, z3⟩ := h
    exact ⟨z, vs, z1, z3.sh⟩
end
end FL
namespace FL
open PySem L2 PyProof.Rows
end FL
namespace FL
open PySem L2 PyProof.Rows
end FL
namespace FL
open PySem L2 PyProof.Rows
end FL
namespace FL
open PySem L2 PyProof.Rows
end FL
namespace FL
open PySem L2 PyProof.Rows
variable [TabPar]
theorem KX.nil : KX [] [] [] [] := ⟨rfl, rfl, .nil⟩
theorem KX.cons {k : T} {ks : List T} {kv v : V} {kvs vs : List V} {x : NestedKey × Addr × Value} {xs : List (NestedKey × Addr × Value)} : KX (k :: ks) (kv :: kvs) (v :: vs) (x :: xs) ↔ k.nk = some x.1 ∧ kv = .ref x.2.1 ∧ RelV v x.2.2 ∧ KX ks kvs vs xs := by
  constructor
  · rintro ⟨h1, h2, h3⟩
    simp only [T.nks] at h1
    split at h1
    · rename_i a b e1 e2
      simp only [List.map_cons, Option.some.injEq, List.cons.injEq] at h1
      obtain ⟨rfl, rfl⟩ := h1
      simp only [List.map_cons, List.cons.injEq] at h2
      cases h3 with
      | cons r1 r2 => exact ⟨e1, h2.1, r1, e2, h2.2, r2⟩
    · cases h1
  · rintro ⟨h1, h2, h3, h4, h5, h6⟩
    exact ⟨by simp [T.nks, h1, h4], by simp [h2, h5], .cons h3 h6⟩
theorem KX.len {ks : List T} {kvs vs : List V} {xs : List (NestedKey × Addr × Value)} (h : KX ks kvs vs xs) : kvs.length = xs.length ∧ vs.length = xs.length := by
  obtain ⟨_, h2, h3⟩ := h
  exact ⟨by rw [h2]; simp, by have := h3.length; simpa using this⟩
section
variable {K : PySem.W.Frag} {G : Hp}
theorem KX.snoc {ks : List T} {kvs vs : List V} {xs : List (NestedKey × Addr × Value)} (h : KX ks kvs vs xs) {k : T} {b : Addr} {v : V} {u : Value} {q : NestedKey} (hq : k.nk = some q) (r : RelV v u) : KX (ks ++ [k]) (kvs ++ [.ref b]) (vs ++ [v]) (xs ++ [(q, b, u)]) := by
  obtain ⟨h1, h2, h3⟩ := h
  refine ⟨?_, by simp [h2], by simpa using h3.append (.cons r .nil)⟩
  have key : ∀ (ks : List T) (qs : List NestedKey), T.nks ks = some qs → T.nks (ks ++ [k]) = some (qs ++ [q]) := by
    intro ks
    induction ks with
    | nil => intro qs e; simp only [T.nks, Option.some.injEq] at e; subst e; simp [T.nks, hq]
    | cons a ks ih =>
      intro qs e
      simp only [T.nks] at e
      split at e
      · rename_i a' b' e1 e2
        simp only [Option.some.injEq] at e
        subst e
        simp [T.nks, e1, ih _ e2]
      · cases e
  rw [key ks _ h1]
  simp
end
end FL
namespace FL
open PySem L2 PyProof.Rows
end FL
namespace FL
open PySem L2 PyProof.Rows
end FL
namespace FL
open PySem L2 PyProof.Rows RZ
end FL
namespace FL
open PySem L2 PyProof.Rows
end FL
namespace FL
open PySem L2 PyProof.Rows
end FL
namespace FL
open PySem L2 PyProof.Rows
end FL
namespace FL
open PySem L2 PyProof.Rows
end FL
namespace FL
open PySem L2 PyProof.Rows
end FL
namespace FL
open PySem L2 PySem.Spec PyProof.Rows
end FL
namespace FL
open PySem L2 PyProof.Rows
end FL
namespace FL
open PySem L2 PyProof.Rows
end FL
namespace FL
open PySem L2 PyProof.Rows
end FL
namespace FL
open PySem L2 PyProof.Rows
end FL
namespace FL
open PySem L2 PyProof.Rows
end FL
namespace FL
open PySem L2 PyProof.Rows
end FL
namespace FL
open PySem L2 PyProof.Rows PySem.W
end FL
namespace FL
open PySem L2 PyProof.Rows
end FL
namespace FL
open PySem L2 PyProof.Rows PySem.W
end FL
namespace FL
open PySem L2 PyProof.Rows LamX NdefX PySem.Spec
end FL
namespace FL
open PySem L2 PyProof.Rows LamX NdefX PySem.Spec
end FL
namespace FL
open PySem L2 PyProof.Rows LamX NdefX PySem.Spec
end FL
namespace FL
open PySem L2 PyProof.Rows LamX NdefX PySem.Spec
end FL
namespace FL
open PySem L2 PyProof.Rows LamX NdefX PySem.Spec
end FL
namespace FL
open PySem L2 PyProof.Rows
variable [TabPar]
def spX0 (K : PySem.W.Frag) : Sp := fun vs H Q _ => ∃ a C, vs = [.ref a] ∧ OexC K C ∧ H a = some (exo a C none) ∧ Q .non H
section
variable {X : Cx} {pins : List (Addr × Obj)} {σ : L2.St}
/-- the error is let go, it has no dict -/
theorem mk_bare {H1 H2 : Hp} {hp hq h2 : Heap} {g1 g2 : Array GenState} {d1 d2 : Drawn} {t1 t2 : Nat} {os1 os2 : OsState} {a C : Addr} (I1 : Inv X pins σ H1 ⟨hp, g1, d1, t1, os1⟩) (ha : hp.objs.size ≤ a) (k : ∀ b o, hp.get? b = some o → hq.get? b = some o)
    (un : Un (frs X.stack) [] (upd H1 a (exo a C none)) H2 hq h2) (hok : HOk X.prog X.w H2 h2) (ho : os2 = os1) (hb : AllBare g2) (ea : H2 a = some (exo a C none)) :
    ∃ (t0 : Addr) (G : Heap), Inv X pins σ (del H2 a) ⟨G, g2, d2, t2, os2⟩ ∧ (∀ b o, G.get? b = some o → h2.get? b = some o) ∧ G.get? a = none ∧
      h2.get? a = some ({ cls := .ref C, dict := none, data := .fields #[.ref t0, .none, .none, .none, .bool false, .none] } : Obj) ∧ (del H2 a) a = none := by
  obtain ⟨t0, oe⟩ := exo_at hok ea
  have fresh : H1 a = none := I1.hok.fresh ha
  obtain ⟨G, q1, q2⟩ := restrict h2 fun b => decide (b ≠ a)
  have sm : ∀ b, b ≠ a → G.get? b = h2.get? b := fun b n => q1 b (decide_eq_true n)
  have no : G.get? a = none := q2 a (by simp)
  have ne : ∀ {b : Addr} {o : Obj}, hp.get? b = some o → b ≠ a := fun {b o} z => Nat.ne_of_lt (Nat.lt_of_lt_of_le (Heap.lt_size z) ha)
  have out : ∀ {b : Addr}, b ≠ a → H1 b = none → upd H1 a (exo a C none) b = none := fun {b} n z => (upd_ne n).trans z
  have U : Un (frs X.stack) [] H1 (del H2 a) hp G :=
    { keep := fun b o z n hf hx => (sm b (ne z)).trans (un.keep b o (k b o z) (out (ne z) n) hf hx)
      slot := fun b o z n hf hx => (un.slot b o (k b o z) (out (ne z) n) hf hx).imp fun _ e => (sm b (ne z)).trans e
      free := fun b o z n hx => (del_ne (ne z)).trans (un.free b o (k b o z) (out (ne z) n) hx)
      there := fun b o z hx => (un.there b o (k b o z) hx).imp fun _ e => (sm b (ne z)).trans e
      tups := fun b xs z => (del_ne (ne_of_none z fresh)).trans (un.tups b xs ((upd_ne (ne_of_none z fresh)).trans z))
      frzs := fun b o v z => (del_ne (ne_of_none z fresh)).trans (un.frzs b o v ((upd_ne (ne_of_none z fresh)).trans z))
      tbls := fun b ps z => (un.tbls b ps ((upd_ne (ne_of_none z fresh)).trans z)).imp fun _ e => (del_ne (ne_of_none z fresh)).trans e }
  have hok3 : HOk X.prog X.w (del H2 a) G := fun b o z => by
    have hba : b ≠ a := fun e => by rw [e, del_same] at z; cases z
    rw [del_ne hba] at z
    have na : ∀ {c : Addr}, H2 c = some (.own b) → c ≠ a := fun {c} hc => at_ne ea hc exo_own
    refine (hok b o z).stay (fun c v hc y => ?_) (fun c hc => (del_ne (na hc)).trans hc) fun c xs hc => (del_ne (at_ne ea hc exo_tup)).trans hc
    rcases hc with rfl | hc
    · exact (sm _ hba).trans y
    · exact (sm _ (na hc)).trans y
  have J : Inv X pins σ (del H2 a) ⟨G, g2, d2, t2, os2⟩ := I1.call' (ch := []) ho U hok3 hb (fun b z => absurd z (by simp))
  refine ⟨t0, G, J, fun b o z => ?_, no, oe, del_same⟩
  by_cases hba : b = a
  · rw [hba, no] at z; cases z
  · exact (sm b hba).symm.trans z
variable {x : Str} {C fI : Addr} {k : Nat} {fd : FuncData} {ps : List Str} {p pos : Pos} {CX : CXT}
def tMk0 (C : Addr) (sp : Sp) : L2.St → Hp → XK → Prop := fun σ H Q => ∀ a, H a = none → sp [.ref a] (upd H a (exo a C none)) (fun v H2 => v = .non ∧ H2 a = some (exo a C none) ∧ Q (.ref C) none (del H2 a)) (fun _ _ _ => False)
/-- C() -/
theorem pmk_bare {sp : Sp} (T : OexC X.K C) (iC : PySem.W.findIn X.K (.ref C) "__init__" = some (some (.ref fI))) (tI : PySem.W.typeIn X.K (.ref fI) = some (.type "function")) (F1 : FnOk X.prog X.w X.K X.mg X.base CX k fI fd ps sp) (hr : Room (k + 1) X.A) (hb : Binds X.K fd ps [])
    (hx : Passes CX X (fun _ _ _ => False)) (hg : Gl X x) (hm : X.mg x = some (.ref C)) (hdb : (x == ("__debug__" : Str)) = false := by decide) : PMk X (.Call (.Name x p) [] [] pos) (tMk0 C sp) := by
  intro pins s σ H Q I h
  obtain ⟨nm, q, N, bs, bm, sn, sub, ab, col, dd, k0, k1, k2, k3, k5, hC, hbm⟩ := T.cls
  refine wpAny_Call_Name_kw (ld_glob I hg hm ?_ hdb)
  refine PySem.W.callWith_K0 I.kIn T.kC ?_
  show wpAny _ _ (call (.ref C) []) _ _ _
  obtain ⟨hp, g, dr, tk, os⟩ := s
  have hsz : hp.objs.size ≤ hp.objs.size + 1 := Nat.le_succ _
  have hq := h (hp.objs.size + 1) (I.hok.fresh hsz)
  have kk : ∀ b o, hp.get? b = some o → ((hp.push (PySem.W.kdv_tup [])).push (PySem.HandSPX.excO C hp.objs.size)).get? b = some o := fun b o e => Heap.get?_push_of_some _ (Heap.get?_push_of_some _ e)
  have hget : ((hp.push (PySem.W.kdv_tup [])).push (PySem.HandSPX.excO C hp.objs.size)).get? (hp.objs.size + 1) = some (PySem.HandSPX.excO C hp.objs.size) := by heap_get
  have I2 : Inv X pins σ (upd H (hp.objs.size + 1) (exo (hp.objs.size + 1) C none)) ⟨(hp.push (PySem.W.kdv_tup [])).push (PySem.HandSPX.excO C hp.objs.size), g, dr, tk, os⟩ :=
    I.laid (t' := tk) (a := hp.objs.size + 1) (o := exo (hp.objs.size + 1) C none) (h' := (hp.push (PySem.W.kdv_tup [])).push (PySem.HandSPX.excO C hp.objs.size)) kk hsz (exo_ok hget)
  have r2 : Vals [V.ref (hp.objs.size + 1)] [Value.ref (hp.objs.size + 1)] := .cons rfl .nil
  have hl : [Value.ref (hp.objs.size + 1)].length = ps.length := by
    have e := r2.length
    rw [F1.len _ _ _ _ hq] at e
    exact e.symm
  have hb' := hb ⟨(hp.push (PySem.W.kdv_tup [])).push (PySem.HandSPX.excO C hp.objs.size), g, dr, tk, os⟩ [Value.ref (hp.objs.size + 1)] I2.kIn (by simpa using hl)
  rw [List.append_nil] at hb'
  refine wpAny_call (PySem.HandSPX.call_own F.excBase_ValueError (fun Y => PySem.HandSPX.refsVE_contains Y bm hbm) (I.kIn _ _ hC) (PySem.W.looks_findIn I.kIn iC) (fun self => PySem.W.bind_fn I.kIn self tI) (Nat.zero_le _)
    (codeAny_mono (F1.run _ X.stack _ _ ⟨[Value.ref (hp.objs.size + 1)], []⟩ [Value.ref (hp.objs.size + 1)] _ _ (fun _ _ _ => False) (hr.make C [] []) (I2.env0.make C [] []) hb' r2 hq) fun r s' hq' => ?_))
  cases r with
  | error er => exact hx pins σ _ _ er s' I2 hq'
  | ok fl =>
    cases fl with
    | ret u =>
      obtain ⟨v, H2, os2, bare2, un2, hok2, rv, ev, ea, q2⟩ := hq'
      subst ev
      obtain ⟨h2, g2, d2, t2, os'⟩ := s'
      obtain ⟨t0, G, J, kG, ge, hoe, na⟩ := mk_bare (d2 := d2) (t2 := t2) I hsz kk un2 hok2 os2 bare2 ea
      exact ⟨rv, hp.objs.size + 1, _, _, ⟨G, g2, d2, t2, os'⟩, _, .ref C, none, rfl, J, kG, ge, hoe, ⟨rfl, rfl⟩, rfl, rfl, na, rfl, bare2, raises_own T.exC T.tyC, q2⟩
    | next => exact False.elim hq'
    | brk => exact False.elim hq'
    | cont => exact False.elim hq'
end
section
variable {P : PySem.Program} {w : World} {K : PySem.W.Frag} {mg : Str → Option Value} {base : Heap} {x qual msg : Str} {st : Stmt} {fI C CS : Addr} {fd : FuncData} {k : Nat}
/-- def __init__(self): S.__init__(self, msg) -/
theorem xinit0_ok {p1 p2 p3 p4 p5 p6 : Pos} {j} {pl : Env → Sem Bool} (Fu : Fun K "__init__" qual st fI fd) (S : FnScope ["self"] ["self"] (defScope st)) (V : Dv K mg x CS)
    (hb : defBody st = [.Expr (.Call (.Attribute (.Name x p1) "__init__" p2) [.Name "self" p3, .Constant (.str msg) j p4] [] p5) p6])
    (hx : (defScope st).names.lookup x = some .globalImplicit) (h1 : (defScope st).names.lookup ("self" : Str) = some .local) (hdb : (x == ("__debug__" : Str)) = false)
    (hc : ∀ env : Env, eval (.Call (.Attribute (.Name x p1) "__init__" p2) [.Name "self" p3, .Constant (.str msg) j p4] [] p5) env = (do
      let ov ← eval (.Name x p1) env
      standAt p2.atName
      let (f, first) ← holding [ov] (getMethod ov "__init__" (pl env))
      callWith p5 f first (backTo p5 (starEach [.Name "self" p3, .Constant (.str msg) j p4] env)) (backToKw p5 (keywordEach [] env)))) :
    FnOk P w K mg base (L2.CX P w) (k + 1) fI fd ["self"] (spX0 K) :=
  Fu.okX S (fun vs H Q E h => by obtain ⟨a, C, rfl, _⟩ := h; rfl) fun cdv A outer s H vs Q E hr h => by
    rw [hb]
    obtain ⟨a, C, rfl, T, e0, hq⟩ := h
    have vS : PE (XC P w K mg base ["self"] qual (defScope st) fI cdv A outer s H E) (.Name "self" p3) (tVar 0) := pe_var rfl (Or.inl h1) (by decide) (by decide)
    have s1 : PS (XC P w K mg base ["self"] qual (defScope st) fI cdv A outer s H E) (.Expr (.Call (.Attribute (.Name x p1) "__init__" p2) [.Name "self" p3, .Constant (.str msg) j p4] [] p5) p6) _ :=
      ps_expr (pe_veinitC (pl := pl _) V hx (pa_cons vS (pa_cons pe_str pa_nil)) hdb (hc _)) rfl
    refine ⟨_, pss_one s1, ?_⟩
    exact ⟨.ref a, rfl, a, C, [.str msg], rfl, by simp, T, e0, hq⟩
structure Dx0 (P : PySem.Program) (w : World) (K : PySem.W.Frag) (mg : Str → Option Value) (base : Heap) (k : Nat) (x : Str) (C : Addr) : Prop where
  ex : ∃ (fI : Addr) (fd : FuncData) (ps : List Str), FnOk P w K mg base (L2.CX P w) k fI fd ps (spX0 K) ∧ Binds K fd ps [] ∧ PySem.W.findIn K (.ref C) "__init__" = some (some (.ref fI)) ∧ PySem.W.typeIn K (.ref fI) = some (.type "function")
  oc : OexC K C
  mg_ : mg x = some (.ref C)
end
def mRaise0 (C : Addr) : DS := fun ρ => .ex ⟨C, []⟩ ρ
section
variable {X : Cx} {W : WX} {x : Str} {C : Addr} {p pos pos2 : Pos} {k j : Nat}
theorem fs_raise0 (hc : X.calm = true) (ct : Ct X W) (D : Dx0 X.prog X.w X.K X.mg X.base k x C) (hr : Room j X.A) (hk : k + 1 ≤ j := by decide) (hg : Gl X x := by rfl) (hdb : (x == ("__debug__" : Str)) = false := by decide) :
    SS X W (.Raise (some (.Call (.Name x p) [] [] pos2)) none pos) (mRaise0 C) := by
  obtain ⟨fI, fd, ps, F, hb, h1, h2⟩ := D.ex
  refine ps_weak (ps_raise hc ct.ts (pmk_bare (p := p) D.oc h1 h2 F (hr.mono hk) hb passL hg D.mg_ hdb)) fun Dn σ H ⟨B, ρ, G, α, r, h⟩ => ?_
  intro a ha
  refine ⟨a, C, rfl, D.oc, upd_same, rfl, upd_same, ?_⟩
  have eH : del (upd H a (exo a C none)) a = H := by
    funext b
    by_cases hb : b = a
    · subst hb; rw [del_same, ha]
    · rw [del_ne hb, upd_ne hb]
  rw [eH]
  exact h σ H G α none Gr.refl r (.inl ⟨rfl, rfl⟩)
end
end FL
namespace FL
open PySem L2 PyProof.Rows
variable [TabPar]
theorem dkGet_none {K : PySem.W.Frag} {G : Hp} : ∀ {ks : List Key} {ts : List T} {vs : List V} {q : Key}, ks.length = vs.length → Rps K G ts vs → dkGet ks ts q = none → valV (ks.zip vs) q = none
  | [], _, _, _, _, _, _ => rfl
  | k :: ks, [], vs, q, hl, h, e => by
    simp only [Rps] at h; subst h; simp at hl
  | k :: ks, u :: ts, vs, q, hl, h, e => by
    simp only [Rps] at h
    obtain ⟨v, ws, rfl, h1, h2⟩ := h
    simp only [dkGet] at e
    by_cases hk : k = q
    · rw [if_pos hk] at e; cases e
    · rw [if_neg hk] at e
      rw [List.zip_cons_cons, valV_neg (p := (k, v)) hk]
      exact dkGet_none (by simpa using hl) h2 e
section
variable {X : Cx} {W : WX} {o e f : Expr} {mo mk mv : DE} {pos apos : Pos}
def getKF (x : Option T) (u z : U) : Option U := match x, u with
  | some (.dk ks ts), .d k => match keyT k with
    | some q => match dkGet ks ts q with
      | some t => some (.d t)
      | none => some z
    | none => none
  | _, _ => none
def mGetK (mo mk mv : DE) : DE := fun ρ => (mo ρ).bind fun o ρ1 => match pk ρ1.st o with
  | some (.dk _ _) => (mk ρ1).bind fun u ρ2 => (mv ρ2).bind fun z ρ3 => match getKF (pk ρ3.st o) u z with
    | some r => .ok r ρ3
    | none => .no
  | _ => .no
theorem fe_getK (hu : X.A.units + 1 < cLine) (ho : SE X W o mo) (he : SE X W e mk) (hf : SE X W f mv) (m : M2 X o "get" apos e f pos) : SE X W (.Call (.Attribute o "get" apos) [e, f] [] pos) (mGetK mo mk mv) := by
  refine pe_weak (pe_dget2 hu ho he hf m) fun σ H Q ⟨B, ρ, G, α, r, h⟩ => ?_
  refine bE r h fun uo ρ1 x H1 G1 α1 g1 r1 p1 h1 => ?_
  split at h1
  · rename_i ks1 ts1 e1
    obtain ⟨a, vs1, rfl, z1, _, _⟩ := pk_ok r1.toRh p1 e1
    refine ⟨a, rfl, .inl ⟨_, .inl z1⟩, ?_⟩
    refine bE r1 h1 fun u ρ2 y H2 G2 α2 g2 r2 p2 h2 => ?_
    refine bE r2 h2 fun uz ρ3 z H3 G3 α3 g3 r3 p3 h3 => ?_
    split at h3
    · rename_i rr er
      unfold getKF at er
      split at er
      · rename_i _ _ ks ts kt epk
        split at er
        · rename_i q eq
          obtain ⟨a', vs, ea, z2, k1, k2⟩ := pk_ok r3.toRh (p1.mono (g2.trans g3)) epk
          cases ea
          have hy := keyT_ok (Rp1.of r2.gh p2) eq
          subst hy
          refine ⟨_, DGet.k z2, ?_⟩
          split at er
          · rename_i t et
            simp only [Option.some.injEq] at er
            subst er
            obtain ⟨v, hv1, hv2⟩ := dkGet_ok k2 et
            rw [hv1]
            exact fin_d r3 h3 hv2
          · rename_i en
            simp only [Option.some.injEq] at er
            subst er
            rw [dkGet_none k1 k2 en]
            exact h3 G3 α3 H3 Gr.refl r3 _ p3
        · cases er
      · cases er
    · exact h3.elim
  · exact h1.elim
end
end FL
namespace FL
open PySem L2 PyProof.Rows
end FL
namespace L2
open PySem PySem.Spec PyProof.Rows
/-- a def's promise where no guard is under way -/
structure FnK (P : Program) (w : World) (K : PySem.W.Frag) (mg : Str → Option Value) (base : Heap) (CX : CXT) (k : Nat) (f : Addr) (fd : FuncData) (ps : List Str) (sp : Sp) : Prop where
  len : ∀ vs H Q E, sp vs H Q E → vs.length = ps.length
  run : ∀ (A : Around) (outer : List Env) (s : Shared) (H : Hp) (args : Args) (us : List Value) (vs : List V) (Q : VK) (E : XK), Room k A → A.guards = some [] → Env0 P w K mg base A outer s H → BindsTo s fd args (ps.zip us) → Vals vs us → sp vs H Q E →
    codeAny (model P w) A (.call (.ref f) args) (CR CX outer P w H s Q E) s
section
variable {P : Program} {w : World} {K : PySem.W.Frag} {mg : Str → Option Value} {base : Heap} {CX : CXT} {j k : Nat} {f : Addr} {fd : FuncData} {ps : List Str} {sp sp' : Sp}
theorem FnK.mono (F : FnK P w K mg base CX j f fd ps sp) (h : j ≤ k) : FnK P w K mg base CX k f fd ps sp := ⟨F.len, fun A outer s H args us vs Q E hr => F.run A outer s H args us vs Q E (hr.mono h)⟩
theorem FnK.imp (F : FnK P w K mg base CX k f fd ps sp) (h : ∀ vs H Q E, sp' vs H Q E → sp vs H Q E) : FnK P w K mg base CX k f fd ps sp' :=
  ⟨fun vs H Q E q => F.len vs H Q E (h _ _ _ _ q), fun A outer s H args us vs Q E hr hg he hb hv hs => F.run A outer s H args us vs Q E hr hg he hb hv (h _ _ _ _ hs)⟩
end
section
variable {X : Cx} {CX : CXT} {k : Nat} {f C : Addr} {fd : FuncData} {ps : List Str} {sp : Sp} {E : St → XK} {e o : Expr} {es : List Expr} {t : TA} {ta : TE} {x m : Str} {p pos apos : Pos}
theorem run_fnGS {pins : List (Addr × Obj)} {σ : St} {H : Hp} {s : Shared} {Q : VK} {us : List Value} {vs : List V} (F : FnK X.prog X.w X.K X.mg X.base CX k f fd ps sp) (hr : Room k X.A) (hgd : X.A.guards = some []) (hb : Binds X.K fd ps []) (hx : PassesAt CX X σ (E σ))
    (I : Inv X pins σ H s) (r : Vals vs us) (h : sp vs H Q (E σ)) : wpAny (model X.prog X.w) X.A (call (.ref f) us) (EP X pins σ Q) X.xe s := by
  have hl : us.length = ps.length := by rw [← r.length]; exact F.len _ _ _ _ h
  have b := hb s us I.kIn (by rw [List.append_nil]; exact hl)
  rw [List.append_nil] at b
  refine wpAny_call (codeAny_mono (F.run X.A X.stack s H ⟨us, []⟩ us vs Q (E σ) hr hgd I.env0 b r h) fun r s' hq => ?_)
  cases r with
  | error e => exact hx pins H s e s' I hq
  | ok fl =>
    cases fl with
    | ret u => exact I.after hq
    | next => exact False.elim hq
    | brk => exact False.elim hq
    | cont => exact False.elim hq
theorem pe_callGS (F : FnK X.prog X.w X.K X.mg X.base CX k f fd ps sp) (hr : Room k X.A) (hgd : X.A.guards = some []) (hg : Gl X x) (hm : X.mg x = some (.ref f)) (hk : PySem.W.keepIn X.K (.ref f) = true) (hb : Binds X.K fd ps []) (hx : ∀ σ, PassesAt CX X σ (E σ))
    (ha : PA X (e :: es) t) (hdb : (x == ("__debug__" : Str)) = false := by decide) (he : starEach (e :: es) X.env = (false, eval e X.env) :: starEach es X.env := by rfl) (hpl : (backTo pos (starEach es X.env)).any (·.1) = false := by rfl) :
    PE X (.Call (.Name x p) (e :: es) [] pos) (tCallS sp E t) := by
  refine ⟨fun pins s σ H Q I h => ?_⟩
  refine wpAny_Call_Name_kw (ld_glob I hg hm ?_ hdb)
  refine PySem.W.callWith_K (h₀ := X.base) I.ok.mod.kin hk (thn (ha.run pos pins s σ H _ I h) fun us s1 ⟨vs, H1, I1, r, q⟩ => ⟨I1.kIn, ?_⟩) he hpl
  exact run_fnGS F hr hgd hb (hx σ) I1 r q
end
theorem fn_ofG {CX : CXT} {P : Program} {w : World} {K : PySem.W.Frag} {mg : Str → Option Value} {base : Heap} {k : Nat} {f : Addr} {name qual : Str} {params : Arguments} {body : List Stmt} {scope : Scope} {dV kV doc pm cdv ct oc : Value} {an od : Option Addr}
    {osl : Array (Option Value)} {N ps : List Str} {sp : Sp} (lk : K.lookup f = some ⟨oc, od, .func (PySem.W.fnOf name qual params body scope dV kV doc pm an cdv ct), osl⟩) (hcd : PySem.W.codeIn K cdv qual = true) (S : FnScope N ps scope)
    (len : ∀ vs H Q E, sp vs H Q E → vs.length = ps.length)
    (hbody : ∀ (A : Around) (outer : List Env) (s : Shared) (H : Hp) (vs : List V) (Q : VK) (E : XK), Room k (A.deeper (envOfC qual scope s.heap.objs.size f cdv)) → (A.deeper (envOfC qual scope s.heap.objs.size f cdv)).guards = some [] → sp vs H Q E →
      ∃ t, PSs (cxOf CX P w K mg base N qual scope f cdv A outer s H E) body t ∧ t { nx := fun _ H' => Q .non H', rt := Q } (start N vs) H) :
    FnK P w K mg base CX (k + 1) f (PySem.W.fnOf name qual params body scope dV kV doc pm an cdv ct) ps sp := by
  refine ⟨len, fun A outer s H args us vs Q E hr hgd e0 hb r hsp => ?_⟩
  have hl := len _ _ _ _ hsp
  have KX : K.In s.heap := e0.mod.kin.keeps fun b o e => (e0.bs b o e).1
  have lim : s.heap.NoLimit := e0.mod.nolimit.keeps fun b o e => (e0.bs b o e).1
  have hkind : ∀ y ∈ ps.zip us, scope.names.lookup y.1 = some .local ∨ (scope.names.lookup y.1 = some .cell ∧ ((cellsFrom (s.heap.objs.size + 1) scope.names []).lookup y.1).isSome = true) := fun ⟨n, v⟩ hy => by
    rcases S.par n (List.of_mem_zip hy).1 with q | q
    · exact .inl q
    · exact .inr ⟨q, PySem.W.cellsFrom_some _ _ _ (.inl q)⟩
  refine codeAny_call_function hr.depth (KX _ _ lk) rfl S.co S.gen rfl (PySem.W.codeRec_of KX hcd) (hb _ _ _ _ ?_)
  refine wpAny_newFunctionEnv_cells S.kind hkind fun env he s1 x => ?_
  subst he
  refine ⟨lim.keeps x.toInCall.keep, codeAny_func ?_⟩
  obtain ⟨t, ht, hq⟩ := hbody A outer s H vs Q E (hr.deeper _) hgd hsp
  have I : Inv (cxOf CX P w K mg base N qual scope f cdv A outer s H E) [] (start N vs) H s1 := inv_start S hr.hd e0 hl r x
  refine wpAny_mono (ht.run [] s1 (start N vs) H _ I hq) (fun fl s' hs => ?_) fun e s' hs => hs
  have fin : ∀ {σ' : St} {H' : Hp} {v : V} {u : Value}, Inv (cxOf CX P w K mg base N qual scope f cdv A outer s H E) [] σ' H' s' → RelV v u → Q v H' → CE outer P w H s Q u s' :=
    fun {σ' H' v u} J rv q => ⟨v, H', J.os, J.bare, J.base, J.hok, rv, q⟩
  cases fl with
  | ret u =>
    obtain ⟨v, σ', H', J, rv, q⟩ := hs
    exact fin J rv q
  | next =>
    obtain ⟨σ', H', J, q⟩ := hs
    exact fin (v := V.non) (u := Value.none) J rfl q
  | brk =>
    obtain ⟨σ', H', J, q⟩ := hs
    exact False.elim q
  | cont =>
    obtain ⟨σ', H', J, q⟩ := hs
    exact False.elim q
theorem Fun.okXG {P : Program} {w : World} {K : PySem.W.Frag} {mg : Str → Option Value} {base : Heap} {x qual : Str} {st : Stmt} {f : Addr} {fd : FuncData} {N ps : List Str} {k : Nat} {sp : Sp} (F : Fun K x qual st f fd) (S : FnScope N ps (defScope st)) (len : ∀ vs H Q E, sp vs H Q E → vs.length = ps.length)
    (hbody : ∀ (cdv : Value) (A : Around) (outer : List Env) (s : Shared) (H : Hp) (vs : List V) (Q : VK) (E : XK), Room k (A.deeper (envOfC qual (defScope st) s.heap.objs.size f cdv)) → (A.deeper (envOfC qual (defScope st) s.heap.objs.size f cdv)).guards = some [] → sp vs H Q E →
      ∃ t, PSs (cxOf (L2.CX P w) P w K mg base N qual (defScope st) f cdv A outer s H E) (defBody st) t ∧ t { nx := fun _ H' => Q .non H', rt := Q } (start N vs) H) : FnK P w K mg base (L2.CX P w) (k + 1) f fd ps sp := by
  obtain ⟨oc, od, kV, doc, pm, an, cdv, ct, osl, rfl, lk, hcd⟩ := F.ex
  exact fn_ofG lk hcd S len fun A outer s H vs Q E hr hgd hsp => hbody cdv A outer s H vs Q E hr hgd hsp
end L2
namespace FL
open PySem L2 PyProof.Rows
variable [TabPar]
section
variable {P : Program} {w : World} {K : PySem.W.Frag} {mg : Str → Option Value} {base : Heap} {x qual : Str} {st : Stmt} {f : Addr} {fd : FuncData} {N ps : List Str} {k n : Nat} {m : DS}
/-- a body where no guard is under way -/
abbrev BodyK (P : Program) (w : World) (K : PySem.W.Frag) (mg : Str → Option Value) (base : Heap) (N : List Str) (qual : Str) (f : Addr) (k : Nat) (sc : Scope) (b : List Stmt) (m : DS) : Prop :=
  ∀ (cdv : Value) (A : Around) (outer : List Env) (s : Shared) (H : Hp) (E : XK), Room k (XC P w K mg base N qual sc f cdv A outer s H E).A → (XC P w K mg base N qual sc f cdv A outer s H E).A.guards = some [] → Ct (XC P w K mg base N qual sc f cdv A outer s H E) (Wd E) →
      SSs (XC P w K mg base N qual sc f cdv A outer s H E) (Wd E) b m
theorem fn_denK (Fu : Fun K x qual st f fd) (S : FnScope N ps (defScope st)) (hn : ps.length = n) (hb : BodyK P w K mg base N qual f k (defScope st) (defBody st) m) : FnK P w K mg base (L2.CX P w) (k + 1) f fd ps (spF K n (runD m N.length)) :=
  Fu.okXG S (spF_len hn) fun cdv A outer s H vs Q E hr hgd h => ⟨tS K (Wd E) m, hb cdv A outer s H E hr hgd ⟨tk_of (takes_of rfl rfl rfl rfl), passes_of rfl, takes_of rfl rfl rfl rfl⟩, body_ok h⟩
end
structure DnK (P : Program) (w : World) (K : PySem.W.Frag) (mg : Str → Option Value) (base : Heap) (k : Nat) (x : Str) (n : Nat) (F : Fn) : Prop where
  ex : ∃ (f : Addr) (fd : FuncData) (ps : List Str), FnK P w K mg base (L2.CX P w) k f fd ps (spF K n F) ∧ mg x = some (.ref f) ∧ PySem.W.keepIn K (.ref f) = true ∧ Binds K fd ps []
section
variable {X : Cx} {W : WX} {e : Expr} {es : List Expr} {da : DA} {pos p : Pos} {k j n : Nat} {x : Str} {F : Fn}
theorem fe_callK (tk : Tk X W) (D : DnK X.prog X.w X.K X.mg X.base k x n F) (cs : List Bool) (hr : Room j X.A) (hgd : X.A.guards = some []) (ha : SA X W (e :: es) da) (hk : k ≤ j := by decide) (hg : Gl X x := by rfl)
    (hdb : (x == ("__debug__" : Str)) = false := by decide) (he : starEach (e :: es) X.env = (false, eval e X.env) :: starEach es X.env := by rfl) (hpl : (backTo pos (starEach es X.env)).any (·.1) = false := by rfl)
    : SE X W (.Call (.Name x p) (e :: es) [] pos) (mCall n F cs da) := by
  obtain ⟨f, fd, ps, fo, hm, hkp, hb⟩ := D.ex
  exact pe_weak (pe_callGS fo (hr.mono hk) hgd hg hm hkp hb tk ha hdb he hpl) tCallS_of
end
end FL
namespace L2
open PySem PySem.Spec PyProof.Rows
end L2
namespace FL
open PySem L2 PyProof.Rows
variable [TabPar]
structure MnK (P : Program) (w : World) (K : PySem.W.Frag) (mg : Str → Option Value) (base : Heap) (k : Nat) (C : Addr) (m : Str) (n : Nat) (F : Fn) : Prop where
  ex : ∃ (f : Addr) (fd : FuncData) (ps : List Str), FnK P w K mg base (L2.CX P w) k f fd ps (spF K n F) ∧ Cls K C ∧ Meth K C m f ∧ Binds K fd ps []
end FL
namespace FL
open PySem L2 PyProof.Rows
variable [TabPar]
structure ShwOk (d : PyData) : Prop where
  sh : d.showable = true
  nd : d.hasDict = false
  dp : d.depth ≤ 60
  ln : d.shown.length ≤ sizeLine
open Classical in
noncomputable def strF : List T → Option O
  | [.tup ts] => match (T.tup ts).py with
    | some d => if ShwOk d then some (.d (.str d.shown)) else none
    | none => none
  | _ => none
def rStrD (K : PySem.W.Frag) : List V → Hp → VK → Prop := fun xs H Q => ∃ (a : Addr) (t : T) (G : Hp) (d : PyData), xs = [.ref a] ∧ Ex G H ∧ Rp K G t (.ref a) ∧ t.py = some d ∧ ShwOk d ∧ Q (.str d.shown) H
section
variable {X : Cx}
theorem cr_strD (hu : X.A.units + 64 < cLine) (hg : X.A.guards = some []) : CallR X (.type "str") (rStrD X.K) := by
  intro pins s σ H xs us Q I r h
  obtain ⟨a, t, G, d, rfl, g, hr, e, ok, q⟩ := h
  obtain ⟨as, rd⟩ := Dp.reads I d (.ref a) _ (dp_of (Rp.mono g hr) e) (by exact rfl)
  rw [Vals.ref1 r]
  refine str_of_reads rd ok.sh (PyData.noDict_hsm ok.nd) hg (by have := ok.dp; omega) (fun _ _ e => e) (fun h' u tk hk => ?_) ok.ln
  exact ⟨.str d.shown, H, I.kept hk, ⟨u, rfl⟩, q⟩
theorem strD_ok {K : PySem.W.Frag} : CaK K (rStrD K) strF := by
  intro W B ρ G α σ H Q xs vs rs p q
  unfold strF at q
  split at q
  · rename_i ts
    obtain ⟨v, ws, rfl, q2, rfl⟩ := p
    split at q
    · rename_i d e
      split at q
      · rename_i ok
        have q3 : Rp K G (.tup ts) v := q2
        obtain ⟨a, us, rfl, h1, h2⟩ := id q3
        exact ⟨a, .tup ts, G, d, rfl, rs.gh, q3, e, ok, fin_d rs q (by simp [Rp])⟩
      · exact q.elim
    · exact q.elim
  · exact q.elim
variable {W : WX} {e : Expr} {da : DA} {pos : Pos}
theorem fe_strT {p : Pos} (hu : X.A.units + 64 < cLine) (hgd : X.A.guards = some []) (hg : Gl X "str") (hm : X.mg "str" = none) (ha : SA X W [e] da) (he : starEach [e] X.env = [(false, eval e X.env)] := by rfl) : SE X W (.Call (.Name "str" p) [e] [] pos) (mCa strF da) :=
  fe_callTy (cr_strD hu hgd) strD_ok hg hm (by decide +kernel) ha (by decide) (by decide) he rfl
end
end FL
namespace L2
open PySem PySem.Spec PyProof.Rows
theorem law_callK {P : Program} {w : World} {K : PySem.W.Frag} {mg mb : Str → Option Value} {CX : CXT} {k : Nat} {fa a : Addr} {fd : FuncData} {x : Str} {sp : Sp} {s₁ : Shared} {vs : List Value} {ns : List Int}
    (KX : K.In s₁.heap) (hns : s₁.heap.Ns mainGlobals mg) (hb : s₁.heap.Ns builtinsNs mb) (hbb : ∀ x : Str, x ≠ "__name__" → mb x = bootBuiltins x) (hlim : s₁.heap.NoLimit) (hg : s₁.gens = #[])
    (ha : s₁.heap.get? a = some { cls := .type "list", data := .seq vs.toArray }) (hi : IntsAre vs ns) (hl : ns.length ≤ sizeLine) (hr : Room k callerA)
    (F : ∀ base : Heap, K.In base → base.Ns mainGlobals mg → FnK P w K mg base CX k fa fd [x] sp) (hbind : ∀ (s : Shared) (u : Value), BindsTo s fd ⟨[u], []⟩ [(x, u)])
    (hsp : ∀ H : Hp, Only H → SqL K H a (ns.map V.int) → sp [.ref a] H (fun v _ => v = .bl true) fun _ _ _ => False)
    (hCX : ∀ H e s', CX [] H s₁ (fun _ _ _ => False) e s' → False) :
    codeAny (model P w) callerA (.call (.ref fa) ⟨[.ref a], []⟩) (fun r s' => r = .ok (.ret (.bool true)) ∧ OldK s₁.heap s'.heap ∧ s'.os = s₁.os ∧ AllBare s'.gens) s₁ := by
  have rv := vals_ints hi
  have lenV := hi.length
  -- from an abstract heap in which nothing but the script may be tracked
  have core : ∀ H : Hp, Only H → SqL K H a (ns.map V.int) → HOk P w H s₁.heap → (∀ b, H b ≠ none → b = a) → (H a ≠ none → K.lookup a = none) →
      codeAny (model P w) callerA (.call (.ref fa) ⟨[.ref a], []⟩) (fun r s' => r = .ok (.ret (.bool true)) ∧ OldK s₁.heap s'.heap ∧ s'.os = s₁.os ∧ AllBare s'.gens) s₁ := by
    intro H hO hS hok hA hK
    have base_of : ∀ {b : Addr} {o : Obj}, s₁.heap.get? b = some o → H b = none → (hidT s₁.heap H).get? b = some o := fun e n => hidT_get e n
    have noA : ∀ {b : Addr} {o : Obj} {es : Array DictEntry} {ep : Nat}, s₁.heap.get? b = some o → o.data = .dict es ep → H b = none := fun {b o es ep} e d => by
      cases q : H b with
      | none => rfl
      | some u =>
        have e' : b = a := hA b (by rw [q]; simp)
        subst e'
        rw [ha] at e; cases e
        have d' : Data.seq vs.toArray _ = Data.dict es ep := d
        cases d'
    have nsK : ∀ {b : Addr} {m : Str → Option Value}, s₁.heap.Ns b m → (hidT s₁.heap H).Ns b m := fun {b m} ⟨o, es, ep, e, d, r⟩ => ⟨o, es, ep, base_of e (noA e d), d, r⟩
    have hKb : K.In (hidT s₁.heap H) := fun b o e => base_of (KX b o e) (by
      cases q : H b with
      | none => rfl
      | some u =>
        have e' : b = a := hA b (by rw [q]; simp)
        subst e'
        rw [hK (by rw [q]; simp)] at e; cases e)
    have hM : Mod K mg (hidT s₁.heap H) := ⟨hKb, nsK hns, ⟨mb, nsK hb, hbb⟩, let ⟨mc, h1, h2⟩ := hlim; ⟨mc, nsK h1, h2⟩⟩
    have e0 : Env0 P w K mg (hidT s₁.heap H) callerA [] s₁ H := ⟨rfl, hM, fun b o e => of_hidT e, Nat.le_of_eq (hidT_size _ _), trivial, fun b hb => absurd (show b ∈ ([] : List Addr) from hb) (by simp), hok, .of_eq hg⟩
    refine codeAny_mono ((F _ hKb (nsK hns)).run callerA [] s₁ H ⟨[.ref a], []⟩ [.ref a] [.ref a] _ _ hr rfl e0 (hbind s₁ (.ref a)) (.cons rfl .nil) (hsp H hO hS)) fun r s' h => ?_
    cases r with
    | error e => exact (hCX H e s' h).elim
    | ok fl =>
      cases fl with
      | next => exact False.elim h
      | brk => exact False.elim h
      | cont => exact False.elim h
      | ret u =>
        obtain ⟨v, H', os, bare, un, hok', r', q⟩ := h
        have q' : v = .bl true := q
        subst q'
        obtain rfl : u = Value.bool true := r'
        refine ⟨rfl, OldK.of_keep fun b o e => ?_, os, bare⟩
        cases q : H b with
        | none => exact un.keep b o e q (by intro z; exact absurd (show b ∈ ([] : List Addr) from z) (by simp)) (by simp)
        | some u =>
          rcases hO b with z | ⟨ob, xs, z⟩
          · rw [q] at z; cases z
          · have z2 := un.frzs b ob _ z
            obtain ⟨e1, _⟩ := hok b _ z
            obtain ⟨e2, _⟩ := hok' b _ z2
            rw [e] at e1; cases e1
            exact e2
  cases hk : K.lookup a with
  | some o =>
    -- the script is one of the module's own objects
    have e := KX a o hk
    rw [ha] at e
    cases e
    refine core (fun _ => none) (fun _ => .inl rfl) (.inr ⟨_, vs.toArray, _, hk, rfl, rfl, rfl, by rw [List.size_toArray, lenV]; exact hl, by simpa using rv⟩) (fun b u z => by have z' : (none : Option HO) = some u := z; cases z') (fun b z => absurd rfl z) fun z => absurd rfl z
  | none =>
    refine core (fun b => if b = a then some (.frz { cls := .type "list", data := .seq vs.toArray } (.lst (ns.map V.int))) else none) (fun b => ?_) (.inl (.inr ⟨{ cls := .type "list", data := .seq vs.toArray }, if_pos rfl⟩)) (fun b u z => ?_) (fun b z => ?_) fun _ => hk
    · by_cases hb : b = a
      · exact .inr ⟨_, _, if_pos hb⟩
      · exact .inl (if_neg hb)
    · by_cases hb : b = a
      · have z' := (if_pos hb).symm.trans z
        cases z'
        subst hb
        exact ⟨ha, by rw [List.length_map]; exact hl, vs, _, rv, ha⟩
      · have z' := (if_neg hb).symm.trans z
        cases z'
    · by_cases hb : b = a
      · exact hb
      · exact absurd (if_neg hb) z
theorem walk_ofGd {l : PySem.W.OpenLaw} {n k : Nat} {q : Program} {loose : List Str} {XP : (Str → Option Value) → Heap → Prop} {YP : World → Heap → Prop} {d : DefRec} {K : Params → PySem.W.Frag} {CX : World → CXT} {sp : World → Sp} {x : Str}
    (hn : l.most = some n) (hn2 : n ≤ sizeLine) (hdf : d.params.defaults = []) (hr : Room k callerA)
    (hY : ∀ (w : World) (h : Heap), YP w h → (K w.params).In h)
    (F : ∀ (w : World) (mg : Str → Option Value) (fa : Addr) (h : Heap), (K w.params).In h → h.Ns mainGlobals mg → mg d.name = some (.ref fa) →
      ∃ fd : FuncData, (∀ (s : Shared) (u : Value), BindsTo s fd ⟨[u], []⟩ [(x, u)]) ∧
        ∀ base : Heap, (K w.params).In base → base.Ns mainGlobals mg → FnK l.prog w (K w.params) mg base (CX w) k fa fd [x] (sp w))
    (hsp : ∀ (w : World) (H : Hp) (a : Addr) (ns : List Int), ns.length ≤ n → (∀ z ∈ ns, Builtin.Int.intBits z ≤ 1048576) → Only H → SqL (K w.params) H a (ns.map V.int) → sp w [.ref a] H (fun v _ => v = .bl true) fun _ _ _ => False)
    (hCX : ∀ (w : World) (H : Hp) (s : Shared) (e : Value) (s' : Shared), CX w [] H s (fun _ _ _ => False) e s' → False) :
    PySem.W.WalkO q loose XP YP l.row.toRowW d [] (fun f vs => PySem.call f vs) := by
  refine Att.attach_callB hn hdf fun w s₀ s₁ mg mb fa o pm cd doc a vs ns G Y ho hd hcd hmg hobj hints hlen hbits hg => ?_
  have KX := hY w _ Y
  obtain ⟨fd, hb, hF⟩ := F w mg fa _ KX G.T.g hmg
  exact law_callK KX G.T.g G.T.b G.T.builtins G.T.nolimit hg hobj hints (Nat.le_trans hlen hn2) hr hF hb (fun H hO hS => hsp w H a ns hlen hbits hO hS) fun H e s' => hCX w H s₁ e s'
end L2
namespace FL
open PySem L2 PyProof.Rows
variable [TabPar]
theorem walkK {l : PySem.W.OpenLaw} {k : Nat} {q : Program} {loose : List Str} {XP : (Str → Option Value) → Heap → Prop} {YP : World → Heap → Prop} {d : DefRec} {K : Params → PySem.W.Frag} {x : Str} (hn : l.most = some 63) (hdf : d.params.defaults = []) (hr : Room k callerA)
    (hY : ∀ (w : World) (h : Heap), YP w h → (K w.params).In h) (hP : TabPar.P = none)
    (F : ∀ (w : World) (mg : Str → Option Value) (fa : Addr) (h : Heap), (K w.params).In h → h.Ns mainGlobals mg → mg d.name = some (.ref fa) →
      ∃ fd : FuncData, (∀ (s : Shared) (u : Value), BindsTo s fd ⟨[u], []⟩ [(x, u)]) ∧ ∀ base : Heap, (K w.params).In base → base.Ns mainGlobals mg → FnK l.prog w (K w.params) mg base (L2.CX l.prog w) k fa fd [x] (spL (K w.params))) :
    PySem.W.WalkO q loose XP YP l.row.toRowW d [] (fun f vs => PySem.call f vs) :=
  L2.walk_ofGd (n := 63) (k := k) (x := x) (CX := fun w => L2.CX l.prog w) (sp := fun w => spL (K w.params)) hn (by decide) hdf hr hY F (fun _ _ a ns hl hb _ hS => ⟨a, ns, rfl, hS, hl, hb, fun p hp => (by rw [hP] at hp; cases hp), fun _ => rfl⟩) fun _ _ _ _ _ z => by
    obtain ⟨_, _, _, _, _, _, _, _, _, _, _, _, z⟩ := z
    exact z
end FL
namespace FL
open PySem L2 PyProof.Rows
variable [TabPar]
section
variable {P : Program} {w : World} {K : PySem.W.Frag} {mg : Str → Option Value} {base : Heap} {x qual : Str} {st : Stmt} {N ps : List Str} {k k' n : Nat} {m : DS} {C : Addr} {F : Fn}
theorem Df.dnK (D : Df K mg x st ps) (S : FnScope N ps (defScope st)) (hn : ps.length = n) (hb : ∀ f, BodyK P w K mg base N x f k (defScope st) (defBody st) m) : DnK P w K mg base (k + 1) x n (runD m N.length) := by
  obtain ⟨f, fd, h1, h2, h3, h4⟩ := D.ex
  exact ⟨f, fd, ps, fn_denK h1 S hn (hb f), h2, h3, h4⟩
theorem DnK.mono (D : DnK P w K mg base k x n F) (h : k ≤ k') : DnK P w K mg base k' x n F := by
  obtain ⟨f, fd, ps, h1, h2, h3, h4⟩ := D.ex
  exact ⟨f, fd, ps, h1.mono h, h2, h3, h4⟩
theorem MnK.mono (D : MnK P w K mg base k C x n F) (h : k ≤ k') : MnK P w K mg base k' C x n F := by
  obtain ⟨f, fd, ps, h1, h2, h3, h4⟩ := D.ex
  exact ⟨f, fd, ps, h1.mono h, h2, h3, h4⟩
end
end FL
namespace FL
open PySem L2 PyProof.Rows
variable [TabPar]
section
variable {P : PySem.Program} {w : World} {K : PySem.W.Frag} {mg : Str → Option Value} {base : Heap} {x y qual msg : Str} {st : Stmt} {C CS : Addr}
theorem Dxi.dx0 {p1 p2 p3 p4 p5 p6 : Pos} {j} {pl : Env → Sem Bool} (D : Dxi K C qual st ["self"]) (S : FnScope ["self"] ["self"] (defScope st)) (V : Dv K mg x CS) (oc : OexC K C) (hm : mg y = some (.ref C))
    (hb : defBody st = [.Expr (.Call (.Attribute (.Name x p1) "__init__" p2) [.Name "self" p3, .Constant (.str msg) j p4] [] p5) p6])
    (hx : (defScope st).names.lookup x = some .globalImplicit) (h1 : (defScope st).names.lookup ("self" : Str) = some .local) (hdb : (x == ("__debug__" : Str)) = false)
    (hc : ∀ env : Env, eval (.Call (.Attribute (.Name x p1) "__init__" p2) [.Name "self" p3, .Constant (.str msg) j p4] [] p5) env = (do
      let ov ← eval (.Name x p1) env
      standAt p2.atName
      let (f, first) ← holding [ov] (getMethod ov "__init__" (pl env))
      callWith p5 f first (backTo p5 (starEach [.Name "self" p3, .Constant (.str msg) j p4] env)) (backToKw p5 (keywordEach [] env)))) :
    Dx0 P w K mg base 1 y C := by
  obtain ⟨fI, fd, h1', h2', h3', h4'⟩ := D.ex
  exact ⟨⟨fI, fd, _, xinit0_ok (k := 0) h1' S V hb hx h1 hdb hc, h2', h3', h4'⟩, oc, hm⟩
end
end FL
namespace FL
open PySem L2 PyProof.Rows
open LamX NdefX
@[reducible] instance noTab : TabPar := ⟨none⟩
def top (i : Nat) : Stmt := PySem.Challenge.pw_stretchloops_k10_changes_told.main.body.getD i (.Pass ⟨0, 0, 0, 0⟩)
abbrev S_with_words : Stmt := top 28
abbrev S_tests_for : Stmt := top 29
abbrev S_others_for : Stmt := top 30
abbrev S_changes : Stmt := top 31
abbrev S_words_in : Stmt := top 18
abbrev S_is_formed : Stmt := top 16
abbrev S_blocks_of : Stmt := top 19
abbrev S_walked : Stmt := top 20
abbrev S_is_one_of : Stmt := top 13
abbrev S_is_test : Stmt := top 15
abbrev S_is_term : Stmt := top 14
abbrev S_is_statement : Stmt := top 17
abbrev S_check_block : Stmt := top 21
abbrev S_Program_init : Stmt := inClass (top 22) 0
abbrev S_Program_with_sorting : Stmt := inClass (top 22) 8
abbrev S_replaced : Stmt := top 24
abbrev S_with_statement : Stmt := top 25
abbrev S_done : Stmt := top 32
abbrev S_changed : Stmt := top 33
abbrev S__law_refused : Stmt := top 49
abbrev S__law_taken : Stmt := top 35
abbrev S_Program_eq : Stmt := inClass (top 22) 5
abbrev S__law_made : Stmt := top 45
abbrev S__law_all : Stmt := top 40
abbrev S__law_words : Stmt := top 46
abbrev S__law_others : Stmt := top 47
abbrev S__law_with : Stmt := top 48
abbrev S__law_term : Stmt := top 36
abbrev S__law_test : Stmt := top 37
abbrev S__law_statement : Stmt := top 38
abbrev S__law_block : Stmt := top 39
abbrev S__law_known : Stmt := top 41
abbrev S__law_drawn : Stmt := top 42
abbrev S_law : Stmt := top 50
abbrev S_xUnknownChange : Stmt := inClass (top 4) 0
theorem sc_xUnknownChange : FnScope ["self"] ["self"] (defScope S_xUnknownChange) := ⟨rfl, rfl, rfl, by decide +kernel, rfl, by decide +kernel, by decide +kernel⟩
theorem bi_xUnknownChange : Bnd "__init__" "UnknownChange.__init__" S_xUnknownChange ["self"] := fun _ _ _ _ _ _ us hl => match us, hl with | [_], _ => rfl
abbrev N_with_words : List Str := ["statement", "index", "words", "found", "word", "one"]
abbrev N_tests_for : List Str := ["test", "words", "found"]
abbrev N_others_for : List Str := ["statement", "words", "found", "name", "test", "first", "second", "other"]
abbrev N_changes : List Str := ["program", "found", "path", "statement", "words", "sorting", "other"]
abbrev N_words_in : List Str := ["statement", "terms", "term", "word"]
abbrev N_is_formed : List Str := ["thing"]
abbrev N_blocks_of : List Str := ["thing"]
abbrev N_walked : List Str := ["block", "head", "found", "index", "thing", "path", "number", "inner"]
abbrev N_is_one_of : List Str := ["thing", "words"]
abbrev N_is_test : List Str := ["thing", "words", "word"]
abbrev N_is_term : List Str := ["thing", "words", "word"]
abbrev N_is_statement : List Str := ["thing", "words"]
abbrev N_check_block : List Str := ["thing", "name", "words", "rows", "path", "statement"]
abbrev N_Program_init : List Str := ["self", "sorting", "block", "last", "statement", "word"]
abbrev N_Program_with_sorting : List Str := ["self", "sorting"]
abbrev N_replaced : List Str := ["block", "path", "statement", "index", "new", "old", "at"]
abbrev N_with_statement : List Str := ["program", "path", "statement"]
abbrev N_done : List Str := ["program", "change", "path", "statement"]
abbrev N_changed : List Str := ["program", "change", "other"]
abbrev N__law_refused : List Str := ["_law_program", "_law_change", "_law_told", "_law_e"]
abbrev N__law_taken : List Str := ["_law_row_here", "_law_many", "_law_cell", "_law_found"]
abbrev N_Program_eq : List Str := ["self", "other"]
abbrev N__law_made : List Str := ["_law_d"]
abbrev N__law_all : List Str := ["_law_block_here", "_law_base", "_law_found", "_law_k", "_law_number"]
abbrev N__law_words : List Str := ["_law_statement_here", "_law_index", "_law_words_here", "_law_some", "_law_word", "_law_one"]
abbrev N__law_others : List Str := ["_law_statement_here", "_law_words_here", "_law_other", "_law_test_here", "_law_found", "_law_some", "_law_one"]
abbrev N__law_with : List Str := ["_law_block_here", "_law_path", "_law_statement_here", "_law_at", "_law_new", "_law_parts"]
abbrev N__law_term : List Str := ["_law_row_here", "_law_words_here", "_law_first", "_law_second"]
abbrev N__law_test : List Str := ["_law_row_here", "_law_words_here", "_law_first", "_law_second"]
abbrev N__law_statement : List Str := ["_law_row_here", "_law_words_here", "_law_deep", "_law_turn_of", "_law_test_here"]
abbrev N__law_block : List Str := ["_law_row_here", "_law_words_here", "_law_deep", "_law_most", "_law_k"]
abbrev N__law_known : List Str := ["_law_row_here", "_law_fresh", "_law_longer", "_law_test_here", "_law_some", "_law_first", "_law_second"]
abbrev N__law_drawn : List Str := ["_law_row_here", "_law_d"]
abbrev N_law : List Str := ["_law_script", "_law_row_here", "_law_turn", "_law_program", "_law_sorting", "_law_bad", "_law_d", "_law_due", "_law_name", "_law_words_here", "_law_change", "_law_e", "_law_path", "_law_statement_here", "_law_other"]
def g_CHOICES : T := .ktp [.str "least", .str "greatest"]
def g_LENGTHS : List (Str × Int) := [("keep", 3), ("give", 3), ("if", 4)]
def g_MOST_AROUND : T := .int 2
def g_MOST_STATEMENTS : T := .int 8
def g_PLACES : T := .ktp [.str "one", .str "two"]
def g_SORTING : T := .ktp [.str "sorting"]
def g_SORTINGS : T := .ktp [.str "none", .str "begin", .str "end", .str "begin down", .str "end down"]
def g_TERMS : T := .ktp [.str "begin", .str "end", .str "one", .str "two"]
theorem sc_with_words : FnScope N_with_words ["statement", "index", "words"] (defScope S_with_words) := ⟨rfl, rfl, rfl, by decide +kernel, rfl, by decide +kernel, by decide +kernel⟩
theorem sc_tests_for : FnScope N_tests_for ["test", "words"] (defScope S_tests_for) := ⟨rfl, rfl, rfl, by decide +kernel, rfl, by decide +kernel, by decide +kernel⟩
theorem sc_others_for : FnScope N_others_for ["statement", "words"] (defScope S_others_for) := ⟨rfl, rfl, rfl, by decide +kernel, rfl, by decide +kernel, by decide +kernel⟩
theorem sc_changes : FnScope N_changes ["program"] (defScope S_changes) := ⟨rfl, rfl, rfl, by decide +kernel, rfl, by decide +kernel, by decide +kernel⟩
theorem sc_words_in : FnScope N_words_in ["statement"] (defScope S_words_in) := ⟨rfl, rfl, rfl, by decide +kernel, rfl, by decide +kernel, by decide +kernel⟩
theorem sc_is_formed : FnScope N_is_formed ["thing"] (defScope S_is_formed) := ⟨rfl, rfl, rfl, by decide +kernel, rfl, by decide +kernel, by decide +kernel⟩
theorem sc_blocks_of : FnScope N_blocks_of ["thing"] (defScope S_blocks_of) := ⟨rfl, rfl, rfl, by decide +kernel, rfl, by decide +kernel, by decide +kernel⟩
theorem sc_walked : FnScope N_walked ["block", "head"] (defScope S_walked) := ⟨rfl, rfl, rfl, by decide +kernel, rfl, by decide +kernel, by decide +kernel⟩
theorem sc_is_one_of : FnScope N_is_one_of ["thing", "words"] (defScope S_is_one_of) := ⟨rfl, rfl, rfl, by decide +kernel, rfl, by decide +kernel, by decide +kernel⟩
theorem sc_is_test : FnScope N_is_test ["thing", "words"] (defScope S_is_test) := ⟨rfl, rfl, rfl, by decide +kernel, rfl, by decide +kernel, by decide +kernel⟩
theorem sc_is_term : FnScope N_is_term ["thing", "words"] (defScope S_is_term) := ⟨rfl, rfl, rfl, by decide +kernel, rfl, by decide +kernel, by decide +kernel⟩
theorem sc_is_statement : FnScope N_is_statement ["thing", "words"] (defScope S_is_statement) := ⟨rfl, rfl, rfl, by decide +kernel, rfl, by decide +kernel, by decide +kernel⟩
theorem sc_check_block : FnScope N_check_block ["thing", "name", "words"] (defScope S_check_block) := ⟨rfl, rfl, rfl, by decide +kernel, rfl, by decide +kernel, by decide +kernel⟩
theorem sc_Program_init : FnScope N_Program_init ["self", "sorting", "block", "last"] (defScope S_Program_init) := ⟨rfl, rfl, rfl, by decide +kernel, rfl, by decide +kernel, by decide +kernel⟩
theorem sc_Program_with_sorting : FnScope N_Program_with_sorting ["self", "sorting"] (defScope S_Program_with_sorting) := ⟨rfl, rfl, rfl, by decide +kernel, rfl, by decide +kernel, by decide +kernel⟩
theorem sc_replaced : FnScope N_replaced ["block", "path", "statement"] (defScope S_replaced) := ⟨rfl, rfl, rfl, by decide +kernel, rfl, by decide +kernel, by decide +kernel⟩
theorem sc_with_statement : FnScope N_with_statement ["program", "path", "statement"] (defScope S_with_statement) := ⟨rfl, rfl, rfl, by decide +kernel, rfl, by decide +kernel, by decide +kernel⟩
theorem sc_done : FnScope N_done ["program", "change"] (defScope S_done) := ⟨rfl, rfl, rfl, by decide +kernel, rfl, by decide +kernel, by decide +kernel⟩
theorem sc_changed : FnScope N_changed ["program", "change"] (defScope S_changed) := ⟨rfl, rfl, rfl, by decide +kernel, rfl, by decide +kernel, by decide +kernel⟩
theorem sc__law_refused : FnScope N__law_refused ["_law_program", "_law_change"] (defScope S__law_refused) := ⟨rfl, rfl, rfl, by decide +kernel, rfl, by decide +kernel, by decide +kernel⟩
theorem sc__law_taken : FnScope N__law_taken ["_law_row_here", "_law_many"] (defScope S__law_taken) := ⟨rfl, rfl, rfl, by decide +kernel, rfl, by decide +kernel, by decide +kernel⟩
theorem sc_Program_eq : FnScope N_Program_eq ["self", "other"] (defScope S_Program_eq) := ⟨rfl, rfl, rfl, by decide +kernel, rfl, by decide +kernel, by decide +kernel⟩
theorem sc__law_made : FnScope N__law_made ["_law_d"] (defScope S__law_made) := ⟨rfl, rfl, rfl, by decide +kernel, rfl, by decide +kernel, by decide +kernel⟩
theorem sc__law_all : FnScope N__law_all ["_law_block_here", "_law_base"] (defScope S__law_all) := ⟨rfl, rfl, rfl, by decide +kernel, rfl, by decide +kernel, by decide +kernel⟩
theorem sc__law_words : FnScope N__law_words ["_law_statement_here", "_law_index", "_law_words_here"] (defScope S__law_words) := ⟨rfl, rfl, rfl, by decide +kernel, rfl, by decide +kernel, by decide +kernel⟩
theorem sc__law_others : FnScope N__law_others ["_law_statement_here", "_law_words_here"] (defScope S__law_others) := ⟨rfl, rfl, rfl, by decide +kernel, rfl, by decide +kernel, by decide +kernel⟩
theorem sc__law_with : FnScope N__law_with ["_law_block_here", "_law_path", "_law_statement_here"] (defScope S__law_with) := ⟨rfl, rfl, rfl, by decide +kernel, rfl, by decide +kernel, by decide +kernel⟩
theorem sc__law_term : FnScope N__law_term ["_law_row_here", "_law_words_here"] (defScope S__law_term) := ⟨rfl, rfl, rfl, by decide +kernel, rfl, by decide +kernel, by decide +kernel⟩
theorem sc__law_test : FnScope N__law_test ["_law_row_here", "_law_words_here"] (defScope S__law_test) := ⟨rfl, rfl, rfl, by decide +kernel, rfl, by decide +kernel, by decide +kernel⟩
theorem sc__law_statement : FnScope N__law_statement ["_law_row_here", "_law_words_here", "_law_deep"] (defScope S__law_statement) := ⟨rfl, rfl, rfl, by decide +kernel, rfl, by decide +kernel, by decide +kernel⟩
theorem sc__law_block : FnScope N__law_block ["_law_row_here", "_law_words_here", "_law_deep", "_law_most"] (defScope S__law_block) := ⟨rfl, rfl, rfl, by decide +kernel, rfl, by decide +kernel, by decide +kernel⟩
theorem sc__law_known : FnScope N__law_known ["_law_row_here"] (defScope S__law_known) := ⟨rfl, rfl, rfl, by decide +kernel, rfl, by decide +kernel, by decide +kernel⟩
theorem sc__law_drawn : FnScope N__law_drawn ["_law_row_here"] (defScope S__law_drawn) := ⟨rfl, rfl, rfl, by decide +kernel, rfl, by decide +kernel, by decide +kernel⟩
theorem sc_law : FnScope N_law ["_law_script"] (defScope S_law) := ⟨rfl, rfl, rfl, by decide +kernel, rfl, by decide +kernel, by decide +kernel⟩
/-- the facts of the module -/
structure Tx (K : PySem.W.Frag) (w : World) (mg : Str → Option Value) (C_Program : Addr) (C_StretchError : Addr) (C_UnknownChange : Addr) : Prop where
  a_Program_body : NoAttr K C_Program "body"
  a_Program_ending : NoAttr K C_Program "ending"
  a_Program_order : NoAttr K C_Program "order"
  a_Program_rows : NoAttr K C_Program "rows"
  a_Program_words : NoAttr K C_Program "words"
  c_Program : Cls K C_Program
  e_StretchError : Ec K mg "StretchError" C_StretchError
  e_UnknownChange : Ec K mg "UnknownChange" C_UnknownChange
  g_CHOICES : Gk K mg "CHOICES" FL.g_CHOICES
  g_LENGTHS : Gd K w mg "LENGTHS" FL.g_LENGTHS
  g_MOST_AROUND : Gk K mg "MOST_AROUND" FL.g_MOST_AROUND
  g_MOST_STATEMENTS : Gk K mg "MOST_STATEMENTS" FL.g_MOST_STATEMENTS
  g_PLACES : Gk K mg "PLACES" FL.g_PLACES
  g_SORTING : Gk K mg "SORTING" FL.g_SORTING
  g_SORTINGS : Gk K mg "SORTINGS" FL.g_SORTINGS
  g_TERMS : Gk K mg "TERMS" FL.g_TERMS
  n_all : mg "all" = none
  n_dict : mg "dict" = none
  n_enumerate : mg "enumerate" = none
  n_int : mg "int" = none
  n_isinstance : mg "isinstance" = none
  n_len : mg "len" = none
  n_list : mg "list" = none
  n_range : mg "range" = none
  n_str : mg "str" = none
  n_tuple : mg "tuple" = none
  o_Program : Gc K mg "Program" C_Program
  v_StretchError : Dv K mg "StretchError" C_StretchError
  w_UnknownChange_StretchError : Below K C_UnknownChange C_StretchError true
  w_UnknownChange_UnknownChange : Below K C_UnknownChange C_UnknownChange true
  xo_UnknownChange : OexC K C_UnknownChange
  z_Program : Gz K C_Program
section
variable {P : Program} {w : World} {K : PySem.W.Frag} {mg : Str → Option Value} {base : Heap} {k : Nat} {C_Program : Addr} {C_StretchError : Addr} {C_UnknownChange : Addr}
noncomputable def d_with_words : DS := (mSeq (mSet 3 (mLc (iSeq (mVar 2)) (gN 4) mYes (mOp addF (mOp addF (mSl (mVar 0) mPN (mPS (mVar 1))) (mTup (aCons (mVar 4) aNil))) (mSl (mVar 0) (mPS (mOp addF (mVar 1) (mC (.int 1)))) mPN)) [4])) (mRet (mLc (iSeq (mVar 3)) (gN 5) (mTOp neF (mVar 5) (mVar 0)) (mVar 5) [5])))
theorem b_with_words (T : Tx K w mg C_Program C_StretchError C_UnknownChange) {f : Addr} : Body P w K mg base N_with_words "with_words" f k (defScope S_with_words) (defBody S_with_words) (d_with_words) := fun cdv A outer s H E hr ct =>
  (fss_cons (fs_setLc 3 [("word", 4)] rfl sc_with_words.nd (sw_true rfl rfl rfl (by decide +kernel)) (fi_seq (fe_var 2)) (blkOk_by (N := N_with_words) (sc := defScope S_with_words) (by decide +kernel)) (fun _ _ _ _ _ => (fgv_name 4 sc_with_words.nd)) (fun _ _ _ _ _ => fq_nil) (fun _ _ _ _ _ => (fe_add (fe_add (fe_slice (fe_var 0) fo_none (fo_some (fe_var 1))) (fe_tup (fa_cons (fe_var 4) fa_nil))) (fe_slice (fe_var 0) (fo_some (fe_add (fe_var 1) fe_int)) fo_none)))) (fss_one (fs_ret (fe_lc [("one", 5)] rfl sc_with_words.nd (fi_seq (fe_var 3)) (blkOk_by (N := N_with_words) (sc := defScope S_with_words) (by decide +kernel)) (fun _ _ _ _ _ => (fgv_name 5 sc_with_words.nd)) (fun _ _ _ _ _ => fq_one (ft_ne hr.units (fe_var 5) (fe_var 0))) (fun _ _ _ _ _ => (fe_var 5))))))
noncomputable def d_tests_for (F_with_words : Fn) : DS := (mSeq (mIfS (mTOp eqF (mOp ixAF (mVar 0) (mC (.int 0))) (mC (.str "sort"))) (mRet (mLst aNil)) mNx) (mSeq (mSet 2 (mLst (aCons (mOp addF (mTup (aCons (mIf (mTOp eqF (mOp ixAF (mVar 0) (mC (.int 0))) (mC (.str "less"))) (mC (.str "same")) (mC (.str "less"))) aNil)) (mSl (mVar 0) (mPS (mC (.int 1))) mPN)) aNil))) (mRet (mOp addF (mOp addF (mVar 2) (mCall 3 F_with_words [false, false, false] (aCons (mVar 0) (aCons (mC (.int 1)) (aCons (mVar 1) aNil))))) (mCall 3 F_with_words [false, false, false] (aCons (mVar 0) (aCons (mC (.int 2)) (aCons (mVar 1) aNil))))))))
theorem b_tests_for (T : Tx K w mg C_Program C_StretchError C_UnknownChange) {F_with_words : Fn} {f : Addr} (D_with_words : Dn P w K mg base k "with_words" 3 F_with_words) : Body P w K mg base N_tests_for "tests_for" f k (defScope S_tests_for) (defBody S_tests_for) (d_tests_for F_with_words) := fun cdv A outer s H E hr ct =>
  (fss_cons (fs_if (ft_eq hr.units (fe_ixA (huS hr) (fe_var 0) fe_int) fe_str) (fss_one (fs_ret (fe_lst fa_nil))) fss_nil) (fss_cons (fs_set 2 sc_tests_for.nd (fe_lst (fa_cons (fe_add (fe_tup (fa_cons (fe_if (ft_eq hr.units (fe_ixA (huS hr) (fe_var 0) fe_int) fe_str) fe_str fe_str) fa_nil)) (fe_slice (fe_var 0) (fo_some fe_int) fo_none)) fa_nil))) (fss_one (fs_ret (fe_add (fe_add (fe_var 2) (fe_call ct.tk D_with_words [false, false, false] hr (fa_cons (fe_var 0) (fa_cons fe_int (fa_cons (fe_var 1) fa_nil))) (Nat.le_refl _))) (fe_call ct.tk D_with_words [false, false, false] hr (fa_cons (fe_var 0) (fa_cons fe_int (fa_cons (fe_var 1) fa_nil))) (Nat.le_refl _)))))))
noncomputable def d_others_for (F_tests_for : Fn) (F_with_words : Fn) : DS := (mSeq (mIfS (mTOp eqF (mOp ixAF (mVar 0) (mC (.int 0))) (mC (.str "keep"))) (mSeq (mSet 3 (mIf (mTOp eqF (mOp ixAF (mVar 0) (mC (.int 1))) (mC (.str "one"))) (mC (.str "two")) (mC (.str "one")))) (mRet (mOp addF (mLst (aCons (mTup (aCons (mC (.str "keep")) (aCons (mVar 3) (aCons (mOp ixAF (mVar 0) (mC (.int 2))) aNil)))) aNil)) (mCall 3 F_with_words [false, false, false] (aCons (mVar 0) (aCons (mC (.int 2)) (aCons (mVar 1) aNil))))))) mNx) (mSeq (mIfS (mTOp eqF (mOp ixAF (mVar 0) (mC (.int 0))) (mC (.str "give"))) (mRet (mOp addF (mCall 3 F_with_words [false, false, false] (aCons (mVar 0) (aCons (mC (.int 1)) (aCons (mVar 1) aNil)))) (mCall 3 F_with_words [false, false, false] (aCons (mVar 0) (aCons (mC (.int 2)) (aCons (mVar 1) aNil)))))) mNx) (mSeq (mAsg (mSl (mVar 0) (mPS (mC (.int 1))) mPN) (gT 3 (gsCons (gN 4) (gsCons (gN 5) (gsCons (gN 6) gsNil))))) (mSeq (mSet 2 (mLc (iSeq (mCall 2 F_tests_for [false, false] (aCons (mVar 4) (aCons (mVar 1) aNil)))) (gN 7) mYes (mTup (aCons (mC (.str "if")) (aCons (mVar 7) (aCons (mVar 5) (aCons (mVar 6) aNil))))) [7])) (mRet (mOp addF (mVar 2) (mIf (mTOp neF (mVar 5) (mVar 6)) (mLst (aCons (mTup (aCons (mC (.str "if")) (aCons (mVar 4) (aCons (mVar 6) (aCons (mVar 5) aNil))))) aNil)) (mLst aNil))))))))
theorem b_others_for (T : Tx K w mg C_Program C_StretchError C_UnknownChange) {F_tests_for : Fn} {F_with_words : Fn} {f : Addr} (D_tests_for : Dn P w K mg base k "tests_for" 2 F_tests_for) (D_with_words : Dn P w K mg base k "with_words" 3 F_with_words) : Body P w K mg base N_others_for "others_for" f k (defScope S_others_for) (defBody S_others_for) (d_others_for F_tests_for F_with_words) := fun cdv A outer s H E hr ct =>
  (fss_cons (fs_if (ft_eq hr.units (fe_ixA (huS hr) (fe_var 0) fe_int) fe_str) (fss_cons (fs_set 3 sc_others_for.nd (fe_if (ft_eq hr.units (fe_ixA (huS hr) (fe_var 0) fe_int) fe_str) fe_str fe_str)) (fss_one (fs_ret (fe_add (fe_lst (fa_cons (fe_tup (fa_cons fe_str (fa_cons (fe_var 3) (fa_cons (fe_ixA (huS hr) (fe_var 0) fe_int) fa_nil)))) fa_nil)) (fe_call ct.tk D_with_words [false, false, false] hr (fa_cons (fe_var 0) (fa_cons fe_int (fa_cons (fe_var 1) fa_nil))) (Nat.le_refl _)))))) fss_nil) (fss_cons (fs_if (ft_eq hr.units (fe_ixA (huS hr) (fe_var 0) fe_int) fe_str) (fss_one (fs_ret (fe_add (fe_call ct.tk D_with_words [false, false, false] hr (fa_cons (fe_var 0) (fa_cons fe_int (fa_cons (fe_var 1) fa_nil))) (Nat.le_refl _)) (fe_call ct.tk D_with_words [false, false, false] hr (fa_cons (fe_var 0) (fa_cons fe_int (fa_cons (fe_var 1) fa_nil))) (Nat.le_refl _))))) fss_nil) (fss_cons (fs_asg (fe_slice (fe_var 0) (fo_some fe_int) fo_none) (fg_tup rfl (fgs_cons (fg_name 4 sc_others_for.nd) (fgs_cons (fg_name 5 sc_others_for.nd) (fgs_cons (fg_name 6 sc_others_for.nd) fgs_nil))))) (fss_cons (fs_setLc 2 [("other", 7)] rfl sc_others_for.nd (sw_true rfl rfl rfl (by decide +kernel)) (fi_seq (fe_call ct.tk D_tests_for [false, false] hr (fa_cons (fe_var 4) (fa_cons (fe_var 1) fa_nil)) (Nat.le_refl _))) (blkOk_by (N := N_others_for) (sc := defScope S_others_for) (by decide +kernel)) (fun _ _ _ _ _ => (fgv_name 7 sc_others_for.nd)) (fun _ _ _ _ _ => fq_nil) (fun _ _ _ _ _ => (fe_tup (fa_cons fe_str (fa_cons (fe_var 7) (fa_cons (fe_var 5) (fa_cons (fe_var 6) fa_nil))))))) (fss_one (fs_ret (fe_add (fe_var 2) (fe_if (ft_ne hr.units (fe_var 5) (fe_var 6)) (fe_lst (fa_cons (fe_tup (fa_cons fe_str (fa_cons (fe_var 4) (fa_cons (fe_var 6) (fa_cons (fe_var 5) fa_nil))))) fa_nil)) (fe_lst fa_nil)))))))))
noncomputable def d_changes (C_Program : Addr) (F_others_for : Fn) : DS := (mSeq (mSet 1 (mLst aNil)) (mSeq (mFor (iItD (mFld C_Program "rows" (mVar 0))) (gT 2 (gsCons (gN 2) (gsCons (gN 3) gsNil))) (mSeq (mSet 4 (mIf (mTOp eqF (mOp ixAF (mVar 2) (mC (.int 0))) (mC (.str "block"))) (mC g_TERMS) (mC g_PLACES))) (mDrop (mExt (mVar 1) (mLc (iSeq (mCall 2 F_others_for [false, false] (aCons (mVar 3) (aCons (mVar 4) aNil)))) (gN 6) mYes (mTup (aCons (mVar 2) (aCons (mVar 6) aNil))) [6]))))) (mRet (mOp addF (mVar 1) (mLc (iSeq (mC g_SORTINGS)) (gN 5) (mTOp neF (mVar 5) (mFld C_Program "order" (mVar 0))) (mTup (aCons (mC g_SORTING) (aCons (mVar 5) aNil))) [5])))))
theorem b_changes (T : Tx K w mg C_Program C_StretchError C_UnknownChange) {F_others_for : Fn} {f : Addr} (D_others_for : Dn P w K mg base k "others_for" 2 F_others_for) : Body P w K mg base N_changes "changes" f k (defScope S_changes) (defBody S_changes) (d_changes C_Program F_others_for) := fun cdv A outer s H E hr ct =>
  (fss_cons (fs_set 1 sc_changes.nd (fe_lst fa_nil)) (fss_cons (fs_for rfl ct (fi_items (fe_fld T.c_Program T.a_Program_rows (fe_var 0))) (fg_tup rfl (fgs_cons (fg_name 2 sc_changes.nd) (fgs_cons (fg_name 3 sc_changes.nd) fgs_nil))) (fss_cons (fs_set 4 sc_changes.nd (fe_if (ft_eq hr.units (fe_ixA (huS hr) (fe_var 2) fe_int) fe_str) (fe_gk T.g_TERMS) (fe_gk T.g_PLACES))) (fss_one (fs_expr (fe_ext (fe_var 1) (fe_lc [("other", 6)] rfl sc_changes.nd (fi_seq (fe_call ct.tk D_others_for [false, false] hr (fa_cons (fe_var 3) (fa_cons (fe_var 4) fa_nil)) (Nat.le_refl _))) (blkOk_by (N := N_changes) (sc := defScope S_changes) (by decide +kernel)) (fun _ _ _ _ _ => (fgv_name 6 sc_changes.nd)) (fun _ _ _ _ _ => fq_nil) (fun _ _ _ _ _ => (fe_tup (fa_cons (fe_var 2) (fa_cons (fe_var 6) fa_nil)))))))))) (fss_one (fs_ret (fe_add (fe_var 1) (fe_lc [("sorting", 5)] rfl sc_changes.nd (fi_seq (fe_gk T.g_SORTINGS)) (blkOk_by (N := N_changes) (sc := defScope S_changes) (by decide +kernel)) (fun _ _ _ _ _ => (fgv_name 5 sc_changes.nd)) (fun _ _ _ _ _ => fq_one (ft_ne hr.units (fe_var 5) (fe_fld T.c_Program T.a_Program_order (fe_var 0)))) (fun _ _ _ _ _ => (fe_tup (fa_cons (fe_gk T.g_SORTING) (fa_cons (fe_var 5) fa_nil))))))))))
noncomputable def d_words_in : DS := (mSeq (mSet 1 (mOp ixAF (mDisp ["keep", "give", "if"] (aCons (mSl (mVar 0) (mPS (mC (.int 2))) mPN) (aCons (mSl (mVar 0) (mPS (mC (.int 1))) mPN) (aCons (mSl (mOp ixAF (mVar 0) (mC (.int 1))) (mPS (mC (.int 1))) mPN) aNil)))) (mOp ixAF (mVar 0) (mC (.int 0))))) (mRet (mLc2 (iSeq (mVar 1)) (gN 2) mYes (iSeq (mIf (mTest (mIsi "tuple" (mVar 2))) (mSl (mVar 2) (mPS (mC (.int 1))) mPN) (mTup (aCons (mVar 2) aNil)))) (gN 3) mYes (mVar 3) [2, 3] [3])))
theorem b_words_in (T : Tx K w mg C_Program C_StretchError C_UnknownChange) {f : Addr} : Body P w K mg base N_words_in "words_in" f k (defScope S_words_in) (defBody S_words_in) (d_words_in) := fun cdv A outer s H E hr ct =>
  (fss_cons (fs_set 1 sc_words_in.nd (fe_ixA (huS hr) (fe_disp (sps_cons (fe_slice (fe_var 0) (fo_some fe_int) fo_none) (sps_cons (fe_slice (fe_var 0) (fo_some fe_int) fo_none) (sps_cons (fe_slice (fe_ixA (huS hr) (fe_var 0) fe_int) (fo_some fe_int) fo_none) sps_nil)))) (fe_ixA (huS hr) (fe_var 0) fe_int))) (fss_one (fs_ret (fe_lc2 [("term", 2), ("word", 3)] [3] rfl sc_words_in.nd (fi_seq (fe_var 1)) (blkOk_by (N := N_words_in) (sc := defScope S_words_in) (by decide +kernel)) (by decide) (fun _ _ _ _ _ => (fgv_name 2 sc_words_in.nd)) (fun _ _ _ _ _ => fq_nil) (fun _ _ _ _ _ => (fi_seq (fe_if (ft_val (fe_isi rfl T.n_isinstance rfl T.n_tuple (by decide +kernel) (fe_var 2))) (fe_slice (fe_var 2) (fo_some fe_int) fo_none) (fe_tup (fa_cons (fe_var 2) fa_nil))))) (fun _ _ _ _ _ => (fgv_name 3 sc_words_in.nd)) (fun _ _ _ _ _ => fq_nil) (fun _ _ _ _ _ => (fe_var 3))))))
noncomputable def d_is_formed : DS := (mSeq (mIfS (mOrT (mNotT (mTest (mIsi "tuple" (mVar 0)))) (mOrT (mTOp eqF (mCa lenF (aCons (mVar 0) aNil)) (mC (.int 0))) (mNotT (mTest (mIsi "str" (mOp ixAF (mVar 0) (mC (.int 0)))))))) (mRet (mC (.bl false))) mNx) (mRet (mBAnd (mInK g_LENGTHS (mOp ixAF (mVar 0) (mC (.int 0)))) (mOp eqF (mCa lenF (aCons (mVar 0) aNil)) (mIxK g_LENGTHS (mOp ixAF (mVar 0) (mC (.int 0))))))))
theorem b_is_formed (T : Tx K w mg C_Program C_StretchError C_UnknownChange) {f : Addr} : Body P w K mg base N_is_formed "is_formed" f k (defScope S_is_formed) (defBody S_is_formed) (d_is_formed) := fun cdv A outer s H E hr ct =>
  (fss_cons (fs_if (SW.pt (fw_or (ft_not (ft_val (fe_isi rfl T.n_isinstance rfl T.n_tuple (by decide +kernel) (fe_var 0)))) (fw_or (ft_eq hr.units (fe_len rfl T.n_len (fa_cons (fe_var 0) fa_nil)) fe_int) (fw_or1 (ft_not (ft_val (fe_isi rfl T.n_isinstance rfl T.n_str (by decide +kernel) (fe_ixA (huS hr) (fe_var 0) fe_int)))))))) (fss_one (fs_ret fe_bl)) fss_nil) (fss_one (fs_ret (fe_and (fe_inKd T.g_LENGTHS (fe_ixA (huS hr) (fe_var 0) fe_int)) (fe_one (fe_eq hr.units (fe_len rfl T.n_len (fa_cons (fe_var 0) fa_nil)) (fe_ixKd T.g_LENGTHS (fe_ixA (huS hr) (fe_var 0) fe_int))))))))
noncomputable def d_blocks_of (F_is_formed : Fn) : DS := (mRet (mIf (mAndT (mTest (mCall 1 F_is_formed [false] (aCons (mVar 0) aNil))) (mTOp eqF (mOp ixAF (mVar 0) (mC (.int 0))) (mC (.str "if")))) (mCa listF (aCons (mSl (mVar 0) (mPS (mC (.int 2))) mPN) aNil)) (mLst aNil)))
theorem b_blocks_of (T : Tx K w mg C_Program C_StretchError C_UnknownChange) {F_is_formed : Fn} {f : Addr} (D_is_formed : Dn P w K mg base k "is_formed" 1 F_is_formed) : Body P w K mg base N_blocks_of "blocks_of" f k (defScope S_blocks_of) (defBody S_blocks_of) (d_blocks_of F_is_formed) := fun cdv A outer s H E hr ct =>
  (fss_one (fs_ret (fe_if (SW.pt (fw_and (ft_val (fe_call ct.tk D_is_formed [false] hr (fa_cons (fe_var 0) fa_nil) (Nat.le_refl _))) (fw_and1 (ft_eq hr.units (fe_ixA (huS hr) (fe_var 0) fe_int) fe_str)))) (fe_list rfl T.n_list (fa_cons (fe_slice (fe_var 0) (fo_some fe_int) fo_none) fa_nil)) (fe_lst fa_nil))))
noncomputable def d_walked (F_blocks_of : Fn) (F_walked : Fn) : DS := (mSeq (mSet 2 (mLst aNil)) (mSeq (mFor (iEnumD (aCons (mVar 0) aNil)) (gT 2 (gsCons (gN 3) (gsCons (gN 4) gsNil))) (mSeq (mSet 5 (mOp addF (mVar 1) (mTup (aCons (mVar 3) aNil)))) (mSeq (mDrop (mApp (mVar 2) (mTup (aCons (mVar 5) (aCons (mVar 4) aNil))))) (mFor (iEnumD (aCons (mCall 1 F_blocks_of [false] (aCons (mVar 4) aNil)) aNil)) (gT 2 (gsCons (gN 6) (gsCons (gN 7) gsNil))) (mIfS (mTest (mIsi "tuple" (mVar 7))) (mDrop (mExt (mVar 2) (mCall 2 F_walked [false, false] (aCons (mVar 7) (aCons (mOp addF (mVar 5) (mTup (aCons (mVar 6) aNil))) aNil))))) mNx))))) (mRet (mVar 2))))
theorem b_walked (T : Tx K w mg C_Program C_StretchError C_UnknownChange) {F_blocks_of : Fn} {F_walked : Fn} {f : Addr} (D_blocks_of : Dn P w K mg base k "blocks_of" 1 F_blocks_of) (D_walked : Dn P w K mg base k "walked" 2 F_walked) : Body P w K mg base N_walked "walked" f k (defScope S_walked) (defBody S_walked) (d_walked F_blocks_of F_walked) := fun cdv A outer s H E hr ct =>
  (fss_cons (fs_set 2 sc_walked.nd (fe_lst fa_nil)) (fss_cons (fs_for rfl ct (fi_enum rfl T.n_enumerate (fa_cons (fe_var 0) fa_nil)) (fg_tup rfl (fgs_cons (fg_name 3 sc_walked.nd) (fgs_cons (fg_name 4 sc_walked.nd) fgs_nil))) (fss_cons (fs_set 5 sc_walked.nd (fe_add (fe_var 1) (fe_tup (fa_cons (fe_var 3) fa_nil)))) (fss_cons (fs_expr (fe_app (fe_var 2) (fe_tup (fa_cons (fe_var 5) (fa_cons (fe_var 4) fa_nil))))) (fss_one (fs_for rfl ct (fi_enum rfl T.n_enumerate (fa_cons (fe_call ct.tk D_blocks_of [false] hr (fa_cons (fe_var 4) fa_nil) (Nat.le_refl _)) fa_nil)) (fg_tup rfl (fgs_cons (fg_name 6 sc_walked.nd) (fgs_cons (fg_name 7 sc_walked.nd) fgs_nil))) (fss_one (fs_if (ft_val (fe_isi rfl T.n_isinstance rfl T.n_tuple (by decide +kernel) (fe_var 7))) (fss_one (fs_expr (fe_ext (fe_var 2) (fe_call ct.tk D_walked [false, false] hr (fa_cons (fe_var 7) (fa_cons (fe_add (fe_var 5) (fe_tup (fa_cons (fe_var 6) fa_nil))) fa_nil)) (Nat.le_refl _))))) fss_nil))))))) (fss_one (fs_ret (fe_var 2)))))
noncomputable def d_is_one_of : DS := (mRet (mBAnd (mIsi "str" (mVar 0)) (mOp (inF false) (mVar 0) (mVar 1))))
theorem b_is_one_of (T : Tx K w mg C_Program C_StretchError C_UnknownChange) {f : Addr} : Body P w K mg base N_is_one_of "is_one_of" f k (defScope S_is_one_of) (defBody S_is_one_of) (d_is_one_of) := fun cdv A outer s H E hr ct =>
  (fss_one (fs_ret (fe_and (fe_isi rfl T.n_isinstance rfl T.n_str (by decide +kernel) (fe_var 0)) (fe_one (fe_in (fe_var 0) (fe_var 1))))))
noncomputable def d_is_test (F_is_one_of : Fn) : DS := (mSeq (mIfS (mOrT (mNotT (mTest (mIsi "tuple" (mVar 0)))) (mOrT (mTOp eqF (mCa lenF (aCons (mVar 0) aNil)) (mC (.int 0))) (mNotT (mTest (mIsi "str" (mOp ixAF (mVar 0) (mC (.int 0)))))))) (mRet (mC (.bl false))) mNx) (mSeq (mIfS (mTOp eqF (mOp ixAF (mVar 0) (mC (.int 0))) (mC (.str "sort"))) (mRet (mBAnd (mOp (inF false) (mC (.str "begin")) (mVar 1)) (mBAnd (mOp eqF (mCa lenF (aCons (mVar 0) aNil)) (mC (.int 2))) (mCall 2 F_is_one_of [false, false] (aCons (mOp ixAF (mVar 0) (mC (.int 1))) (aCons (mTup (aCons (mC (.str "a")) aNil)) aNil)))))) mNx) (mRet (mBAnd (mOp (inF false) (mOp ixAF (mVar 0) (mC (.int 0))) (mTup (aCons (mC (.str "less")) (aCons (mC (.str "same")) aNil)))) (mBAnd (mOp eqF (mCa lenF (aCons (mVar 0) aNil)) (mC (.int 3))) (mCa (allF false) (aCons (mLc (iSeq (mSl (mVar 0) (mPS (mC (.int 1))) mPN)) (gN 2) mYes (mCall 2 F_is_one_of [false, false] (aCons (mVar 2) (aCons (mVar 1) aNil))) [2]) aNil)))))))
theorem b_is_test (T : Tx K w mg C_Program C_StretchError C_UnknownChange) {F_is_one_of : Fn} {f : Addr} (D_is_one_of : Dn P w K mg base k "is_one_of" 2 F_is_one_of) : Body P w K mg base N_is_test "is_test" f k (defScope S_is_test) (defBody S_is_test) (d_is_test F_is_one_of) := fun cdv A outer s H E hr ct =>
  (fss_cons (fs_if (SW.pt (fw_or (ft_not (ft_val (fe_isi rfl T.n_isinstance rfl T.n_tuple (by decide +kernel) (fe_var 0)))) (fw_or (ft_eq hr.units (fe_len rfl T.n_len (fa_cons (fe_var 0) fa_nil)) fe_int) (fw_or1 (ft_not (ft_val (fe_isi rfl T.n_isinstance rfl T.n_str (by decide +kernel) (fe_ixA (huS hr) (fe_var 0) fe_int)))))))) (fss_one (fs_ret fe_bl)) fss_nil) (fss_cons (fs_if (ft_eq hr.units (fe_ixA (huS hr) (fe_var 0) fe_int) fe_str) (fss_one (fs_ret (fe_and (fe_in fe_str (fe_var 1)) (fe_and (fe_eq hr.units (fe_len rfl T.n_len (fa_cons (fe_var 0) fa_nil)) fe_int) (fe_one (fe_call ct.tk D_is_one_of [false, false] hr (fa_cons (fe_ixA (huS hr) (fe_var 0) fe_int) (fa_cons (fe_tup (fa_cons fe_str fa_nil)) fa_nil)) (Nat.le_refl _))))))) fss_nil) (fss_one (fs_ret (fe_and (fe_in (fe_ixA (huS hr) (fe_var 0) fe_int) (fe_tup (fa_cons fe_str (fa_cons fe_str fa_nil)))) (fe_and (fe_eq hr.units (fe_len rfl T.n_len (fa_cons (fe_var 0) fa_nil)) fe_int) (fe_one (fe_all rfl rfl T.n_all (fa_cons (fe_lc [("word", 2)] rfl sc_is_test.nd (fi_seq (fe_slice (fe_var 0) (fo_some fe_int) fo_none)) (blkOk_by (N := N_is_test) (sc := defScope S_is_test) (by decide +kernel)) (fun _ _ _ _ _ => (fgv_name 2 sc_is_test.nd)) (fun _ _ _ _ _ => fq_nil) (fun _ _ _ _ _ => (fe_call tk0 D_is_one_of [false, false] hr (fa_cons (fe_var 2) (fa_cons (fe_var 1) fa_nil)) (Nat.le_refl _)))) fa_nil)))))))))
noncomputable def d_is_term (F_is_one_of : Fn) : DS := (mSeq (mIfS (mNotT (mTest (mIsi "tuple" (mVar 0)))) (mRet (mCall 2 F_is_one_of [false, false] (aCons (mVar 0) (aCons (mVar 1) aNil)))) mNx) (mRet (mBAnd (mOp eqF (mCa lenF (aCons (mVar 0) aNil)) (mC (.int 3))) (mBAnd (mCall 2 F_is_one_of [false, false] (aCons (mOp ixAF (mVar 0) (mC (.int 0))) (aCons (mC g_CHOICES) aNil))) (mCa (allF false) (aCons (mLc (iSeq (mSl (mVar 0) (mPS (mC (.int 1))) mPN)) (gN 2) mYes (mCall 2 F_is_one_of [false, false] (aCons (mVar 2) (aCons (mVar 1) aNil))) [2]) aNil))))))
theorem b_is_term (T : Tx K w mg C_Program C_StretchError C_UnknownChange) {F_is_one_of : Fn} {f : Addr} (D_is_one_of : Dn P w K mg base k "is_one_of" 2 F_is_one_of) : Body P w K mg base N_is_term "is_term" f k (defScope S_is_term) (defBody S_is_term) (d_is_term F_is_one_of) := fun cdv A outer s H E hr ct =>
  (fss_cons (fs_if (ft_not (ft_val (fe_isi rfl T.n_isinstance rfl T.n_tuple (by decide +kernel) (fe_var 0)))) (fss_one (fs_ret (fe_call ct.tk D_is_one_of [false, false] hr (fa_cons (fe_var 0) (fa_cons (fe_var 1) fa_nil)) (Nat.le_refl _)))) fss_nil) (fss_one (fs_ret (fe_and (fe_eq hr.units (fe_len rfl T.n_len (fa_cons (fe_var 0) fa_nil)) fe_int) (fe_and (fe_call ct.tk D_is_one_of [false, false] hr (fa_cons (fe_ixA (huS hr) (fe_var 0) fe_int) (fa_cons (fe_gk T.g_CHOICES) fa_nil)) (Nat.le_refl _)) (fe_one (fe_all rfl rfl T.n_all (fa_cons (fe_lc [("word", 2)] rfl sc_is_term.nd (fi_seq (fe_slice (fe_var 0) (fo_some fe_int) fo_none)) (blkOk_by (N := N_is_term) (sc := defScope S_is_term) (by decide +kernel)) (fun _ _ _ _ _ => (fgv_name 2 sc_is_term.nd)) (fun _ _ _ _ _ => fq_nil) (fun _ _ _ _ _ => (fe_call tk0 D_is_one_of [false, false] hr (fa_cons (fe_var 2) (fa_cons (fe_var 1) fa_nil)) (Nat.le_refl _)))) fa_nil))))))))
noncomputable def d_is_statement (F_is_test : Fn) (F_is_term : Fn) (F_is_one_of : Fn) (F_is_formed : Fn) : DS := (mSeq (mIfS (mNotT (mTest (mCall 1 F_is_formed [false] (aCons (mVar 0) aNil)))) (mRet (mC (.bl false))) mNx) (mSeq (mIfS (mTOp eqF (mOp ixAF (mVar 0) (mC (.int 0))) (mC (.str "keep"))) (mRet (mBAnd (mCall 2 F_is_one_of [false, false] (aCons (mOp ixAF (mVar 0) (mC (.int 1))) (aCons (mC g_PLACES) aNil))) (mCall 2 F_is_term [false, false] (aCons (mOp ixAF (mVar 0) (mC (.int 2))) (aCons (mVar 1) aNil))))) mNx) (mSeq (mIfS (mTOp eqF (mOp ixAF (mVar 0) (mC (.int 0))) (mC (.str "give"))) (mRet (mBAnd (mCall 2 F_is_term [false, false] (aCons (mOp ixAF (mVar 0) (mC (.int 1))) (aCons (mVar 1) aNil))) (mCall 2 F_is_term [false, false] (aCons (mOp ixAF (mVar 0) (mC (.int 2))) (aCons (mVar 1) aNil))))) mNx) (mRet (mBAnd (mCall 2 F_is_test [false, false] (aCons (mOp ixAF (mVar 0) (mC (.int 1))) (aCons (mVar 1) aNil))) (mBAnd (mIsi "tuple" (mOp ixAF (mVar 0) (mC (.int 2)))) (mIsi "tuple" (mOp ixAF (mVar 0) (mC (.int 3))))))))))
theorem b_is_statement (T : Tx K w mg C_Program C_StretchError C_UnknownChange) {F_is_test : Fn} {F_is_term : Fn} {F_is_one_of : Fn} {F_is_formed : Fn} {f : Addr} (D_is_test : Dn P w K mg base k "is_test" 2 F_is_test) (D_is_term : Dn P w K mg base k "is_term" 2 F_is_term) (D_is_one_of : Dn P w K mg base k "is_one_of" 2 F_is_one_of) (D_is_formed : Dn P w K mg base k "is_formed" 1 F_is_formed) : Body P w K mg base N_is_statement "is_statement" f k (defScope S_is_statement) (defBody S_is_statement) (d_is_statement F_is_test F_is_term F_is_one_of F_is_formed) := fun cdv A outer s H E hr ct =>
  (fss_cons (fs_if (ft_not (ft_val (fe_call ct.tk D_is_formed [false] hr (fa_cons (fe_var 0) fa_nil) (Nat.le_refl _)))) (fss_one (fs_ret fe_bl)) fss_nil) (fss_cons (fs_if (ft_eq hr.units (fe_ixA (huS hr) (fe_var 0) fe_int) fe_str) (fss_one (fs_ret (fe_and (fe_call ct.tk D_is_one_of [false, false] hr (fa_cons (fe_ixA (huS hr) (fe_var 0) fe_int) (fa_cons (fe_gk T.g_PLACES) fa_nil)) (Nat.le_refl _)) (fe_one (fe_call ct.tk D_is_term [false, false] hr (fa_cons (fe_ixA (huS hr) (fe_var 0) fe_int) (fa_cons (fe_var 1) fa_nil)) (Nat.le_refl _)))))) fss_nil) (fss_cons (fs_if (ft_eq hr.units (fe_ixA (huS hr) (fe_var 0) fe_int) fe_str) (fss_one (fs_ret (fe_and (fe_call ct.tk D_is_term [false, false] hr (fa_cons (fe_ixA (huS hr) (fe_var 0) fe_int) (fa_cons (fe_var 1) fa_nil)) (Nat.le_refl _)) (fe_one (fe_call ct.tk D_is_term [false, false] hr (fa_cons (fe_ixA (huS hr) (fe_var 0) fe_int) (fa_cons (fe_var 1) fa_nil)) (Nat.le_refl _)))))) fss_nil) (fss_one (fs_ret (fe_and (fe_call ct.tk D_is_test [false, false] hr (fa_cons (fe_ixA (huS hr) (fe_var 0) fe_int) (fa_cons (fe_var 1) fa_nil)) (Nat.le_refl _)) (fe_and (fe_isi rfl T.n_isinstance rfl T.n_tuple (by decide +kernel) (fe_ixA (huS hr) (fe_var 0) fe_int)) (fe_one (fe_isi rfl T.n_isinstance rfl T.n_tuple (by decide +kernel) (fe_ixA (huS hr) (fe_var 0) fe_int))))))))))
noncomputable def d_check_block (F_is_statement : Fn) (F_walked : Fn) : DS := (mSeq (mIfS (mNotT (mTest (mIsi "tuple" (mVar 0)))) mNo mNx) (mSeq (mSet 3 (mCall 2 F_walked [false, false] (aCons (mVar 0) (aCons (mTup (aCons (mVar 1) aNil)) aNil)))) (mSeq (mIfS (mTOp gtF (mCa lenF (aCons (mVar 3) aNil)) (mC g_MOST_STATEMENTS)) mNo mNx) (mFor (iSeq (mVar 3)) (gT 2 (gsCons (gN 4) (gsCons (gN 5) gsNil))) (mIfS (mOrT (mNotT (mTest (mCall 2 F_is_statement [false, false] (aCons (mVar 5) (aCons (mVar 2) aNil))))) (mTOp gtF (mOp divF (mOp subF (mCa lenF (aCons (mVar 4) aNil)) (mC (.int 2))) (mC (.int 2))) (mC g_MOST_AROUND))) mNo mNx)))))
theorem b_check_block (T : Tx K w mg C_Program C_StretchError C_UnknownChange) {F_is_statement : Fn} {F_walked : Fn} {f : Addr} (D_is_statement : Dn P w K mg base k "is_statement" 2 F_is_statement) (D_walked : Dn P w K mg base k "walked" 2 F_walked) : Body P w K mg base N_check_block "check_block" f k (defScope S_check_block) (defBody S_check_block) (d_check_block F_is_statement F_walked) := fun cdv A outer s H E hr ct =>
  (fss_cons (fs_if (ft_not (ft_val (fe_isi rfl T.n_isinstance rfl T.n_tuple (by decide +kernel) (fe_var 0)))) (fss_one fs_never) fss_nil) (fss_cons (fs_set 3 sc_check_block.nd (fe_call ct.tk D_walked [false, false] hr (fa_cons (fe_var 0) (fa_cons (fe_tup (fa_cons (fe_var 1) fa_nil)) fa_nil)) (Nat.le_refl _))) (fss_cons (fs_if (ft_gt (fe_len rfl T.n_len (fa_cons (fe_var 3) fa_nil)) (fe_gk T.g_MOST_STATEMENTS)) (fss_one fs_never) fss_nil) (fss_one (fs_for rfl ct (fi_seq (fe_var 3)) (fg_tup rfl (fgs_cons (fg_name 4 sc_check_block.nd) (fgs_cons (fg_name 5 sc_check_block.nd) fgs_nil))) (fss_one (fs_if (SW.pt (fw_or (ft_not (ft_val (fe_call ct.tk D_is_statement [false, false] hr (fa_cons (fe_var 5) (fa_cons (fe_var 2) fa_nil)) (Nat.le_refl _)))) (fw_or1 (ft_gt (fe_div (fe_sub (fe_len rfl T.n_len (fa_cons (fe_var 4) fa_nil)) fe_int) fe_int) (fe_gk T.g_MOST_AROUND))))) (fss_one fs_never) fss_nil)))))))
noncomputable def d_Program_init (C_Program : Addr) (F_words_in : Fn) (F_walked : Fn) (F_check_block : Fn) (F_is_one_of : Fn) : DS := (mSeq (mIfS (mNotT (mTest (mCall 2 F_is_one_of [false, false] (aCons (mVar 1) (aCons (mC g_SORTINGS) aNil))))) mNo mNx) (mSeq (mDrop (mCall 3 F_check_block [false, false, false] (aCons (mVar 2) (aCons (mC (.str "block")) (aCons (mC g_TERMS) aNil))))) (mSeq (mDrop (mCall 3 F_check_block [false, false, false] (aCons (mVar 3) (aCons (mC (.str "last")) (aCons (mC g_PLACES) aNil))))) (mSeq (mSetF true C_Program "order" (mVar 0) (mVar 1)) (mSeq (mSetF true C_Program "body" (mVar 0) (mVar 2)) (mSeq (mSetF true C_Program "ending" (mVar 0) (mVar 3)) (mSeq (mSetF true C_Program "rows" (mVar 0) (mCa dictF (aCons (mOp addF (mCall 2 F_walked [false, false] (aCons (mVar 2) (aCons (mTup (aCons (mC (.str "block")) aNil)) aNil))) (mCall 2 F_walked [false, false] (aCons (mVar 3) (aCons (mTup (aCons (mC (.str "last")) aNil)) aNil)))) aNil))) (mSetF true C_Program "words" (mVar 0) (mLc2 (iVaD (mFld C_Program "rows" (mVar 0))) (gN 4) mYes (iSeq (mCall 1 F_words_in [false] (aCons (mVar 4) aNil))) (gN 5) mYes (mVar 5) [4, 5] [5])))))))))
theorem b_Program_init (T : Tx K w mg C_Program C_StretchError C_UnknownChange) {F_words_in : Fn} {F_walked : Fn} {F_check_block : Fn} {F_is_one_of : Fn} {f : Addr} (D_words_in : Dn P w K mg base k "words_in" 1 F_words_in) (D_walked : Dn P w K mg base k "walked" 2 F_walked) (D_check_block : Dn P w K mg base k "check_block" 3 F_check_block) (D_is_one_of : Dn P w K mg base k "is_one_of" 2 F_is_one_of) : Body P w K mg base N_Program_init "Program.__init__" f k (defScope S_Program_init) (defBody S_Program_init) (d_Program_init C_Program F_words_in F_walked F_check_block F_is_one_of) := fun cdv A outer s H E hr ct =>
  (fss_cons (fs_if (ft_not (ft_val (fe_call ct.tk D_is_one_of [false, false] hr (fa_cons (fe_var 1) (fa_cons (fe_gk T.g_SORTINGS) fa_nil)) (Nat.le_refl _)))) (fss_one fs_never) fss_nil) (fss_cons (fs_expr (fe_call ct.tk D_check_block [false, false, false] hr (fa_cons (fe_var 2) (fa_cons fe_str (fa_cons (fe_gk T.g_TERMS) fa_nil))) (Nat.le_refl _))) (fss_cons (fs_expr (fe_call ct.tk D_check_block [false, false, false] hr (fa_cons (fe_var 3) (fa_cons fe_str (fa_cons (fe_gk T.g_PLACES) fa_nil))) (Nat.le_refl _))) (fss_cons (fs_setF true T.c_Program T.a_Program_order (fe_var 0) (fe_var 1)) (fss_cons (fs_setF true T.c_Program T.a_Program_body (fe_var 0) (fe_var 2)) (fss_cons (fs_setF true T.c_Program T.a_Program_ending (fe_var 0) (fe_var 3)) (fss_cons (fs_setF true T.c_Program T.a_Program_rows (fe_var 0) (fe_dict rfl hr.units rfl T.n_dict (fa_cons (fe_add (fe_call ct.tk D_walked [false, false] hr (fa_cons (fe_var 2) (fa_cons (fe_tup (fa_cons fe_str fa_nil)) fa_nil)) (Nat.le_refl _)) (fe_call ct.tk D_walked [false, false] hr (fa_cons (fe_var 3) (fa_cons (fe_tup (fa_cons fe_str fa_nil)) fa_nil)) (Nat.le_refl _))) fa_nil))) (fss_one (fs_setF true T.c_Program T.a_Program_words (fe_var 0) (fe_lc2 [("statement", 4), ("word", 5)] [5] rfl sc_Program_init.nd (fi_values (fe_fld T.c_Program T.a_Program_rows (fe_var 0))) (blkOk_by (N := N_Program_init) (sc := defScope S_Program_init) (by decide +kernel)) (by decide) (fun _ _ _ _ _ => (fgv_name 4 sc_Program_init.nd)) (fun _ _ _ _ _ => fq_nil) (fun _ _ _ _ _ => (fi_seq (fe_call tk0 D_words_in [false] hr (fa_cons (fe_var 4) fa_nil) (Nat.le_refl _)))) (fun _ _ _ _ _ => (fgv_name 5 sc_Program_init.nd)) (fun _ _ _ _ _ => fq_nil) (fun _ _ _ _ _ => (fe_var 5))))))))))))
noncomputable def d_Program_with_sorting (C_Program : Addr) (F_Program_init : Fn) : DS := (mRet (mNew C_Program 4 F_Program_init [false, false, false] (aCons (mVar 1) (aCons (mFld C_Program "body" (mVar 0)) (aCons (mFld C_Program "ending" (mVar 0)) aNil)))))
theorem b_Program_with_sorting (T : Tx K w mg C_Program C_StretchError C_UnknownChange) {F_Program_init : Fn} {f : Addr} {LProgram : Nat} (L_Program : LProgram + 1 ≤ k) (D_Program_init : Cn P w K mg base LProgram "Program" C_Program 4 F_Program_init) : Body P w K mg base N_Program_with_sorting "Program.with_sorting" f k (defScope S_Program_with_sorting) (defBody S_Program_with_sorting) (d_Program_with_sorting C_Program F_Program_init) := fun cdv A outer s H E hr ct =>
  (fss_one (fs_ret (fe_new ct.tk D_Program_init [false, false, false] hr (fa_cons (fe_var 1) (fa_cons (fe_fld T.c_Program T.a_Program_body (fe_var 0)) (fa_cons (fe_fld T.c_Program T.a_Program_ending (fe_var 0)) fa_nil))) L_Program)))
noncomputable def d_replaced (F_replaced : Fn) : DS := (mSeq (mSet 3 (mOp ixAF (mVar 1) (mC (.int 0)))) (mSeq (mSet 4 (mVar 2)) (mSeq (mIfS (mTOp gtF (mCa lenF (aCons (mVar 1) aNil)) (mC (.int 1))) (mSeq (mSet 5 (mOp ixAF (mVar 0) (mVar 3))) (mSeq (mSet 6 (mOp addF (mC (.int 2)) (mOp ixAF (mVar 1) (mC (.int 1))))) (mSet 4 (mOp addF (mOp addF (mSl (mVar 5) mPN (mPS (mVar 6))) (mTup (aCons (mCall 3 F_replaced [false, false, false] (aCons (mOp ixAF (mVar 5) (mVar 6)) (aCons (mSl (mVar 1) (mPS (mC (.int 2))) mPN) (aCons (mVar 2) aNil)))) aNil))) (mSl (mVar 5) (mPS (mOp addF (mVar 6) (mC (.int 1)))) mPN))))) mNx) (mRet (mOp addF (mOp addF (mSl (mVar 0) mPN (mPS (mVar 3))) (mTup (aCons (mVar 4) aNil))) (mSl (mVar 0) (mPS (mOp addF (mVar 3) (mC (.int 1)))) mPN))))))
theorem b_replaced (T : Tx K w mg C_Program C_StretchError C_UnknownChange) {F_replaced : Fn} {f : Addr} (D_replaced : Dn P w K mg base k "replaced" 3 F_replaced) : Body P w K mg base N_replaced "replaced" f k (defScope S_replaced) (defBody S_replaced) (d_replaced F_replaced) := fun cdv A outer s H E hr ct =>
  (fss_cons (fs_set 3 sc_replaced.nd (fe_ixA (huS hr) (fe_var 1) fe_int)) (fss_cons (fs_set 4 sc_replaced.nd (fe_var 2)) (fss_cons (fs_if (ft_gt (fe_len rfl T.n_len (fa_cons (fe_var 1) fa_nil)) fe_int) (fss_cons (fs_set 5 sc_replaced.nd (fe_ixA (huS hr) (fe_var 0) (fe_var 3))) (fss_cons (fs_set 6 sc_replaced.nd (fe_add fe_int (fe_ixA (huS hr) (fe_var 1) fe_int))) (fss_one (fs_set 4 sc_replaced.nd (fe_add (fe_add (fe_slice (fe_var 5) fo_none (fo_some (fe_var 6))) (fe_tup (fa_cons (fe_call ct.tk D_replaced [false, false, false] hr (fa_cons (fe_ixA (huS hr) (fe_var 5) (fe_var 6)) (fa_cons (fe_slice (fe_var 1) (fo_some fe_int) fo_none) (fa_cons (fe_var 2) fa_nil))) (Nat.le_refl _)) fa_nil))) (fe_slice (fe_var 5) (fo_some (fe_add (fe_var 6) fe_int)) fo_none)))))) fss_nil) (fss_one (fs_ret (fe_add (fe_add (fe_slice (fe_var 0) fo_none (fo_some (fe_var 3))) (fe_tup (fa_cons (fe_var 4) fa_nil))) (fe_slice (fe_var 0) (fo_some (fe_add (fe_var 3) fe_int)) fo_none)))))))
noncomputable def d_with_statement (C_Program : Addr) (F_Program_init : Fn) (F_replaced : Fn) : DS := (mSeq (mIfS (mTOp eqF (mOp ixAF (mVar 1) (mC (.int 0))) (mC (.str "block"))) (mRet (mNew C_Program 4 F_Program_init [false, false, false] (aCons (mFld C_Program "order" (mVar 0)) (aCons (mCall 3 F_replaced [false, false, false] (aCons (mFld C_Program "body" (mVar 0)) (aCons (mSl (mVar 1) (mPS (mC (.int 1))) mPN) (aCons (mVar 2) aNil)))) (aCons (mFld C_Program "ending" (mVar 0)) aNil))))) mNx) (mRet (mNew C_Program 4 F_Program_init [false, false, false] (aCons (mFld C_Program "order" (mVar 0)) (aCons (mFld C_Program "body" (mVar 0)) (aCons (mCall 3 F_replaced [false, false, false] (aCons (mFld C_Program "ending" (mVar 0)) (aCons (mSl (mVar 1) (mPS (mC (.int 1))) mPN) (aCons (mVar 2) aNil)))) aNil))))))
theorem b_with_statement (T : Tx K w mg C_Program C_StretchError C_UnknownChange) {F_Program_init : Fn} {F_replaced : Fn} {f : Addr} {LProgram : Nat} (L_Program : LProgram + 1 ≤ k) (D_Program_init : Cn P w K mg base LProgram "Program" C_Program 4 F_Program_init) (D_replaced : Dn P w K mg base k "replaced" 3 F_replaced) : Body P w K mg base N_with_statement "with_statement" f k (defScope S_with_statement) (defBody S_with_statement) (d_with_statement C_Program F_Program_init F_replaced) := fun cdv A outer s H E hr ct =>
  (fss_cons (fs_if (ft_eq hr.units (fe_ixA (huS hr) (fe_var 1) fe_int) fe_str) (fss_one (fs_ret (fe_new ct.tk D_Program_init [false, false, false] hr (fa_cons (fe_fld T.c_Program T.a_Program_order (fe_var 0)) (fa_cons (fe_call ct.tk D_replaced [false, false, false] hr (fa_cons (fe_fld T.c_Program T.a_Program_body (fe_var 0)) (fa_cons (fe_slice (fe_var 1) (fo_some fe_int) fo_none) (fa_cons (fe_var 2) fa_nil))) (Nat.le_refl _)) (fa_cons (fe_fld T.c_Program T.a_Program_ending (fe_var 0)) fa_nil))) L_Program))) fss_nil) (fss_one (fs_ret (fe_new ct.tk D_Program_init [false, false, false] hr (fa_cons (fe_fld T.c_Program T.a_Program_order (fe_var 0)) (fa_cons (fe_fld T.c_Program T.a_Program_body (fe_var 0)) (fa_cons (fe_call ct.tk D_replaced [false, false, false] hr (fa_cons (fe_fld T.c_Program T.a_Program_ending (fe_var 0)) (fa_cons (fe_slice (fe_var 1) (fo_some fe_int) fo_none) (fa_cons (fe_var 2) fa_nil))) (Nat.le_refl _)) fa_nil))) L_Program))))
noncomputable def d_done (C_Program : Addr) (F_Program_with_sorting : Fn) (F_with_statement : Fn) : DS := (mSeq (mAsg (mVar 1) (gT 2 (gsCons (gN 2) (gsCons (gN 3) gsNil)))) (mRet (mIf (mTOp eqF (mVar 2) (mC g_SORTING)) (mMeth C_Program "with_sorting" 2 F_Program_with_sorting [true, false] (mVar 0) (aCons (mVar 3) aNil)) (mCall 3 F_with_statement [false, false, false] (aCons (mVar 0) (aCons (mVar 2) (aCons (mVar 3) aNil)))))))
theorem b_done (T : Tx K w mg C_Program C_StretchError C_UnknownChange) {F_Program_with_sorting : Fn} {F_with_statement : Fn} {f : Addr} (D_Program_with_sorting : Mn P w K mg base k C_Program "with_sorting" 2 F_Program_with_sorting) (D_with_statement : Dn P w K mg base k "with_statement" 3 F_with_statement) : Body P w K mg base N_done "done" f k (defScope S_done) (defBody S_done) (d_done C_Program F_Program_with_sorting F_with_statement) := fun cdv A outer s H E hr ct =>
  (fss_cons (fs_asg (fe_var 1) (fg_tup rfl (fgs_cons (fg_name 2 sc_done.nd) (fgs_cons (fg_name 3 sc_done.nd) fgs_nil)))) (fss_one (fs_ret (fe_if (ft_eq hr.units (fe_var 2) (fe_gk T.g_SORTING)) (fe_meth ct.tk D_Program_with_sorting [true, false] hr (fe_var 0) (fa_cons (fe_var 3) fa_nil) (Nat.le_refl _)) (fe_call ct.tk D_with_statement [false, false, false] hr (fa_cons (fe_var 0) (fa_cons (fe_var 2) (fa_cons (fe_var 3) fa_nil))) (Nat.le_refl _))))))
noncomputable def d_changed (C_UnknownChange : Addr) (F_changes : Fn) (F_done : Fn) : DS := (mSeq (mFor (iSeq (mCall 1 F_changes [false] (aCons (mVar 0) aNil))) (gN 2) (mIfS (mAndT (mTest (mIsi "tuple" (mVar 1))) (mAndT (mTOp eqF (mCa strF (aCons (mVar 2) aNil)) (mCa strF (aCons (mVar 1) aNil))) (mTOp eqF (mVar 2) (mVar 1)))) (mRet (mCall 2 F_done [false, false] (aCons (mVar 0) (aCons (mVar 2) aNil)))) mNx)) (mRaise0 C_UnknownChange))
theorem b_changed (T : Tx K w mg C_Program C_StretchError C_UnknownChange) {F_changes : Fn} {F_done : Fn} {f : Addr} (D_changes : Dn P w K mg base k "changes" 1 F_changes) (D_done : Dn P w K mg base k "done" 2 F_done) (hX2 : 1 + 1 ≤ k) (DX_UnknownChange : Dx0 P w K mg base 1 "UnknownChange" C_UnknownChange) : BodyK P w K mg base N_changed "changed" f k (defScope S_changed) (defBody S_changed) (d_changed C_UnknownChange F_changes F_done) := fun cdv A outer s H E hr hgd ct =>
  (fss_cons (fs_for rfl ct (fi_seq (fe_call ct.tk D_changes [false] hr (fa_cons (fe_var 0) fa_nil) (Nat.le_refl _))) (fg_name 2 sc_changed.nd) (fss_one (fs_if (SW.pt (fw_and (ft_val (fe_isi rfl T.n_isinstance rfl T.n_tuple (by decide +kernel) (fe_var 1))) (fw_and (ft_eq hr.units (fe_strT hr.units hgd rfl T.n_str (fa_cons (fe_var 2) fa_nil)) (fe_strT hr.units hgd rfl T.n_str (fa_cons (fe_var 1) fa_nil))) (fw_and1 (ft_eq hr.units (fe_var 2) (fe_var 1)))))) (fss_one (fs_ret (fe_call ct.tk D_done [false, false] hr (fa_cons (fe_var 0) (fa_cons (fe_var 2) fa_nil)) (Nat.le_refl _)))) fss_nil))) (fss_one (fs_raise0 rfl ct DX_UnknownChange hr hX2)))
noncomputable def d__law_refused (C_StretchError : Addr) (C_UnknownChange : Addr) (F_changed : Fn) : DS := (mSeq (mSet 2 (mC (.bl false))) (mSeq (mTry [(C_UnknownChange, true)] 3 (mDrop (mCall 2 F_changed [false, false] (aCons (mVar 0) (aCons (mVar 1) aNil)))) (fun x => mSet 2 ((hIs C_UnknownChange true) x))) (mRet (mVar 2))))
theorem b__law_refused (T : Tx K w mg C_Program C_StretchError C_UnknownChange) {F_changed : Fn} {f : Addr} (D_changed : DnK P w K mg base k "changed" 2 F_changed) : BodyK P w K mg base N__law_refused "_law_refused" f k (defScope S__law_refused) (defBody S__law_refused) (d__law_refused C_StretchError C_UnknownChange F_changed) := fun cdv A outer s H E hr hgd ct =>
  (fss_cons (fs_set 2 sc__law_refused.nd fe_bl) (fss_cons (fs_try 3 [(C_UnknownChange, true)] ct sc__law_refused.nd T.e_UnknownChange (fun z hz => by rw [List.mem_singleton] at hz; subst hz; exact T.w_UnknownChange_UnknownChange) (fun W1 pn1 xe1 ct => (fss_one (fs_expr (fe_callK ct.tk D_changed [false, false] hr hgd (fa_cons (fe_var 0) (fa_cons (fe_var 1) fa_nil)) (Nat.le_refl _))))) (sh_set 2 sc__law_refused.nd (h_isi T.e_UnknownChange T.e_StretchError T.w_UnknownChange_StretchError T.n_isinstance (.inr rfl)))) (fss_one (fs_ret (fe_var 2)))))
noncomputable def d__law_taken : DS := (mSeq (mIfS (mTOp gtF (mOp ixAF (mVar 0) (mC (.int 3))) (mC (.int 0))) (mSeq (mSet 3 (mOp modF (mCa intF (aCons (mOp ixAF (mVar 0) (mC (.int 3))) aNil)) (mVar 1))) (mSeq (mAsg (mOp divF (mOp ixAF (mVar 0) (mC (.int 3))) (mVar 1)) (gIx (mVar 0) (mC (.int 3)))) (mRet (mVar 3)))) mNx) (mSeq (mAsg (mOp addF (mOp ixAF (mVar 0) (mC (.int 1))) (mC (.int 1))) (gIx (mVar 0) (mC (.int 1)))) (mSeq (mIfS (mTOp gtF (mOp ixAF (mVar 0) (mC (.int 1))) (mCa lenF (aCons (mOp ixAF (mVar 0) (mC (.int 0))) aNil))) (mSeq (mAsg (mOp modF (mCa intF (aCons (mOp addF (mOp mulF (mOp ixAF (mVar 0) (mC (.int 2))) (mC (.int 48271))) (mC (.int 11))) aNil)) (mC (.int 2147483647))) (gIx (mVar 0) (mC (.int 2)))) (mRet (mOp modF (mCa intF (aCons (mOp divF (mOp ixAF (mVar 0) (mC (.int 2))) (mC (.int 7))) aNil)) (mVar 1)))) mNx) (mSeq (mSet 2 (mOp ixAF (mOp ixAF (mVar 0) (mC (.int 0))) (mOp subF (mOp ixAF (mVar 0) (mC (.int 1))) (mC (.int 1))))) (mSeq (mAsg (mOp modF (mCa intF (aCons (mOp addF (mOp addF (mOp mulF (mOp ixAF (mVar 0) (mC (.int 2))) (mC (.int 48271))) (mVar 2)) (mC (.int 11))) aNil)) (mC (.int 2147483647))) (gIx (mVar 0) (mC (.int 2)))) (mSeq (mIfS (mTOp geF (mVar 2) (mOp powF (mC (.int 10)) (mC (.int 18)))) (mAsg (mOp divF (mVar 2) (mVar 1)) (gIx (mVar 0) (mC (.int 3)))) mNx) (mRet (mOp modF (mCa intF (aCons (mVar 2) aNil)) (mVar 1)))))))))
theorem b__law_taken (T : Tx K w mg C_Program C_StretchError C_UnknownChange) {f : Addr} : Body P w K mg base N__law_taken "_law_taken" f k (defScope S__law_taken) (defBody S__law_taken) (d__law_taken) := fun cdv A outer s H E hr ct =>
  (fss_cons (fs_if (ft_gt (fe_ixA (huS hr) (fe_var 0) fe_int) fe_int) (fss_cons (fs_set 3 sc__law_taken.nd (fe_mod (fe_int1 rfl T.n_int (fa_cons (fe_ixA (huS hr) (fe_var 0) fe_int) fa_nil)) (fe_var 1))) (fss_cons (fs_asg (fe_div (fe_ixA (huS hr) (fe_var 0) fe_int) (fe_var 1)) (fg_ix (fe_var 0) fe_int)) (fss_one (fs_ret (fe_var 3))))) fss_nil) (fss_cons (fs_asg (fe_add (fe_ixA (huS hr) (fe_var 0) fe_int) fe_int) (fg_ix (fe_var 0) fe_int)) (fss_cons (fs_if (ft_gt (fe_ixA (huS hr) (fe_var 0) fe_int) (fe_len rfl T.n_len (fa_cons (fe_ixA (huS hr) (fe_var 0) fe_int) fa_nil))) (fss_cons (fs_asg (fe_mod (fe_int1 rfl T.n_int (fa_cons (fe_add (fe_mul (fe_ixA (huS hr) (fe_var 0) fe_int) fe_int) fe_int) fa_nil)) fe_int) (fg_ix (fe_var 0) fe_int)) (fss_one (fs_ret (fe_mod (fe_int1 rfl T.n_int (fa_cons (fe_div (fe_ixA (huS hr) (fe_var 0) fe_int) fe_int) fa_nil)) (fe_var 1))))) fss_nil) (fss_cons (fs_set 2 sc__law_taken.nd (fe_ixA (huS hr) (fe_ixA (huS hr) (fe_var 0) fe_int) (fe_sub (fe_ixA (huS hr) (fe_var 0) fe_int) fe_int))) (fss_cons (fs_asg (fe_mod (fe_int1 rfl T.n_int (fa_cons (fe_add (fe_add (fe_mul (fe_ixA (huS hr) (fe_var 0) fe_int) fe_int) (fe_var 2)) fe_int) fa_nil)) fe_int) (fg_ix (fe_var 0) fe_int)) (fss_cons (fs_if (ft_ge (fe_var 2) (fe_pow fe_int fe_int)) (fss_one (fs_asg (fe_div (fe_var 2) (fe_var 1)) (fg_ix (fe_var 0) fe_int))) fss_nil) (fss_one (fs_ret (fe_mod (fe_int1 rfl T.n_int (fa_cons (fe_var 2) fa_nil)) (fe_var 1))))))))))
noncomputable def d_Program_eq (C_Program : Addr) : DS := (mSeq (mIfS (mOrT (mNotT (mTest (mIsO C_Program (mVar 1)))) (mTOp neF (mFld C_Program "order" (mVar 0)) (mFld C_Program "order" (mVar 1)))) (mRet (mC (.bl false))) mNx) (mRet (mBAnd (mOp eqF (mFld C_Program "body" (mVar 0)) (mFld C_Program "body" (mVar 1))) (mOp eqF (mFld C_Program "ending" (mVar 0)) (mFld C_Program "ending" (mVar 1))))))
theorem b_Program_eq (T : Tx K w mg C_Program C_StretchError C_UnknownChange) {f : Addr} : Body P w K mg base N_Program_eq "Program.__eq__" f k (defScope S_Program_eq) (defBody S_Program_eq) (d_Program_eq C_Program) := fun cdv A outer s H E hr ct =>
  (fss_cons (fs_if (SW.pt (fw_or (ft_not (ft_val (fe_isO T.o_Program (fe_var 1) T.n_isinstance))) (fw_or1 (ft_ne hr.units (fe_fld T.c_Program T.a_Program_order (fe_var 0)) (fe_fld T.c_Program T.a_Program_order (fe_var 1)))))) (fss_one (fs_ret fe_bl)) fss_nil) (fss_one (fs_ret (fe_and (fe_eq hr.units (fe_fld T.c_Program T.a_Program_body (fe_var 0)) (fe_fld T.c_Program T.a_Program_body (fe_var 1))) (fe_one (fe_eq hr.units (fe_fld T.c_Program T.a_Program_ending (fe_var 0)) (fe_fld T.c_Program T.a_Program_ending (fe_var 1))))))))
noncomputable def d__law_made (C_Program : Addr) (F_Program_init : Fn) : DS := (mRet (mNew C_Program 4 F_Program_init [false, false, false] (aCons (mOp ixAF (mVar 0) (mC (.str "sorting"))) (aCons (mOp ixAF (mVar 0) (mC (.str "block"))) (aCons (mOp ixAF (mVar 0) (mC (.str "last"))) aNil)))))
theorem b__law_made (T : Tx K w mg C_Program C_StretchError C_UnknownChange) {F_Program_init : Fn} {f : Addr} {LProgram : Nat} (L_Program : LProgram + 1 ≤ k) (D_Program_init : Cn P w K mg base LProgram "Program" C_Program 4 F_Program_init) : Body P w K mg base N__law_made "_law_made" f k (defScope S__law_made) (defBody S__law_made) (d__law_made C_Program F_Program_init) := fun cdv A outer s H E hr ct =>
  (fss_one (fs_ret (fe_new ct.tk D_Program_init [false, false, false] hr (fa_cons (fe_ixA (huS hr) (fe_var 0) fe_str) (fa_cons (fe_ixA (huS hr) (fe_var 0) fe_str) (fa_cons (fe_ixA (huS hr) (fe_var 0) fe_str) fa_nil))) L_Program)))
noncomputable def d__law_all (F__law_all : Fn) : DS := (mSeq (mSet 2 (mLst aNil)) (mSeq (mFor (iR1 (aCons (mCa lenF (aCons (mVar 0) aNil)) aNil)) (gN 3) (mSeq (mDrop (mApp (mVar 2) (mTup (aCons (mOp addF (mVar 1) (mTup (aCons (mVar 3) aNil))) (aCons (mOp ixAF (mVar 0) (mVar 3)) aNil))))) (mIfS (mTOp eqF (mOp ixAF (mOp ixAF (mVar 0) (mVar 3)) (mC (.int 0))) (mC (.str "if"))) (mFor (iR1 (aCons (mC (.int 2)) aNil)) (gN 4) (mSet 2 (mOp addF (mVar 2) (mCall 2 F__law_all [false, false] (aCons (mOp ixAF (mOp ixAF (mVar 0) (mVar 3)) (mOp addF (mC (.int 2)) (mVar 4))) (aCons (mOp addF (mVar 1) (mTup (aCons (mVar 3) (aCons (mVar 4) aNil)))) aNil)))))) mNx))) (mRet (mVar 2))))
theorem b__law_all (T : Tx K w mg C_Program C_StretchError C_UnknownChange) {F__law_all : Fn} {f : Addr} (D__law_all : Dn P w K mg base k "_law_all" 2 F__law_all) : Body P w K mg base N__law_all "_law_all" f k (defScope S__law_all) (defBody S__law_all) (d__law_all F__law_all) := fun cdv A outer s H E hr ct =>
  (fss_cons (fs_set 2 sc__law_all.nd (fe_lst fa_nil)) (fss_cons (fs_for rfl ct (fi_range1 rfl T.n_range (fa_cons (fe_len rfl T.n_len (fa_cons (fe_var 0) fa_nil)) fa_nil)) (fg_name 3 sc__law_all.nd) (fss_cons (fs_expr (fe_app (fe_var 2) (fe_tup (fa_cons (fe_add (fe_var 1) (fe_tup (fa_cons (fe_var 3) fa_nil))) (fa_cons (fe_ixA (huS hr) (fe_var 0) (fe_var 3)) fa_nil))))) (fss_one (fs_if (ft_eq hr.units (fe_ixA (huS hr) (fe_ixA (huS hr) (fe_var 0) (fe_var 3)) fe_int) fe_str) (fss_one (fs_for rfl ct (fi_range1 rfl T.n_range (fa_cons fe_int fa_nil)) (fg_name 4 sc__law_all.nd) (fss_one (fs_set 2 sc__law_all.nd (fe_add (fe_var 2) (fe_call ct.tk D__law_all [false, false] hr (fa_cons (fe_ixA (huS hr) (fe_ixA (huS hr) (fe_var 0) (fe_var 3)) (fe_add fe_int (fe_var 4))) (fa_cons (fe_add (fe_var 1) (fe_tup (fa_cons (fe_var 3) (fa_cons (fe_var 4) fa_nil)))) fa_nil)) (Nat.le_refl _))))))) fss_nil)))) (fss_one (fs_ret (fe_var 2)))))
noncomputable def d__law_words : DS := (mSeq (mSet 3 (mLc (iSeq (mVar 2)) (gN 4) mYes (mOp addF (mOp addF (mSl (mVar 0) mPN (mPS (mVar 1))) (mTup (aCons (mVar 4) aNil))) (mSl (mVar 0) (mPS (mOp addF (mVar 1) (mC (.int 1)))) mPN)) [4])) (mRet (mLc (iSeq (mVar 3)) (gN 5) (mTOp neF (mVar 5) (mVar 0)) (mVar 5) [5])))
theorem b__law_words (T : Tx K w mg C_Program C_StretchError C_UnknownChange) {f : Addr} : Body P w K mg base N__law_words "_law_words" f k (defScope S__law_words) (defBody S__law_words) (d__law_words) := fun cdv A outer s H E hr ct =>
  (fss_cons (fs_setLc 3 [("_law_word", 4)] rfl sc__law_words.nd (sw_true rfl rfl rfl (by decide +kernel)) (fi_seq (fe_var 2)) (blkOk_by (N := N__law_words) (sc := defScope S__law_words) (by decide +kernel)) (fun _ _ _ _ _ => (fgv_name 4 sc__law_words.nd)) (fun _ _ _ _ _ => fq_nil) (fun _ _ _ _ _ => (fe_add (fe_add (fe_slice (fe_var 0) fo_none (fo_some (fe_var 1))) (fe_tup (fa_cons (fe_var 4) fa_nil))) (fe_slice (fe_var 0) (fo_some (fe_add (fe_var 1) fe_int)) fo_none)))) (fss_one (fs_ret (fe_lc [("_law_one", 5)] rfl sc__law_words.nd (fi_seq (fe_var 3)) (blkOk_by (N := N__law_words) (sc := defScope S__law_words) (by decide +kernel)) (fun _ _ _ _ _ => (fgv_name 5 sc__law_words.nd)) (fun _ _ _ _ _ => fq_one (ft_ne hr.units (fe_var 5) (fe_var 0))) (fun _ _ _ _ _ => (fe_var 5))))))
noncomputable def d__law_others (F__law_words : Fn) : DS := (mSeq (mIfS (mTOp eqF (mOp ixAF (mVar 0) (mC (.int 0))) (mC (.str "keep"))) (mSeq (mSet 2 (mGetK (mDisp ["one"] (aCons (mC (.str "two")) aNil)) (mOp ixAF (mVar 0) (mC (.int 1))) (mC (.str "one")))) (mRet (mOp addF (mLst (aCons (mTup (aCons (mC (.str "keep")) (aCons (mVar 2) (aCons (mOp ixAF (mVar 0) (mC (.int 2))) aNil)))) aNil)) (mCall 3 F__law_words [false, false, false] (aCons (mVar 0) (aCons (mC (.int 2)) (aCons (mVar 1) aNil))))))) mNx) (mSeq (mIfS (mTOp eqF (mOp ixAF (mVar 0) (mC (.int 0))) (mC (.str "give"))) (mRet (mOp addF (mCall 3 F__law_words [false, false, false] (aCons (mVar 0) (aCons (mC (.int 1)) (aCons (mVar 1) aNil)))) (mCall 3 F__law_words [false, false, false] (aCons (mVar 0) (aCons (mC (.int 2)) (aCons (mVar 1) aNil)))))) mNx) (mSeq (mPar 3 4 (aCons (mOp ixAF (mVar 0) (mC (.int 1))) (aCons (mLst aNil) aNil))) (mSeq (mIfS (mTOp neF (mOp ixAF (mVar 3) (mC (.int 0))) (mC (.str "sort"))) (mSeq (mSet 5 (mOp addF (mLst (aCons (mOp addF (mTup (aCons (mGetK (mDisp ["less"] (aCons (mC (.str "same")) aNil)) (mOp ixAF (mVar 3) (mC (.int 0))) (mC (.str "less"))) aNil)) (mSl (mVar 3) (mPS (mC (.int 1))) mPN)) aNil)) (mCall 3 F__law_words [false, false, false] (aCons (mVar 3) (aCons (mC (.int 1)) (aCons (mVar 1) aNil)))))) (mFor (iSeq (mOp addF (mVar 5) (mCall 3 F__law_words [false, false, false] (aCons (mVar 3) (aCons (mC (.int 2)) (aCons (mVar 1) aNil)))))) (gN 6) (mDrop (mApp (mVar 4) (mOp addF (mTup (aCons (mC (.str "if")) (aCons (mVar 6) aNil))) (mSl (mVar 0) (mPS (mC (.int 2))) mPN)))))) mNx) (mSeq (mIfS (mTOp neF (mOp ixAF (mVar 0) (mC (.int 2))) (mOp ixAF (mVar 0) (mC (.int 3)))) (mDrop (mApp (mVar 4) (mTup (aCons (mC (.str "if")) (aCons (mVar 3) (aCons (mOp ixAF (mVar 0) (mC (.int 3))) (aCons (mOp ixAF (mVar 0) (mC (.int 2))) aNil))))))) mNx) (mRet (mVar 4)))))))
theorem b__law_others (T : Tx K w mg C_Program C_StretchError C_UnknownChange) {F__law_words : Fn} {f : Addr} (D__law_words : Dn P w K mg base k "_law_words" 3 F__law_words) : Body P w K mg base N__law_others "_law_others" f k (defScope S__law_others) (defBody S__law_others) (d__law_others F__law_words) := fun cdv A outer s H E hr ct =>
  (fss_cons (fs_if (ft_eq hr.units (fe_ixA (huS hr) (fe_var 0) fe_int) fe_str) (fss_cons (fs_set 2 sc__law_others.nd (fe_getK (huS hr) (fe_disp (sps_cons fe_str sps_nil)) (fe_ixA (huS hr) (fe_var 0) fe_int) fe_str ⟨rfl, rfl, rfl, rfl⟩)) (fss_one (fs_ret (fe_add (fe_lst (fa_cons (fe_tup (fa_cons fe_str (fa_cons (fe_var 2) (fa_cons (fe_ixA (huS hr) (fe_var 0) fe_int) fa_nil)))) fa_nil)) (fe_call ct.tk D__law_words [false, false, false] hr (fa_cons (fe_var 0) (fa_cons fe_int (fa_cons (fe_var 1) fa_nil))) (Nat.le_refl _)))))) fss_nil) (fss_cons (fs_if (ft_eq hr.units (fe_ixA (huS hr) (fe_var 0) fe_int) fe_str) (fss_one (fs_ret (fe_add (fe_call ct.tk D__law_words [false, false, false] hr (fa_cons (fe_var 0) (fa_cons fe_int (fa_cons (fe_var 1) fa_nil))) (Nat.le_refl _)) (fe_call ct.tk D__law_words [false, false, false] hr (fa_cons (fe_var 0) (fa_cons fe_int (fa_cons (fe_var 1) fa_nil))) (Nat.le_refl _))))) fss_nil) (fss_cons (fs_par 3 4 rfl sc__law_others.nd (fa_cons (fe_ixA (huS hr) (fe_var 0) fe_int) (fa_cons (fe_lst fa_nil) fa_nil))) (fss_cons (fs_if (ft_ne hr.units (fe_ixA (huS hr) (fe_var 3) fe_int) fe_str) (fss_cons (fs_set 5 sc__law_others.nd (fe_add (fe_lst (fa_cons (fe_add (fe_tup (fa_cons (fe_getK (huS hr) (fe_disp (sps_cons fe_str sps_nil)) (fe_ixA (huS hr) (fe_var 3) fe_int) fe_str ⟨rfl, rfl, rfl, rfl⟩) fa_nil)) (fe_slice (fe_var 3) (fo_some fe_int) fo_none)) fa_nil)) (fe_call ct.tk D__law_words [false, false, false] hr (fa_cons (fe_var 3) (fa_cons fe_int (fa_cons (fe_var 1) fa_nil))) (Nat.le_refl _)))) (fss_one (fs_for rfl ct (fi_seq (fe_add (fe_var 5) (fe_call ct.tk D__law_words [false, false, false] hr (fa_cons (fe_var 3) (fa_cons fe_int (fa_cons (fe_var 1) fa_nil))) (Nat.le_refl _)))) (fg_name 6 sc__law_others.nd) (fss_one (fs_expr (fe_app (fe_var 4) (fe_add (fe_tup (fa_cons fe_str (fa_cons (fe_var 6) fa_nil))) (fe_slice (fe_var 0) (fo_some fe_int) fo_none)))))))) fss_nil) (fss_cons (fs_if (ft_ne hr.units (fe_ixA (huS hr) (fe_var 0) fe_int) (fe_ixA (huS hr) (fe_var 0) fe_int)) (fss_one (fs_expr (fe_app (fe_var 4) (fe_tup (fa_cons fe_str (fa_cons (fe_var 3) (fa_cons (fe_ixA (huS hr) (fe_var 0) fe_int) (fa_cons (fe_ixA (huS hr) (fe_var 0) fe_int) fa_nil)))))))) fss_nil) (fss_one (fs_ret (fe_var 4))))))))
noncomputable def d__law_with (F__law_with : Fn) : DS := (mSeq (mPar 3 4 (aCons (mOp ixAF (mVar 1) (mC (.int 0))) (aCons (mVar 2) aNil))) (mSeq (mIfS (mTOp gtF (mCa lenF (aCons (mVar 1) aNil)) (mC (.int 1))) (mSeq (mSet 5 (mCa listF (aCons (mOp ixAF (mVar 0) (mVar 3)) aNil))) (mSeq (mAsg (mCall 3 F__law_with [false, false, false] (aCons (mOp ixAF (mVar 5) (mOp addF (mC (.int 2)) (mOp ixAF (mVar 1) (mC (.int 1))))) (aCons (mSl (mVar 1) (mPS (mC (.int 2))) mPN) (aCons (mVar 2) aNil)))) (gIx (mVar 5) (mOp addF (mC (.int 2)) (mOp ixAF (mVar 1) (mC (.int 1)))))) (mSet 4 (mCa tupleF (aCons (mVar 5) aNil))))) mNx) (mRet (mOp addF (mOp addF (mSl (mVar 0) mPN (mPS (mVar 3))) (mTup (aCons (mVar 4) aNil))) (mSl (mVar 0) (mPS (mOp addF (mVar 3) (mC (.int 1)))) mPN)))))
theorem b__law_with (T : Tx K w mg C_Program C_StretchError C_UnknownChange) {F__law_with : Fn} {f : Addr} (D__law_with : Dn P w K mg base k "_law_with" 3 F__law_with) : Body P w K mg base N__law_with "_law_with" f k (defScope S__law_with) (defBody S__law_with) (d__law_with F__law_with) := fun cdv A outer s H E hr ct =>
  (fss_cons (fs_par 3 4 rfl sc__law_with.nd (fa_cons (fe_ixA (huS hr) (fe_var 1) fe_int) (fa_cons (fe_var 2) fa_nil))) (fss_cons (fs_if (ft_gt (fe_len rfl T.n_len (fa_cons (fe_var 1) fa_nil)) fe_int) (fss_cons (fs_set 5 sc__law_with.nd (fe_list rfl T.n_list (fa_cons (fe_ixA (huS hr) (fe_var 0) (fe_var 3)) fa_nil))) (fss_cons (fs_asg (fe_call ct.tk D__law_with [false, false, false] hr (fa_cons (fe_ixA (huS hr) (fe_var 5) (fe_add fe_int (fe_ixA (huS hr) (fe_var 1) fe_int))) (fa_cons (fe_slice (fe_var 1) (fo_some fe_int) fo_none) (fa_cons (fe_var 2) fa_nil))) (Nat.le_refl _)) (fg_ix (fe_var 5) (fe_add fe_int (fe_ixA (huS hr) (fe_var 1) fe_int)))) (fss_one (fs_set 4 sc__law_with.nd (fe_tuple rfl T.n_tuple (fa_cons (fe_var 5) fa_nil)))))) fss_nil) (fss_one (fs_ret (fe_add (fe_add (fe_slice (fe_var 0) fo_none (fo_some (fe_var 3))) (fe_tup (fa_cons (fe_var 4) fa_nil))) (fe_slice (fe_var 0) (fo_some (fe_add (fe_var 3) fe_int)) fo_none))))))
noncomputable def d__law_term (F__law_taken : Fn) : DS := (mSeq (mIfS (mTOp gtF (mCall 2 F__law_taken [true, false] (aCons (mVar 0) (aCons (mC (.int 4)) aNil))) (mC (.int 0))) (mRet (mOp ixAF (mVar 1) (mCall 2 F__law_taken [true, false] (aCons (mVar 0) (aCons (mCa lenF (aCons (mVar 1) aNil)) aNil))))) mNx) (mSeq (mPar 2 3 (aCons (mOp ixAF (mVar 1) (mCall 2 F__law_taken [true, false] (aCons (mVar 0) (aCons (mCa lenF (aCons (mVar 1) aNil)) aNil)))) (aCons (mOp ixAF (mVar 1) (mCall 2 F__law_taken [true, false] (aCons (mVar 0) (aCons (mCa lenF (aCons (mVar 1) aNil)) aNil)))) aNil))) (mRet (mTup (aCons (mOp ixAF (mLst (aCons (mC (.str "least")) (aCons (mC (.str "greatest")) aNil))) (mCall 2 F__law_taken [true, false] (aCons (mVar 0) (aCons (mC (.int 2)) aNil)))) (aCons (mVar 2) (aCons (mVar 3) aNil)))))))
theorem b__law_term (T : Tx K w mg C_Program C_StretchError C_UnknownChange) {F__law_taken : Fn} {f : Addr} (D__law_taken : Dn P w K mg base k "_law_taken" 2 F__law_taken) : Body P w K mg base N__law_term "_law_term" f k (defScope S__law_term) (defBody S__law_term) (d__law_term F__law_taken) := fun cdv A outer s H E hr ct =>
  (fss_cons (fs_if (ft_gt (fe_call ct.tk D__law_taken [true, false] hr (fa_cons (fe_var 0) (fa_cons fe_int fa_nil)) (Nat.le_refl _)) fe_int) (fss_one (fs_ret (fe_ixA (huS hr) (fe_var 1) (fe_call ct.tk D__law_taken [true, false] hr (fa_cons (fe_var 0) (fa_cons (fe_len rfl T.n_len (fa_cons (fe_var 1) fa_nil)) fa_nil)) (Nat.le_refl _))))) fss_nil) (fss_cons (fs_par 2 3 rfl sc__law_term.nd (fa_cons (fe_ixA (huS hr) (fe_var 1) (fe_call ct.tk D__law_taken [true, false] hr (fa_cons (fe_var 0) (fa_cons (fe_len rfl T.n_len (fa_cons (fe_var 1) fa_nil)) fa_nil)) (Nat.le_refl _))) (fa_cons (fe_ixA (huS hr) (fe_var 1) (fe_call ct.tk D__law_taken [true, false] hr (fa_cons (fe_var 0) (fa_cons (fe_len rfl T.n_len (fa_cons (fe_var 1) fa_nil)) fa_nil)) (Nat.le_refl _))) fa_nil))) (fss_one (fs_ret (fe_tup (fa_cons (fe_ixA (huS hr) (fe_lst (fa_cons fe_str (fa_cons fe_str fa_nil))) (fe_call ct.tk D__law_taken [true, false] hr (fa_cons (fe_var 0) (fa_cons fe_int fa_nil)) (Nat.le_refl _))) (fa_cons (fe_var 2) (fa_cons (fe_var 3) fa_nil))))))))
noncomputable def d__law_test (F__law_taken : Fn) : DS := (mSeq (mIfS (mAndT (mTOp eqF (mCall 2 F__law_taken [true, false] (aCons (mVar 0) (aCons (mC (.int 4)) aNil))) (mC (.int 0))) (mTOp (inF false) (mC (.str "begin")) (mVar 1))) (mRet (mTup (aCons (mC (.str "sort")) (aCons (mC (.str "a")) aNil)))) mNx) (mSeq (mPar 2 3 (aCons (mOp ixAF (mVar 1) (mCall 2 F__law_taken [true, false] (aCons (mVar 0) (aCons (mCa lenF (aCons (mVar 1) aNil)) aNil)))) (aCons (mOp ixAF (mVar 1) (mCall 2 F__law_taken [true, false] (aCons (mVar 0) (aCons (mCa lenF (aCons (mVar 1) aNil)) aNil)))) aNil))) (mRet (mTup (aCons (mOp ixAF (mLst (aCons (mC (.str "less")) (aCons (mC (.str "less")) (aCons (mC (.str "same")) aNil)))) (mCall 2 F__law_taken [true, false] (aCons (mVar 0) (aCons (mC (.int 3)) aNil)))) (aCons (mVar 2) (aCons (mVar 3) aNil)))))))
theorem b__law_test (T : Tx K w mg C_Program C_StretchError C_UnknownChange) {F__law_taken : Fn} {f : Addr} (D__law_taken : Dn P w K mg base k "_law_taken" 2 F__law_taken) : Body P w K mg base N__law_test "_law_test" f k (defScope S__law_test) (defBody S__law_test) (d__law_test F__law_taken) := fun cdv A outer s H E hr ct =>
  (fss_cons (fs_if (SW.pt (fw_and (ft_eq hr.units (fe_call ct.tk D__law_taken [true, false] hr (fa_cons (fe_var 0) (fa_cons fe_int fa_nil)) (Nat.le_refl _)) fe_int) (fw_and1 (ft_in fe_str (fe_var 1))))) (fss_one (fs_ret (fe_tup (fa_cons fe_str (fa_cons fe_str fa_nil))))) fss_nil) (fss_cons (fs_par 2 3 rfl sc__law_test.nd (fa_cons (fe_ixA (huS hr) (fe_var 1) (fe_call ct.tk D__law_taken [true, false] hr (fa_cons (fe_var 0) (fa_cons (fe_len rfl T.n_len (fa_cons (fe_var 1) fa_nil)) fa_nil)) (Nat.le_refl _))) (fa_cons (fe_ixA (huS hr) (fe_var 1) (fe_call ct.tk D__law_taken [true, false] hr (fa_cons (fe_var 0) (fa_cons (fe_len rfl T.n_len (fa_cons (fe_var 1) fa_nil)) fa_nil)) (Nat.le_refl _))) fa_nil))) (fss_one (fs_ret (fe_tup (fa_cons (fe_ixA (huS hr) (fe_lst (fa_cons fe_str (fa_cons fe_str (fa_cons fe_str fa_nil)))) (fe_call ct.tk D__law_taken [true, false] hr (fa_cons (fe_var 0) (fa_cons fe_int fa_nil)) (Nat.le_refl _))) (fa_cons (fe_var 2) (fa_cons (fe_var 3) fa_nil))))))))
noncomputable def d__law_statement (F__law_term : Fn) (F__law_taken : Fn) (F__law_block : Fn) (F__law_test : Fn) : DS := (mSeq (mSet 3 (mCall 2 F__law_taken [true, false] (aCons (mVar 0) (aCons (mC (.int 5)) aNil)))) (mSeq (mIfS (mAndT (mTOp eqF (mVar 3) (mC (.int 4))) (mTOp ltF (mVar 2) (mC (.int 2)))) (mSeq (mSet 4 (mCall 2 F__law_test [true, false] (aCons (mVar 0) (aCons (mVar 1) aNil)))) (mRet (mTup (aCons (mC (.str "if")) (aCons (mVar 4) (aCons (mCall 4 F__law_block [true, false, false, false] (aCons (mVar 0) (aCons (mVar 1) (aCons (mOp addF (mVar 2) (mC (.int 1))) (aCons (mC (.int 2)) aNil))))) (aCons (mCall 4 F__law_block [true, false, false, false] (aCons (mVar 0) (aCons (mVar 1) (aCons (mOp addF (mVar 2) (mC (.int 1))) (aCons (mC (.int 2)) aNil))))) aNil))))))) mNx) (mSeq (mIfS (mTOp ltF (mVar 3) (mC (.int 2))) (mRet (mTup (aCons (mC (.str "give")) (aCons (mCall 2 F__law_term [true, false] (aCons (mVar 0) (aCons (mVar 1) aNil))) (aCons (mCall 2 F__law_term [true, false] (aCons (mVar 0) (aCons (mVar 1) aNil))) aNil))))) mNx) (mRet (mTup (aCons (mC (.str "keep")) (aCons (mOp ixAF (mLst (aCons (mC (.str "one")) (aCons (mC (.str "two")) aNil))) (mCall 2 F__law_taken [true, false] (aCons (mVar 0) (aCons (mC (.int 2)) aNil)))) (aCons (mCall 2 F__law_term [true, false] (aCons (mVar 0) (aCons (mVar 1) aNil))) aNil))))))))
theorem b__law_statement (T : Tx K w mg C_Program C_StretchError C_UnknownChange) {F__law_term : Fn} {F__law_taken : Fn} {F__law_block : Fn} {F__law_test : Fn} {f : Addr} (D__law_term : Dn P w K mg base k "_law_term" 2 F__law_term) (D__law_taken : Dn P w K mg base k "_law_taken" 2 F__law_taken) (D__law_block : Dn P w K mg base k "_law_block" 4 F__law_block) (D__law_test : Dn P w K mg base k "_law_test" 2 F__law_test) : Body P w K mg base N__law_statement "_law_statement" f k (defScope S__law_statement) (defBody S__law_statement) (d__law_statement F__law_term F__law_taken F__law_block F__law_test) := fun cdv A outer s H E hr ct =>
  (fss_cons (fs_set 3 sc__law_statement.nd (fe_call ct.tk D__law_taken [true, false] hr (fa_cons (fe_var 0) (fa_cons fe_int fa_nil)) (Nat.le_refl _))) (fss_cons (fs_if (SW.pt (fw_and (ft_eq hr.units (fe_var 3) fe_int) (fw_and1 (ft_lt (fe_var 2) fe_int)))) (fss_cons (fs_set 4 sc__law_statement.nd (fe_call ct.tk D__law_test [true, false] hr (fa_cons (fe_var 0) (fa_cons (fe_var 1) fa_nil)) (Nat.le_refl _))) (fss_one (fs_ret (fe_tup (fa_cons fe_str (fa_cons (fe_var 4) (fa_cons (fe_call ct.tk D__law_block [true, false, false, false] hr (fa_cons (fe_var 0) (fa_cons (fe_var 1) (fa_cons (fe_add (fe_var 2) fe_int) (fa_cons fe_int fa_nil)))) (Nat.le_refl _)) (fa_cons (fe_call ct.tk D__law_block [true, false, false, false] hr (fa_cons (fe_var 0) (fa_cons (fe_var 1) (fa_cons (fe_add (fe_var 2) fe_int) (fa_cons fe_int fa_nil)))) (Nat.le_refl _)) fa_nil)))))))) fss_nil) (fss_cons (fs_if (ft_lt (fe_var 3) fe_int) (fss_one (fs_ret (fe_tup (fa_cons fe_str (fa_cons (fe_call ct.tk D__law_term [true, false] hr (fa_cons (fe_var 0) (fa_cons (fe_var 1) fa_nil)) (Nat.le_refl _)) (fa_cons (fe_call ct.tk D__law_term [true, false] hr (fa_cons (fe_var 0) (fa_cons (fe_var 1) fa_nil)) (Nat.le_refl _)) fa_nil)))))) fss_nil) (fss_one (fs_ret (fe_tup (fa_cons fe_str (fa_cons (fe_ixA (huS hr) (fe_lst (fa_cons fe_str (fa_cons fe_str fa_nil))) (fe_call ct.tk D__law_taken [true, false] hr (fa_cons (fe_var 0) (fa_cons fe_int fa_nil)) (Nat.le_refl _))) (fa_cons (fe_call ct.tk D__law_term [true, false] hr (fa_cons (fe_var 0) (fa_cons (fe_var 1) fa_nil)) (Nat.le_refl _)) fa_nil)))))))))
noncomputable def d__law_block (F__law_taken : Fn) (F__law_statement : Fn) : DS := (mRet (mCa tupleF (aCons (mLc (iR1 (aCons (mCall 2 F__law_taken [true, false] (aCons (mVar 0) (aCons (mOp addF (mVar 3) (mC (.int 1))) aNil))) aNil)) (gN 4) mYes (mCall 3 F__law_statement [true, false, false] (aCons (mVar 0) (aCons (mVar 1) (aCons (mVar 2) aNil)))) [4]) aNil)))
theorem b__law_block (T : Tx K w mg C_Program C_StretchError C_UnknownChange) {F__law_taken : Fn} {F__law_statement : Fn} {f : Addr} (D__law_taken : Dn P w K mg base k "_law_taken" 2 F__law_taken) (D__law_statement : Dn P w K mg base k "_law_statement" 3 F__law_statement) : Body P w K mg base N__law_block "_law_block" f k (defScope S__law_block) (defBody S__law_block) (d__law_block F__law_taken F__law_statement) := fun cdv A outer s H E hr ct =>
  (fss_one (fs_ret (fe_tuple rfl T.n_tuple (fa_cons (fe_lc [("_law_k", 4)] rfl sc__law_block.nd (fi_range1 rfl T.n_range (fa_cons (fe_call ct.tk D__law_taken [true, false] hr (fa_cons (fe_var 0) (fa_cons (fe_add (fe_var 3) fe_int) fa_nil)) (Nat.le_refl _)) fa_nil)) (blkOk_by (N := N__law_block) (sc := defScope S__law_block) (by decide +kernel)) (fun _ _ _ _ _ => (fgv_name 4 sc__law_block.nd)) (fun _ _ _ _ _ => fq_nil) (fun _ _ _ _ _ => (fe_call tk0 D__law_statement [true, false, false] hr (fa_cons (fe_var 0) (fa_cons (fe_var 1) (fa_cons (fe_var 2) fa_nil))) (Nat.le_refl _)))) fa_nil))))
noncomputable def d__law_known (F__law_taken : Fn) : DS := (mSeq (mSet 1 (mTup (aCons (mTup (aCons (mC (.str "give")) (aCons (mC (.str "one")) (aCons (mC (.str "two")) aNil)))) (aCons (mTup (aCons (mC (.str "keep")) (aCons (mC (.str "one")) (aCons (mC (.str "begin")) aNil)))) (aCons (mTup (aCons (mC (.str "keep")) (aCons (mC (.str "two")) (aCons (mC (.str "end")) aNil)))) aNil))))) (mSeq (mSet 2 (mTup (aCons (mTup (aCons (mC (.str "keep")) (aCons (mC (.str "two")) (aCons (mTup (aCons (mC (.str "greatest")) (aCons (mC (.str "two")) (aCons (mC (.str "end")) aNil)))) aNil)))) aNil))) (mSeq (mSet 3 (mTup (aCons (mOp ixAF (mLst (aCons (mC (.str "less")) (aCons (mC (.str "less")) (aCons (mC (.str "same")) aNil)))) (mCall 2 F__law_taken [true, false] (aCons (mVar 0) (aCons (mC (.int 3)) aNil)))) (aCons (mC (.str "two")) (aCons (mOp ixAF (mLst (aCons (mC (.str "begin")) (aCons (mC (.str "end")) aNil))) (mCa intF (aCons (mOp eqF (mCall 2 F__law_taken [true, false] (aCons (mVar 0) (aCons (mC (.int 5)) aNil))) (mC (.int 0))) aNil))) aNil))))) (mSeq (mSet 4 (mLst (aCons (mLst (aCons (mTup (aCons (mTup (aCons (mC (.str "if")) (aCons (mVar 3) (aCons (mVar 1) (aCons (mVar 2) aNil))))) aNil)) (aCons (mTup (aCons (mTup (aCons (mC (.str "give")) (aCons (mC (.str "one")) (aCons (mC (.str "two")) aNil)))) aNil)) aNil))) aNil))) (mSeq (mDrop (mApp (mVar 4) (mLst (aCons (mOp addF (mTup (aCons (mTup (aCons (mC (.str "give")) (aCons (mC (.str "two")) (aCons (mC (.str "begin")) aNil)))) aNil)) (mVar 2)) (aCons (mTup aNil) aNil))))) (mSeq (mDrop (mApp (mVar 4) (mLst (aCons (mOp addF (mTup (aCons (mTup (aCons (mC (.str "if")) (aCons (mTup (aCons (mC (.str "less")) (aCons (mC (.str "two")) (aCons (mC (.str "begin")) aNil)))) (aCons (mTup (aCons (mTup (aCons (mC (.str "give")) (aCons (mC (.str "two")) (aCons (mC (.str "begin")) aNil)))) aNil)) (aCons (mTup aNil) aNil))))) aNil)) (mVar 2)) (aCons (mTup aNil) aNil))))) (mSeq (mSet 5 (mTup (aCons (mTup (aCons (mC (.str "give")) (aCons (mC (.str "begin")) (aCons (mTup (aCons (mC (.str "least")) (aCons (mC (.str "end")) (aCons (mC (.str "two")) aNil)))) aNil)))) (aCons (mTup (aCons (mC (.str "keep")) (aCons (mC (.str "one")) (aCons (mTup (aCons (mC (.str "greatest")) (aCons (mC (.str "one")) (aCons (mC (.str "end")) aNil)))) aNil)))) aNil)))) (mSeq (mSet 6 (mTup (aCons (mTup (aCons (mC (.str "give")) (aCons (mC (.str "begin")) (aCons (mTup (aCons (mC (.str "least")) (aCons (mC (.str "end")) (aCons (mC (.str "one")) aNil)))) aNil)))) (aCons (mTup (aCons (mC (.str "keep")) (aCons (mC (.str "two")) (aCons (mTup (aCons (mC (.str "greatest")) (aCons (mC (.str "two")) (aCons (mC (.str "end")) aNil)))) aNil)))) aNil)))) (mSeq (mDrop (mApp (mVar 4) (mLst (aCons (mTup (aCons (mTup (aCons (mC (.str "if")) (aCons (mTup (aCons (mC (.str "sort")) (aCons (mC (.str "a")) aNil))) (aCons (mVar 5) (aCons (mVar 6) aNil))))) aNil)) (aCons (mTup aNil) aNil))))) (mSeq (mDrop (mApp (mVar 4) (mLst (aCons (mTup (aCons (mTup (aCons (mC (.str "give")) (aCons (mC (.str "begin")) (aCons (mC (.str "end")) aNil)))) aNil)) (aCons (mTup aNil) aNil))))) (mSeq (mDrop (mApp (mVar 4) (mLst (aCons (mOp addF (mTup (aCons (mTup (aCons (mC (.str "give")) (aCons (mTup (aCons (mC (.str "greatest")) (aCons (mC (.str "two")) (aCons (mC (.str "begin")) aNil)))) (aCons (mC (.str "end")) aNil)))) aNil)) (mVar 2)) (aCons (mTup aNil) aNil))))) (mRet (mOp ixAF (mVar 4) (mCall 2 F__law_taken [true, false] (aCons (mVar 0) (aCons (mC (.int 6)) aNil))))))))))))))))
theorem b__law_known (T : Tx K w mg C_Program C_StretchError C_UnknownChange) {F__law_taken : Fn} {f : Addr} (D__law_taken : Dn P w K mg base k "_law_taken" 2 F__law_taken) : Body P w K mg base N__law_known "_law_known" f k (defScope S__law_known) (defBody S__law_known) (d__law_known F__law_taken) := fun cdv A outer s H E hr ct =>
  (fss_cons (fs_set 1 sc__law_known.nd (fe_tup (fa_cons (fe_tup (fa_cons fe_str (fa_cons fe_str (fa_cons fe_str fa_nil)))) (fa_cons (fe_tup (fa_cons fe_str (fa_cons fe_str (fa_cons fe_str fa_nil)))) (fa_cons (fe_tup (fa_cons fe_str (fa_cons fe_str (fa_cons fe_str fa_nil)))) fa_nil))))) (fss_cons (fs_set 2 sc__law_known.nd (fe_tup (fa_cons (fe_tup (fa_cons fe_str (fa_cons fe_str (fa_cons (fe_tup (fa_cons fe_str (fa_cons fe_str (fa_cons fe_str fa_nil)))) fa_nil)))) fa_nil))) (fss_cons (fs_set 3 sc__law_known.nd (fe_tup (fa_cons (fe_ixA (huS hr) (fe_lst (fa_cons fe_str (fa_cons fe_str (fa_cons fe_str fa_nil)))) (fe_call ct.tk D__law_taken [true, false] hr (fa_cons (fe_var 0) (fa_cons fe_int fa_nil)) (Nat.le_refl _))) (fa_cons fe_str (fa_cons (fe_ixA (huS hr) (fe_lst (fa_cons fe_str (fa_cons fe_str fa_nil))) (fe_int1 rfl T.n_int (fa_cons (fe_eq hr.units (fe_call ct.tk D__law_taken [true, false] hr (fa_cons (fe_var 0) (fa_cons fe_int fa_nil)) (Nat.le_refl _)) fe_int) fa_nil))) fa_nil))))) (fss_cons (fs_set 4 sc__law_known.nd (fe_lst (fa_cons (fe_lst (fa_cons (fe_tup (fa_cons (fe_tup (fa_cons fe_str (fa_cons (fe_var 3) (fa_cons (fe_var 1) (fa_cons (fe_var 2) fa_nil))))) fa_nil)) (fa_cons (fe_tup (fa_cons (fe_tup (fa_cons fe_str (fa_cons fe_str (fa_cons fe_str fa_nil)))) fa_nil)) fa_nil))) fa_nil))) (fss_cons (fs_expr (fe_app (fe_var 4) (fe_lst (fa_cons (fe_add (fe_tup (fa_cons (fe_tup (fa_cons fe_str (fa_cons fe_str (fa_cons fe_str fa_nil)))) fa_nil)) (fe_var 2)) (fa_cons (fe_tup fa_nil) fa_nil))))) (fss_cons (fs_expr (fe_app (fe_var 4) (fe_lst (fa_cons (fe_add (fe_tup (fa_cons (fe_tup (fa_cons fe_str (fa_cons (fe_tup (fa_cons fe_str (fa_cons fe_str (fa_cons fe_str fa_nil)))) (fa_cons (fe_tup (fa_cons (fe_tup (fa_cons fe_str (fa_cons fe_str (fa_cons fe_str fa_nil)))) fa_nil)) (fa_cons (fe_tup fa_nil) fa_nil))))) fa_nil)) (fe_var 2)) (fa_cons (fe_tup fa_nil) fa_nil))))) (fss_cons (fs_set 5 sc__law_known.nd (fe_tup (fa_cons (fe_tup (fa_cons fe_str (fa_cons fe_str (fa_cons (fe_tup (fa_cons fe_str (fa_cons fe_str (fa_cons fe_str fa_nil)))) fa_nil)))) (fa_cons (fe_tup (fa_cons fe_str (fa_cons fe_str (fa_cons (fe_tup (fa_cons fe_str (fa_cons fe_str (fa_cons fe_str fa_nil)))) fa_nil)))) fa_nil)))) (fss_cons (fs_set 6 sc__law_known.nd (fe_tup (fa_cons (fe_tup (fa_cons fe_str (fa_cons fe_str (fa_cons (fe_tup (fa_cons fe_str (fa_cons fe_str (fa_cons fe_str fa_nil)))) fa_nil)))) (fa_cons (fe_tup (fa_cons fe_str (fa_cons fe_str (fa_cons (fe_tup (fa_cons fe_str (fa_cons fe_str (fa_cons fe_str fa_nil)))) fa_nil)))) fa_nil)))) (fss_cons (fs_expr (fe_app (fe_var 4) (fe_lst (fa_cons (fe_tup (fa_cons (fe_tup (fa_cons fe_str (fa_cons (fe_tup (fa_cons fe_str (fa_cons fe_str fa_nil))) (fa_cons (fe_var 5) (fa_cons (fe_var 6) fa_nil))))) fa_nil)) (fa_cons (fe_tup fa_nil) fa_nil))))) (fss_cons (fs_expr (fe_app (fe_var 4) (fe_lst (fa_cons (fe_tup (fa_cons (fe_tup (fa_cons fe_str (fa_cons fe_str (fa_cons fe_str fa_nil)))) fa_nil)) (fa_cons (fe_tup fa_nil) fa_nil))))) (fss_cons (fs_expr (fe_app (fe_var 4) (fe_lst (fa_cons (fe_add (fe_tup (fa_cons (fe_tup (fa_cons fe_str (fa_cons (fe_tup (fa_cons fe_str (fa_cons fe_str (fa_cons fe_str fa_nil)))) (fa_cons fe_str fa_nil)))) fa_nil)) (fe_var 2)) (fa_cons (fe_tup fa_nil) fa_nil))))) (fss_one (fs_ret (fe_ixA (huS hr) (fe_var 4) (fe_call ct.tk D__law_taken [true, false] hr (fa_cons (fe_var 0) (fa_cons fe_int fa_nil)) (Nat.le_refl _))))))))))))))))
noncomputable def d__law_drawn (F__law_all : Fn) (F__law_taken : Fn) (F__law_block : Fn) (F__law_known : Fn) : DS := (mSeq (mSet 1 (mDisp ["sorting"] (aCons (mOp ixAF (mLst (aCons (mC (.str "begin")) (aCons (mC (.str "begin")) (aCons (mC (.str "begin")) (aCons (mC (.str "end")) (aCons (mC (.str "begin down")) (aCons (mC (.str "end down")) (aCons (mC (.str "none")) aNil)))))))) (mCall 2 F__law_taken [true, false] (aCons (mVar 0) (aCons (mC (.int 7)) aNil)))) aNil))) (mSeq (mAsg (mCall 1 F__law_known [true] (aCons (mVar 0) aNil)) (gT 2 (gsCons (gDix (mVar 1) (mC (.str "block"))) (gsCons (gDix (mVar 1) (mC (.str "last"))) gsNil)))) (mSeq (mIfS (mTOp eqF (mCall 2 F__law_taken [true, false] (aCons (mVar 0) (aCons (mC (.int 2)) aNil))) (mC (.int 0))) (mSeq (mAsg (mCall 4 F__law_block [true, false, false, false] (aCons (mVar 0) (aCons (mLst (aCons (mC (.str "begin")) (aCons (mC (.str "end")) (aCons (mC (.str "one")) (aCons (mC (.str "two")) aNil))))) (aCons (mC (.int 0)) (aCons (mC (.int 2)) aNil))))) (gDix (mVar 1) (mC (.str "block")))) (mAsg (mCall 4 F__law_block [true, false, false, false] (aCons (mVar 0) (aCons (mLst (aCons (mC (.str "one")) (aCons (mC (.str "two")) aNil))) (aCons (mC (.int 1)) (aCons (mC (.int 1)) aNil))))) (gDix (mVar 1) (mC (.str "last"))))) mNx) (mSeq (mWhile 50 (mTOp gtF (mCa lenF (aCons (mCall 2 F__law_all [false, false] (aCons (mOp ixAF (mVar 1) (mC (.str "block"))) (aCons (mTup aNil) aNil))) aNil)) (mC (.int 8))) (mAsg (mSl (mOp ixAF (mVar 1) (mC (.str "block"))) (mPS (mC (.int 1))) mPN) (gDix (mVar 1) (mC (.str "block"))))) (mRet (mVar 1))))))
theorem b__law_drawn (T : Tx K w mg C_Program C_StretchError C_UnknownChange) {F__law_all : Fn} {F__law_taken : Fn} {F__law_block : Fn} {F__law_known : Fn} {f : Addr} (D__law_all : Dn P w K mg base k "_law_all" 2 F__law_all) (D__law_taken : Dn P w K mg base k "_law_taken" 2 F__law_taken) (D__law_block : Dn P w K mg base k "_law_block" 4 F__law_block) (D__law_known : Dn P w K mg base k "_law_known" 1 F__law_known) : Body P w K mg base N__law_drawn "_law_drawn" f k (defScope S__law_drawn) (defBody S__law_drawn) (d__law_drawn F__law_all F__law_taken F__law_block F__law_known) := fun cdv A outer s H E hr ct =>
  (fss_cons (fs_set 1 sc__law_drawn.nd (fe_disp (sps_cons (fe_ixA (huS hr) (fe_lst (fa_cons fe_str (fa_cons fe_str (fa_cons fe_str (fa_cons fe_str (fa_cons fe_str (fa_cons fe_str (fa_cons fe_str fa_nil)))))))) (fe_call ct.tk D__law_taken [true, false] hr (fa_cons (fe_var 0) (fa_cons fe_int fa_nil)) (Nat.le_refl _))) sps_nil))) (fss_cons (fs_asg (fe_call ct.tk D__law_known [true] hr (fa_cons (fe_var 0) fa_nil) (Nat.le_refl _)) (fg_tup rfl (fgs_cons (fg_dix (huS hr) (fe_var 1) fe_str) (fgs_cons (fg_dix (huS hr) (fe_var 1) fe_str) fgs_nil)))) (fss_cons (fs_if (ft_eq hr.units (fe_call ct.tk D__law_taken [true, false] hr (fa_cons (fe_var 0) (fa_cons fe_int fa_nil)) (Nat.le_refl _)) fe_int) (fss_cons (fs_asg (fe_call ct.tk D__law_block [true, false, false, false] hr (fa_cons (fe_var 0) (fa_cons (fe_lst (fa_cons fe_str (fa_cons fe_str (fa_cons fe_str (fa_cons fe_str fa_nil))))) (fa_cons fe_int (fa_cons fe_int fa_nil)))) (Nat.le_refl _)) (fg_dix (huS hr) (fe_var 1) fe_str)) (fss_one (fs_asg (fe_call ct.tk D__law_block [true, false, false, false] hr (fa_cons (fe_var 0) (fa_cons (fe_lst (fa_cons fe_str (fa_cons fe_str fa_nil))) (fa_cons fe_int (fa_cons fe_int fa_nil)))) (Nat.le_refl _)) (fg_dix (huS hr) (fe_var 1) fe_str)))) fss_nil) (fss_cons (fs_while 50 ct (ft_gt (fe_len rfl T.n_len (fa_cons (fe_call ct.tk D__law_all [false, false] hr (fa_cons (fe_ixA (huS hr) (fe_var 1) fe_str) (fa_cons (fe_tup fa_nil) fa_nil)) (Nat.le_refl _)) fa_nil)) fe_int) (fss_one (fs_asg (fe_slice (fe_ixA (huS hr) (fe_var 1) fe_str) (fo_some fe_int) fo_none) (fg_dix (huS hr) (fe_var 1) fe_str)))) (fss_one (fs_ret (fe_var 1)))))))
noncomputable def d_law (C_Program : Addr) (F__law_refused : Fn) (F__law_taken : Fn) (F_Program_eq : Fn) (F_changed : Fn) (F__law_made : Fn) (F_changes : Fn) (F__law_all : Fn) (F__law_others : Fn) (F__law_with : Fn) (F__law_drawn : Fn) : DS := (mSeq (mSet 1 (mLst (aCons (mVar 0) (aCons (mC (.int 0)) (aCons (mC (.int 0)) (aCons (mC (.int 0)) aNil)))))) (mSeq (mFor (iR1 (aCons (mC (.int 3)) aNil)) (gN 2) (mSeq (mPar 6 7 (aCons (mCallN 1 F__law_drawn [true] (aCons (mVar 1) aNil)) (aCons (mLst aNil) aNil))) (mSeq (mSet 3 (mCall 1 F__law_made [true] (aCons (mVar 6) aNil))) (mSeq (mFor (iSeq (mLst (aCons (mTup (aCons (mC (.str "block")) (aCons (mLst (aCons (mC (.str "begin")) (aCons (mC (.str "end")) (aCons (mC (.str "one")) (aCons (mC (.str "two")) aNil))))) aNil))) (aCons (mTup (aCons (mC (.str "last")) (aCons (mLst (aCons (mC (.str "one")) (aCons (mC (.str "two")) aNil))) aNil))) aNil)))) (gT 2 (gsCons (gN 8) (gsCons (gN 9) gsNil))) (mFor (iSeq (mCall 2 F__law_all [false, false] (aCons (mOp ixAF (mVar 6) (mVar 8)) (aCons (mTup aNil) aNil)))) (gT 2 (gsCons (gN 12) (gsCons (gN 13) gsNil))) (mFor (iSeq (mCall 2 F__law_others [false, false] (aCons (mVar 13) (aCons (mVar 9) aNil)))) (gN 14) (mSeq (mSet 11 (mCa copyF (aCons (mVar 6) aNil))) (mSeq (mAsg (mCall 3 F__law_with [false, false, false] (aCons (mOp ixAF (mVar 6) (mVar 8)) (aCons (mVar 12) (aCons (mVar 14) aNil)))) (gDix (mVar 11) (mVar 8))) (mDrop (mApp (mVar 7) (mLst (aCons (mTup (aCons (mOp addF (mTup (aCons (mVar 8) aNil)) (mVar 12)) (aCons (mVar 14) aNil))) (aCons (mVar 11) aNil)))))))))) (mSeq (mFor (iSeq (mLst (aCons (mC (.str "none")) (aCons (mC (.str "begin")) (aCons (mC (.str "end")) (aCons (mC (.str "begin down")) (aCons (mC (.str "end down")) aNil))))))) (gN 4) (mIfS (mTOp neF (mVar 4) (mOp ixAF (mVar 6) (mC (.str "sorting")))) (mSeq (mSet 11 (mCa copyF (aCons (mVar 6) aNil))) (mSeq (mAsg (mVar 4) (gDix (mVar 11) (mC (.str "sorting")))) (mDrop (mApp (mVar 7) (mLst (aCons (mTup (aCons (mTup (aCons (mC (.str "sorting")) aNil)) (aCons (mVar 4) aNil))) (aCons (mVar 11) aNil))))))) mNx)) (mSeq (mIfS (mTOp neF (mCall 1 F_changes [false] (aCons (mVar 3) aNil)) (mLc (iSeq (mVar 7)) (gT 2 (gsCons (gN 10) (gsCons (gN 11) gsNil))) mYes (mVar 10) [10, 11])) (mRet (mC (.bl false))) mNx) (mSeq (mFor (iSeq (mVar 7)) (gT 2 (gsCons (gN 10) (gsCons (gN 11) gsNil))) (mIfS (mNotT (mTest (mEqA C_Program F_Program_eq (mCall 2 F_changed [false, false] (aCons (mVar 3) (aCons (mVar 10) aNil))) (mCall 1 F__law_made [true] (aCons (mVar 11) aNil))))) (mRet (mC (.bl false))) mNx)) (mSeq (mSet 5 (mLst (aCons (mC .non) (aCons (mTup (aCons (mTup (aCons (mC (.str "sorting")) aNil)) (aCons (mOp ixAF (mVar 6) (mC (.str "sorting"))) aNil))) (aCons (mTup (aCons (mTup (aCons (mC (.str "block")) (aCons (mC (.int 9)) aNil))) (aCons (mTup (aCons (mC (.str "give")) (aCons (mC (.str "one")) (aCons (mC (.str "two")) aNil)))) aNil))) (aCons (mTup (aCons (mTup (aCons (mC (.str "sorting")) aNil)) (aCons (mC (.str "up")) aNil))) (aCons (mTup aNil) aNil))))))) (mSeq (mSet 5 (mOp addF (mVar 5) (mLst (aCons (mCa listF (aCons (mOp ixAF (mOp ixAF (mVar 7) (mNeg (mC (.int 1)))) (mC (.int 0))) aNil)) (aCons (mTup (aCons (mTup (aCons (mC (.str "block")) aNil)) (aCons (mOp ixAF (mVar 6) (mC (.str "block"))) aNil))) (aCons (mC (.str "sorting")) (aCons (mTup (aCons (mTup (aCons (mC (.str "sorting")) aNil)) (aCons (mC .non) aNil))) aNil))))))) (mIfS (mNotT (mTest (mCall 2 F__law_refused [false, false] (aCons (mVar 3) (aCons (mOp ixAF (mVar 5) (mCall 2 F__law_taken [true, false] (aCons (mVar 1) (aCons (mC (.int 9)) aNil)))) aNil))))) (mRet (mC (.bl false))) mNx)))))))))) (mRet (mC (.bl true)))))
theorem b_law (T : Tx K w mg C_Program C_StretchError C_UnknownChange) {F__law_refused : Fn} {F__law_taken : Fn} {F_Program_eq : Fn} {F_changed : Fn} {F__law_made : Fn} {F_changes : Fn} {F__law_all : Fn} {F__law_others : Fn} {F__law_with : Fn} {F__law_drawn : Fn} {f : Addr} (D__law_refused : DnK P w K mg base k "_law_refused" 2 F__law_refused) (D__law_taken : Dn P w K mg base k "_law_taken" 2 F__law_taken) (D_Program_eq : Mn P w K mg base k C_Program "__eq__" 2 F_Program_eq) (D_changed : DnK P w K mg base k "changed" 2 F_changed) (D__law_made : Dn P w K mg base k "_law_made" 1 F__law_made) (D_changes : Dn P w K mg base k "changes" 1 F_changes) (D__law_all : Dn P w K mg base k "_law_all" 2 F__law_all) (D__law_others : Dn P w K mg base k "_law_others" 2 F__law_others) (D__law_with : Dn P w K mg base k "_law_with" 3 F__law_with) (D__law_drawn : Dn P w K mg base k "_law_drawn" 1 F__law_drawn) : BodyK P w K mg base N_law "law" f k (defScope S_law) (defBody S_law) (d_law C_Program F__law_refused F__law_taken F_Program_eq F_changed F__law_made F_changes F__law_all F__law_others F__law_with F__law_drawn) := fun cdv A outer s H E hr hgd ct =>
  (fss_cons (fs_set 1 sc_law.nd (fe_lst (fa_cons (fe_var 0) (fa_cons fe_int (fa_cons fe_int (fa_cons fe_int fa_nil)))))) (fss_cons (fs_for rfl ct (fi_range1 rfl T.n_range (fa_cons fe_int fa_nil)) (fg_name 2 sc_law.nd) (fss_cons (fs_par 6 7 rfl sc_law.nd (fa_cons (fe_callN ct.tk D__law_drawn [true] hr (fa_cons (fe_var 1) fa_nil) (Nat.le_refl _)) (fa_cons (fe_lst fa_nil) fa_nil))) (fss_cons (fs_set 3 sc_law.nd (fe_call ct.tk D__law_made [true] hr (fa_cons (fe_var 6) fa_nil) (Nat.le_refl _))) (fss_cons (fs_for rfl ct (fi_seq (fe_lst (fa_cons (fe_tup (fa_cons fe_str (fa_cons (fe_lst (fa_cons fe_str (fa_cons fe_str (fa_cons fe_str (fa_cons fe_str fa_nil))))) fa_nil))) (fa_cons (fe_tup (fa_cons fe_str (fa_cons (fe_lst (fa_cons fe_str (fa_cons fe_str fa_nil))) fa_nil))) fa_nil)))) (fg_tup rfl (fgs_cons (fg_name 8 sc_law.nd) (fgs_cons (fg_name 9 sc_law.nd) fgs_nil))) (fss_one (fs_for rfl ct (fi_seq (fe_call ct.tk D__law_all [false, false] hr (fa_cons (fe_ixA (huS hr) (fe_var 6) (fe_var 8)) (fa_cons (fe_tup fa_nil) fa_nil)) (Nat.le_refl _))) (fg_tup rfl (fgs_cons (fg_name 12 sc_law.nd) (fgs_cons (fg_name 13 sc_law.nd) fgs_nil))) (fss_one (fs_for rfl ct (fi_seq (fe_call ct.tk D__law_others [false, false] hr (fa_cons (fe_var 13) (fa_cons (fe_var 9) fa_nil)) (Nat.le_refl _))) (fg_name 14 sc_law.nd) (fss_cons (fs_set 11 sc_law.nd (fe_copy rfl T.n_dict (fa_cons (fe_var 6) fa_nil))) (fss_cons (fs_asg (fe_call ct.tk D__law_with [false, false, false] hr (fa_cons (fe_ixA (huS hr) (fe_var 6) (fe_var 8)) (fa_cons (fe_var 12) (fa_cons (fe_var 14) fa_nil))) (Nat.le_refl _)) (fg_dix (huS hr) (fe_var 11) (fe_var 8))) (fss_one (fs_expr (fe_app (fe_var 7) (fe_lst (fa_cons (fe_tup (fa_cons (fe_add (fe_tup (fa_cons (fe_var 8) fa_nil)) (fe_var 12)) (fa_cons (fe_var 14) fa_nil))) (fa_cons (fe_var 11) fa_nil))))))))))))) (fss_cons (fs_for rfl ct (fi_seq (fe_lst (fa_cons fe_str (fa_cons fe_str (fa_cons fe_str (fa_cons fe_str (fa_cons fe_str fa_nil))))))) (fg_name 4 sc_law.nd) (fss_one (fs_if (ft_ne hr.units (fe_var 4) (fe_ixA (huS hr) (fe_var 6) fe_str)) (fss_cons (fs_set 11 sc_law.nd (fe_copy rfl T.n_dict (fa_cons (fe_var 6) fa_nil))) (fss_cons (fs_asg (fe_var 4) (fg_dix (huS hr) (fe_var 11) fe_str)) (fss_one (fs_expr (fe_app (fe_var 7) (fe_lst (fa_cons (fe_tup (fa_cons (fe_tup (fa_cons fe_str fa_nil)) (fa_cons (fe_var 4) fa_nil))) (fa_cons (fe_var 11) fa_nil)))))))) fss_nil))) (fss_cons (fs_if (ft_ne hr.units (fe_call ct.tk D_changes [false] hr (fa_cons (fe_var 3) fa_nil) (Nat.le_refl _)) (fe_lc [("_law_change", 10), ("_law_e", 11)] rfl sc_law.nd (fi_seq (fe_var 7)) (blkOk_by (N := N_law) (sc := defScope S_law) (by decide +kernel)) (fun _ _ _ _ _ => (fgv_tup rfl (fgvs_cons (fgv_name 10 sc_law.nd) (fgvs_cons (fgv_name 11 sc_law.nd) fgvs_nil)))) (fun _ _ _ _ _ => fq_nil) (fun _ _ _ _ _ => (fe_var 10)))) (fss_one (fs_ret fe_bl)) fss_nil) (fss_cons (fs_for rfl ct (fi_seq (fe_var 7)) (fg_tup rfl (fgs_cons (fg_name 10 sc_law.nd) (fgs_cons (fg_name 11 sc_law.nd) fgs_nil))) (fss_one (fs_if (ft_not (ft_eqA T.z_Program D_Program_eq hr (fe_callK ct.tk D_changed [false, false] hr hgd (fa_cons (fe_var 3) (fa_cons (fe_var 10) fa_nil)) (Nat.le_refl _)) (fe_call ct.tk D__law_made [true] hr (fa_cons (fe_var 11) fa_nil) (Nat.le_refl _)) (Nat.le_refl _))) (fss_one (fs_ret fe_bl)) fss_nil))) (fss_cons (fs_set 5 sc_law.nd (fe_lst (fa_cons fe_non (fa_cons (fe_tup (fa_cons (fe_tup (fa_cons fe_str fa_nil)) (fa_cons (fe_ixA (huS hr) (fe_var 6) fe_str) fa_nil))) (fa_cons (fe_tup (fa_cons (fe_tup (fa_cons fe_str (fa_cons fe_int fa_nil))) (fa_cons (fe_tup (fa_cons fe_str (fa_cons fe_str (fa_cons fe_str fa_nil)))) fa_nil))) (fa_cons (fe_tup (fa_cons (fe_tup (fa_cons fe_str fa_nil)) (fa_cons fe_str fa_nil))) (fa_cons (fe_tup fa_nil) fa_nil))))))) (fss_cons (fs_set 5 sc_law.nd (fe_add (fe_var 5) (fe_lst (fa_cons (fe_list rfl T.n_list (fa_cons (fe_ixA (huS hr) (fe_ixA (huS hr) (fe_var 7) (fe_neg fe_int)) fe_int) fa_nil)) (fa_cons (fe_tup (fa_cons (fe_tup (fa_cons fe_str fa_nil)) (fa_cons (fe_ixA (huS hr) (fe_var 6) fe_str) fa_nil))) (fa_cons fe_str (fa_cons (fe_tup (fa_cons (fe_tup (fa_cons fe_str fa_nil)) (fa_cons fe_non fa_nil))) fa_nil))))))) (fss_one (fs_if (ft_not (ft_val (fe_callK ct.tk D__law_refused [false, false] hr hgd (fa_cons (fe_var 3) (fa_cons (fe_ixA (huS hr) (fe_var 5) (fe_call ct.tk D__law_taken [true, false] hr (fa_cons (fe_var 1) (fa_cons fe_int fa_nil)) (Nat.le_refl _))) fa_nil)) (Nat.le_refl _)))) (fss_one (fs_ret fe_bl)) fss_nil))))))))))) (fss_one (fs_ret fe_bl))))
end
noncomputable def F_with_words (C_Program C_StretchError C_UnknownChange : Addr) : Fn := runD (d_with_words ) 6
noncomputable def F_tests_for (C_Program C_StretchError C_UnknownChange : Addr) : Fn := runD (d_tests_for (F_with_words C_Program C_StretchError C_UnknownChange)) 3
noncomputable def F_others_for (C_Program C_StretchError C_UnknownChange : Addr) : Fn := runD (d_others_for (F_tests_for C_Program C_StretchError C_UnknownChange) (F_with_words C_Program C_StretchError C_UnknownChange)) 8
noncomputable def F_changes (C_Program C_StretchError C_UnknownChange : Addr) : Fn := runD (d_changes C_Program (F_others_for C_Program C_StretchError C_UnknownChange)) 7
noncomputable def F_words_in (C_Program C_StretchError C_UnknownChange : Addr) : Fn := runD (d_words_in ) 4
noncomputable def F_is_formed (C_Program C_StretchError C_UnknownChange : Addr) : Fn := runD (d_is_formed ) 1
noncomputable def F_blocks_of (C_Program C_StretchError C_UnknownChange : Addr) : Fn := runD (d_blocks_of (F_is_formed C_Program C_StretchError C_UnknownChange)) 1
noncomputable def F_walked (C_Program C_StretchError C_UnknownChange : Addr) : Nat → Fn
  | 0 => noF
  | n + 1 => runD (d_walked (F_blocks_of C_Program C_StretchError C_UnknownChange) (F_walked C_Program C_StretchError C_UnknownChange n)) 8
noncomputable def F_is_one_of (C_Program C_StretchError C_UnknownChange : Addr) : Fn := runD (d_is_one_of ) 2
noncomputable def F_is_test (C_Program C_StretchError C_UnknownChange : Addr) : Fn := runD (d_is_test (F_is_one_of C_Program C_StretchError C_UnknownChange)) 3
noncomputable def F_is_term (C_Program C_StretchError C_UnknownChange : Addr) : Fn := runD (d_is_term (F_is_one_of C_Program C_StretchError C_UnknownChange)) 3
noncomputable def F_is_statement (C_Program C_StretchError C_UnknownChange : Addr) : Fn := runD (d_is_statement (F_is_test C_Program C_StretchError C_UnknownChange) (F_is_term C_Program C_StretchError C_UnknownChange) (F_is_one_of C_Program C_StretchError C_UnknownChange) (F_is_formed C_Program C_StretchError C_UnknownChange)) 2
noncomputable def F_check_block (C_Program C_StretchError C_UnknownChange : Addr) : Fn := runD (d_check_block (F_is_statement C_Program C_StretchError C_UnknownChange) (F_walked C_Program C_StretchError C_UnknownChange 8)) 6
noncomputable def F_Program_init (C_Program C_StretchError C_UnknownChange : Addr) : Fn := runD (d_Program_init C_Program (F_words_in C_Program C_StretchError C_UnknownChange) (F_walked C_Program C_StretchError C_UnknownChange 8) (F_check_block C_Program C_StretchError C_UnknownChange) (F_is_one_of C_Program C_StretchError C_UnknownChange)) 6
noncomputable def F_Program_with_sorting (C_Program C_StretchError C_UnknownChange : Addr) : Fn := runD (d_Program_with_sorting C_Program (F_Program_init C_Program C_StretchError C_UnknownChange)) 2
noncomputable def F_replaced (C_Program C_StretchError C_UnknownChange : Addr) : Nat → Fn
  | 0 => noF
  | n + 1 => runD (d_replaced (F_replaced C_Program C_StretchError C_UnknownChange n)) 7
noncomputable def F_with_statement (C_Program C_StretchError C_UnknownChange : Addr) : Fn := runD (d_with_statement C_Program (F_Program_init C_Program C_StretchError C_UnknownChange) (F_replaced C_Program C_StretchError C_UnknownChange 8)) 3
noncomputable def F_done (C_Program C_StretchError C_UnknownChange : Addr) : Fn := runD (d_done C_Program (F_Program_with_sorting C_Program C_StretchError C_UnknownChange) (F_with_statement C_Program C_StretchError C_UnknownChange)) 4
noncomputable def F_changed (C_Program C_StretchError C_UnknownChange : Addr) : Fn := runD (d_changed C_UnknownChange (F_changes C_Program C_StretchError C_UnknownChange) (F_done C_Program C_StretchError C_UnknownChange)) 3
noncomputable def F__law_refused (C_Program C_StretchError C_UnknownChange : Addr) : Fn := runD (d__law_refused C_StretchError C_UnknownChange (F_changed C_Program C_StretchError C_UnknownChange)) 4
noncomputable def F__law_taken (C_Program C_StretchError C_UnknownChange : Addr) : Fn := runD (d__law_taken ) 4
noncomputable def F_Program_eq (C_Program C_StretchError C_UnknownChange : Addr) : Fn := runD (d_Program_eq C_Program) 2
noncomputable def F__law_made (C_Program C_StretchError C_UnknownChange : Addr) : Fn := runD (d__law_made C_Program (F_Program_init C_Program C_StretchError C_UnknownChange)) 1
noncomputable def F__law_all (C_Program C_StretchError C_UnknownChange : Addr) : Nat → Fn
  | 0 => noF
  | n + 1 => runD (d__law_all (F__law_all C_Program C_StretchError C_UnknownChange n)) 5
noncomputable def F__law_words (C_Program C_StretchError C_UnknownChange : Addr) : Fn := runD (d__law_words ) 6
noncomputable def F__law_others (C_Program C_StretchError C_UnknownChange : Addr) : Fn := runD (d__law_others (F__law_words C_Program C_StretchError C_UnknownChange)) 7
noncomputable def F__law_with (C_Program C_StretchError C_UnknownChange : Addr) : Nat → Fn
  | 0 => noF
  | n + 1 => runD (d__law_with (F__law_with C_Program C_StretchError C_UnknownChange n)) 6
noncomputable def F__law_term (C_Program C_StretchError C_UnknownChange : Addr) : Fn := runD (d__law_term (F__law_taken C_Program C_StretchError C_UnknownChange)) 4
noncomputable def F__law_test (C_Program C_StretchError C_UnknownChange : Addr) : Fn := runD (d__law_test (F__law_taken C_Program C_StretchError C_UnknownChange)) 4
mutual
noncomputable def F__law_statement (C_Program C_StretchError C_UnknownChange : Addr) : Nat → Fn
  | 0 => noF
  | n + 1 => runD (d__law_statement (F__law_term C_Program C_StretchError C_UnknownChange) (F__law_taken C_Program C_StretchError C_UnknownChange) (F__law_block C_Program C_StretchError C_UnknownChange n) (F__law_test C_Program C_StretchError C_UnknownChange)) 5
noncomputable def F__law_block (C_Program C_StretchError C_UnknownChange : Addr) : Nat → Fn
  | 0 => noF
  | n + 1 => runD (d__law_block (F__law_taken C_Program C_StretchError C_UnknownChange) (F__law_statement C_Program C_StretchError C_UnknownChange n)) 5
end
noncomputable def F__law_known (C_Program C_StretchError C_UnknownChange : Addr) : Fn := runD (d__law_known (F__law_taken C_Program C_StretchError C_UnknownChange)) 7
noncomputable def F__law_drawn (C_Program C_StretchError C_UnknownChange : Addr) : Fn := runN (d__law_drawn (F__law_all C_Program C_StretchError C_UnknownChange 8) (F__law_taken C_Program C_StretchError C_UnknownChange) (F__law_block C_Program C_StretchError C_UnknownChange 8) (F__law_known C_Program C_StretchError C_UnknownChange)) 2
noncomputable def F_law (C_Program C_StretchError C_UnknownChange : Addr) : Fn := runD (d_law C_Program (F__law_refused C_Program C_StretchError C_UnknownChange) (F__law_taken C_Program C_StretchError C_UnknownChange) (F_Program_eq C_Program C_StretchError C_UnknownChange) (F_changed C_Program C_StretchError C_UnknownChange) (F__law_made C_Program C_StretchError C_UnknownChange) (F_changes C_Program C_StretchError C_UnknownChange) (F__law_all C_Program C_StretchError C_UnknownChange 8) (F__law_others C_Program C_StretchError C_UnknownChange) (F__law_with C_Program C_StretchError C_UnknownChange 8) (F__law_drawn C_Program C_StretchError C_UnknownChange)) 15
theorem bi_with_words : Bnd "with_words" "with_words" S_with_words ["statement", "index", "words"] := fun _ _ _ _ _ _ us hl => match us, hl with | [_, _, _], _ => rfl
theorem bi_tests_for : Bnd "tests_for" "tests_for" S_tests_for ["test", "words"] := fun _ _ _ _ _ _ us hl => match us, hl with | [_, _], _ => rfl
theorem bi_others_for : Bnd "others_for" "others_for" S_others_for ["statement", "words"] := fun _ _ _ _ _ _ us hl => match us, hl with | [_, _], _ => rfl
theorem bi_changes : Bnd "changes" "changes" S_changes ["program"] := fun _ _ _ _ _ _ us hl => match us, hl with | [_], _ => rfl
theorem bi_words_in : Bnd "words_in" "words_in" S_words_in ["statement"] := fun _ _ _ _ _ _ us hl => match us, hl with | [_], _ => rfl
theorem bi_is_formed : Bnd "is_formed" "is_formed" S_is_formed ["thing"] := fun _ _ _ _ _ _ us hl => match us, hl with | [_], _ => rfl
theorem bi_blocks_of : Bnd "blocks_of" "blocks_of" S_blocks_of ["thing"] := fun _ _ _ _ _ _ us hl => match us, hl with | [_], _ => rfl
theorem bi_walked : Bnd "walked" "walked" S_walked ["block", "head"] := fun _ _ _ _ _ _ us hl => match us, hl with | [_, _], _ => rfl
theorem bi_is_one_of : Bnd "is_one_of" "is_one_of" S_is_one_of ["thing", "words"] := fun _ _ _ _ _ _ us hl => match us, hl with | [_, _], _ => rfl
theorem bi_is_test : Bnd "is_test" "is_test" S_is_test ["thing", "words"] := fun _ _ _ _ _ _ us hl => match us, hl with | [_, _], _ => rfl
theorem bi_is_term : Bnd "is_term" "is_term" S_is_term ["thing", "words"] := fun _ _ _ _ _ _ us hl => match us, hl with | [_, _], _ => rfl
theorem bi_is_statement : Bnd "is_statement" "is_statement" S_is_statement ["thing", "words"] := fun _ _ _ _ _ _ us hl => match us, hl with | [_, _], _ => rfl
theorem bi_check_block : Bnd "check_block" "check_block" S_check_block ["thing", "name", "words"] := fun _ _ _ _ _ _ us hl => match us, hl with | [_, _, _], _ => rfl
theorem bi_Program_init : Bnd "__init__" "Program.__init__" S_Program_init ["self", "sorting", "block", "last"] := fun _ _ _ _ _ _ us hl => match us, hl with | [_, _, _, _], _ => rfl
theorem bi_Program_with_sorting : Bnd "with_sorting" "Program.with_sorting" S_Program_with_sorting ["self", "sorting"] := fun _ _ _ _ _ _ us hl => match us, hl with | [_, _], _ => rfl
theorem bi_replaced : Bnd "replaced" "replaced" S_replaced ["block", "path", "statement"] := fun _ _ _ _ _ _ us hl => match us, hl with | [_, _, _], _ => rfl
theorem bi_with_statement : Bnd "with_statement" "with_statement" S_with_statement ["program", "path", "statement"] := fun _ _ _ _ _ _ us hl => match us, hl with | [_, _, _], _ => rfl
theorem bi_done : Bnd "done" "done" S_done ["program", "change"] := fun _ _ _ _ _ _ us hl => match us, hl with | [_, _], _ => rfl
theorem bi_changed : Bnd "changed" "changed" S_changed ["program", "change"] := fun _ _ _ _ _ _ us hl => match us, hl with | [_, _], _ => rfl
theorem bi__law_refused : Bnd "_law_refused" "_law_refused" S__law_refused ["_law_program", "_law_change"] := fun _ _ _ _ _ _ us hl => match us, hl with | [_, _], _ => rfl
theorem bi__law_taken : Bnd "_law_taken" "_law_taken" S__law_taken ["_law_row_here", "_law_many"] := fun _ _ _ _ _ _ us hl => match us, hl with | [_, _], _ => rfl
theorem bi_Program_eq : Bnd "__eq__" "Program.__eq__" S_Program_eq ["self", "other"] := fun _ _ _ _ _ _ us hl => match us, hl with | [_, _], _ => rfl
theorem bi__law_made : Bnd "_law_made" "_law_made" S__law_made ["_law_d"] := fun _ _ _ _ _ _ us hl => match us, hl with | [_], _ => rfl
theorem bi__law_all : Bnd "_law_all" "_law_all" S__law_all ["_law_block_here", "_law_base"] := fun _ _ _ _ _ _ us hl => match us, hl with | [_, _], _ => rfl
theorem bi__law_words : Bnd "_law_words" "_law_words" S__law_words ["_law_statement_here", "_law_index", "_law_words_here"] := fun _ _ _ _ _ _ us hl => match us, hl with | [_, _, _], _ => rfl
theorem bi__law_others : Bnd "_law_others" "_law_others" S__law_others ["_law_statement_here", "_law_words_here"] := fun _ _ _ _ _ _ us hl => match us, hl with | [_, _], _ => rfl
theorem bi__law_with : Bnd "_law_with" "_law_with" S__law_with ["_law_block_here", "_law_path", "_law_statement_here"] := fun _ _ _ _ _ _ us hl => match us, hl with | [_, _, _], _ => rfl
theorem bi__law_term : Bnd "_law_term" "_law_term" S__law_term ["_law_row_here", "_law_words_here"] := fun _ _ _ _ _ _ us hl => match us, hl with | [_, _], _ => rfl
theorem bi__law_test : Bnd "_law_test" "_law_test" S__law_test ["_law_row_here", "_law_words_here"] := fun _ _ _ _ _ _ us hl => match us, hl with | [_, _], _ => rfl
theorem bi__law_statement : Bnd "_law_statement" "_law_statement" S__law_statement ["_law_row_here", "_law_words_here", "_law_deep"] := fun _ _ _ _ _ _ us hl => match us, hl with | [_, _, _], _ => rfl
theorem bi__law_block : Bnd "_law_block" "_law_block" S__law_block ["_law_row_here", "_law_words_here", "_law_deep", "_law_most"] := fun _ _ _ _ _ _ us hl => match us, hl with | [_, _, _, _], _ => rfl
theorem bi__law_known : Bnd "_law_known" "_law_known" S__law_known ["_law_row_here"] := fun _ _ _ _ _ _ us hl => match us, hl with | [_], _ => rfl
theorem bi__law_drawn : Bnd "_law_drawn" "_law_drawn" S__law_drawn ["_law_row_here"] := fun _ _ _ _ _ _ us hl => match us, hl with | [_], _ => rfl
structure Dfs (K : PySem.W.Frag) (mg : Str → Option Value) (C_Program : Addr) (C_StretchError : Addr) (C_UnknownChange : Addr) : Prop where
  q_with_words : Df K mg "with_words" S_with_words ["statement", "index", "words"]
  q_tests_for : Df K mg "tests_for" S_tests_for ["test", "words"]
  q_others_for : Df K mg "others_for" S_others_for ["statement", "words"]
  q_changes : Df K mg "changes" S_changes ["program"]
  q_words_in : Df K mg "words_in" S_words_in ["statement"]
  q_is_formed : Df K mg "is_formed" S_is_formed ["thing"]
  q_blocks_of : Df K mg "blocks_of" S_blocks_of ["thing"]
  q_walked : Df K mg "walked" S_walked ["block", "head"]
  q_is_one_of : Df K mg "is_one_of" S_is_one_of ["thing", "words"]
  q_is_test : Df K mg "is_test" S_is_test ["thing", "words"]
  q_is_term : Df K mg "is_term" S_is_term ["thing", "words"]
  q_is_statement : Df K mg "is_statement" S_is_statement ["thing", "words"]
  q_check_block : Df K mg "check_block" S_check_block ["thing", "name", "words"]
  q_Program_init : Di K mg "Program" C_Program "Program.__init__" S_Program_init ["self", "sorting", "block", "last"]
  q_Program_with_sorting : Dm K C_Program "with_sorting" "Program.with_sorting" S_Program_with_sorting ["self", "sorting"]
  q_replaced : Df K mg "replaced" S_replaced ["block", "path", "statement"]
  q_with_statement : Df K mg "with_statement" S_with_statement ["program", "path", "statement"]
  q_done : Df K mg "done" S_done ["program", "change"]
  q_changed : Df K mg "changed" S_changed ["program", "change"]
  q__law_refused : Df K mg "_law_refused" S__law_refused ["_law_program", "_law_change"]
  q__law_taken : Df K mg "_law_taken" S__law_taken ["_law_row_here", "_law_many"]
  q_Program_eq : Dm K C_Program "__eq__" "Program.__eq__" S_Program_eq ["self", "other"]
  q__law_made : Df K mg "_law_made" S__law_made ["_law_d"]
  q__law_all : Df K mg "_law_all" S__law_all ["_law_block_here", "_law_base"]
  q__law_words : Df K mg "_law_words" S__law_words ["_law_statement_here", "_law_index", "_law_words_here"]
  q__law_others : Df K mg "_law_others" S__law_others ["_law_statement_here", "_law_words_here"]
  q__law_with : Df K mg "_law_with" S__law_with ["_law_block_here", "_law_path", "_law_statement_here"]
  q__law_term : Df K mg "_law_term" S__law_term ["_law_row_here", "_law_words_here"]
  q__law_test : Df K mg "_law_test" S__law_test ["_law_row_here", "_law_words_here"]
  q__law_statement : Df K mg "_law_statement" S__law_statement ["_law_row_here", "_law_words_here", "_law_deep"]
  q__law_block : Df K mg "_law_block" S__law_block ["_law_row_here", "_law_words_here", "_law_deep", "_law_most"]
  q__law_known : Df K mg "_law_known" S__law_known ["_law_row_here"]
  q__law_drawn : Df K mg "_law_drawn" S__law_drawn ["_law_row_here"]
  x_UnknownChange : Dxi K C_UnknownChange "UnknownChange.__init__" S_xUnknownChange ["self"]
section
variable {P : Program} {w : World} {K : PySem.W.Frag} {mg : Str → Option Value} {base : Heap} {C_Program : Addr} {C_StretchError : Addr} {C_UnknownChange : Addr}
theorem dx_UnknownChange (T : Tx K w mg C_Program C_StretchError C_UnknownChange) (Q : Dfs K mg C_Program C_StretchError C_UnknownChange) : Dx0 P w K mg base 1 "UnknownChange" C_UnknownChange := Q.x_UnknownChange.dx0 sc_xUnknownChange T.v_StretchError T.xo_UnknownChange T.e_UnknownChange.mg_ rfl rfl rfl (by decide) (fun _ => rfl)
theorem dn_with_words (T : Tx K w mg C_Program C_StretchError C_UnknownChange) (Q : Dfs K mg C_Program C_StretchError C_UnknownChange) : Dn P w K mg base 1 "with_words" 3 (F_with_words C_Program C_StretchError C_UnknownChange) := Q.q_with_words.dn sc_with_words rfl fun f => b_with_words (k := 0) T
theorem dn_tests_for (T : Tx K w mg C_Program C_StretchError C_UnknownChange) (Q : Dfs K mg C_Program C_StretchError C_UnknownChange) : Dn P w K mg base 2 "tests_for" 2 (F_tests_for C_Program C_StretchError C_UnknownChange) := Q.q_tests_for.dn sc_tests_for rfl fun f => b_tests_for (k := 1) T (D_with_words := (dn_with_words T Q).mono (by decide))
theorem dn_others_for (T : Tx K w mg C_Program C_StretchError C_UnknownChange) (Q : Dfs K mg C_Program C_StretchError C_UnknownChange) : Dn P w K mg base 3 "others_for" 2 (F_others_for C_Program C_StretchError C_UnknownChange) := Q.q_others_for.dn sc_others_for rfl fun f => b_others_for (k := 2) T (D_tests_for := (dn_tests_for T Q).mono (by decide)) (D_with_words := (dn_with_words T Q).mono (by decide))
theorem dn_changes (T : Tx K w mg C_Program C_StretchError C_UnknownChange) (Q : Dfs K mg C_Program C_StretchError C_UnknownChange) : Dn P w K mg base 4 "changes" 1 (F_changes C_Program C_StretchError C_UnknownChange) := Q.q_changes.dn sc_changes rfl fun f => b_changes (k := 3) T (D_others_for := (dn_others_for T Q).mono (by decide))
theorem dn_words_in (T : Tx K w mg C_Program C_StretchError C_UnknownChange) (Q : Dfs K mg C_Program C_StretchError C_UnknownChange) : Dn P w K mg base 1 "words_in" 1 (F_words_in C_Program C_StretchError C_UnknownChange) := Q.q_words_in.dn sc_words_in rfl fun f => b_words_in (k := 0) T
theorem dn_is_formed (T : Tx K w mg C_Program C_StretchError C_UnknownChange) (Q : Dfs K mg C_Program C_StretchError C_UnknownChange) : Dn P w K mg base 1 "is_formed" 1 (F_is_formed C_Program C_StretchError C_UnknownChange) := Q.q_is_formed.dn sc_is_formed rfl fun f => b_is_formed (k := 0) T
theorem dn_blocks_of (T : Tx K w mg C_Program C_StretchError C_UnknownChange) (Q : Dfs K mg C_Program C_StretchError C_UnknownChange) : Dn P w K mg base 2 "blocks_of" 1 (F_blocks_of C_Program C_StretchError C_UnknownChange) := Q.q_blocks_of.dn sc_blocks_of rfl fun f => b_blocks_of (k := 1) T (D_is_formed := (dn_is_formed T Q).mono (by decide))
theorem dg_walked (T : Tx K w mg C_Program C_StretchError C_UnknownChange) (Q : Dfs K mg C_Program C_StretchError C_UnknownChange) : ∀ n, (Dn P w K mg base (2 + n) "walked" 2 (F_walked C_Program C_StretchError C_UnknownChange n))
  | 0 => Q.q_walked.dn0 rfl
  | n + 1 => have ih := dg_walked T Q n
    Q.q_walked.dn sc_walked rfl fun f => b_walked (k := 2 + n) T (D_blocks_of := (dn_blocks_of T Q).mono (Nat.le_trans (by decide) (Nat.le_add_right _ n))) (D_walked := ih)
theorem dn_walked (T : Tx K w mg C_Program C_StretchError C_UnknownChange) (Q : Dfs K mg C_Program C_StretchError C_UnknownChange) (n : Nat) : Dn P w K mg base (2 + n) "walked" 2 (F_walked C_Program C_StretchError C_UnknownChange n) := (dg_walked T Q n)
theorem dn_is_one_of (T : Tx K w mg C_Program C_StretchError C_UnknownChange) (Q : Dfs K mg C_Program C_StretchError C_UnknownChange) : Dn P w K mg base 1 "is_one_of" 2 (F_is_one_of C_Program C_StretchError C_UnknownChange) := Q.q_is_one_of.dn sc_is_one_of rfl fun f => b_is_one_of (k := 0) T
theorem dn_is_test (T : Tx K w mg C_Program C_StretchError C_UnknownChange) (Q : Dfs K mg C_Program C_StretchError C_UnknownChange) : Dn P w K mg base 2 "is_test" 2 (F_is_test C_Program C_StretchError C_UnknownChange) := Q.q_is_test.dn sc_is_test rfl fun f => b_is_test (k := 1) T (D_is_one_of := (dn_is_one_of T Q).mono (by decide))
theorem dn_is_term (T : Tx K w mg C_Program C_StretchError C_UnknownChange) (Q : Dfs K mg C_Program C_StretchError C_UnknownChange) : Dn P w K mg base 2 "is_term" 2 (F_is_term C_Program C_StretchError C_UnknownChange) := Q.q_is_term.dn sc_is_term rfl fun f => b_is_term (k := 1) T (D_is_one_of := (dn_is_one_of T Q).mono (by decide))
theorem dn_is_statement (T : Tx K w mg C_Program C_StretchError C_UnknownChange) (Q : Dfs K mg C_Program C_StretchError C_UnknownChange) : Dn P w K mg base 3 "is_statement" 2 (F_is_statement C_Program C_StretchError C_UnknownChange) := Q.q_is_statement.dn sc_is_statement rfl fun f => b_is_statement (k := 2) T (D_is_test := (dn_is_test T Q).mono (by decide)) (D_is_term := (dn_is_term T Q).mono (by decide)) (D_is_one_of := (dn_is_one_of T Q).mono (by decide)) (D_is_formed := (dn_is_formed T Q).mono (by decide))
theorem dn_check_block (T : Tx K w mg C_Program C_StretchError C_UnknownChange) (Q : Dfs K mg C_Program C_StretchError C_UnknownChange) : Dn P w K mg base 11 "check_block" 3 (F_check_block C_Program C_StretchError C_UnknownChange) := Q.q_check_block.dn sc_check_block rfl fun f => b_check_block (k := 10) T (D_is_statement := (dn_is_statement T Q).mono (by decide)) (D_walked := (dn_walked T Q 8).mono (by decide))
theorem dn_Program_init (T : Tx K w mg C_Program C_StretchError C_UnknownChange) (Q : Dfs K mg C_Program C_StretchError C_UnknownChange) : Cn P w K mg base 12 "Program" C_Program 4 (F_Program_init C_Program C_StretchError C_UnknownChange) := Q.q_Program_init.cn sc_Program_init rfl fun f => b_Program_init (k := 11) T (D_words_in := (dn_words_in T Q).mono (by decide)) (D_walked := (dn_walked T Q 8).mono (by decide)) (D_check_block := (dn_check_block T Q).mono (by decide)) (D_is_one_of := (dn_is_one_of T Q).mono (by decide))
theorem dn_Program_with_sorting (T : Tx K w mg C_Program C_StretchError C_UnknownChange) (Q : Dfs K mg C_Program C_StretchError C_UnknownChange) : Mn P w K mg base 14 C_Program "with_sorting" 2 (F_Program_with_sorting C_Program C_StretchError C_UnknownChange) := Q.q_Program_with_sorting.mn sc_Program_with_sorting rfl fun f => b_Program_with_sorting (k := 13) T (L_Program := by first | decide | omega) (D_Program_init := dn_Program_init T Q)
theorem dg_replaced (T : Tx K w mg C_Program C_StretchError C_UnknownChange) (Q : Dfs K mg C_Program C_StretchError C_UnknownChange) : ∀ n, (Dn P w K mg base (0 + n) "replaced" 3 (F_replaced C_Program C_StretchError C_UnknownChange n))
  | 0 => Q.q_replaced.dn0 rfl
  | n + 1 => have ih := dg_replaced T Q n
    Q.q_replaced.dn sc_replaced rfl fun f => b_replaced (k := 0 + n) T (D_replaced := ih)
theorem dn_replaced (T : Tx K w mg C_Program C_StretchError C_UnknownChange) (Q : Dfs K mg C_Program C_StretchError C_UnknownChange) (n : Nat) : Dn P w K mg base (0 + n) "replaced" 3 (F_replaced C_Program C_StretchError C_UnknownChange n) := (dg_replaced T Q n)
theorem dn_with_statement (T : Tx K w mg C_Program C_StretchError C_UnknownChange) (Q : Dfs K mg C_Program C_StretchError C_UnknownChange) : Dn P w K mg base 14 "with_statement" 3 (F_with_statement C_Program C_StretchError C_UnknownChange) := Q.q_with_statement.dn sc_with_statement rfl fun f => b_with_statement (k := 13) T (L_Program := by first | decide | omega) (D_Program_init := dn_Program_init T Q) (D_replaced := (dn_replaced T Q 8).mono (by decide))
theorem dn_done (T : Tx K w mg C_Program C_StretchError C_UnknownChange) (Q : Dfs K mg C_Program C_StretchError C_UnknownChange) : Dn P w K mg base 15 "done" 2 (F_done C_Program C_StretchError C_UnknownChange) := Q.q_done.dn sc_done rfl fun f => b_done (k := 14) T (D_Program_with_sorting := (dn_Program_with_sorting T Q).mono (by decide)) (D_with_statement := (dn_with_statement T Q).mono (by decide))
theorem dn_changed (T : Tx K w mg C_Program C_StretchError C_UnknownChange) (Q : Dfs K mg C_Program C_StretchError C_UnknownChange) : DnK P w K mg base 16 "changed" 2 (F_changed C_Program C_StretchError C_UnknownChange) := Q.q_changed.dnK sc_changed rfl fun f => b_changed (k := 15) T (D_changes := (dn_changes T Q).mono (by decide)) (D_done := (dn_done T Q).mono (by decide)) (hX2 := by first | decide | omega) (DX_UnknownChange := dx_UnknownChange T Q)
theorem dn__law_refused (T : Tx K w mg C_Program C_StretchError C_UnknownChange) (Q : Dfs K mg C_Program C_StretchError C_UnknownChange) : DnK P w K mg base 17 "_law_refused" 2 (F__law_refused C_Program C_StretchError C_UnknownChange) := Q.q__law_refused.dnK sc__law_refused rfl fun f => b__law_refused (k := 16) T (D_changed := (dn_changed T Q).mono (by decide))
theorem dn__law_taken (T : Tx K w mg C_Program C_StretchError C_UnknownChange) (Q : Dfs K mg C_Program C_StretchError C_UnknownChange) : Dn P w K mg base 1 "_law_taken" 2 (F__law_taken C_Program C_StretchError C_UnknownChange) := Q.q__law_taken.dn sc__law_taken rfl fun f => b__law_taken (k := 0) T
theorem dn_Program_eq (T : Tx K w mg C_Program C_StretchError C_UnknownChange) (Q : Dfs K mg C_Program C_StretchError C_UnknownChange) : Mn P w K mg base 1 C_Program "__eq__" 2 (F_Program_eq C_Program C_StretchError C_UnknownChange) := Q.q_Program_eq.mn sc_Program_eq rfl fun f => b_Program_eq (k := 0) T
theorem dn__law_made (T : Tx K w mg C_Program C_StretchError C_UnknownChange) (Q : Dfs K mg C_Program C_StretchError C_UnknownChange) : Dn P w K mg base 14 "_law_made" 1 (F__law_made C_Program C_StretchError C_UnknownChange) := Q.q__law_made.dn sc__law_made rfl fun f => b__law_made (k := 13) T (L_Program := by first | decide | omega) (D_Program_init := dn_Program_init T Q)
theorem dg__law_all (T : Tx K w mg C_Program C_StretchError C_UnknownChange) (Q : Dfs K mg C_Program C_StretchError C_UnknownChange) : ∀ n, (Dn P w K mg base (0 + n) "_law_all" 2 (F__law_all C_Program C_StretchError C_UnknownChange n))
  | 0 => Q.q__law_all.dn0 rfl
  | n + 1 => have ih := dg__law_all T Q n
    Q.q__law_all.dn sc__law_all rfl fun f => b__law_all (k := 0 + n) T (D__law_all := ih)
theorem dn__law_all (T : Tx K w mg C_Program C_StretchError C_UnknownChange) (Q : Dfs K mg C_Program C_StretchError C_UnknownChange) (n : Nat) : Dn P w K mg base (0 + n) "_law_all" 2 (F__law_all C_Program C_StretchError C_UnknownChange n) := (dg__law_all T Q n)
theorem dn__law_words (T : Tx K w mg C_Program C_StretchError C_UnknownChange) (Q : Dfs K mg C_Program C_StretchError C_UnknownChange) : Dn P w K mg base 1 "_law_words" 3 (F__law_words C_Program C_StretchError C_UnknownChange) := Q.q__law_words.dn sc__law_words rfl fun f => b__law_words (k := 0) T
theorem dn__law_others (T : Tx K w mg C_Program C_StretchError C_UnknownChange) (Q : Dfs K mg C_Program C_StretchError C_UnknownChange) : Dn P w K mg base 2 "_law_others" 2 (F__law_others C_Program C_StretchError C_UnknownChange) := Q.q__law_others.dn sc__law_others rfl fun f => b__law_others (k := 1) T (D__law_words := (dn__law_words T Q).mono (by decide))
theorem dg__law_with (T : Tx K w mg C_Program C_StretchError C_UnknownChange) (Q : Dfs K mg C_Program C_StretchError C_UnknownChange) : ∀ n, (Dn P w K mg base (0 + n) "_law_with" 3 (F__law_with C_Program C_StretchError C_UnknownChange n))
  | 0 => Q.q__law_with.dn0 rfl
  | n + 1 => have ih := dg__law_with T Q n
    Q.q__law_with.dn sc__law_with rfl fun f => b__law_with (k := 0 + n) T (D__law_with := ih)
theorem dn__law_with (T : Tx K w mg C_Program C_StretchError C_UnknownChange) (Q : Dfs K mg C_Program C_StretchError C_UnknownChange) (n : Nat) : Dn P w K mg base (0 + n) "_law_with" 3 (F__law_with C_Program C_StretchError C_UnknownChange n) := (dg__law_with T Q n)
theorem dn__law_term (T : Tx K w mg C_Program C_StretchError C_UnknownChange) (Q : Dfs K mg C_Program C_StretchError C_UnknownChange) : Dn P w K mg base 2 "_law_term" 2 (F__law_term C_Program C_StretchError C_UnknownChange) := Q.q__law_term.dn sc__law_term rfl fun f => b__law_term (k := 1) T (D__law_taken := (dn__law_taken T Q).mono (by decide))
theorem dn__law_test (T : Tx K w mg C_Program C_StretchError C_UnknownChange) (Q : Dfs K mg C_Program C_StretchError C_UnknownChange) : Dn P w K mg base 2 "_law_test" 2 (F__law_test C_Program C_StretchError C_UnknownChange) := Q.q__law_test.dn sc__law_test rfl fun f => b__law_test (k := 1) T (D__law_taken := (dn__law_taken T Q).mono (by decide))
theorem dg__law_statement (T : Tx K w mg C_Program C_StretchError C_UnknownChange) (Q : Dfs K mg C_Program C_StretchError C_UnknownChange) : ∀ n, (Dn P w K mg base (2 + n) "_law_statement" 3 (F__law_statement C_Program C_StretchError C_UnknownChange n)) ∧ (Dn P w K mg base (2 + n) "_law_block" 4 (F__law_block C_Program C_StretchError C_UnknownChange n))
  | 0 => ⟨Q.q__law_statement.dn0 rfl, Q.q__law_block.dn0 rfl⟩
  | n + 1 => have ih := dg__law_statement T Q n
    ⟨Q.q__law_statement.dn sc__law_statement rfl fun f => b__law_statement (k := 2 + n) T (D__law_term := (dn__law_term T Q).mono (Nat.le_trans (by decide) (Nat.le_add_right _ n))) (D__law_taken := (dn__law_taken T Q).mono (Nat.le_trans (by decide) (Nat.le_add_right _ n))) (D__law_block := ih.2) (D__law_test := (dn__law_test T Q).mono (Nat.le_trans (by decide) (Nat.le_add_right _ n))), Q.q__law_block.dn sc__law_block rfl fun f => b__law_block (k := 2 + n) T (D__law_taken := (dn__law_taken T Q).mono (Nat.le_trans (by decide) (Nat.le_add_right _ n))) (D__law_statement := ih.1)⟩
theorem dn__law_block (T : Tx K w mg C_Program C_StretchError C_UnknownChange) (Q : Dfs K mg C_Program C_StretchError C_UnknownChange) (n : Nat) : Dn P w K mg base (2 + n) "_law_block" 4 (F__law_block C_Program C_StretchError C_UnknownChange n) := (dg__law_statement T Q n).2
theorem dn__law_known (T : Tx K w mg C_Program C_StretchError C_UnknownChange) (Q : Dfs K mg C_Program C_StretchError C_UnknownChange) : Dn P w K mg base 2 "_law_known" 1 (F__law_known C_Program C_StretchError C_UnknownChange) := Q.q__law_known.dn sc__law_known rfl fun f => b__law_known (k := 1) T (D__law_taken := (dn__law_taken T Q).mono (by decide))
theorem dn__law_drawn (T : Tx K w mg C_Program C_StretchError C_UnknownChange) (Q : Dfs K mg C_Program C_StretchError C_UnknownChange) : Dn P w K mg base 11 "_law_drawn" 1 (F__law_drawn C_Program C_StretchError C_UnknownChange) := Q.q__law_drawn.dnN sc__law_drawn rfl fun f => b__law_drawn (k := 10) T (D__law_all := (dn__law_all T Q 8).mono (by decide)) (D__law_taken := (dn__law_taken T Q).mono (by decide)) (D__law_block := (dn__law_block T Q 8).mono (by decide)) (D__law_known := (dn__law_known T Q).mono (by decide))
end
end FL
namespace FL
open PySem L2 PyProof.Rows
variable [TabPar]
inductive Tm where
  | w (a : Str) | c (k a b : Str)
inductive Te where
  | srt | c (k a b : Str)
inductive Sm where
  | give (a b : Tm) | keep (p : Str) (a : Tm) | iff (t : Te) (x y : List Sm)
def Tm.e : Tm → T
  | .w a => .str a
  | .c k a b => .tup [.str k, .str a, .str b]
def Te.e : Te → T
  | .srt => .tup [.str "sort", .str "a"]
  | .c k a b => .tup [.str k, .str a, .str b]
mutual
def Sm.e : Sm → T
  | .give a b => .tup [.str "give", a.e, b.e]
  | .keep p a => .tup [.str "keep", .str p, a.e]
  | .iff t x y => .tup [.str "if", t.e, .tup (ens x), .tup (ens y)]
def ens : List Sm → List T
  | [] => []
  | s :: r => Sm.e s :: ens r
end
abbrev TERMs : List Str := ["begin", "end", "one", "two"]
abbrev PLACs : List Str := ["one", "two"]
abbrev CHOIs : List Str := ["least", "greatest"]
abbrev SORTs : List Str := ["none", "begin", "end", "begin down", "end down"]
def Tm.ok (ws : List Str) : Tm → Prop
  | .w a => a ∈ ws
  | .c k a b => k ∈ CHOIs ∧ a ∈ ws ∧ b ∈ ws
def Te.ok (ws : List Str) : Te → Prop
  | .srt => ("begin" : Str) ∈ ws
  | .c k a b => (k = "less" ∨ k = "same") ∧ a ∈ ws ∧ b ∈ ws
mutual
/-- well formed, at most so deep -/
def Sm.ok (ws : List Str) : Nat → Sm → Prop
  | _, .give a b => a.ok ws ∧ b.ok ws
  | _, .keep p a => p ∈ PLACs ∧ a.ok ws
  | 0, .iff t x y => False
  | d + 1, .iff t x y => t.ok ws ∧ oks ws d x ∧ oks ws d y
def oks (ws : List Str) : Nat → List Sm → Prop
  | _, [] => True
  | d, s :: r => Sm.ok ws d s ∧ oks ws d r
end
section
variable (C_Program C_StretchError C_UnknownChange : Addr)
theorem f_is_one_of (s : Str) (ws : List Str) (w : T) (hw : itm w = some (ws.map .str)) : dataF (F_is_one_of C_Program C_StretchError C_UnknownChange) [.str s, w] = some (.bl (decide (s ∈ ws))) := by
  unfold F_is_one_of
  rw [dataF_run]
  simp [d_is_one_of, in_str hw]
theorem f_is_term {ws : List Str} {w : T} (hw : itm w = some (ws.map .str)) {t : Tm} (h : t.ok ws) : dataF (F_is_term C_Program C_StretchError C_UnknownChange) [t.e, w] = some (.bl true) := by
  unfold F_is_term
  rw [dataF_run]
  cases t with
  | w a =>
    have := f_is_one_of C_Program C_StretchError C_UnknownChange a ws w hw
    have h : a ∈ ws := h
    simp [d_is_term, Tm.e, this, h]
  | c k a b =>
    obtain ⟨h1, h2, h3⟩ := h
    have e1 := f_is_one_of C_Program C_StretchError C_UnknownChange k CHOIs g_CHOICES rfl
    have e2 := f_is_one_of C_Program C_StretchError C_UnknownChange a ws w hw
    have e3 := f_is_one_of C_Program C_StretchError C_UnknownChange b ws w hw
    have h0 : (0 : Nat) < sizeLine := by decide
    have h1' : (1 : Nat) < sizeLine := by decide
    simp [d_is_term, Tm.e, e1, e2, e3, h1, h2, h3, lenF, itm, lcL, wipeL, mYes, h0, h1', caK, pks, pk, allF, bls]
theorem f_is_test {ws : List Str} {w : T} (hw : itm w = some (ws.map .str)) {t : Te} (h : t.ok ws) : dataF (F_is_test C_Program C_StretchError C_UnknownChange) [t.e, w] = some (.bl true) := by
  unfold F_is_test
  rw [dataF_run]
  cases t with
  | srt =>
    have e1 := f_is_one_of C_Program C_StretchError C_UnknownChange "a" ["a"] (.tup [.str "a"]) rfl
    have h : ("begin" : Str) ∈ ws := h
    simp [d_is_test, Te.e, e1, h, lenF, itm, in_str hw]
  | c k a b =>
    obtain ⟨h1, h2, h3⟩ := h
    have hk : ¬ k = ("sort" : Str) := by rcases h1 with rfl | rfl <;> decide +kernel
    have hk2 : k ∈ ([("less" : Str), "same"] : List Str) := by simpa using h1
    have e2 := f_is_one_of C_Program C_StretchError C_UnknownChange a ws w hw
    have e3 := f_is_one_of C_Program C_StretchError C_UnknownChange b ws w hw
    have e4 := in_str (s := k) (ws := ["less", "same"]) (w := .tup [.str "less", .str "same"]) (ng := false) rfl
    have h0 : (0 : Nat) < sizeLine := by decide
    have h1' : (1 : Nat) < sizeLine := by decide
    simp only [hk2, decide_true] at e4
    simp [d_is_test, Te.e, e2, e3, h2, h3, hk, e4, lenF, itm, lcL, wipeL, mYes, h0, h1', caK, pks, pk, allF, bls]
theorem f_is_formed (s : Sm) : dataF (F_is_formed C_Program C_StretchError C_UnknownChange) [s.e] = some (.bl true) := by
  unfold F_is_formed
  rw [dataF_run]
  cases s with
  | give a b => simp [d_is_formed, Sm.e, lenF, itm, mInK, mIxK, kIn, kIx, g_LENGTHS]
  | keep p a => simp [d_is_formed, Sm.e, lenF, itm, mInK, mIxK, kIn, kIx, g_LENGTHS]
  | iff t x y => simp [d_is_formed, Sm.e, lenF, itm, mInK, mIxK, kIn, kIx, g_LENGTHS]
theorem f_is_statement {ws : List Str} {w : T} (hw : itm w = some (ws.map .str)) {d : Nat} {s : Sm} (h : s.ok ws d) : dataF (F_is_statement C_Program C_StretchError C_UnknownChange) [s.e, w] = some (.bl true) := by
  have e0 := f_is_formed C_Program C_StretchError C_UnknownChange s
  unfold F_is_statement
  rw [dataF_run]
  cases s with
  | give a b =>
    unfold Sm.ok at h
    have e1 := f_is_term C_Program C_StretchError C_UnknownChange hw h.1
    have e2 := f_is_term C_Program C_StretchError C_UnknownChange hw h.2
    simp only [Sm.e] at e0
    simp [d_is_statement, Sm.e, e0, e1, e2]
    trace_state
    done
  | keep p a =>
    unfold Sm.ok at h
    have e1 := f_is_one_of C_Program C_StretchError C_UnknownChange p PLACs g_PLACES rfl
    have e2 := f_is_term C_Program C_StretchError C_UnknownChange hw h.2
    have h1 := h.1
    simp only [Sm.e] at e0
    simp [d_is_statement, Sm.e, e0, e1, e2, h1]
  | iff t x y =>
    have ht : t.ok ws := by
      cases d with
      | zero => unfold Sm.ok at h; exact h.elim
      | succ d => unfold Sm.ok at h; exact h.1
    have e1 := f_is_test C_Program C_StretchError C_UnknownChange hw ht
    simp only [Sm.e] at e0
    simp [d_is_statement, Sm.e, e0, e1]
end
end FL
namespace FL
open PySem L2 PyProof.Rows
variable [TabPar]
def Tm.ws : Tm → List T
  | .w a => [.str a]
  | .c k a b => [.str a, .str b]
def Te.ws : Te → List T
  | .srt => [.str "a"]
  | .c k a b => [.str a, .str b]
def Sm.ws : Sm → List T
  | .give a b => a.ws ++ b.ws
  | .keep p a => a.ws
  | .iff t x y => t.ws
section
variable (C_Program C_StretchError C_UnknownChange : Addr)
theorem f_words_in {ws : List Str} {d : Nat} {s : Sm} (h : s.ok ws d) (hw : ∀ a ∈ ws, a.length ≤ 100) : dataF (F_words_in C_Program C_StretchError C_UnknownChange) [s.e] = some (.lst s.ws) := by
  unfold F_words_in
  rw [dataF_run]
  have z : ∀ n, n ≤ 100 → n ≤ sizeLine := fun n h => Nat.le_trans h (by decide)
  have n0 : (0 : Nat) < sizeLine := by decide
  have n1 : (1 : Nat) < sizeLine := by decide
  have n2 : (2 : Nat) < sizeLine := by decide
  have n3 : (3 : Nat) < sizeLine := by decide
  have sl_str : ∀ (x : Str) (lo hi : Option Int), x.length ≤ 100 → slF (.str x) lo hi = some (.d (.str (cutS x lo hi))) := fun x lo hi h => by simp [slF, z _ h]
  have go : ∀ (s : Sm), (∀ p a, s = .keep p a → p.length ≤ 100) → (∀ a b, s = .give (.w a) b → a.length ≤ 100) → resD (d_words_in ⟨[some (.d s.e), none, none, none], []⟩) = some (.lst s.ws) := fun s hk hg => by
    cases s with
    | give a b =>
      cases a with
      | w a =>
        have ha := hg a b rfl
        cases b with
        | w b => simp [d_words_in, Sm.e, Tm.e, mDisp, toDs, sl_str, ha, opK, pk, ixAF, ixF, ixDF, keyT, dkGet, itm, mLc2, lcL2, lcL, wipeL, mYes, Sm.ws, Tm.ws, toD, n0, n1, n2, n3, resD]
        | c k b b2 => simp [d_words_in, Sm.e, Tm.e, mDisp, toDs, sl_str, ha, opK, pk, ixAF, ixF, ixDF, keyT, dkGet, itm, mLc2, lcL2, lcL, wipeL, mYes, Sm.ws, Tm.ws, toD, n0, n1, n2, n3, resD]
      | c k a a2 =>
        cases b with
        | w b => simp [d_words_in, Sm.e, Tm.e, mDisp, toDs, sl_str, opK, pk, ixAF, ixF, ixDF, keyT, dkGet, itm, mLc2, lcL2, lcL, wipeL, mYes, Sm.ws, Tm.ws, toD, n0, n1, n2, n3, resD]
        | c k b b2 => simp [d_words_in, Sm.e, Tm.e, mDisp, toDs, sl_str, opK, pk, ixAF, ixF, ixDF, keyT, dkGet, itm, mLc2, lcL2, lcL, wipeL, mYes, Sm.ws, Tm.ws, toD, n0, n1, n2, n3, resD]
    | keep p a =>
      have hp := hk p a rfl
      cases a with
      | w a => simp [d_words_in, Sm.e, Tm.e, mDisp, toDs, sl_str, hp, opK, pk, ixAF, ixF, ixDF, keyT, dkGet, itm, mLc2, lcL2, lcL, wipeL, mYes, Sm.ws, Tm.ws, toD, n0, n1, n2, n3, resD]
      | c k b b2 => simp [d_words_in, Sm.e, Tm.e, mDisp, toDs, sl_str, hp, opK, pk, ixAF, ixF, ixDF, keyT, dkGet, itm, mLc2, lcL2, lcL, wipeL, mYes, Sm.ws, Tm.ws, toD, n0, n1, n2, n3, resD]
    | iff t x y =>
      cases t with
      | srt => simp [d_words_in, Sm.e, Te.e, mDisp, toDs, sl_str, opK, pk, ixAF, ixF, ixDF, keyT, dkGet, itm, mLc2, lcL2, lcL, wipeL, mYes, Sm.ws, Te.ws, toD, n0, n1, n2, n3, resD]
      | c k a b => simp [d_words_in, Sm.e, Te.e, mDisp, toDs, sl_str, opK, pk, ixAF, ixF, ixDF, keyT, dkGet, itm, mLc2, lcL2, lcL, wipeL, mYes, Sm.ws, Te.ws, toD, n0, n1, n2, n3, resD]
  refine go s (fun p a e => ?_) fun a b e => ?_
  · subst e
    unfold Sm.ok at h
    have := h.1
    simp only [List.mem_cons, List.not_mem_nil, or_false] at this
    rcases this with rfl | rfl <;> decide +kernel
  · subst e
    unfold Sm.ok at h
    exact hw _ h.1
theorem f_blocks_of (s : Sm) : dataF (F_blocks_of C_Program C_StretchError C_UnknownChange) [s.e] = some (.lst (match s with | .iff t x y => [.tup (ens x), .tup (ens y)] | _ => [])) := by
  have e0 := f_is_formed C_Program C_StretchError C_UnknownChange s
  unfold F_blocks_of
  rw [dataF_run]
  cases s with
  | give a b => simp only [Sm.e] at e0; simp [d_blocks_of, Sm.e, e0, resD, toD]
  | keep p a => simp only [Sm.e] at e0; simp [d_blocks_of, Sm.e, e0, resD, toD]
  | iff t x y => simp only [Sm.e] at e0; simp [d_blocks_of, Sm.e, e0, resD, toD, listF, itm]
end
end FL
namespace FL
open PySem L2 PyProof.Rows
variable [TabPar]
mutual
def rowsS (h : List T) : Sm → List T
  | .iff t x y => rowsL (h ++ [.int 0]) 0 x ++ rowsL (h ++ [.int 1]) 0 y
  | _ => []
def rowsL (h : List T) : Int → List Sm → List T
  | _, [] => []
  | i, s :: r => .tup [.tup (h ++ [.int i]), s.e] :: (rowsS (h ++ [.int i]) s ++ rowsL h (i + 1) r)
end
theorem oks_cons {ws : List Str} {d : Nat} {s : Sm} {r : List Sm} : oks ws d (s :: r) ↔ s.ok ws d ∧ oks ws d r := by
  rw [oks]
section
variable (C_Program C_StretchError C_UnknownChange : Addr)
theorem f_walked {ws : List Str} : ∀ (n d : Nat) (blk : List Sm) (h : List T), oks ws d blk → d < n → (rowsL h 0 blk).length ≤ 1000 → h.length + 2 * n ≤ 100 → dataF (F_walked C_Program C_StretchError C_UnknownChange n) [.tup (ens blk), .tup h] = some (.lst (rowsL h 0 blk)) := by
  intro n
  induction n with
  | zero => intro d blk h _ hn; omega
  | succ n ih =>
    intro d blk h ok hn hl hh
    unfold F_walked
    rw [dataF_run]
    have loop : ∀ (r : List Sm) (i : Int) (acc : List T) (v3 v4 v5 v6 v7 : Option U), oks ws d r → acc.length + (rowsL h i r).length ≤ 1000 → ∃ w3 w4 w5 w6 w7,
        forL (gT 2 (gsCons (gN 3) (gsCons (gN 4) gsNil))) (mSeq (mSet 5 (mOp addF (mVar 1) (mTup (aCons (mVar 3) aNil)))) (mSeq (mDrop (mApp (mVar 2) (mTup (aCons (mVar 5) (aCons (mVar 4) aNil))))) (mFor (iEnumD (aCons (mCall 1 (F_blocks_of C_Program C_StretchError C_UnknownChange) [false] (aCons (mVar 4) aNil)) aNil)) (gT 2 (gsCons (gN 6) (gsCons (gN 7) gsNil))) (mIfS (mTest (mIsi "tuple" (mVar 7))) (mDrop (mExt (mVar 2) (mCall 2 (F_walked C_Program C_StretchError C_UnknownChange n) [false, false] (aCons (mVar 7) (aCons (mOp addF (mVar 5) (mTup (aCons (mVar 6) aNil))) aNil))))) mNx)))) (enumT i (ens r))
          ⟨[some (.d (.tup (ens blk))), some (.d (.tup h)), some (.own 0), v3, v4, v5, v6, v7], [.lst acc]⟩ = .nx ⟨[some (.d (.tup (ens blk))), some (.d (.tup h)), some (.own 0), w3, w4, w5, w6, w7], [.lst (acc ++ rowsL h i r)]⟩ := by
      intro r
      induction r with
      | nil => intro i acc v3 v4 v5 v6 v7 _ _; exact ⟨v3, v4, v5, v6, v7, by simp [ens, enumT, forL, rowsL]⟩
      | cons s r ihr =>
        intro i acc v3 v4 v5 v6 v7 hok hlen
        obtain ⟨hs, hr⟩ := oks_cons.mp hok
        have eb := f_blocks_of C_Program C_StretchError C_UnknownChange s
        have z : ∀ n, n ≤ 1000 → n ≤ sizeLine := fun n h => Nat.le_trans h (by decide)
        have z' : ∀ n, n ≤ 1000 → n < sizeLine := fun n h => Nat.lt_of_le_of_lt h (by decide)
        have q1 : h.length + 1 ≤ sizeLine := z _ (by omega)
        have q1' : h.length + (0 + 1) ≤ sizeLine := z _ (by omega)
        have q2 : h.length + 1 + 1 ≤ sizeLine := z _ (by omega)
        simp only [rowsL, List.length_cons, List.length_append] at hlen
        have q3 : acc.length < sizeLine := z' _ (by omega)
        cases s with
        | give a b =>
          simp only [Sm.e] at eb
          simp only [rowsS, List.nil_append, List.length_nil] at hlen
          obtain ⟨w3, w4, w5, w6, w7, e⟩ := ihr (i + 1) (acc ++ [.tup [.tup (h ++ [.int i]), (Sm.give a b).e]]) (some (.d (.int i))) (some (.d (Sm.give a b).e)) (some (.d (.tup (h ++ [.int i])))) v6 v7 hr (by simp; omega)
          refine ⟨w3, w4, w5, w6, w7, ?_⟩
          simp [ens, enumT, forL, gT, gsCons, gsNil, pk, itm, addF, q1, mApp, isL, q3, Sm.e, eb]
          simp [Sm.e, rowsL, rowsS] at e ⊢
          exact e
        | keep p a =>
          simp only [Sm.e] at eb
          simp only [rowsS, List.nil_append, List.length_nil] at hlen
          obtain ⟨w3, w4, w5, w6, w7, e⟩ := ihr (i + 1) (acc ++ [.tup [.tup (h ++ [.int i]), (Sm.keep p a).e]]) (some (.d (.int i))) (some (.d (Sm.keep p a).e)) (some (.d (.tup (h ++ [.int i])))) v6 v7 hr (by simp; omega)
          refine ⟨w3, w4, w5, w6, w7, ?_⟩
          simp [ens, enumT, forL, gT, gsCons, gsNil, pk, itm, addF, q1, mApp, isL, q3, Sm.e, eb]
          simp [Sm.e, rowsL, rowsS] at e ⊢
          exact e
        | iff t x y =>
          simp only [Sm.e] at eb
          simp only [rowsS, List.length_append] at hlen
          obtain ⟨d, rfl⟩ : ∃ m, d = m + 1 := by
            cases d with
            | zero => unfold Sm.ok at hs; exact hs.elim
            | succ d => exact ⟨d, rfl⟩
          unfold Sm.ok at hs
          have e1 := ih d x (h ++ [.int i, .int 0]) hs.2.1 (by omega) (by simp at hlen ⊢; omega) (by simp; omega)
          have e2 := ih d y (h ++ [.int i, .int 1]) hs.2.2 (by omega) (by simp at hlen ⊢; omega) (by simp; omega)
          obtain ⟨w3, w4, w5, w6, w7, e⟩ := ihr (i + 1) (acc ++ .tup [.tup (h ++ [.int i]), (Sm.iff t x y).e] :: (rowsL (h ++ [.int i, .int 0]) 0 x ++ rowsL (h ++ [.int i, .int 1]) 0 y)) (some (.d (.int i))) (some (.d (Sm.iff t x y).e)) (some (.d (.tup (h ++ [.int i])))) (some (.d (.int 1))) (some (.d (.tup (ens y)))) hr (by simp at hlen ⊢; omega)
          refine ⟨w3, w4, w5, w6, w7, ?_⟩
          simp at hlen
          have q4 : acc.length + 1 + (rowsL (h ++ [.int i, .int 0]) 0 x).length ≤ sizeLine := z _ (by omega)
          have q5 : acc.length + ((rowsL (h ++ [.int i, .int 0]) 0 x).length + 1) + (rowsL (h ++ [.int i, .int 1]) 0 y).length ≤ sizeLine := z _ (by omega)
          simp [ens, enumT, forL, gT, gsCons, gsNil, pk, itm, addF, q1, q2, mApp, mExt, isL, q3, Sm.e, eb, e1, e2, q4, q5]
          simp [Sm.e, rowsL, rowsS] at e ⊢
          exact e
    obtain ⟨w3, w4, w5, w6, w7, e⟩ := loop blk 0 [] none none none none none ok (by simpa using hl)
    simp only [List.nil_append] at e
    simp only [List.map_cons, List.map_nil, List.length_cons, List.length_nil, d_walked, ev_seq, ev_set, ev_lst, ev_aNil, R.bind_ok, R.thn_ok, lstK_0, F.thn_nx, ev_for, ev_iEnum, ev_aCons, N_walked]
    simp [List.replicate, e, resD, toD]
end
end FL
namespace FL
open PySem L2 PyProof.Rows
variable [TabPar]
/-- what a row of a block is -/
def RowOk (ws : List Str) (lo hi : Nat) (row : T) : Prop := ∃ p s d', row = .tup [.tup p, Sm.e s] ∧ s.ok ws d' ∧ lo ≤ p.length ∧ p.length ≤ hi
theorem RowOk.mono {ws : List Str} {lo hi lo' hi' : Nat} {row : T} (h : RowOk ws lo hi row) (h1 : lo' ≤ lo) (h2 : hi ≤ hi') : RowOk ws lo' hi' row := by
  obtain ⟨p, s, d', e1, e2, e3, e4⟩ := h
  exact ⟨p, s, d', e1, e2, by omega, by omega⟩
theorem rows_mem {ws : List Str} : ∀ (d : Nat) (blk : List Sm) (h : List T) (i : Int), oks ws d blk → ∀ row ∈ rowsL h i blk, RowOk ws (h.length + 1) (h.length + 1 + 2 * d) row := by
  intro d
  induction d with
  | zero =>
    intro blk
    induction blk with
    | nil => intro h i _ row hm; simp [rowsL] at hm
    | cons s r ihr =>
      intro h i ok row hm
      obtain ⟨hs, hr⟩ := oks_cons.mp ok
      cases s with
      | iff t x y => unfold Sm.ok at hs; exact hs.elim
      | give a b =>
        simp only [rowsL, rowsS, List.nil_append, List.mem_cons] at hm
        rcases hm with rfl | hm
        · exact ⟨_, _, 0, rfl, hs, by simp, by simp⟩
        · exact ihr h (i + 1) hr row hm
      | keep p a =>
        simp only [rowsL, rowsS, List.nil_append, List.mem_cons] at hm
        rcases hm with rfl | hm
        · exact ⟨_, _, 0, rfl, hs, by simp, by simp⟩
        · exact ihr h (i + 1) hr row hm
  | succ d ih =>
    intro blk
    induction blk with
    | nil => intro h i _ row hm; simp [rowsL] at hm
    | cons s r ihr =>
      intro h i ok row hm
      obtain ⟨hs, hr⟩ := oks_cons.mp ok
      simp only [rowsL, List.mem_cons, List.mem_append] at hm
      rcases hm with rfl | hm | hm
      · exact ⟨_, _, d + 1, rfl, hs, by simp, by simp⟩
      · cases s with
        | give a b => simp [rowsS] at hm
        | keep p a => simp [rowsS] at hm
        | iff t x y =>
          unfold Sm.ok at hs
          simp only [rowsS, List.mem_append] at hm
          rcases hm with hm | hm
          · obtain ⟨p, s, d', e1, e2, e3, e4⟩ := ih x _ _ hs.2.1 row hm
            exact ⟨p, s, d', e1, e2, by simp at e3 ⊢; omega, by simp at e4 ⊢; omega⟩
          · obtain ⟨p, s, d', e1, e2, e3, e4⟩ := ih y _ _ hs.2.2 row hm
            exact ⟨p, s, d', e1, e2, by simp at e3 ⊢; omega, by simp at e4 ⊢; omega⟩
      · exact ihr h (i + 1) hr row hm
section
variable (C_Program C_StretchError C_UnknownChange : Addr)
theorem f_check_block {ws : List Str} {w : T} (hw : itm w = some (ws.map .str)) {d : Nat} (hd : d ≤ 2) {blk : List Sm} (nm : Str) (ok : oks ws d blk) (hl : (rowsL [.str nm] 0 blk).length ≤ 8) :
    dataF (F_check_block C_Program C_StretchError C_UnknownChange) [.tup (ens blk), .str nm, w] = some .non := by
  have ew := f_walked C_Program C_StretchError C_UnknownChange 8 d blk [.str nm] ok (by omega) (by omega) (by simp)
  have hr := rows_mem d blk [.str nm] 0 ok
  unfold F_check_block
  rw [dataF_run]
  generalize rowsL [.str nm] 0 blk = rows at ew hr hl
  have loop : ∀ (rs : List T), (∀ r ∈ rs, RowOk ws 2 6 r) → ∀ (u0 u1 u3 : Option U) (v4 v5 : Option U) (st : List Ob), ∃ w4 w5,
      forL (gT 2 (gsCons (gN 4) (gsCons (gN 5) gsNil))) (mIfS (mOrT (mNotT (mTest (mCall 2 (F_is_statement C_Program C_StretchError C_UnknownChange) [false, false] (aCons (mVar 5) (aCons (mVar 2) aNil))))) (mTOp gtF (mOp divF (mOp subF (mCa lenF (aCons (mVar 4) aNil)) (mC (.int 2))) (mC (.int 2))) (mC g_MOST_AROUND))) mNo mNx) rs ⟨[u0, u1, some (.d w), u3, v4, v5], st⟩ = .nx ⟨[u0, u1, some (.d w), u3, w4, w5], st⟩ := by
    intro rs
    induction rs with
    | nil => intro _ u0 u1 u3 v4 v5 st; exact ⟨v4, v5, rfl⟩
    | cons r rs ih =>
      intro hall u0 u1 u3 v4 v5 st
      obtain ⟨p, s, d', rfl, hs, h1, h2⟩ := hall r List.mem_cons_self
      obtain ⟨w4, w5, e⟩ := ih (fun r hr => hall r (List.mem_cons_of_mem _ hr)) u0 u1 u3 (some (.d (.tup p))) (some (.d s.e)) st
      have e0 := f_is_statement C_Program C_StretchError C_UnknownChange hw hs
      have hc : CDivN ((p.length : Int) - 2) 2 := by unfold CDivN; simp
      have hq : ¬ (2 : Int) < ((p.length : Int) - 2).fdiv 2 := by
        have : ((p.length : Int) - 2).fdiv 2 ≤ 2 := by
          rw [Int.fdiv_eq_ediv_of_nonneg _ (by omega)]
          omega
        omega
      refine ⟨w4, w5, ?_⟩
      simp [forL, gT, gsCons, gsNil, pk, itm, e0, lenF, subF, divF, hc, g_MOST_AROUND, iiF, hq]
      exact e
  obtain ⟨w4, w5, e⟩ := loop rows (fun r h => (hr r h).mono (by simp) (by simp; omega)) (some (.d (.tup (ens blk)))) (some (.d (.str nm))) (some (.d (.lst rows))) none none []
  have hm : ¬ (8 : Int) < (rows.length : Int) := by omega
  simp [d_check_block, ew, List.replicate, lenF, itm, g_MOST_STATEMENTS, iiF, hm]
  rw [e]
  rfl
end
end FL
namespace FL
open PySem L2 PyProof.Rows
variable [TabPar]
def kT : NestedKey → T
  | .num i => .int i
  | .text x => .str x
  | _ => .non
def smp : NestedKey → Bool
  | .num _ => true
  | .text _ => true
  | _ => false
mutual
def rowsQS (h : List NestedKey) : Sm → List (List NestedKey × Sm)
  | .iff t x y => rowsQ (h ++ [.num 0]) 0 x ++ rowsQ (h ++ [.num 1]) 0 y
  | _ => []
def rowsQ (h : List NestedKey) : Int → List Sm → List (List NestedKey × Sm)
  | _, [] => []
  | i, s :: r => (h ++ [.num i], s) :: (rowsQS (h ++ [.num i]) s ++ rowsQ h (i + 1) r)
end
def rowE (q : List NestedKey × Sm) : T := .tup [.tup (q.1.map kT), q.2.e]
mutual
theorem rowsQS_e : ∀ (s : Sm) (h : List NestedKey), rowsS (h.map kT) s = (rowsQS h s).map rowE
  | .iff t x y, h => by
    have e1 := rowsQ_e x (h ++ [.num 0]) 0
    have e2 := rowsQ_e y (h ++ [.num 1]) 0
    simp only [List.map_append, List.map_cons, List.map_nil, kT] at e1 e2
    simp [rowsS, rowsQS, e1, e2]
  | .give a b, h => by simp [rowsS, rowsQS]
  | .keep p a, h => by simp [rowsS, rowsQS]
theorem rowsQ_e : ∀ (l : List Sm) (h : List NestedKey) (i : Int), rowsL (h.map kT) i l = (rowsQ h i l).map rowE
  | [], h, i => by simp [rowsL, rowsQ]
  | s :: r, h, i => by
    have e1 := rowsQS_e s (h ++ [.num i])
    have e2 := rowsQ_e r h (i + 1)
    simp only [List.map_append, List.map_cons, List.map_nil, kT] at e1
    simp [rowsL, rowsQ, e1, e2, rowE, kT]
end
mutual
theorem rowsQS_pre : ∀ (s : Sm) (h : List NestedKey), h.all smp = true → ∀ q ∈ rowsQS h s, ∃ c rest, q.1 = h ++ .num c :: rest ∧ rest ≠ [] ∧ q.1.all smp = true
  | .iff t x y, h, hs, q, hq => by
    simp only [rowsQS, List.mem_append] at hq
    rcases hq with hq | hq
    · obtain ⟨j, rest, e1, e2, e3⟩ := rowsQ_pre x (h ++ [.num 0]) 0 (by simp [hs, smp]) q hq
      exact ⟨0, .num j :: rest, by rw [e1]; simp, by simp, e3⟩
    · obtain ⟨j, rest, e1, e2, e3⟩ := rowsQ_pre y (h ++ [.num 1]) 0 (by simp [hs, smp]) q hq
      exact ⟨1, .num j :: rest, by rw [e1]; simp, by simp, e3⟩
  | .give a b, h, _, q, hq => by simp [rowsQS] at hq
  | .keep p a, h, _, q, hq => by simp [rowsQS] at hq
theorem rowsQ_pre : ∀ (l : List Sm) (h : List NestedKey) (i : Int), h.all smp = true → ∀ q ∈ rowsQ h i l, ∃ j rest, q.1 = h ++ .num j :: rest ∧ i ≤ j ∧ q.1.all smp = true
  | [], h, i, _, q, hq => by simp [rowsQ] at hq
  | s :: r, h, i, hs, q, hq => by
    simp only [rowsQ, List.mem_cons, List.mem_append] at hq
    rcases hq with rfl | hq | hq
    · exact ⟨i, [], rfl, by omega, by simp [hs, smp]⟩
    · obtain ⟨c, rest, e1, e2, e3⟩ := rowsQS_pre s (h ++ [.num i]) (by simp [hs, smp]) q hq
      exact ⟨i, .num c :: rest, by rw [e1]; simp, by omega, e3⟩
    · obtain ⟨j, rest, e1, e2, e3⟩ := rowsQ_pre r h (i + 1) hs q hq
      exact ⟨j, rest, e1, by omega, e3⟩
end
theorem nodup_app {α : Type} {l r : List α} (h1 : l.Nodup) (h2 : r.Nodup) (h : ∀ x ∈ l, x ∉ r) : (l ++ r).Nodup := by
  rw [List.nodup_append]
  exact ⟨h1, h2, fun a ha b hb e => h a ha (e ▸ hb)⟩
mutual
theorem rowsQS_nd : ∀ (s : Sm) (h : List NestedKey), h.all smp = true → ((rowsQS h s).map (·.1)).Nodup
  | .iff t x y, h, hs => by
    simp only [rowsQS, List.map_append]
    have q0 : (h ++ [NestedKey.num 0]).all smp = true := by simp [hs, smp]
    have q1 : (h ++ [NestedKey.num 1]).all smp = true := by simp [hs, smp]
    refine nodup_app (rowsQ_nd x _ 0 q0) (rowsQ_nd y _ 0 q1) fun p hp hq => ?_
    obtain ⟨a, ha, rfl⟩ := List.mem_map.mp hp
    obtain ⟨b, hb, e⟩ := List.mem_map.mp hq
    obtain ⟨j, rest, e1, _⟩ := rowsQ_pre x _ 0 q0 a ha
    obtain ⟨j', rest', e2, _⟩ := rowsQ_pre y _ 0 q1 b hb
    rw [e1, e2] at e
    simp at e
  | .give a b, h, _ => by simp [rowsQS]
  | .keep p a, h, _ => by simp [rowsQS]
theorem rowsQ_nd : ∀ (l : List Sm) (h : List NestedKey) (i : Int), h.all smp = true → ((rowsQ h i l).map (·.1)).Nodup
  | [], h, i, _ => by simp [rowsQ]
  | s :: r, h, i, hs => by
    have q0 : (h ++ [NestedKey.num i]).all smp = true := by simp [hs, smp]
    simp only [rowsQ, List.map_cons, List.map_append, List.nodup_cons]
    refine ⟨fun hm => ?_, nodup_app (rowsQS_nd s _ q0) (rowsQ_nd r h (i + 1) hs) fun p hp hq => ?_⟩
    · rw [List.mem_append] at hm
      rcases hm with hm | hm
      · obtain ⟨a, ha, e⟩ := List.mem_map.mp hm
        obtain ⟨c, rest, e1, e2, _⟩ := rowsQS_pre s _ q0 a ha
        rw [e1] at e
        simp at e
      · obtain ⟨a, ha, e⟩ := List.mem_map.mp hm
        obtain ⟨j, rest, e1, e2, _⟩ := rowsQ_pre r h (i + 1) hs a ha
        rw [e1] at e
        simp at e
        omega
    · obtain ⟨a, ha, rfl⟩ := List.mem_map.mp hp
      obtain ⟨b, hb, e⟩ := List.mem_map.mp hq
      obtain ⟨c, rest, e1, _⟩ := rowsQS_pre s _ q0 a ha
      obtain ⟨j, rest', e2, e3, _⟩ := rowsQ_pre r h (i + 1) hs b hb
      rw [e1, e2] at e
      simp at e
      omega
end
theorem nks_kT : ∀ p : List NestedKey, p.all smp = true → T.nks (p.map kT) = some p
  | [], _ => rfl
  | k :: p, h => by
    simp only [List.all_cons, Bool.and_eq_true] at h
    have := nks_kT p h.2
    cases k with
    | num i => simp [T.nks, T.nk, kT, this]
    | text x => simp [T.nks, T.nk, kT, this]
    | _ => simp [smp] at h
theorem prs_rows : ∀ l : List (List NestedKey × Sm), (∀ q ∈ l, q.1.all smp = true) → prs (l.map rowE) = some (l.map fun q => .tup q.1, l.map fun q => .tup (q.1.map kT), l.map fun q => q.2.e)
  | [], _ => rfl
  | q :: l, h => by
    have e1 := nks_kT q.1 (h q List.mem_cons_self)
    have e2 := prs_rows l fun x hx => h x (List.mem_cons_of_mem _ hx)
    simp [prs, rowE, T.nk, e1, e2]
theorem depthAll_smp : ∀ p : List NestedKey, p.all smp = true → NestedKey.depthAll p = 0
  | [], _ => rfl
  | k :: p, h => by
    simp only [List.all_cons, Bool.and_eq_true] at h
    have := depthAll_smp p h.2
    cases k with
    | num i => simp [NestedKey.depthAll, NestedKey.depth, this]
    | text x => simp [NestedKey.depthAll, NestedKey.depth, this]
    | _ => simp [smp] at h
theorem depth_smp (p : List NestedKey) (h : p.all smp = true) : (NestedKey.tup p).depth ≤ 8 := by
  simp [NestedKey.depth, depthAll_smp p h]
/-- the rows of a program -/
def progQ (b l : List Sm) : List (List NestedKey × Sm) := rowsQ [.text "block"] 0 b ++ rowsQ [.text "last"] 0 l
theorem progQ_smp (b l : List Sm) : ∀ q ∈ progQ b l, q.1.all smp = true := fun q hq => by
  rcases List.mem_append.mp hq with h | h
  · obtain ⟨_, _, _, _, e⟩ := rowsQ_pre b _ 0 (by simp [smp]) q h; exact e
  · obtain ⟨_, _, _, _, e⟩ := rowsQ_pre l _ 0 (by simp [smp]) q h; exact e
theorem nodup_mapTup : ∀ {l : List (List NestedKey)}, l.Nodup → (l.map NestedKey.tup).Nodup
  | [], _ => by simp
  | a :: l, h => by
    rw [List.nodup_cons] at h
    rw [List.map_cons, List.nodup_cons]
    refine ⟨fun hm => ?_, nodup_mapTup h.2⟩
    obtain ⟨b, hb, e⟩ := List.mem_map.mp hm
    cases e
    exact h.1 hb
theorem progQ_nd (b l : List Sm) : ((progQ b l).map fun q => NestedKey.tup q.1).Nodup := by
  have : ((progQ b l).map fun q => NestedKey.tup q.1) = ((progQ b l).map (·.1)).map NestedKey.tup := by simp
  rw [this]
  refine nodup_mapTup ?_
  unfold progQ
  rw [List.map_append]
  refine nodup_app (rowsQ_nd b _ 0 (by simp [smp])) (rowsQ_nd l _ 0 (by simp [smp])) fun p hp hq => ?_
  obtain ⟨x, hx, rfl⟩ := List.mem_map.mp hp
  obtain ⟨y, hy, e⟩ := List.mem_map.mp hq
  obtain ⟨_, _, e1, _⟩ := rowsQ_pre b _ 0 (by simp [smp]) x hx
  obtain ⟨_, _, e2, _⟩ := rowsQ_pre l _ 0 (by simp [smp]) y hy
  rw [e1, e2] at e
  simp at e
theorem dict_rows (b l : List Sm) (h : (progQ b l).length ≤ 1000) : dictF [.lst ((progQ b l).map rowE)] = some (.d (.dt ((progQ b l).map fun q => .tup (q.1.map kT)) ((progQ b l).map fun q => q.2.e))) := by
  unfold dictF
  dsimp only
  rw [prs_rows _ (progQ_smp b l)]
  dsimp only
  rw [if_pos]
  refine ⟨progQ_nd b l, fun q hq => ?_, ?_⟩
  · obtain ⟨x, hx, rfl⟩ := List.mem_map.mp hq
    exact depth_smp _ (progQ_smp b l x hx)
  · rw [List.length_map]
    exact Nat.le_trans h (by decide)
theorem rows_block (b : List Sm) : rowsL [.str "block"] 0 b = (rowsQ [.text "block"] 0 b).map rowE := rowsQ_e b [.text "block"] 0
theorem rows_last (b : List Sm) : rowsL [.str "last"] 0 b = (rowsQ [.text "last"] 0 b).map rowE := rowsQ_e b [.text "last"] 0
end FL
namespace FL
open PySem L2 PyProof.Rows
variable [TabPar]
/-- a program as it stands -/
def progT (C : Addr) (s : Str) (b l : List Sm) : T := .obj C ["order", "body", "ending", "rows", "words"] [.str s, .tup (ens b), .tup (ens l),
  .dt ((progQ b l).map fun q => .tup (q.1.map kT)) ((progQ b l).map fun q => q.2.e), .lst ((progQ b l).map fun q => q.2.ws).flatten]
/-- the programs that may be made -/
structure POk (s : Str) (b l : List Sm) : Prop where
  hs : s ∈ SORTs
  hb : oks TERMs 2 b
  hl : oks PLACs 2 l
  nb : (rowsL [.str "block"] 0 b).length ≤ 8
  nl : (rowsL [.str "last"] 0 l).length ≤ 8
mutual
theorem rowsQS_ok {ws : List Str} : ∀ (s : Sm) (d : Nat) (h : List NestedKey), s.ok ws d → ∀ q ∈ rowsQS h s, ∃ d', q.2.ok ws d'
  | .iff t x y, d, h, ok, q, hq => by
    cases d with
    | zero => unfold Sm.ok at ok; exact ok.elim
    | succ d =>
      unfold Sm.ok at ok
      simp only [rowsQS, List.mem_append] at hq
      rcases hq with hq | hq
      · exact rowsQ_ok x d _ 0 ok.2.1 q hq
      · exact rowsQ_ok y d _ 0 ok.2.2 q hq
  | .give a b, d, h, ok, q, hq => by simp [rowsQS] at hq
  | .keep p a, d, h, ok, q, hq => by simp [rowsQS] at hq
theorem rowsQ_ok {ws : List Str} : ∀ (l : List Sm) (d : Nat) (h : List NestedKey) (i : Int), oks ws d l → ∀ q ∈ rowsQ h i l, ∃ d', q.2.ok ws d'
  | [], d, h, i, ok, q, hq => by simp [rowsQ] at hq
  | s :: r, d, h, i, ok, q, hq => by
    obtain ⟨hs, hr⟩ := oks_cons.mp ok
    simp only [rowsQ, List.mem_cons, List.mem_append] at hq
    rcases hq with rfl | hq | hq
    · exact ⟨d, hs⟩
    · exact rowsQS_ok s d _ hs q hq
    · exact rowsQ_ok r d h (i + 1) hr q hq
end
theorem terms_short : ∀ a ∈ TERMs, a.length ≤ 100 := by
  intro a h
  simp only [TERMs, List.mem_cons, List.not_mem_nil, or_false] at h
  rcases h with rfl | rfl | rfl | rfl <;> decide +kernel
theorem plac_short : ∀ a ∈ PLACs, a.length ≤ 100 := by
  intro a h
  simp only [PLACs, List.mem_cons, List.not_mem_nil, or_false] at h
  rcases h with rfl | rfl <;> decide +kernel
theorem ws_len (s : Sm) : s.ws.length ≤ 4 := by
  cases s with
  | give a b => cases a <;> cases b <;> simp [Sm.ws, Tm.ws]
  | keep p a => cases a <;> simp [Sm.ws, Tm.ws]
  | iff t x y => cases t <;> simp [Sm.ws, Te.ws]
section
variable (C_Program C_StretchError C_UnknownChange : Addr)
theorem progQ_ws {s : Str} {b l : List Sm} (ok : POk s b l) : ∀ q ∈ progQ b l, dataF (F_words_in C_Program C_StretchError C_UnknownChange) [q.2.e] = some (.lst q.2.ws) := fun q hq => by
  rcases List.mem_append.mp hq with h | h
  · obtain ⟨d, h'⟩ := rowsQ_ok b 2 _ 0 ok.hb q h
    exact f_words_in C_Program C_StretchError C_UnknownChange h' terms_short
  · obtain ⟨d, h'⟩ := rowsQ_ok l 2 _ 0 ok.hl q h
    exact f_words_in C_Program C_StretchError C_UnknownChange h' plac_short
/-- the words of all rows -/
theorem lc_copy {g : DG} {sl : List (Option U)} {vs : List Nat} {me : DE} {st : List Ob} : ∀ (ts acc : List T), (∀ x ∈ ts, ∃ ρ1 sl2, g (.d x) ⟨wipeL sl vs, st⟩ = .ok () ρ1 ∧ me ρ1 = .ok (.d x) ⟨sl2, st⟩) → acc.length + ts.length ≤ sizeLine → lcL g mYes me vs sl ts acc st = .ok (acc ++ ts) ⟨sl, st⟩ := fun ts acc h hl => by
  have := lc_map (h := fun x => x) ts acc h hl
  simpa using this
theorem words_loop (sl0 sl1 sl2 sl3 : Option U) (st : List Ob) : ∀ (qs : List (List NestedKey × Sm)) (acc : List T), (∀ q ∈ qs, dataF (F_words_in C_Program C_StretchError C_UnknownChange) [q.2.e] = some (.lst q.2.ws)) → acc.length + 4 * qs.length ≤ 1000 →
    lcL2 (gN 4) mYes (iSeq (mCall 1 (F_words_in C_Program C_StretchError C_UnknownChange) [false] (aCons (mVar 4) aNil))) (gN 5) mYes (mVar 5) [4, 5] [5] [sl0, sl1, sl2, sl3, none, none] (qs.map fun q => q.2.e) acc st = .ok (acc ++ (qs.map fun q => q.2.ws).flatten) ⟨[sl0, sl1, sl2, sl3, none, none], st⟩
  | [], acc, _, _ => by simp [lcL2]
  | q :: qs, acc, h, hl => by
    have e1 := h q List.mem_cons_self
    have hw := ws_len q.2
    simp only [List.length_cons] at hl
    have e2 := words_loop sl0 sl1 sl2 sl3 st qs (acc ++ q.2.ws) (fun x hx => h x (List.mem_cons_of_mem _ hx)) (by simp; omega)
    have e3 := lc_copy (g := gN 5) (sl := [sl0, sl1, sl2, sl3, some (.d q.2.e), none]) (vs := [5]) (me := mVar 5) (st := st) q.2.ws acc (fun x hx => ⟨⟨[sl0, sl1, sl2, sl3, some (.d q.2.e), some (.d x)], st⟩, [sl0, sl1, sl2, sl3, some (.d q.2.e), some (.d x)], rfl, rfl⟩) (Nat.le_trans (show acc.length + q.2.ws.length ≤ 1000 by omega) (by decide))
    simp [lcL2, wipeL, e1]
    rw [show (mYes ⟨[sl0, sl1, sl2, sl3, some (.d q.2.e), none], st⟩ : R Bool) = .ok true ⟨[sl0, sl1, sl2, sl3, some (.d q.2.e), none], st⟩ from rfl]
    simp only [ev_call, ev_aCons, ev_aNil, ev_var4, R.bind_ok, callK_1, e1, datK_s, seqK_lst, e3, e2]
    simp
theorem walk_rows {s : Str} {b l : List Sm} (ok : POk s b l) : dataF (F_walked C_Program C_StretchError C_UnknownChange 8) [.tup (ens b), .tup [.str "block"]] = some (.lst ((rowsQ [.text "block"] 0 b).map rowE)) ∧ dataF (F_walked C_Program C_StretchError C_UnknownChange 8) [.tup (ens l), .tup [.str "last"]] = some (.lst ((rowsQ [.text "last"] 0 l).map rowE)) := by
  have e1 := f_walked C_Program C_StretchError C_UnknownChange 8 2 b [.str "block"] ok.hb (by omega) (Nat.le_trans ok.nb (by decide)) (by simp)
  have e2 := f_walked C_Program C_StretchError C_UnknownChange 8 2 l [.str "last"] ok.hl (by omega) (Nat.le_trans ok.nl (by decide)) (by simp)
  rw [rows_block] at e1
  rw [rows_last] at e2
  exact ⟨e1, e2⟩
theorem f_init {s : Str} {b l : List Sm} (ok : POk s b l) : ∃ sl, F_Program_init C_Program C_StretchError C_UnknownChange [.obj C_Program [] []] [.own 0, .d (.str s), .d (.tup (ens b)), .d (.tup (ens l))] = .ok (.d .non) ⟨sl, [.obj C_Program ["order", "body", "ending", "rows", "words"]
    [.d (.str s), .d (.tup (ens b)), .d (.tup (ens l)), .d (.dt ((progQ b l).map fun q => .tup (q.1.map kT)) ((progQ b l).map fun q => q.2.e)), .d (.lst ((progQ b l).map fun q => q.2.ws).flatten)]]⟩ := by
  have e0 := f_is_one_of C_Program C_StretchError C_UnknownChange s SORTs g_SORTINGS rfl
  have c1 := f_check_block C_Program C_StretchError C_UnknownChange (w := g_TERMS) (ws := TERMs) rfl (by decide) "block" ok.hb ok.nb
  have c2 := f_check_block C_Program C_StretchError C_UnknownChange (w := g_PLACES) (ws := PLACs) rfl (by decide) "last" ok.hl ok.nl
  obtain ⟨w1, w2⟩ := walk_rows C_Program C_StretchError C_UnknownChange ok
  have nb := ok.nb
  have nl := ok.nl
  rw [rows_block, List.length_map] at nb
  rw [rows_last, List.length_map] at nl
  have hq : (progQ b l).length ≤ 16 := by unfold progQ; rw [List.length_append]; omega
  have q1 : (rowsQ [.text "block"] 0 b).length + (rowsQ [.text "last"] 0 l).length ≤ sizeLine := Nat.le_trans (show _ ≤ 16 by omega) (by decide)
  have ed := dict_rows b l (by omega)
  have hs := ok.hs
  unfold progQ at ed
  rw [List.map_append] at ed
  unfold F_Program_init runD
  have wl := words_loop C_Program C_StretchError C_UnknownChange (some (.own 0)) (some (.d (.str s))) (some (.d (.tup (ens b)))) (some (.d (.tup (ens l))))
    [.obj C_Program ["order", "body", "ending", "rows"] [.d (.str s), .d (.tup (ens b)), .d (.tup (ens l)), .d (.dt ((progQ b l).map fun q => .tup (q.1.map kT)) ((progQ b l).map fun q => q.2.e))], .lst ((rowsQ [.text "block"] 0 b).map rowE ++ (rowsQ [.text "last"] 0 l).map rowE)] (progQ b l) [] (progQ_ws C_Program C_StretchError C_UnknownChange ok) (by simp; omega)
  have hq' : rowsQ [.text "block"] 0 b ++ rowsQ [.text "last"] 0 l = progQ b l := rfl
  rw [hq'] at ed
  simp only [List.nil_append] at wl
  simp [d_Program_init, e0, hs, c1, c2, w1, w2, mSetF, fPut, toD, opK, pk, addF, q1, caK, pks, ed, mLc2, iVaD, mFld, insOf, fAt, wl, cutSt, refO, refU]
end
end FL
namespace FL
open PySem L2 PyProof.Rows
variable [TabPar]
theorem place_term : ∀ a ∈ PLACs, a ∈ TERMs := by
  intro a h
  simp only [PLACs, TERMs, List.mem_cons, List.not_mem_nil, or_false] at h ⊢
  rcases h with rfl | rfl <;> simp
abbrev dKs : List Key := [.inr "sorting", .inr "block", .inr "last"]
end FL
namespace FL
open PySem L2 PyProof.Rows
variable [TabPar]
/-- the row of draws -/
def Vr (ns : List Int) (row : List T) : Prop := ∃ a s m : Int, row = [.frl (ns.map .int), .int a, .int s, .int m] ∧ 0 ≤ a
theorem fmod_r (a : Int) {b : Int} (h : 0 < b) : 0 ≤ a.fmod b ∧ a.fmod b < b := ⟨Int.fmod_nonneg_of_pos a h, Int.fmod_lt_of_pos a h⟩
theorem callK_own {n : Nat} {F : Fn} {cs : List Bool} {ts : List T} {ρ : Sg} {i : Nat} {ob ob2 : Ob} {t : T} {sl' : List (Option U)} (h1 : ρ.st[i]? = some ob) (hd : refO 0 ob = true) (hF : F [ob] (.own 0 :: ts.map .d) = .ok (.d t) ⟨sl', [ob2]⟩) (hd2 : refO 0 ob2 = true) (hn : ts.length + 1 = n) :
    callK n F (true :: cs) (.own i :: ts.map .d) ρ = .ok (.d t) ⟨ρ.sl, ρ.st.set i ob2⟩ := by
  have ow : ∀ (us : List U) (acc : List Nat), us.all (refU 0) = true → owns us acc = acc := fun us => by
    induction us with
    | nil => intro acc _; rfl
    | cons u us ih =>
      intro acc h
      rw [List.all_cons, Bool.and_eq_true] at h
      cases u with
      | d t => exact ih acc h.2
      | own i => simp [refU] at h
  have rn : ∀ (is : List Nat) (us : List U), us.all (refU 0) = true → renUs is us = some us := fun is us => by
    induction us with
    | nil => intro _; rfl
    | cons u us ih =>
      intro h
      rw [List.all_cons, Bool.and_eq_true] at h
      cases u with
      | d t => simp [renUs, renU, ih h.2]
      | own i => simp [refU] at h
  have bk : ∀ (is : List Nat) (us : List U), us.all (refU 0) = true → backUs is us = some us := fun is us => by
    induction us with
    | nil => intro _; rfl
    | cons u us ih =>
      intro h
      rw [List.all_cons, Bool.and_eq_true] at h
      cases u with
      | d t => simp [backUs, backU, ih h.2]
      | own i => simp [refU] at h
  have o1 : ∀ acc, ownsO acc (some ob) = acc := fun acc => by
    cases ob with
    | obj C ns us => exact ow us acc hd
    | _ => rfl
  have hr : ∀ m, reach ρ.st m [i] = [i] := fun m => by
    induction m with
    | zero => rfl
    | succ m ih => simp [reach, h1, o1, ih]
  have r1 : renO [i] ob = some ob := by
    cases ob with
    | obj C ns us => simp [renO, rn [i] us hd]
    | tpo us => cases hd
    | _ => rfl
  have b1 : backO [i] ob2 = some ob2 := by
    cases ob2 with
    | obj C ns us => simp [backO, bk [i] us hd2]
    | tpo us => cases hd2
    | _ => rfl
  have ha : argC (true :: cs) (.own i :: ts.map .d) ρ.st = some (.own i :: ts.map .d, ρ.st) := by simp [argC, argC_data]
  unfold callK
  rw [ha]
  simp [hn, callR, owns, owns_data, adds, hr, handOn, h1, r1, renUs, renU, renUs_data, hF, handBack, b1]
theorem callK_row {n : Nat} {F : Fn} {cs : List Bool} {ts : List T} {sl sl' : List (Option U)} {g : List Ob} {row row' : List T} {t : T} (hF : F [.lst row] (.own 0 :: ts.map .d) = .ok (.d t) ⟨sl', [.lst row']⟩) (hn : ts.length + 1 = n) :
    callK n F (true :: cs) (.own 0 :: ts.map .d) ⟨sl, .lst row :: g⟩ = .ok (.d t) ⟨sl, .lst row' :: g⟩ := callK_own rfl rfl hF rfl hn
section
variable (C_Program C_StretchError C_UnknownChange : Addr)
theorem f_taken {ns : List Int} {row : List T} (h : Vr ns row) {many : Int} (h1 : 0 < many) (h2 : many ≤ 1000) : ∃ v row' sl, F__law_taken C_Program C_StretchError C_UnknownChange [.lst row] [.own 0, .d (.int many)] = .ok (.d (.int v)) ⟨sl, [.lst row']⟩ ∧ 0 ≤ v ∧ v < many ∧ Vr ns row' := by
  obtain ⟨a, s, m, rfl, ha⟩ := h
  have cd : CDivN m many := ⟨by omega, by omega⟩
  have mn : many ≠ 0 := by omega
  have i1 : ixN 4 3 = some 3 := by simp [ixN]
  have i2 : ixN 4 1 = some 1 := by simp [ixN]
  have i3 : ixN 4 2 = some 2 := by simp [ixN]
  have cm : ∀ x, CMul x 48271 := fun x => .inr ⟨by decide, by decide⟩
  have c7 : ∀ x, CDivN x 7 := fun x => ⟨by decide, by decide⟩
  have cp : CPow 10 18 := ⟨by decide, by decide, by decide⟩
  by_cases hm : 0 < m
  · refine ⟨m.fmod many, [.frl (ns.map .int), .int a, .int s, .int (m.fdiv many)], [], ?_, (fmod_r m h1).1, (fmod_r m h1).2, a, s, _, rfl, ha⟩
    unfold F__law_taken runD
    simp [d__law_taken, opK, pk, ixAF, ixF, itm, iiF, hm, caK, pks, intF, modF, mn, mAsg, divF, cd, gIx, i1, cutSt, refO]
  · by_cases hl : (ns.length : Int) < a + 1
    · refine ⟨_, _, [], ?_, (fmod_r (((s * 48271 + 11).fmod 2147483647).fdiv 7) h1).1, (fmod_r _ h1).2, a + 1, (s * 48271 + 11).fmod 2147483647, m, rfl, by omega⟩
      unfold F__law_taken runD
      simp [d__law_taken, opK, pk, ixAF, ixF, itm, iiF, hm, caK, pks, intF, modF, mn, mAsg, divF, mulF, addF, cm, c7, gIx, i1, i2, i3, cutSt, refO, lenF, hl]
    · obtain ⟨j, hj⟩ : ∃ j : Nat, a = j := ⟨a.toNat, by omega⟩
      subst hj
      have hj : j < ns.length := by omega
      have hat : atI (ns.map T.int) (j : Int) = some (.int ns[j]) := by
        have hx : ixN ns.length (j : Int) = some j := by simp [ixN]; omega
        simp [atI, hx, hj]
      by_cases hc : (1000000000000000000 : Int) ≤ ns[j]
      · refine ⟨_, _, [], ?_, (fmod_r ns[j] h1).1, (fmod_r _ h1).2, (j : Int) + 1, (s * 48271 + ns[j] + 11).fmod 2147483647, ns[j].fdiv many, rfl, by omega⟩
        unfold F__law_taken runD
        have cd' : CDivN ns[j] many := ⟨by omega, by omega⟩
        simp [d__law_taken, opK, pk, ixAF, ixF, itm, iiF, hm, caK, pks, intF, modF, mn, mAsg, divF, mulF, addF, subF, powF, cp, cm, c7, cd', gIx, i1, i2, i3, cutSt, refO, lenF, hl, hat, hc]
      · refine ⟨_, _, [], ?_, (fmod_r ns[j] h1).1, (fmod_r _ h1).2, (j : Int) + 1, (s * 48271 + ns[j] + 11).fmod 2147483647, m, rfl, by omega⟩
        unfold F__law_taken runD
        simp [d__law_taken, opK, pk, ixAF, ixF, itm, iiF, hm, caK, pks, intF, modF, mn, mAsg, divF, mulF, addF, subF, powF, cp, cm, c7, gIx, i1, i2, i3, cutSt, refO, lenF, hl, hat, hc]
end
end FL
namespace FL
open PySem L2 PyProof.Rows
variable [TabPar]
section
variable {F : Fn} {cs : List Bool} {sl sl' : List (Option U)} {g : List Ob} {row row' : List T} {t a b c : T}
theorem callR0 (hF : F [.lst row] [.own 0] = .ok (.d t) ⟨sl', [.lst row']⟩) : callK 1 F (true :: cs) [.own 0] ⟨sl, .lst row :: g⟩ = .ok (.d t) ⟨sl, .lst row' :: g⟩ := callK_row (ts := []) hF rfl
theorem callR1 (hF : F [.lst row] [.own 0, .d a] = .ok (.d t) ⟨sl', [.lst row']⟩) : callK 2 F (true :: cs) [.own 0, .d a] ⟨sl, .lst row :: g⟩ = .ok (.d t) ⟨sl, .lst row' :: g⟩ := callK_row (ts := [a]) hF rfl
theorem callR2 (hF : F [.lst row] [.own 0, .d a, .d b] = .ok (.d t) ⟨sl', [.lst row']⟩) : callK 3 F (true :: cs) [.own 0, .d a, .d b] ⟨sl, .lst row :: g⟩ = .ok (.d t) ⟨sl, .lst row' :: g⟩ := callK_row (ts := [a, b]) hF rfl
theorem callR3 (hF : F [.lst row] [.own 0, .d a, .d b, .d c] = .ok (.d t) ⟨sl', [.lst row']⟩) : callK 4 F (true :: cs) [.own 0, .d a, .d b, .d c] ⟨sl, .lst row :: g⟩ = .ok (.d t) ⟨sl, .lst row' :: g⟩ := callK_row (ts := [a, b, c]) hF rfl
end
theorem atI_in {α : Type} {l : List α} {v : Int} (h0 : 0 ≤ v) (h : v < l.length) : ∃ x ∈ l, atI l v = some x := by
  obtain ⟨j, rfl⟩ : ∃ j : Nat, v = j := ⟨v.toNat, by omega⟩
  have hj : j < l.length := by omega
  have hx : ixN l.length (j : Int) = some j := by simp [ixN]; omega
  exact ⟨l[j], List.getElem_mem hj, by simp [atI, hx, hj]⟩
theorem ix_strs {ws : List Str} {v : Int} (h0 : 0 ≤ v) (h : v < ws.length) : ∃ x ∈ ws, ixAF (.lst (ws.map .str)) (.int v) = some (.d (.str x)) := by
  obtain ⟨y, hy, e⟩ := atI_in (l := ws.map T.str) h0 (by simpa using h)
  obtain ⟨x, hx, rfl⟩ := List.mem_map.mp hy
  exact ⟨x, hx, by simp [ixAF, ixF, itm, e]⟩
section
variable (C_Program C_StretchError C_UnknownChange : Addr)
theorem f_dterm {ns : List Int} {row : List T} (h : Vr ns row) {ws : List Str} (hw : ws ≠ []) (hw2 : ws.length ≤ 1000) : ∃ (tm : Tm) (row' : List T) (sl : List (Option U)), F__law_term C_Program C_StretchError C_UnknownChange [.lst row] [.own 0, .d (.lst (ws.map .str))] = .ok (.d tm.e) ⟨sl, [.lst row']⟩ ∧ tm.ok ws ∧ Vr ns row' := by
  have hp : 0 < ws.length := List.length_pos_iff.mpr hw
  obtain ⟨v0, r0, s0, e0, a0, b0, h0⟩ := f_taken C_Program C_StretchError C_UnknownChange h (many := 4) (by omega) (by omega)
  obtain ⟨v1, r1, s1, e1, a1, b1, h1⟩ := f_taken C_Program C_StretchError C_UnknownChange h0 (many := (ws.length : Int)) (by omega) (by omega)
  obtain ⟨x1, m1, i1⟩ := ix_strs a1 (by omega : v1 < ws.length)
  by_cases hv : 0 < v0
  · refine ⟨.w x1, r1, [], ?_, m1, h1⟩
    unfold F__law_term runD
    simp [d__law_term, callR1 e0, callR1 e1, iiF, hv, lenF, itm, i1, cutSt, refO, Tm.e]
  · obtain ⟨v2, r2, s2, e2, a2, b2, h2⟩ := f_taken C_Program C_StretchError C_UnknownChange h1 (many := (ws.length : Int)) (by omega) (by omega)
    obtain ⟨x2, m2, i2⟩ := ix_strs a2 (by omega : v2 < ws.length)
    obtain ⟨v3, r3, s3, e3, a3, b3, h3⟩ := f_taken C_Program C_StretchError C_UnknownChange h2 (many := 2) (by omega) (by omega)
    obtain ⟨x3, m3, i3⟩ := ix_strs (ws := CHOIs) a3 (by simpa using b3)
    simp only [List.map] at i3
    refine ⟨.c x3 x1 x2, r3, [], ?_, ⟨m3, m1, m2⟩, h3⟩
    unfold F__law_term runD
    simp [d__law_term, callR1 e0, callR1 e1, callR1 e2, callR1 e3, iiF, hv, lenF, itm, i1, i2, i3, opK, pk, mPar, cutSt, refO, Tm.e]
theorem f_dtest {ns : List Int} {row : List T} (h : Vr ns row) {ws : List Str} (hw : ws ≠ []) (hw2 : ws.length ≤ 1000) : ∃ (tm : Te) (row' : List T) (sl : List (Option U)), F__law_test C_Program C_StretchError C_UnknownChange [.lst row] [.own 0, .d (.lst (ws.map .str))] = .ok (.d tm.e) ⟨sl, [.lst row']⟩ ∧ tm.ok ws ∧ Vr ns row' := by
  have hp : 0 < ws.length := List.length_pos_iff.mpr hw
  have hin := in_str (s := "begin") (ws := ws) (w := .lst (ws.map .str)) (ng := false) rfl
  obtain ⟨v0, r0, s0, e0, a0, b0, h0⟩ := f_taken C_Program C_StretchError C_UnknownChange h (many := 4) (by omega) (by omega)
  by_cases hb : v0 = 0 ∧ ("begin" : Str) ∈ ws
  · refine ⟨.srt, r0, [], ?_, hb.2, h0⟩
    unfold F__law_test runD
    simp [d__law_test, callR1 e0, hb.1, hb.2, hin, cutSt, refO, Te.e]
  · obtain ⟨v1, r1, s1, e1, a1, b1, h1⟩ := f_taken C_Program C_StretchError C_UnknownChange h0 (many := (ws.length : Int)) (by omega) (by omega)
    obtain ⟨x1, m1, i1⟩ := ix_strs a1 (by omega : v1 < ws.length)
    obtain ⟨v2, r2, s2, e2, a2, b2, h2⟩ := f_taken C_Program C_StretchError C_UnknownChange h1 (many := (ws.length : Int)) (by omega) (by omega)
    obtain ⟨x2, m2, i2⟩ := ix_strs a2 (by omega : v2 < ws.length)
    obtain ⟨v3, r3, s3, e3, a3, b3, h3⟩ := f_taken C_Program C_StretchError C_UnknownChange h2 (many := 3) (by omega) (by omega)
    obtain ⟨x3, m3, i3⟩ := ix_strs (ws := ["less", "less", "same"]) a3 (by simpa using b3)
    simp only [List.map] at i3
    refine ⟨.c x3 x1 x2, r3, [], ?_, ⟨by simpa using m3, m1, m2⟩, h3⟩
    unfold F__law_test runD
    by_cases hv : v0 = 0
    · have hb' : ¬ ("begin" : Str) ∈ ws := fun z => hb ⟨hv, z⟩
      simp [d__law_test, callR1 e0, callR1 e1, callR1 e2, callR1 e3, hv, hb', hin, lenF, itm, i1, i2, i3, opK, pk, mPar, cutSt, refO, Te.e]
    · simp [d__law_test, callR1 e0, callR1 e1, callR1 e2, callR1 e3, hv, lenF, itm, i1, i2, i3, opK, pk, mPar, cutSt, refO, Te.e]
end
end FL
namespace FL
open PySem L2 PyProof.Rows
variable [TabPar]
mutual
def cnt : Sm → Nat
  | .iff t x y => 1 + (cnts x + cnts y)
  | _ => 1
def cnts : List Sm → Nat
  | [] => 0
  | s :: r => cnt s + cnts r
end
mutual
theorem rowsS_cnt : ∀ (s : Sm) (h : List T), (rowsS h s).length + 1 = cnt s
  | .iff t x y, h => by
    have e1 := rowsL_cnt x (h ++ [.int 0]) 0
    have e2 := rowsL_cnt y (h ++ [.int 1]) 0
    simp only [rowsS, cnt, List.length_append]
    omega
  | .give a b, h => by simp [rowsS, cnt]
  | .keep p a, h => by simp [rowsS, cnt]
theorem rowsL_cnt : ∀ (l : List Sm) (h : List T) (i : Int), (rowsL h i l).length = cnts l
  | [], h, i => by simp [rowsL, cnts]
  | s :: r, h, i => by
    have e1 := rowsS_cnt s (h ++ [.int i])
    have e2 := rowsL_cnt r h (i + 1)
    simp only [rowsL, cnts, List.length_cons, List.length_append]
    omega
end
def cmax : Nat → Nat
  | 0 => 1
  | e + 1 => 1 + 4 * cmax e
theorem cmax_pos : ∀ e, 1 ≤ cmax e
  | 0 => by simp [cmax]
  | e + 1 => by simp [cmax]
section
variable (C_Program C_StretchError C_UnknownChange : Addr)
def QS (ns : List Int) (ws : List Str) (n : Nat) : Prop := ∀ (e : Nat) (row : List T), e ≤ 2 → 2 * e < n → Vr ns row → ∃ (s : Sm) (row' : List T) (sl : List (Option U)), F__law_statement C_Program C_StretchError C_UnknownChange n [.lst row] [.own 0, .d (.lst (ws.map .str)), .d (.int (2 - e))] = .ok (.d s.e) ⟨sl, [.lst row']⟩ ∧ s.ok ws e ∧ cnt s ≤ cmax e ∧ Vr ns row'
def QB (ns : List Int) (ws : List Str) (n : Nat) : Prop := ∀ (e : Nat) (m : Nat) (row : List T), e ≤ 2 → m ≤ 2 → 2 * e + 1 < n → Vr ns row → ∃ (l : List Sm) (row' : List T) (sl : List (Option U)), F__law_block C_Program C_StretchError C_UnknownChange n [.lst row] [.own 0, .d (.lst (ws.map .str)), .d (.int (2 - e)), .d (.int m)] = .ok (.d (.tup (ens l))) ⟨sl, [.lst row']⟩ ∧ oks ws e l ∧ cnts l ≤ m * cmax e ∧ Vr ns row'
theorem qb_step {ns : List Int} {ws : List Str} {n : Nat} (hS : QS C_Program C_StretchError C_UnknownChange ns ws n) : QB C_Program C_StretchError C_UnknownChange ns ws (n + 1) := by
  intro e m row he hm hn hv
  obtain ⟨v0, r0, s0, e0, a0, b0, h0⟩ := f_taken C_Program C_StretchError C_UnknownChange hv (many := (m : Int) + 1) (by omega) (by omega)
  have z' : ∀ n, n ≤ 1000 → n < sizeLine := fun n h => Nat.lt_of_le_of_lt h (by decide)
  have loop : ∀ (ts acc : List T) (row : List T) (g : List Ob), Vr ns row → acc.length + ts.length ≤ 100 → ∃ (l : List Sm) (row' : List T),
      lcL (gN 4) mYes (mCall 3 (F__law_statement C_Program C_StretchError C_UnknownChange n) [true, false, false] (aCons (mVar 0) (aCons (mVar 1) (aCons (mVar 2) aNil)))) [4] [some (.own 0), some (.d (.lst (ws.map .str))), some (.d (.int (2 - e))), some (.d (.int m)), none] ts acc (.lst row :: g) =
        .ok (acc ++ ens l) ⟨[some (.own 0), some (.d (.lst (ws.map .str))), some (.d (.int (2 - e))), some (.d (.int m)), none], .lst row' :: g⟩ ∧ oks ws e l ∧ cnts l ≤ ts.length * cmax e ∧ Vr ns row' := by
    intro ts
    induction ts with
    | nil => intro acc row g h _; exact ⟨[], row, by simp [lcL, ens], by simp [oks], by simp [cnts], h⟩
    | cons t ts ih =>
      intro acc row g h hl
      obtain ⟨s, r1, s1, e1, o1, c1, h1⟩ := hS e row he (by omega) h
      simp only [List.length_cons] at hl
      obtain ⟨l, r2, e2, o2, c2, h2⟩ := ih (acc ++ [s.e]) r1 g h1 (by simp; omega)
      have q : acc.length < sizeLine := z' _ (by omega)
      refine ⟨s :: l, r2, ?_, oks_cons.mpr ⟨o1, o2⟩, by simp [cnts, Nat.succ_mul]; omega, h2⟩
      simp [lcL, wipeL, mYes, callR2 e1, q, e2, ens]
  obtain ⟨l, r1, e1, o1, c1, h1⟩ := loop (iota 0 v0.toNat) [] r0 [] h0 (by simp [iota_len]; omega)
  refine ⟨l, r1, [], ?_, o1, ?_, h1⟩
  · unfold F__law_block runD
    have hz : -4611686018427387904 ≤ v0 ∧ v0 < 4611686018427387904 := by omega
    simp only [List.nil_append] at e1
    simp [d__law_block, addF, callR1 e0, iR1, hz, e1, caK, pks, pk, tupleF, cutSt, refO]
  · rw [iota_len] at c1
    refine Nat.le_trans c1 (Nat.mul_le_mul_right _ (by omega))
theorem qs_step {ns : List Int} {ws : List Str} (hw : ws ≠ []) (hw2 : ws.length ≤ 1000) {n : Nat} (hB : QB C_Program C_StretchError C_UnknownChange ns ws n) : QS C_Program C_StretchError C_UnknownChange ns ws (n + 1) := by
  intro e row he hn hv
  obtain ⟨v0, r0, s0, e0, a0, b0, h0⟩ := f_taken C_Program C_StretchError C_UnknownChange hv (many := 5) (by omega) (by omega)
  have cm := cmax_pos e
  by_cases h4 : v0 = 4 ∧ 0 < e
  · obtain ⟨hv4, hpos⟩ := h4
    subst hv4
    obtain ⟨e, rfl⟩ : ∃ k, e = k + 1 := ⟨e - 1, by omega⟩
    obtain ⟨t, r1, s1, e1, o1, h1⟩ := f_dtest C_Program C_StretchError C_UnknownChange h0 hw hw2
    obtain ⟨x, r2, s2, e2, o2, c2, h2⟩ := hB e 2 r1 (by omega) (by omega) (by omega) h1
    obtain ⟨y, r3, s3, e3, o3, c3, h3⟩ := hB e 2 r2 (by omega) (by omega) (by omega) h2
    have hd : 2 - ((e : Int) + 1) + 1 = 2 - e := by omega
    have hd2 : 2 - ((e : Int) + 1) < 2 := by omega
    refine ⟨.iff t x y, r3, [], ?_, ?_, ?_, h3⟩
    · unfold F__law_statement runD
      simp at e2 e3
      simp [d__law_statement, callR1 e0, callR1 e1, hd, hd2, iiF, addF, callR3 e2, callR3 e3, cutSt, refO, Sm.e]
    · unfold Sm.ok; exact ⟨o1, o2, o3⟩
    · simp only [cnt, cmax]; omega
  · have h4' : v0 = 4 → ¬ (2 - (e : Int) < 2) := fun h z => h4 ⟨h, by omega⟩
    by_cases h2 : v0 < 2
    · obtain ⟨t1, r1, s1, e1, o1, h1⟩ := f_dterm C_Program C_StretchError C_UnknownChange h0 hw hw2
      obtain ⟨t2, r2, s2, e2, o2, h2'⟩ := f_dterm C_Program C_StretchError C_UnknownChange h1 hw hw2
      refine ⟨.give t1 t2, r2, [], ?_, ?_, by simpa [cnt] using cm, h2'⟩
      · unfold F__law_statement runD
        have hv4 : ¬ v0 = 4 := by omega
        simp [d__law_statement, callR1 e0, callR1 e1, callR1 e2, hv4, h2, iiF, cutSt, refO, Sm.e]
      · unfold Sm.ok; exact ⟨o1, o2⟩
    · obtain ⟨v1, r1, s1, e1, a1, b1, h1⟩ := f_taken C_Program C_StretchError C_UnknownChange h0 (many := 2) (by omega) (by omega)
      obtain ⟨p, m1, i1⟩ := ix_strs (ws := PLACs) a1 (by simpa using b1)
      simp only [List.map] at i1
      obtain ⟨t2, r2, s2, e2, o2, h2'⟩ := f_dterm C_Program C_StretchError C_UnknownChange h1 hw hw2
      refine ⟨.keep p t2, r2, [], ?_, ?_, by simpa [cnt] using cm, h2'⟩
      · unfold F__law_statement runD
        by_cases hv4 : v0 = 4
        · have hq := h4' hv4
          subst hv4
          simp [d__law_statement, callR1 e0, callR1 e1, callR1 e2, hq, iiF, opK, pk, i1, cutSt, refO, Sm.e]
        · simp [d__law_statement, callR1 e0, callR1 e1, callR1 e2, hv4, h2, iiF, opK, pk, i1, cutSt, refO, Sm.e]
      · unfold Sm.ok; exact ⟨m1, o2⟩
theorem q_all {ns : List Int} {ws : List Str} (hw : ws ≠ []) (hw2 : ws.length ≤ 1000) : ∀ n, QS C_Program C_StretchError C_UnknownChange ns ws n ∧ QB C_Program C_StretchError C_UnknownChange ns ws n
  | 0 => ⟨fun e row _ hn => by omega, fun e m row _ _ hn => by omega⟩
  | n + 1 => ⟨qs_step C_Program C_StretchError C_UnknownChange hw hw2 (q_all hw hw2 n).2, qb_step C_Program C_StretchError C_UnknownChange (q_all hw hw2 n).1⟩
end
end FL
namespace FL
open PySem L2 PyProof.Rows
variable [TabPar]
def freshK : List Sm := [.give (.w "one") (.w "two"), .keep "one" (.w "begin"), .keep "two" (.w "end")]
def longK : List Sm := [.keep "two" (.c "greatest" "two" "end")]
def candK (k be : Str) : List (List Sm × List Sm) := [
  ([.iff (.c k "two" be) freshK longK], [.give (.w "one") (.w "two")]),
  (.give (.w "two") (.w "begin") :: longK, []),
  (.iff (.c "less" "two" "begin") [.give (.w "two") (.w "begin")] [] :: longK, []),
  ([.iff .srt [.give (.w "begin") (.c "least" "end" "two"), .keep "one" (.c "greatest" "one" "end")] [.give (.w "begin") (.c "least" "end" "one"), .keep "two" (.c "greatest" "two" "end")]], []),
  ([.give (.w "begin") (.w "end")], []),
  (.give (.c "greatest" "two" "begin") (.w "end") :: longK, [])]
def itemK (q : List Sm × List Sm) : T := .lst [.tup (ens q.1), .tup (ens q.2)]
theorem candK_ok {k be : Str} (hk : k = "less" ∨ k = "same") (hb : be ∈ TERMs) : ∀ q ∈ candK k be, oks TERMs 2 q.1 ∧ oks PLACs 2 q.2 ∧ cnts q.1 ≤ 8 ∧ cnts q.2 ≤ 8 := by
  intro q hq
  simp only [candK, freshK, longK, List.mem_cons, List.not_mem_nil, or_false] at hq
  rcases hq with rfl | rfl | rfl | rfl | rfl | rfl <;> simp [oks, Sm.ok, Tm.ok, Te.ok, cnts, cnt, TERMs, PLACs, CHOIs, freshK, longK, hk]
  simpa [TERMs] using hb
section
variable (C_Program C_StretchError C_UnknownChange : Addr)
theorem f_known {ns : List Int} {row : List T} (h : Vr ns row) : ∃ (b l : List Sm) (row' : List T) (sl : List (Option U)), F__law_known C_Program C_StretchError C_UnknownChange [.lst row] [.own 0] = .ok (.d (.lst [.tup (ens b), .tup (ens l)])) ⟨sl, [.lst row']⟩ ∧ (oks TERMs 2 b ∧ oks PLACs 2 l ∧ cnts b ≤ 8 ∧ cnts l ≤ 8) ∧ Vr ns row' := by
  obtain ⟨v1, r1, s1, e1, a1, b1, h1⟩ := f_taken C_Program C_StretchError C_UnknownChange h (many := 3) (by omega) (by omega)
  obtain ⟨k, m1, i1⟩ := ix_strs (ws := ["less", "less", "same"]) a1 (by simpa using b1)
  obtain ⟨v2, r2, s2, e2, a2, b2, h2⟩ := f_taken C_Program C_StretchError C_UnknownChange h1 (many := 5) (by omega) (by omega)
  obtain ⟨be, m2, i2⟩ := ix_strs (ws := ["begin", "end"]) (v := if v2 = 0 then 1 else 0) (by split <;> omega) (by split <;> simp)
  obtain ⟨v3, r3, s3, e3, a3, b3, h3⟩ := f_taken C_Program C_StretchError C_UnknownChange h2 (many := 6) (by omega) (by omega)
  obtain ⟨t, m3, i3⟩ := atI_in (l := (candK k be).map itemK) a3 (by simpa [candK] using b3)
  obtain ⟨q, m4, rfl⟩ := List.mem_map.mp m3
  simp only [List.map] at i1 i2
  refine ⟨q.1, q.2, r3, [], ?_, candK_ok (by simpa using m1) (by simp at m2; rcases m2 with rfl | rfl <;> simp) q m4, h3⟩
  have n1 : (1 : Nat) < sizeLine := by decide
  have n2 : (2 : Nat) < sizeLine := by decide
  have n3 : (3 : Nat) < sizeLine := by decide
  have n4 : (4 : Nat) < sizeLine := by decide
  have n5 : (5 : Nat) < sizeLine := by decide
  have z2 : (2 : Nat) ≤ sizeLine := by decide
  have z1 : (1 : Nat) ≤ sizeLine := by decide
  have z3 : (3 : Nat) ≤ sizeLine := by decide
  have z4 : (4 : Nat) ≤ sizeLine := by decide
  have hi : ∀ x, caK intF [.d (.bl (decide (v2 = 0)))] x = .ok (.d (.int (if v2 = 0 then 1 else 0))) x := fun x => by simp [intF]
  simp only [candK, itemK, freshK, longK, List.map, ens, Sm.e, Tm.e, Te.e] at i3
  unfold F__law_known runD
  simp [d__law_known, callR1 e1, callR1 e2, callR1 e3, opK, pk, i1, i2, hi, mApp, isL, lstK, toDs, toD, addF, n1, n2, n3, n4, n5, z1, z2, z3, z4]
  simp [ixAF, ixF, itm, i3, cutSt, refO, itemK]
  trace_state
  done
end
end FL
namespace FL
open PySem L2 PyProof.Rows
variable [TabPar]
theorem ens_len : ∀ l : List Sm, (ens l).length = l.length
  | [] => rfl
  | s :: r => by simp [ens, ens_len r]
theorem cnt_pos (s : Sm) : 1 ≤ cnt s := by cases s <;> simp [cnt]
theorem len_cnts : ∀ l : List Sm, l.length ≤ cnts l
  | [] => by simp [cnts]
  | s :: r => by have := cnt_pos s; have := len_cnts r; simp [cnts]; omega
theorem iR1_int {da : DA} {ρ ρ' : Sg} {j : Int} (hd : da ρ = .ok [.d (.int j)] ρ') (h : (-(2 ^ 62) : Int) ≤ j ∧ j < 2 ^ 62) : iR1 da ρ = .ok (iota 0 j.toNat) ρ' := by
  unfold iR1
  rw [hd]
  simp only [R.bind_ok]
  rw [if_pos h]
theorem iR1_nat {da : DA} {ρ ρ' : Sg} {n : Nat} (hd : da ρ = .ok [.d (.int n)] ρ') (hn : n ≤ 1000) : iR1 da ρ = .ok (iota 0 n) ρ' := by
  have h : (-(2 ^ 62) : Int) ≤ (n : Int) ∧ (n : Int) < 2 ^ 62 := by omega
  have e := iR1_int hd h
  rw [Int.toNat_natCast] at e
  exact e
theorem lenK_tup {ts : List T} {ρ : Sg} : caK lenF [.d (.tup ts)] ρ = .ok (.d (.int ts.length)) ρ := rfl
theorem lenM_tup {ts : List T} {sl : List (Option U)} {st : List Ob} : mCa lenF (aCons (mVar 0) aNil) ⟨some (.d (.tup ts)) :: sl, st⟩ = .ok (.d (.int ts.length)) ⟨some (.d (.tup ts)) :: sl, st⟩ := by
  simp only [ev_ca, ev_aCons, ev_var0, R.bind_ok, ev_aNil]
  exact lenK_tup
theorem lenA_tup {ts : List T} {sl : List (Option U)} {st : List Ob} : (aCons (mCa lenF (aCons (mVar 0) aNil)) aNil) ⟨some (.d (.tup ts)) :: sl, st⟩ = .ok [.d (.int ts.length)] ⟨some (.d (.tup ts)) :: sl, st⟩ := by
  simp only [ev_aCons, lenM_tup, R.bind_ok, ev_aNil]
theorem iR1_blk {ts : List T} {sl : List (Option U)} {st : List Ob} (hn : ts.length ≤ 1000) : iR1 (aCons (mCa lenF (aCons (mVar 0) aNil)) aNil) ⟨some (.d (.tup ts)) :: sl, st⟩ = .ok (iota 0 ts.length) ⟨some (.d (.tup ts)) :: sl, st⟩ := iR1_nat lenA_tup hn
theorem iR1_2 {ρ : Sg} : iR1 (aCons (mC (.int 2)) aNil) ρ = .ok [.int 0, .int 1] ρ := iR1_nat (n := 2) rfl (by omega)
section
variable (C_Program C_StretchError C_UnknownChange : Addr)
def PA' (ws : List Str) (n : Nat) : Prop := ∀ (e : Nat) (blk : List Sm) (base : List T), oks ws e blk → e < n → cnts blk ≤ 100 → base.length + 2 * e ≤ 100 → ∃ ts, dataF (F__law_all C_Program C_StretchError C_UnknownChange n) [.tup (ens blk), .tup base] = some (.lst ts) ∧ ts.length = cnts blk
noncomputable def allB (n : Nat) : DS := (mSeq (mDrop (mApp (mVar 2) (mTup (aCons (mOp addF (mVar 1) (mTup (aCons (mVar 3) aNil))) (aCons (mOp ixAF (mVar 0) (mVar 3)) aNil))))) (mIfS (mTOp eqF (mOp ixAF (mOp ixAF (mVar 0) (mVar 3)) (mC (.int 0))) (mC (.str "if"))) (mFor (iR1 (aCons (mC (.int 2)) aNil)) (gN 4) (mSet 2 (mOp addF (mVar 2) (mCall 2 (F__law_all C_Program C_StretchError C_UnknownChange n) [false, false] (aCons (mOp ixAF (mOp ixAF (mVar 0) (mVar 3)) (mOp addF (mC (.int 2)) (mVar 4))) (aCons (mOp addF (mVar 1) (mTup (aCons (mVar 3) (aCons (mVar 4) aNil)))) aNil)))))) mNx))
theorem pa_loop {ws : List Str} {n : Nat} (hI : PA' C_Program C_StretchError C_UnknownChange ws n) {e : Nat} {blk : List Sm} {base : List T} (hn : e < n + 1) (hb : base.length + 2 * e ≤ 100) : ∀ (r : List Sm) (pre : List T) (acc : List T) (k : Nat) (g : List Ob) (v3 v4 : Option U), ens blk = pre ++ ens r → oks ws e r → acc.length + cnts r ≤ 200 → cnts r ≤ 100 → g[k]? = some (.lst acc) → ∃ w3 w4 k' g' L,
      forL (gN 3) (allB C_Program C_StretchError C_UnknownChange n) (iota (pre.length : Int) r.length)
        ⟨[some (.d (.tup (ens blk))), some (.d (.tup base)), some (.own k), v3, v4], g⟩ = .nx ⟨[some (.d (.tup (ens blk))), some (.d (.tup base)), some (.own k'), w3, w4], g'⟩ ∧ g'[k']? = some (.lst (acc ++ L)) ∧ L.length = cnts r := by
  have z : ∀ n, n ≤ 1000 → n ≤ sizeLine := fun n h => Nat.le_trans h (by decide)
  have z' : ∀ n, n ≤ 1000 → n < sizeLine := fun n h => Nat.lt_of_le_of_lt h (by decide)
  have b1 : base.length + 1 ≤ sizeLine := z _ (by omega)
  have b2 : base.length + 2 ≤ sizeLine := z _ (by omega)
  have b2' : base.length + 1 + 1 ≤ sizeLine := z _ (by omega)
  intro r
  induction r with
  | nil => intro pre acc k g v3 v4 _ _ _ _ hk; exact ⟨v3, v4, k, g, [], by simp [iota, forL], by simpa using hk, by simp [cnts]⟩
  | cons s r ih =>
    intro pre acc k g v3 v4 hp hok hl h100 hk
    obtain ⟨hs, hr⟩ := oks_cons.mp hok
    have hlt : k < g.length := (List.getElem?_eq_some_iff.mp hk).1
    have hat : atI (ens blk) (pre.length : Int) = some s.e := by
      rw [hp]
      have hx : ixN (pre ++ ens (s :: r)).length (pre.length : Int) = some pre.length := by simp [ixN, ens]; omega
      unfold atI
      rw [hx]
      simp [ens]
    have hix : ixAF (.tup (ens blk)) (.int (pre.length : Int)) = some (.d s.e) := by simp [ixAF, ixF, itm, hat]
    have hp' : ens blk = (pre ++ [s.e]) ++ ens r := by rw [hp]; simp [ens]
    have hpl : ((pre ++ [s.e]).length : Int) = (pre.length : Int) + 1 := by simp
    have hpos := cnt_pos s
    simp only [cnts] at hl h100
    have q3 : acc.length < sizeLine := z' _ (by omega)
    have hset : ∀ x : Ob, (g.set k x)[k]? = some x := fun x => List.getElem?_set_self hlt
    have hz : ∀ (x Z : Ob), (g.set k x ++ [Z])[g.length]? = some Z := fun x Z => by rw [List.getElem?_append_right (by simp)]; simp
    cases s with
    | give a b =>
      obtain ⟨w3, w4, k', g', L, e1, e2, e3⟩ := ih (pre ++ [(Sm.give a b).e]) (acc ++ [.tup [.tup (base ++ [.int pre.length]), (Sm.give a b).e]]) k (g.set k (.lst (acc ++ [.tup [.tup (base ++ [.int pre.length]), (Sm.give a b).e]]))) (some (.d (.int pre.length))) v4 hp' hr (by simp; omega) (by omega) (hset _)
      refine ⟨w3, w4, k', g', .tup [.tup (base ++ [.int pre.length]), (Sm.give a b).e] :: L, ?_, by rw [e2]; simp, by simp [e3, cnts, cnt]; omega⟩
      rw [hpl] at e1
      simp only [Sm.e, allB] at hix e1
      simp [iota, forL, allB, mApp, isL, hk, addF, b1, hix, q3, e1]
    | keep p a =>
      obtain ⟨w3, w4, k', g', L, e1, e2, e3⟩ := ih (pre ++ [(Sm.keep p a).e]) (acc ++ [.tup [.tup (base ++ [.int pre.length]), (Sm.keep p a).e]]) k (g.set k (.lst (acc ++ [.tup [.tup (base ++ [.int pre.length]), (Sm.keep p a).e]]))) (some (.d (.int pre.length))) v4 hp' hr (by simp; omega) (by omega) (hset _)
      refine ⟨w3, w4, k', g', .tup [.tup (base ++ [.int pre.length]), (Sm.keep p a).e] :: L, ?_, by rw [e2]; simp, by simp [e3, cnts, cnt]; omega⟩
      rw [hpl] at e1
      simp only [Sm.e, allB] at hix e1
      simp [iota, forL, allB, mApp, isL, hk, addF, b1, hix, q3, e1]
    | iff t x y =>
      obtain ⟨e, rfl⟩ : ∃ m, e = m + 1 := by
        cases e with
        | zero => unfold Sm.ok at hs; exact hs.elim
        | succ e => exact ⟨e, rfl⟩
      unfold Sm.ok at hs
      simp only [cnt] at hl h100
      obtain ⟨tx, ex, lx⟩ := hI e x (base ++ [.int pre.length, .int 0]) hs.2.1 (by omega) (by omega) (by simp; omega)
      obtain ⟨ty, ey, ly⟩ := hI e y (base ++ [.int pre.length, .int 1]) hs.2.2 (by omega) (by omega) (by simp; omega)
      have q4 : acc.length + 1 + tx.length ≤ sizeLine := z _ (by omega)
      have q5 : acc.length + (tx.length + 1) + ty.length ≤ sizeLine := z _ (by omega)
      have hset2 : ∀ (x Z W : Ob), (g.set k x ++ [Z, W])[g.length + 1]? = some W := fun x Z W => by rw [List.getElem?_append_right (by simp)]; simp
      obtain ⟨w3, w4, k', g', L, e1, e2, e3⟩ := ih (pre ++ [(Sm.iff t x y).e]) (acc ++ .tup [.tup (base ++ [.int pre.length]), (Sm.iff t x y).e] :: (tx ++ ty)) (g.length + 1) (g.set k (.lst (acc ++ [.tup [.tup (base ++ [.int pre.length]), (Sm.iff t x y).e]])) ++ [.lst (acc ++ .tup [.tup (base ++ [.int pre.length]), (Sm.iff t x y).e] :: tx), .lst (acc ++ .tup [.tup (base ++ [.int pre.length]), (Sm.iff t x y).e] :: (tx ++ ty))]) (some (.d (.int pre.length))) (some (.d (.int 1))) hp' hr (by simp; omega) (by omega) (hset2 _ _ _)
      refine ⟨w3, w4, k', g', .tup [.tup (base ++ [.int pre.length]), (Sm.iff t x y).e] :: (tx ++ ty) ++ L, ?_, by rw [e2]; simp, by simp [e3, cnts, cnt]; omega⟩
      rw [hpl] at e1
      simp only [Sm.e, allB] at hix e1
      simp [iota, forL, allB, mApp, isL, hk, addF, b1, hix, q3, iR1_2, opK, pk, hset, hz, b2, b2', ex, ey, q4, q5]
      exact e1
theorem pa_run {n : Nat} {blk : List Sm} {base : List T} {w3 w4 : Option U} {k' : Nat} {g' : List Ob} {its : List T}
    (hb : iR1 (aCons (mCa lenF (aCons (mVar 0) aNil)) aNil) ⟨[some (.d (.tup (ens blk))), some (.d (.tup base)), some (.own 0), none, none], [.lst []]⟩ = .ok its ⟨[some (.d (.tup (ens blk))), some (.d (.tup base)), some (.own 0), none, none], [.lst []]⟩)
    (e1 : forL (gN 3) (allB C_Program C_StretchError C_UnknownChange n) its ⟨[some (.d (.tup (ens blk))), some (.d (.tup base)), some (.own 0), none, none], [.lst []]⟩ = .nx ⟨[some (.d (.tup (ens blk))), some (.d (.tup base)), some (.own k'), w3, w4], g'⟩) :
    d__law_all (F__law_all C_Program C_StretchError C_UnknownChange n) ⟨[some (.d (.tup (ens blk))), some (.d (.tup base)), none, none, none], []⟩ = .rt (.own k') ⟨[some (.d (.tup (ens blk))), some (.d (.tup base)), some (.own k'), w3, w4], g'⟩ := by
  have h1 : (mSet 2 (mLst aNil)) ⟨[some (.d (.tup (ens blk))), some (.d (.tup base)), none, none, none], []⟩ = .nx ⟨[some (.d (.tup (ens blk))), some (.d (.tup base)), some (.own 0), none, none], [.lst []]⟩ := by
    simp only [ev_set, ev_lst, ev_aNil, R.bind_ok, R.thn_ok, lstK_0, List.set, List.length_nil, List.nil_append]
  have h2 : (mFor (iR1 (aCons (mCa lenF (aCons (mVar 0) aNil)) aNil)) (gN 3) (allB C_Program C_StretchError C_UnknownChange n)) ⟨[some (.d (.tup (ens blk))), some (.d (.tup base)), some (.own 0), none, none], [.lst []]⟩ = .nx ⟨[some (.d (.tup (ens blk))), some (.d (.tup base)), some (.own k'), w3, w4], g'⟩ := by
    rw [ev_for, hb, R.thn_ok, e1]
  have h3 : (mRet (mVar 2)) ⟨[some (.d (.tup (ens blk))), some (.d (.tup base)), some (.own k'), w3, w4], g'⟩ = .rt (.own k') ⟨[some (.d (.tup (ens blk))), some (.d (.tup base)), some (.own k'), w3, w4], g'⟩ := by
    rw [ev_ret, ev_var2, R.thn_ok]
  have h4 : d__law_all (F__law_all C_Program C_StretchError C_UnknownChange n) = mSeq (mSet 2 (mLst aNil)) (mSeq (mFor (iR1 (aCons (mCa lenF (aCons (mVar 0) aNil)) aNil)) (gN 3) (allB C_Program C_StretchError C_UnknownChange n)) (mRet (mVar 2))) := by
    unfold d__law_all allB
    with_reducible rfl
  rw [h4, ev_seq, h1, F.thn_nx, ev_seq, h2, F.thn_nx, h3]
theorem pa_step {ws : List Str} {n : Nat} (hI : PA' C_Program C_StretchError C_UnknownChange ws n) : PA' C_Program C_StretchError C_UnknownChange ws (n + 1) := by
  intro e blk base ok hn hc hb
  have hlen := len_cnts blk
  have hbb := iR1_blk (ts := ens blk) (sl := [some (.d (.tup base)), some (.own 0), none, none]) (st := [.lst []]) (by rw [ens_len]; omega)
  rw [ens_len] at hbb
  obtain ⟨w3, w4, k', g', L, e1, e2, e3⟩ := pa_loop C_Program C_StretchError C_UnknownChange hI (blk := blk) hn hb blk [] [] 0 [.lst []] none none (by rw [List.nil_append]) ok (by rw [List.length_nil]; omega) hc (by rw [List.getElem?_cons_zero])
  rw [List.length_nil] at e1
  rw [List.nil_append] at e2
  refine ⟨L, ?_, e3⟩
  unfold F__law_all
  rw [dataF_run]
  have hd := pa_run C_Program C_StretchError C_UnknownChange hbb e1
  have hs : (List.map some (List.map U.d [T.tup (ens blk), T.tup base]) ++ List.replicate (5 - [T.tup (ens blk), T.tup base].length) none : List (Option U)) = [some (.d (.tup (ens blk))), some (.d (.tup base)), none, none, none] := by simp [List.replicate]
  rw [hs, hd]
  simp [resD, toD, e2]
theorem pa_all {ws : List Str} : ∀ n, PA' C_Program C_StretchError C_UnknownChange ws n
  | 0 => fun e blk base _ hn => by omega
  | n + 1 => pa_step C_Program C_StretchError C_UnknownChange (pa_all n)
end
end FL
namespace FL
open PySem L2 PyProof.Rows
variable [TabPar]
abbrev dKv (s : Str) (b l : List Sm) : Ob := .dk dKs [.str s, .tup (ens b), .tup (ens l)]
theorem dk_block (s : Str) (b l : List Sm) : ixAF (.dk dKs [.str s, .tup (ens b), .tup (ens l)]) (.str "block") = some (.d (.tup (ens b))) := by
  simp [ixAF, ixF, ixDF, itm, keyT, dkGet]
theorem lenK_lst {ts : List T} {ρ : Sg} : caK lenF [.d (.lst ts)] ρ = .ok (.d (.int ts.length)) ρ := rfl
theorem gt_int {i j : Int} : gtF (.int i) (.int j) = some (.d (.bl (decide (j < i)))) := rfl
section
variable (C_Program C_StretchError C_UnknownChange : Addr)
def wT (F : Fn) : DT := (mTOp gtF (mCa lenF (aCons (mCall 2 F [false, false] (aCons (mOp ixAF (mVar 1) (mC (.str "block"))) (aCons (mTup aNil) aNil))) aNil)) (mC (.int 8)))
def wB : DS := (mAsg (mSl (mOp ixAF (mVar 1) (mC (.str "block"))) (mPS (mC (.int 1))) mPN) (gDix (mVar 1) (mC (.str "block"))))
theorem wT_ev {F : Fn} {s : Str} {b l : List Sm} {g : List Ob} {u0 : Option U} {r0 r1 : Ob} {ts : List T} {j : Int} (hj : ∀ ρ, caK lenF [.d (.lst ts)] ρ = .ok (.d (.int j)) ρ) (e1 : dataF F [.tup (ens b), .tup []] = some (.lst ts)) :
    wT F ⟨[u0, some (.own 2)], r0 :: r1 :: dKv s b l :: g⟩ = .ok (decide ((8 : Int) < j)) ⟨[u0, some (.own 2)], r0 :: r1 :: dKv s b l :: g⟩ := by
  have h1 : (mOp ixAF (mVar 1) (mC (.str "block"))) ⟨[u0, some (.own 2)], r0 :: r1 :: dKv s b l :: g⟩ = .ok (.d (.tup (ens b))) ⟨[u0, some (.own 2)], r0 :: r1 :: dKv s b l :: g⟩ := by
    simp [opK, pk, dk_block]
  unfold wT
  simp only [ev_top, ev_ca, ev_aCons, ev_call, h1, R.bind_ok, ev_tup, ev_aNil, tupK_0, callK_2, e1, datK_s, hj, ev_c, opK_d, gt_int, mO_d, tstK_b]
theorem wB_ev {s : Str} {s0 : Sm} {b l : List Sm} {g : List Ob} {u0 : Option U} {r0 r1 : Ob} : wB ⟨[u0, some (.own 2)], r0 :: r1 :: dKv s (s0 :: b) l :: g⟩ = .nx ⟨[u0, some (.own 2)], r0 :: r1 :: dKv s b l :: g⟩ := by
  have z3 : (3 : Nat) < sizeLine := by decide
  have hx := dk_block s (s0 :: b) l
  simp only [ens] at hx
  unfold wB
  simp [mAsg, opK, pk, hx, ens, gDix, keyT, dkPut, z3]
end
end FL
namespace FL
open PySem L2 PyProof.Rows
variable [TabPar]
section
variable {FA FT FB FK : Fn} {row r1 r2 r3 r4 r5 : List T} {s : Str} {b l b2 l2 b' l' : List Sm} {v0 v1 : Int} {s1 s2 s3 s4 s5 : List (Option U)}
theorem drawn_no (e1 : FT [.lst row] [.own 0, .d (.int 7)] = .ok (.d (.int v0)) ⟨s1, [.lst r1]⟩)
    (i1 : ixAF (.lst [.str "begin", .str "begin", .str "begin", .str "end", .str "begin down", .str "end down", .str "none"]) (.int v0) = some (.d (.str s)))
    (e2 : FK [.lst r1] [.own 0] = .ok (.d (.lst [.tup (ens b), .tup (ens l)])) ⟨s2, [.lst r2]⟩) (e3 : FT [.lst r2] [.own 0, .d (.int 2)] = .ok (.d (.int v1)) ⟨s3, [.lst r3]⟩) (hv : ¬ v1 = 0)
    (hw : ∀ (u0 : Option U) (r0 r1 : Ob) (g : List Ob), whileF (wT FA) wB 50 ⟨[u0, some (.own 2)], r0 :: r1 :: dKv s b l :: g⟩ = .nx ⟨[u0, some (.own 2)], r0 :: r1 :: dKv s b' l :: g⟩) :
    ∃ sl x g, d__law_drawn FA FT FB FK ⟨[some (.own 0), none], [.lst row]⟩ = .rt (.own 2) ⟨sl, .lst r3 :: x :: dKv s b' l :: g⟩ := by
  have z1 : (1 : Nat) ≤ sizeLine := by decide
  have z7 : (7 : Nat) ≤ sizeLine := by decide
  have y1 : (1 : Nat) < sizeLine := by decide
  have y2 : (2 : Nat) < sizeLine := by decide
  refine ⟨[some (.own 0), some (.own 2)], .lst [.str "begin", .str "begin", .str "begin", .str "end", .str "begin down", .str "end down", .str "none"], [], ?_⟩
  have hw' := hw (some (.own 0)) (.lst r3) (.lst [.str "begin", .str "begin", .str "begin", .str "end", .str "begin down", .str "end down", .str "none"]) []
  simp only [wT, wB] at hw'
  unfold d__law_drawn
  simp [lstK, toDs, toD, callR1 e1, callR0 e2, callR1 e3, opK, pk, i1, mDisp, mAsg, gT, gsCons, gsNil, itm, gDix, keyT, dkPut, z1, z7, y1, y2, hv, mWhile]
  rw [hw']
  simp
theorem callF2 {n : Nat} {F : Fn} {cs : List Bool} {sl : List (Option U)} {st : List Ob} {j : Nat} {ws : List T} {a b : T} (h : st[j]? = some (.lst ws)) :
    callK n F (true :: false :: cs) [.own 0, .own j, .d a, .d b] ⟨sl, st⟩ = callK n F (true :: false :: cs) [.own 0, .d (.lst ws), .d a, .d b] ⟨sl, st.set j (.frz (.lst ws))⟩ := by
  have e : ∀ st', argC cs [.d a, .d b] st' = some ([.d a, .d b], st') := fun st' => argC_data cs [a, b] st'
  simp [callK, argC, toD, h, e]
theorem drawn_yes (e1 : FT [.lst row] [.own 0, .d (.int 7)] = .ok (.d (.int v0)) ⟨s1, [.lst r1]⟩)
    (i1 : ixAF (.lst [.str "begin", .str "begin", .str "begin", .str "end", .str "begin down", .str "end down", .str "none"]) (.int v0) = some (.d (.str s)))
    (e2 : FK [.lst r1] [.own 0] = .ok (.d (.lst [.tup (ens b), .tup (ens l)])) ⟨s2, [.lst r2]⟩) (e3 : FT [.lst r2] [.own 0, .d (.int 2)] = .ok (.d (.int 0)) ⟨s3, [.lst r3]⟩)
    (e4 : FB [.lst r3] [.own 0, .d (.lst [.str "begin", .str "end", .str "one", .str "two"]), .d (.int 0), .d (.int 2)] = .ok (.d (.tup (ens b2))) ⟨s4, [.lst r4]⟩)
    (e5 : FB [.lst r4] [.own 0, .d (.lst [.str "one", .str "two"]), .d (.int 1), .d (.int 1)] = .ok (.d (.tup (ens l2))) ⟨s5, [.lst r5]⟩)
    (hw : ∀ (u0 : Option U) (r0 r1 : Ob) (g : List Ob), whileF (wT FA) wB 50 ⟨[u0, some (.own 2)], r0 :: r1 :: dKv s b2 l2 :: g⟩ = .nx ⟨[u0, some (.own 2)], r0 :: r1 :: dKv s b' l2 :: g⟩) :
    ∃ sl x g, d__law_drawn FA FT FB FK ⟨[some (.own 0), none], [.lst row]⟩ = .rt (.own 2) ⟨sl, .lst r5 :: x :: dKv s b' l2 :: g⟩ := by
  have z1 : (1 : Nat) ≤ sizeLine := by decide
  have z4 : (4 : Nat) ≤ sizeLine := by decide
  have z2 : (2 : Nat) ≤ sizeLine := by decide
  have z7 : (7 : Nat) ≤ sizeLine := by decide
  have y1 : (1 : Nat) < sizeLine := by decide
  have y2 : (2 : Nat) < sizeLine := by decide
  have y3 : (3 : Nat) < sizeLine := by decide
  refine ⟨[some (.own 0), some (.own 2)], .lst [.str "begin", .str "begin", .str "begin", .str "end", .str "begin down", .str "end down", .str "none"], [.frz (.lst [.str "begin", .str "end", .str "one", .str "two"]), .frz (.lst [.str "one", .str "two"])], ?_⟩
  have hw' := hw (some (.own 0)) (.lst r5) (.lst [.str "begin", .str "begin", .str "begin", .str "end", .str "begin down", .str "end down", .str "none"]) [.frz (.lst [.str "begin", .str "end", .str "one", .str "two"]), .frz (.lst [.str "one", .str "two"])]
  simp only [wT, wB] at hw'
  unfold d__law_drawn
  simp [lstK, toDs, toD, callR1 e1, callR0 e2, callR1 e3, callF2, callR3 e4, callR3 e5, opK, pk, i1, mDisp, mAsg, gT, gsCons, gsNil, itm, gDix, keyT, dkPut, z1, z2, z4, z7, y1, y2, y3, mWhile]
  rw [hw']
  simp
end
end FL
namespace FL
open PySem L2 PyProof.Rows
variable [TabPar]
section
variable (C_Program C_StretchError C_UnknownChange : Addr)
theorem POk.of {s : Str} {b l : List Sm} (h1 : s ∈ SORTs) (h2 : oks TERMs 2 b) (h3 : oks PLACs 2 l) (h4 : cnts b ≤ 8) (h5 : cnts l ≤ 8) : POk s b l :=
  ⟨h1, h2, h3, by rw [rowsL_cnt]; exact h4, by rw [rowsL_cnt]; exact h5⟩
mutual
theorem ok_up {ws : List Str} : ∀ (s : Sm) (d : Nat), s.ok ws d → s.ok ws (d + 1)
  | .iff t x y, d, h => by
    cases d with
    | zero => unfold Sm.ok at h; exact h.elim
    | succ d =>
      unfold Sm.ok at h ⊢
      exact ⟨h.1, oks_up x d h.2.1, oks_up y d h.2.2⟩
  | .give a b, d, h => by unfold Sm.ok at h ⊢; exact h
  | .keep p a, d, h => by unfold Sm.ok at h ⊢; exact h
theorem oks_up {ws : List Str} : ∀ (l : List Sm) (d : Nat), oks ws d l → oks ws (d + 1) l
  | [], d, _ => by simp [oks]
  | s :: r, d, h => by
    obtain ⟨h1, h2⟩ := oks_cons.mp h
    exact oks_cons.mpr ⟨ok_up s d h1, oks_up r d h2⟩
end
theorem run_drawn {m : DS} {row row' : List T} {s : Str} {b l : List Sm} {sl : List (Option U)} {x : Ob} {g : List Ob} (h : m ⟨[some (.own 0), none], [.lst row]⟩ = .rt (.own 2) ⟨sl, .lst row' :: x :: dKv s b l :: g⟩) : runN m 2 [.lst row] [.own 0] = .ok (.own 1) ⟨[], [.lst row', dKv s b l]⟩ := by
  unfold runN
  have e : ([U.own 0].map some ++ List.replicate (2 - [U.own 0].length) none : List (Option U)) = [some (.own 0), none] := by simp [List.replicate]
  rw [e, h]
  simp [refO, cutSt]
/-- drop_while, the same for all surroundings -/
theorem drop_all (b l : List Sm) (s : Str) (ok : oks TERMs 2 b) (hc : cnts b ≤ 45) : ∃ b', oks TERMs 2 b' ∧ cnts b' ≤ 8 ∧ ∀ (u0 : Option U) (r0 r1 : Ob) (g : List Ob), whileF (wT (F__law_all C_Program C_StretchError C_UnknownChange 8)) wB 50 ⟨[u0, some (.own 2)], r0 :: r1 :: dKv s b l :: g⟩ = .nx ⟨[u0, some (.own 2)], r0 :: r1 :: dKv s b' l :: g⟩ := by
  have hlen := len_cnts b
  have key : ∀ (m : Nat) (b : List Sm), b.length < m → oks TERMs 2 b → cnts b ≤ 100 → ∃ b', oks TERMs 2 b' ∧ cnts b' ≤ 8 ∧ ∀ (u0 : Option U) (r0 r1 : Ob) (g : List Ob), whileF (wT (F__law_all C_Program C_StretchError C_UnknownChange 8)) wB m ⟨[u0, some (.own 2)], r0 :: r1 :: dKv s b l :: g⟩ = .nx ⟨[u0, some (.own 2)], r0 :: r1 :: dKv s b' l :: g⟩ := by
    intro m
    induction m with
    | zero => intro b hb; omega
    | succ m ih =>
      intro b hb ok hc
      obtain ⟨ts, e1, l1⟩ := pa_all C_Program C_StretchError C_UnknownChange (ws := TERMs) 8 2 b [] ok (by omega) hc (by rw [List.length_nil]; omega)
      by_cases h8 : (8 : Int) < (ts.length : Int)
      · cases b with
        | nil => simp only [cnts] at l1; omega
        | cons s0 b =>
          obtain ⟨hs, hr⟩ := oks_cons.mp ok
          simp only [cnts] at hc
          simp only [List.length_cons] at hb
          obtain ⟨b', o1, c1, e2⟩ := ih b (by omega) hr (by omega)
          refine ⟨b', o1, c1, fun u0 r0 r1 g => ?_⟩
          rw [whileF, wT_ev (fun ρ => lenK_lst) e1, R.thn_ok, decide_eq_true h8, if_pos rfl, wB_ev]
          exact e2 u0 r0 r1 g
      · refine ⟨b, ok, by omega, fun u0 r0 r1 g => ?_⟩
        rw [whileF, wT_ev (fun ρ => lenK_lst) e1, R.thn_ok, decide_eq_false h8, if_neg (by decide)]
  exact key 50 b (by omega) ok (by omega)
theorem f_drawn {ns : List Int} {row : List T} (h : Vr ns row) : ∃ (s : Str) (b l : List Sm) (row' : List T) (sl : List (Option U)), F__law_drawn C_Program C_StretchError C_UnknownChange [.lst row] [.own 0] = .ok (.own 1) ⟨sl, [.lst row', dKv s b l]⟩ ∧ POk s b l ∧ Vr ns row' := by
  obtain ⟨v0, r1, s1, e1, a1, b1, h1⟩ := f_taken C_Program C_StretchError C_UnknownChange h (many := 7) (by omega) (by omega)
  obtain ⟨s, m1, i1⟩ := ix_strs (ws := ["begin", "begin", "begin", "end", "begin down", "end down", "none"]) a1 (by simpa using b1)
  simp only [List.map] at i1
  have hs : s ∈ SORTs := by
    simp only [List.mem_cons, List.not_mem_nil, or_false, SORTs] at m1 ⊢
    rcases m1 with rfl | rfl | rfl | rfl | rfl | rfl | rfl <;> simp
  obtain ⟨b, l, r2, s2, e2, ⟨o1, o2, c1, c2⟩, h2⟩ := f_known C_Program C_StretchError C_UnknownChange h1
  obtain ⟨v1, r3, s3, e3, a3, b3, h3⟩ := f_taken C_Program C_StretchError C_UnknownChange h2 (many := 2) (by omega) (by omega)
  by_cases hv : v1 = 0
  · subst hv
    have q1 := (q_all C_Program C_StretchError C_UnknownChange (ns := ns) (ws := ["begin", "end", "one", "two"]) (by simp) (by simp) 8).2
    have q2 := (q_all C_Program C_StretchError C_UnknownChange (ns := ns) (ws := ["one", "two"]) (by simp) (by simp) 8).2
    obtain ⟨b2, r4, s4, e4, o4, c4, h4⟩ := q1 2 2 r3 (by omega) (by omega) (by omega) h3
    obtain ⟨l2, r5, s5, e5, o5, c5, h5⟩ := q2 1 1 r4 (by omega) (by omega) (by omega) h4
    have hlen := len_cnts b2
    have c4' : cnts b2 ≤ 42 := by simpa [cmax] using c4
    have c5' : cnts l2 ≤ 5 := by simpa [cmax] using c5
    obtain ⟨b', o6, c6, hw⟩ : ∃ b', oks TERMs 2 b' ∧ cnts b' ≤ 8 ∧ ∀ (u0 : Option U) (r0 r1 : Ob) (g : List Ob), whileF (wT (F__law_all C_Program C_StretchError C_UnknownChange 8)) wB 50 ⟨[u0, some (.own 2)], r0 :: r1 :: dKv s b2 l2 :: g⟩ = .nx ⟨[u0, some (.own 2)], r0 :: r1 :: dKv s b' l2 :: g⟩ := drop_all C_Program C_StretchError C_UnknownChange b2 l2 s o4 (by omega)
    simp at e4 e5
    obtain ⟨sl, x, g, e⟩ := drawn_yes e1 i1 e2 e3 e4 e5 hw
    exact ⟨s, b', l2, r5, [], run_drawn e, .of hs o6 (oks_up l2 1 o5) c6 (by omega), h5⟩
  · have hlen := len_cnts b
    obtain ⟨b', o6, c6, hw⟩ := drop_all C_Program C_StretchError C_UnknownChange b l s o1 (by omega)
    obtain ⟨sl, x, g, e⟩ := drawn_no e1 i1 e2 e3 hv hw
    exact ⟨s, b', l, r3, [], run_drawn e, .of hs o6 o2 c6 c2, h3⟩
end
end FL
namespace FL
open PySem L2 PyProof.Rows
variable [TabPar]
theorem newR_data {C : Addr} {F : Fn} {ts : List T} {ρ : Sg} {ob : Ob} {sl' : List (Option U)} (hF : F [.obj C [] []] (.own 0 :: ts.map .d) = .ok (.d .non) ⟨sl', [ob]⟩) (hd : refO 0 ob = true) : newR C F (ts.map .d) ρ = .ok (.own ρ.st.length) ⟨ρ.sl, ρ.st ++ [ob]⟩ := by
  have hr : ∀ n, reach ρ.st n [] = [] := fun n => by induction n with
    | zero => rfl
    | succ n ih => simp [reach, ih]
  unfold newR
  simp [owns_data, hr, handOn, renUs_data, behind, hF, hd, handBack]
section
variable {C : Addr} {F : Fn} {cs : List Bool} {n : Nat} {da : DA} {ρ : Sg}
def newK (C : Addr) (n : Nat) (F : Fn) (cs : List Bool) (us : List U) (ρ : Sg) : R U := match argC cs us ρ.st with
  | some (us', st) => if us'.length + 1 = n then newR C F us' ⟨ρ.sl, st⟩ else .no
  | none => .no
theorem ev_new : mNew C n F cs da ρ = (da ρ).bind fun us ρ1 => newK C n F cs us ρ1 := rfl
theorem newK_data {ts : List T} {ob : Ob} {sl' : List (Option U)} (hF : F [.obj C [] []] (.own 0 :: ts.map .d) = .ok (.d .non) ⟨sl', [ob]⟩) (hd : refO 0 ob = true) (hn : ts.length + 1 = n) : newK C n F cs (ts.map .d) ρ = .ok (.own ρ.st.length) ⟨ρ.sl, ρ.st ++ [ob]⟩ := by
  unfold newK
  rw [argC_data]
  simp [hn, newR_data hF hd]
end
theorem dk_all (s : Str) (b l : List Sm) : ixAF (.dk dKs [.str s, .tup (ens b), .tup (ens l)]) (.str "sorting") = some (.d (.str s)) ∧ ixAF (.dk dKs [.str s, .tup (ens b), .tup (ens l)]) (.str "last") = some (.d (.tup (ens l))) := by
  constructor <;> simp [ixAF, ixF, ixDF, itm, keyT, dkGet]
theorem made_run {C : Addr} {FI : Fn} {s : Str} {b l : List Sm} {ns : List Str} {ts : List T} {sl : List (Option U)} (hF : FI [.obj C [] []] [.own 0, .d (.str s), .d (.tup (ens b)), .d (.tup (ens l))] = .ok (.d .non) ⟨sl, [.obj C ns (ts.map .d)]⟩) (hd : refO 0 (.obj C ns (ts.map .d)) = true) :
    d__law_made C FI ⟨[some (.own 0)], [dKv s b l]⟩ = .rt (.own 1) ⟨[some (.own 0)], [dKv s b l, .obj C ns (ts.map .d)]⟩ := by
  have hk := newK_data (C := C) (n := 4) (cs := [false, false, false]) (ρ := ⟨[some (.own 0)], [dKv s b l]⟩) (ts := [.str s, .tup (ens b), .tup (ens l)]) hF hd rfl
  simp only [List.map] at hk
  unfold d__law_made
  simp [ev_new, opK, pk, dk_block, dk_all, hk]
end FL
namespace FL
open PySem L2 PyProof.Rows
variable [TabPar]
section
variable (C_Program C_StretchError C_UnknownChange : Addr)
theorem f_made {s : Str} {b l : List Sm} (ok : POk s b l) : ∃ sl, F__law_made C_Program C_StretchError C_UnknownChange [dKv s b l] [.own 0] = .ok (.d (progT C_Program s b l)) ⟨sl, [dKv s b l]⟩ := by
  obtain ⟨sl, e⟩ := f_init C_Program C_StretchError C_UnknownChange ok
  have hr := made_run (C := C_Program) (FI := F_Program_init C_Program C_StretchError C_UnknownChange) (ns := ["order", "body", "ending", "rows", "words"]) (ts := [.str s, .tup (ens b), .tup (ens l), .dt ((progQ b l).map fun q => .tup (q.1.map kT)) ((progQ b l).map fun q => q.2.e), .lst ((progQ b l).map fun q => q.2.ws).flatten]) e (by simp [refO, refU])
  refine ⟨[], ?_⟩
  unfold F__law_made runD
  have h0 : ([U.own 0].map some ++ List.replicate (1 - [U.own 0].length) none : List (Option U)) = [some (.own 0)] := by simp [List.replicate]
  rw [h0, hr]
  simp [toD, toDs, cutSt, refO, progT]
end
end FL
namespace FL
open PySem L2 PyProof.Rows
variable [TabPar]
section
variable (C_Program C_StretchError C_UnknownChange : Addr)
def PX' (ws : List Str) (n : Nat) : Prop := ∀ (e : Nat) (blk : List Sm) (base : List T), oks ws e blk → e < n → cnts blk ≤ 100 → base.length + 2 * e ≤ 100 → ∃ ts, dataF (F__law_all C_Program C_StretchError C_UnknownChange n) [.tup (ens blk), .tup base] = some (.lst ts) ∧ ts = rowsL base 0 blk
theorem px_loop {ws : List Str} {n : Nat} (hI : PX' C_Program C_StretchError C_UnknownChange ws n) {e : Nat} {blk : List Sm} {base : List T} (hn : e < n + 1) (hb : base.length + 2 * e ≤ 100) : ∀ (r : List Sm) (pre : List T) (acc : List T) (k : Nat) (g : List Ob) (v3 v4 : Option U), ens blk = pre ++ ens r → oks ws e r → acc.length + cnts r ≤ 200 → cnts r ≤ 100 → g[k]? = some (.lst acc) → ∃ w3 w4 k' g' L,
      forL (gN 3) (allB C_Program C_StretchError C_UnknownChange n) (iota (pre.length : Int) r.length)
        ⟨[some (.d (.tup (ens blk))), some (.d (.tup base)), some (.own k), v3, v4], g⟩ = .nx ⟨[some (.d (.tup (ens blk))), some (.d (.tup base)), some (.own k'), w3, w4], g'⟩ ∧ g'[k']? = some (.lst (acc ++ L)) ∧ L = rowsL base (pre.length : Int) r := by
  have z : ∀ n, n ≤ 1000 → n ≤ sizeLine := fun n h => Nat.le_trans h (by decide)
  have z' : ∀ n, n ≤ 1000 → n < sizeLine := fun n h => Nat.lt_of_le_of_lt h (by decide)
  have b1 : base.length + 1 ≤ sizeLine := z _ (by omega)
  have b2 : base.length + 2 ≤ sizeLine := z _ (by omega)
  have b2' : base.length + 1 + 1 ≤ sizeLine := z _ (by omega)
  intro r
  induction r with
  | nil => intro pre acc k g v3 v4 _ _ _ _ hk; exact ⟨v3, v4, k, g, [], by simp [iota, forL], by simpa using hk, by simp [rowsL]⟩
  | cons s r ih =>
    intro pre acc k g v3 v4 hp hok hl h100 hk
    obtain ⟨hs, hr⟩ := oks_cons.mp hok
    have hlt : k < g.length := (List.getElem?_eq_some_iff.mp hk).1
    have hat : atI (ens blk) (pre.length : Int) = some s.e := by
      rw [hp]
      have hx : ixN (pre ++ ens (s :: r)).length (pre.length : Int) = some pre.length := by simp [ixN, ens]; omega
      unfold atI
      rw [hx]
      simp [ens]
    have hix : ixAF (.tup (ens blk)) (.int (pre.length : Int)) = some (.d s.e) := by simp [ixAF, ixF, itm, hat]
    have hp' : ens blk = (pre ++ [s.e]) ++ ens r := by rw [hp]; simp [ens]
    have hpl : ((pre ++ [s.e]).length : Int) = (pre.length : Int) + 1 := by simp
    have hpos := cnt_pos s
    simp only [cnts] at hl h100
    have q3 : acc.length < sizeLine := z' _ (by omega)
    have hset : ∀ x : Ob, (g.set k x)[k]? = some x := fun x => List.getElem?_set_self hlt
    have hz : ∀ (x Z : Ob), (g.set k x ++ [Z])[g.length]? = some Z := fun x Z => by rw [List.getElem?_append_right (by simp)]; simp
    cases s with
    | give a b =>
      obtain ⟨w3, w4, k', g', L, e1, e2, e3⟩ := ih (pre ++ [(Sm.give a b).e]) (acc ++ [.tup [.tup (base ++ [.int pre.length]), (Sm.give a b).e]]) k (g.set k (.lst (acc ++ [.tup [.tup (base ++ [.int pre.length]), (Sm.give a b).e]]))) (some (.d (.int pre.length))) v4 hp' hr (by simp; omega) (by omega) (hset _)
      refine ⟨w3, w4, k', g', .tup [.tup (base ++ [.int pre.length]), (Sm.give a b).e] :: L, ?_, by rw [e2]; simp, by rw [e3, hpl]; simp [rowsL, rowsS]⟩
      rw [hpl] at e1
      simp only [Sm.e, allB] at hix e1
      simp [iota, forL, allB, mApp, isL, hk, addF, b1, hix, q3, e1]
    | keep p a =>
      obtain ⟨w3, w4, k', g', L, e1, e2, e3⟩ := ih (pre ++ [(Sm.keep p a).e]) (acc ++ [.tup [.tup (base ++ [.int pre.length]), (Sm.keep p a).e]]) k (g.set k (.lst (acc ++ [.tup [.tup (base ++ [.int pre.length]), (Sm.keep p a).e]]))) (some (.d (.int pre.length))) v4 hp' hr (by simp; omega) (by omega) (hset _)
      refine ⟨w3, w4, k', g', .tup [.tup (base ++ [.int pre.length]), (Sm.keep p a).e] :: L, ?_, by rw [e2]; simp, by rw [e3, hpl]; simp [rowsL, rowsS]⟩
      rw [hpl] at e1
      simp only [Sm.e, allB] at hix e1
      simp [iota, forL, allB, mApp, isL, hk, addF, b1, hix, q3, e1]
    | iff t x y =>
      obtain ⟨e, rfl⟩ : ∃ m, e = m + 1 := by
        cases e with
        | zero => unfold Sm.ok at hs; exact hs.elim
        | succ e => exact ⟨e, rfl⟩
      unfold Sm.ok at hs
      simp only [cnt] at hl h100
      obtain ⟨tx, ex, rx⟩ := hI e x (base ++ [.int pre.length, .int 0]) hs.2.1 (by omega) (by omega) (by simp; omega)
      have lx : tx.length = cnts x := by rw [rx, rowsL_cnt]
      obtain ⟨ty, ey, ry⟩ := hI e y (base ++ [.int pre.length, .int 1]) hs.2.2 (by omega) (by omega) (by simp; omega)
      have ly : ty.length = cnts y := by rw [ry, rowsL_cnt]
      have q4 : acc.length + 1 + tx.length ≤ sizeLine := z _ (by omega)
      have q5 : acc.length + (tx.length + 1) + ty.length ≤ sizeLine := z _ (by omega)
      have hset2 : ∀ (x Z W : Ob), (g.set k x ++ [Z, W])[g.length + 1]? = some W := fun x Z W => by rw [List.getElem?_append_right (by simp)]; simp
      obtain ⟨w3, w4, k', g', L, e1, e2, e3⟩ := ih (pre ++ [(Sm.iff t x y).e]) (acc ++ .tup [.tup (base ++ [.int pre.length]), (Sm.iff t x y).e] :: (tx ++ ty)) (g.length + 1) (g.set k (.lst (acc ++ [.tup [.tup (base ++ [.int pre.length]), (Sm.iff t x y).e]])) ++ [.lst (acc ++ .tup [.tup (base ++ [.int pre.length]), (Sm.iff t x y).e] :: tx), .lst (acc ++ .tup [.tup (base ++ [.int pre.length]), (Sm.iff t x y).e] :: (tx ++ ty))]) (some (.d (.int pre.length))) (some (.d (.int 1))) hp' hr (by simp; omega) (by omega) (hset2 _ _ _)
      refine ⟨w3, w4, k', g', .tup [.tup (base ++ [.int pre.length]), (Sm.iff t x y).e] :: (tx ++ ty) ++ L, ?_, by rw [e2]; simp, by rw [e3, hpl, rx, ry]; simp [rowsL, rowsS]⟩
      rw [hpl] at e1
      simp only [Sm.e, allB] at hix e1
      simp [iota, forL, allB, mApp, isL, hk, addF, b1, hix, q3, iR1_2, opK, pk, hset, hz, b2, b2', ex, ey, q4, q5]
      exact e1
theorem px_step {ws : List Str} {n : Nat} (hI : PX' C_Program C_StretchError C_UnknownChange ws n) : PX' C_Program C_StretchError C_UnknownChange ws (n + 1) := by
  intro e blk base ok hn hc hb
  have hlen := len_cnts blk
  have hbb := iR1_blk (ts := ens blk) (sl := [some (.d (.tup base)), some (.own 0), none, none]) (st := [.lst []]) (by rw [ens_len]; omega)
  rw [ens_len] at hbb
  obtain ⟨w3, w4, k', g', L, e1, e2, e3⟩ := px_loop C_Program C_StretchError C_UnknownChange hI (blk := blk) hn hb blk [] [] 0 [.lst []] none none (by rw [List.nil_append]) ok (by rw [List.length_nil]; omega) hc (by rw [List.getElem?_cons_zero])
  rw [List.length_nil] at e1 e3
  rw [List.nil_append] at e2
  refine ⟨L, ?_, e3⟩
  unfold F__law_all
  rw [dataF_run]
  have hd := pa_run C_Program C_StretchError C_UnknownChange hbb e1
  have hs : (List.map some (List.map U.d [T.tup (ens blk), T.tup base]) ++ List.replicate (5 - [T.tup (ens blk), T.tup base].length) none : List (Option U)) = [some (.d (.tup (ens blk))), some (.d (.tup base)), none, none, none] := by simp [List.replicate]
  rw [hs, hd]
  simp [resD, toD, e2]
theorem px_all {ws : List Str} : ∀ n, PX' C_Program C_StretchError C_UnknownChange ws n
  | 0 => fun e blk base _ hn => by omega
  | n + 1 => px_step C_Program C_StretchError C_UnknownChange (px_all n)
end
end FL
namespace FL
open PySem L2 PyProof.Rows
variable [TabPar]
mutual
/-- plain data: None, numbers, texts, tuples of such -/
def plT : T → Bool
  | .non => true
  | .int _ => true
  | .str x => PyData.strOk x
  | .tup ts => plTs ts
  | _ => false
def plTs : List T → Bool
  | [] => true
  | t :: ts => plT t && plTs ts
end
mutual
def dpT : T → Nat
  | .tup ts => dpTs ts + 1
  | _ => 0
def dpTs : List T → Nat
  | [] => 0
  | t :: ts => max (dpT t) (dpTs ts)
end
mutual
theorem plT_py : ∀ t : T, plT t = true → ∃ d, t.py = some d ∧ PyData.canLay0 d = true ∧ PyData.depth d ≤ dpT t
  | .non, _ => ⟨.none, by simp [T.py], by simp [PyData.canLay0], by simp [PyData.depth]⟩
  | .int i, _ => ⟨.int i, by simp [T.py], by simp [PyData.canLay0], by simp [PyData.depth]⟩
  | .str x, h => ⟨.str x, by simp [T.py], by simpa [PyData.canLay0, plT] using h, by simp [PyData.depth]⟩
  | .tup ts, h => by
    obtain ⟨ds, e1, e2, e3⟩ := plTs_py ts (by simpa [plT] using h)
    exact ⟨.tuple ds, by simp [T.py, e1], by simpa [PyData.canLay0] using e2, by simp [PyData.depth, dpT, e3]⟩
  | .bl _, h => by simp [plT] at h
  | .ktp _, h => by simp [plT] at h
  | .lst _, h => by simp [plT] at h
  | .frl _, h => by simp [plT] at h
  | .dk _ _, h => by simp [plT] at h
  | .dt _ _, h => by simp [plT] at h
  | .obj _ _ _, h => by simp [plT] at h
theorem plTs_py : ∀ ts : List T, plTs ts = true → ∃ ds, T.pys ts = some ds ∧ PyData.canLayAll0 ds = true ∧ PyData.depthAll ds ≤ dpTs ts
  | [], _ => ⟨[], by simp [T.pys], by simp [PyData.canLayAll0], by simp [PyData.depthAll]⟩
  | t :: ts, h => by
    simp only [plTs, Bool.and_eq_true] at h
    obtain ⟨d, a1, a2, a3⟩ := plT_py t h.1
    obtain ⟨ds, e1, e2, e3⟩ := plTs_py ts h.2
    exact ⟨d :: ds, by simp [T.pys, a1, e1], by simp [PyData.canLayAll0, a2, e2], by simp only [PyData.depthAll, dpTs]; omega⟩
end
mutual
theorem pl_eqv : ∀ (t u : T) (d e : PyData), plT t = true → plT u = true → t.py = some d → u.py = some e → (PyData.eqv d e = true ↔ t = u)
  | .tup ts, .tup us, d, e, h, g, e1, e2 => by
    simp only [plT] at h g
    simp only [T.py, Option.map_eq_some_iff] at e1 e2
    obtain ⟨ds, e1, rfl⟩ := e1
    obtain ⟨es, e2, rfl⟩ := e2
    have := pls_eqv ts us ds es h g e1 e2
    simp only [PyData.eqv, this, T.tup.injEq]
  | .non, u, d, e, h, g, e1, e2 => by
    simp only [T.py, Option.some.injEq] at e1
    subst e1
    cases u <;> simp only [plT, Bool.false_eq_true] at g
    all_goals (simp only [T.py, Option.some.injEq, Option.map_eq_some_iff] at e2)
    all_goals (first | (subst e2; simp [PyData.eqv]) | (obtain ⟨es, e2, rfl⟩ := e2; simp [PyData.eqv]))
  | .int i, u, d, e, h, g, e1, e2 => by
    simp only [T.py, Option.some.injEq] at e1
    subst e1
    cases u <;> simp only [plT, Bool.false_eq_true] at g
    all_goals (simp only [T.py, Option.some.injEq, Option.map_eq_some_iff] at e2)
    all_goals (first | (subst e2; simp [PyData.eqv]) | (obtain ⟨es, e2, rfl⟩ := e2; simp [PyData.eqv]))
  | .str i, u, d, e, h, g, e1, e2 => by
    simp only [T.py, Option.some.injEq] at e1
    subst e1
    cases u <;> simp only [plT, Bool.false_eq_true] at g
    all_goals (simp only [T.py, Option.some.injEq, Option.map_eq_some_iff] at e2)
    all_goals (first | (subst e2; simp [PyData.eqv]) | (obtain ⟨es, e2, rfl⟩ := e2; simp [PyData.eqv]))
  | .tup ts, .non, d, e, h, g, e1, e2 => by
    simp only [T.py, Option.some.injEq, Option.map_eq_some_iff] at e1 e2
    obtain ⟨ds, e1, rfl⟩ := e1; subst e2; simp [PyData.eqv]
  | .tup ts, .int _, d, e, h, g, e1, e2 => by
    simp only [T.py, Option.some.injEq, Option.map_eq_some_iff] at e1 e2
    obtain ⟨ds, e1, rfl⟩ := e1; subst e2; simp [PyData.eqv]
  | .tup ts, .str _, d, e, h, g, e1, e2 => by
    simp only [T.py, Option.some.injEq, Option.map_eq_some_iff] at e1 e2
    obtain ⟨ds, e1, rfl⟩ := e1; subst e2; simp [PyData.eqv]
  | .tup ts, .bl _, d, e, h, g, e1, e2 => by simp [plT] at g
  | .tup ts, .ktp _, d, e, h, g, e1, e2 => by simp [plT] at g
  | .tup ts, .lst _, d, e, h, g, e1, e2 => by simp [plT] at g
  | .tup ts, .frl _, d, e, h, g, e1, e2 => by simp [plT] at g
  | .tup ts, .dk _ _, d, e, h, g, e1, e2 => by simp [plT] at g
  | .tup ts, .dt _ _, d, e, h, g, e1, e2 => by simp [plT] at g
  | .tup ts, .obj _ _ _, d, e, h, g, e1, e2 => by simp [plT] at g
  | .bl _, u, d, e, h, g, e1, e2 => by simp [plT] at h
  | .ktp _, u, d, e, h, g, e1, e2 => by simp [plT] at h
  | .lst _, u, d, e, h, g, e1, e2 => by simp [plT] at h
  | .frl _, u, d, e, h, g, e1, e2 => by simp [plT] at h
  | .dk _ _, u, d, e, h, g, e1, e2 => by simp [plT] at h
  | .dt _ _, u, d, e, h, g, e1, e2 => by simp [plT] at h
  | .obj _ _ _, u, d, e, h, g, e1, e2 => by simp [plT] at h
theorem pls_eqv : ∀ (ts us : List T) (ds es : List PyData), plTs ts = true → plTs us = true → T.pys ts = some ds → T.pys us = some es → (PyData.eqvAll ds es = true ↔ ts = us)
  | [], [], ds, es, _, _, e1, e2 => by
    simp only [T.pys, Option.some.injEq] at e1 e2
    subst e1; subst e2; simp [PyData.eqvAll]
  | [], u :: us, ds, es, _, g, e1, e2 => by
    simp only [T.pys, Option.some.injEq] at e1
    subst e1
    simp only [T.pys] at e2
    split at e2
    · simp only [Option.some.injEq] at e2; subst e2; simp [PyData.eqvAll]
    · cases e2
  | t :: ts, [], ds, es, _, g, e1, e2 => by
    simp only [T.pys, Option.some.injEq] at e2
    subst e2
    simp only [T.pys] at e1
    split at e1
    · simp only [Option.some.injEq] at e1; subst e1; simp [PyData.eqvAll]
    · cases e1
  | t :: ts, u :: us, ds, es, h, g, e1, e2 => by
    simp only [plTs, Bool.and_eq_true] at h g
    simp only [T.pys] at e1 e2
    split at e1
    · rename_i d ds' a1 a2
      simp only [Option.some.injEq] at e1
      subst e1
      split at e2
      · rename_i e es' b1 b2
        simp only [Option.some.injEq] at e2
        subst e2
        have h1 := pl_eqv t u d e h.1 g.1 a1 b1
        have h2 := pls_eqv ts us ds' es' h.2 g.2 a2 b2
        simp only [PyData.eqvAll, Bool.and_eq_true, h1, h2, List.cons.injEq]
      · cases e2
    · cases e1
end
/-- plain and not deep -/
def Pdt (t : T) : Prop := plT t = true ∧ dpT t ≤ 60
theorem Pdt.py {t : T} (h : Pdt t) : ∃ d, t.py = some d ∧ SeqAt.shaped d = true := by
  obtain ⟨d, e1, e2, e3⟩ := plT_py t h.1
  exact ⟨d, e1, by have := h.2; simp [SeqAt.shaped, e2]; omega⟩
theorem sc_pn : ∀ (t u : T) (b : Bool), plT t = true → plT u = true → scT t u = some b → (b = true ↔ t = u) := by
  intro t u b h g e
  cases t <;> cases u <;> simp only [plT, Bool.false_eq_true] at h g <;> simp only [scT, Option.some.injEq, reduceCtorEq] at e <;> subst e <;> simp
theorem eqB_pn {t u : T} (h : Pdt t) (g : Pdt u) : ∃ b, eqB t u = some b ∧ (b = true ↔ t = u) := by
  obtain ⟨d, e1, e2⟩ := h.py
  obtain ⟨e, f1, f2⟩ := g.py
  unfold eqB
  cases es : scT t u with
  | some b => exact ⟨b, rfl, sc_pn t u b h.1 g.1 es⟩
  | none =>
    dsimp only
    rw [e1, f1]
    dsimp only
    rw [if_pos ⟨e2, f2⟩]
    exact ⟨_, rfl, pl_eqv t u d e h.1 g.1 e1 f1⟩
theorem eqF_pn {t u : T} (h : Pdt t) (g : Pdt u) : ∃ b, eqF t u = some (.d (.bl b)) ∧ neF t u = some (.d (.bl (!b))) ∧ (b = true ↔ t = u) := by
  obtain ⟨b, e, f⟩ := eqB_pn h g
  exact ⟨b, by simp [eqF, e], by simp [neF, e], f⟩
theorem eqF_self {t : T} (h : Pdt t) : eqF t t = some (.d (.bl true)) ∧ neF t t = some (.d (.bl false)) := by
  obtain ⟨b, e1, e2, f⟩ := eqF_pn h h
  have : b = true := f.mpr rfl
  subst this
  exact ⟨e1, e2⟩
/-- lists of plain data -/
def Pdts (ts : List T) : Prop := ∀ t ∈ ts, Pdt t
theorem Pdts.pl : ∀ {ts : List T}, Pdts ts → plTs ts = true ∧ dpTs ts ≤ 60
  | [], _ => by simp [plTs, dpTs]
  | t :: ts, h => by
    obtain ⟨h1, h2⟩ := h t List.mem_cons_self
    obtain ⟨g1, g2⟩ := Pdts.pl fun x hx => h x (List.mem_cons_of_mem _ hx)
    exact ⟨by simp [plTs, h1, g1], by simp only [dpTs]; omega⟩
theorem neF_lst {ts : List T} (h : Pdts ts) : neF (.lst ts) (.lst ts) = some (.d (.bl false)) := by
  obtain ⟨h1, h2⟩ := h.pl
  obtain ⟨ds, e1, e2, e3⟩ := plTs_py ts h1
  have s : SeqAt.shaped (.list ds) = true := by simp [SeqAt.shaped, PyData.canLay0, e2, PyData.depth]; omega
  have v : PyData.eqvAll ds ds = true := (pls_eqv ts ts ds ds h1 h1 e1 e1).mpr rfl
  simp [neF, eqB, scT, T.py, e1, s, PyData.eqv, v]
theorem Pdt.tup {ts : List T} (h : plTs ts = true) (g : dpTs ts ≤ 59) : Pdt (.tup ts) := ⟨by simpa [plT] using h, by simp only [dpT]; omega⟩
theorem Pdt.str {x : Str} (h : PyData.strOk x = true) : Pdt (.str x) := ⟨by simpa [plT] using h, by simp [dpT]⟩
theorem Pdt.int {i : Int} : Pdt (.int i) := ⟨by simp [plT], by simp [dpT]⟩
end FL
namespace FL
open PySem L2 PyProof.Rows
variable [TabPar]
theorem sok_of {ws : List Str} (h : ws.all (fun x => PyData.strOk x) = true) {x : Str} (hx : x ∈ ws) : PyData.strOk x = true := List.all_eq_true.mp h x hx
theorem sok_term {x : Str} (hx : x ∈ TERMs) : PyData.strOk x = true := sok_of (by decide +kernel) hx
theorem sok_choi {x : Str} (hx : x ∈ CHOIs) : PyData.strOk x = true := sok_of (by decide +kernel) hx
theorem sok_sort {x : Str} (hx : x ∈ SORTs) : PyData.strOk x = true := sok_of (by decide +kernel) hx
theorem sok_words : ∀ x ∈ ([("give" : Str), "keep", "if", "sort", "a", "less", "same", "block", "last"] : List Str), PyData.strOk x = true := fun x hx => sok_of (by decide +kernel) hx
theorem pt_tm {ws : List Str} (hw : ∀ a ∈ ws, a ∈ TERMs) {t : Tm} (h : t.ok ws) : plT t.e = true ∧ dpT t.e ≤ 1 := by
  cases t with
  | w a => exact ⟨by simp [Tm.e, plT, sok_term (hw a h)], by simp [Tm.e, dpT]⟩
  | c k a b => exact ⟨by simp [Tm.e, plT, plTs, sok_choi h.1, sok_term (hw a h.2.1), sok_term (hw b h.2.2)], by simp [Tm.e, dpT, dpTs]⟩
theorem pt_te {ws : List Str} (hw : ∀ a ∈ ws, a ∈ TERMs) {t : Te} (h : t.ok ws) : plT t.e = true ∧ dpT t.e ≤ 1 := by
  cases t with
  | srt => exact ⟨by simp [Te.e, plT, plTs, sok_words], by simp [Te.e, dpT, dpTs]⟩
  | c k a b =>
    have hk : PyData.strOk k = true := by rcases h.1 with rfl | rfl <;> exact sok_words _ (by simp)
    exact ⟨by simp [Te.e, plT, plTs, hk, sok_term (hw a h.2.1), sok_term (hw b h.2.2)], by simp [Te.e, dpT, dpTs]⟩
mutual
theorem pt_sm {ws : List Str} (hw : ∀ a ∈ ws, a ∈ TERMs) : ∀ (s : Sm) (e : Nat), s.ok ws e → plT s.e = true ∧ dpT s.e ≤ 2 * e + 2
  | .give a b, e, h => by
    unfold Sm.ok at h
    obtain ⟨h1, h2⟩ := pt_tm hw h.1
    obtain ⟨g1, g2⟩ := pt_tm hw h.2
    exact ⟨by simp [Sm.e, plT, plTs, h1, g1, sok_words], by simp only [Sm.e, dpT, dpTs]; omega⟩
  | .keep p a, e, h => by
    unfold Sm.ok at h
    obtain ⟨h1, h2⟩ := pt_tm hw h.2
    have hp : PyData.strOk p = true := sok_of (ws := PLACs) (by decide +kernel) h.1
    exact ⟨by simp [Sm.e, plT, plTs, h1, hp, sok_words], by simp only [Sm.e, dpT, dpTs]; omega⟩
  | .iff t x y, e, h => by
    cases e with
    | zero => unfold Sm.ok at h; exact h.elim
    | succ e =>
      unfold Sm.ok at h
      obtain ⟨h1, h2⟩ := pt_te hw h.1
      obtain ⟨x1, x2⟩ := pt_ens hw x e h.2.1
      obtain ⟨y1, y2⟩ := pt_ens hw y e h.2.2
      exact ⟨by simp [Sm.e, plT, plTs, h1, x1, y1, sok_words], by simp only [Sm.e, dpT, dpTs]; omega⟩
theorem pt_ens {ws : List Str} (hw : ∀ a ∈ ws, a ∈ TERMs) : ∀ (l : List Sm) (e : Nat), oks ws e l → plTs (ens l) = true ∧ dpTs (ens l) ≤ 2 * e + 2
  | [], e, _ => by simp [ens, plTs, dpTs]
  | s :: r, e, h => by
    obtain ⟨h1, h2⟩ := oks_cons.mp h
    obtain ⟨a1, a2⟩ := pt_sm hw s e h1
    obtain ⟨b1, b2⟩ := pt_ens hw r e h2
    exact ⟨by simp [ens, plTs, a1, b1], by simp only [ens, dpTs]; omega⟩
end
theorem pd_b {b : List Sm} (h : oks TERMs 2 b) : Pdt (.tup (ens b)) := by
  obtain ⟨h1, h2⟩ := pt_ens (fun a h => h) b 2 h
  exact Pdt.tup h1 (by omega)
theorem pd_l {b : List Sm} (h : oks PLACs 2 b) : Pdt (.tup (ens b)) := by
  obtain ⟨h1, h2⟩ := pt_ens place_term b 2 h
  exact Pdt.tup h1 (by omega)
theorem pd_s {s : Str} (h : s ∈ SORTs) : Pdt (.str s) := Pdt.str (sok_sort h)
section
variable (C_Program C_StretchError C_UnknownChange : Addr)
theorem f_eqP {s s' : Str} {b b' l l' : List Sm} (ok : POk s b l) (ok' : POk s' b' l') : ∃ q, F_Program_eq C_Program C_StretchError C_UnknownChange [] [.d (progT C_Program s b l), .d (progT C_Program s' b' l')] = .ok (.d (.bl q)) ⟨[], []⟩ ∧ (q = true ↔ s = s' ∧ ens b = ens b' ∧ ens l = ens l') := by
  obtain ⟨q1, _, n1, f1⟩ := eqF_pn (pd_s ok.hs) (pd_s ok'.hs)
  obtain ⟨q2, e2, n2, f2⟩ := eqF_pn (pd_b ok.hb) (pd_b ok'.hb)
  obtain ⟨q3, e3, n3, f3⟩ := eqF_pn (pd_l ok.hl) (pd_l ok'.hl)
  simp only [T.str.injEq, T.tup.injEq] at f1 f2 f3
  refine ⟨q1 && (q2 && q3), ?_, by simp [f1, f2, f3]⟩
  unfold F_Program_eq runD
  cases q1 <;> cases q2 <;> simp [d_Program_eq, mIsO, mFld, insOf, fAt, progT, n1, e2, e3, cutSt]
end
end FL
namespace FL
open PySem L2 PyProof.Rows
variable [TabPar]
/-- a comprehension over items that stand for something, with a condition -/
theorem lc_enc {α : Type} {gg : DG} {t : DT} {me : DE} {vs : List Nat} {sl : List (Option U)} {st : List Ob} (enc : α → T) {p : α → Bool} {h : α → T} : ∀ (ts : List α) (acc : List T),
    (∀ x ∈ ts, ∃ ρ1 ρ2, gg (.d (enc x)) ⟨wipeL sl vs, st⟩ = .ok () ρ1 ∧ t ρ1 = .ok (p x) ρ2 ∧ (p x = true → ∃ sl2, me ρ2 = .ok (.d (h x)) ⟨sl2, st⟩) ∧ (p x = false → ρ2.st = st)) → acc.length + ts.length ≤ sizeLine →
    lcL gg t me vs sl (ts.map enc) acc st = .ok (acc ++ (ts.filter p).map h) ⟨sl, st⟩
  | [], acc, _, _ => by simp [lcL]
  | x :: ts, acc, hx, hl => by
    obtain ⟨ρ1, ρ2, h1, h2, h3, h4⟩ := hx x List.mem_cons_self
    simp only [List.length_cons] at hl
    have hlt : acc.length < sizeLine := by omega
    cases e : p x with
    | true =>
      obtain ⟨sl2, h5⟩ := h3 e
      simp only [List.map_cons, lcL, h1, h2, e, h5, toD_d, if_pos hlt]
      rw [lc_enc enc ts (acc ++ [h x]) (fun y hy => hx y (List.mem_cons_of_mem _ hy)) (by simp; omega)]
      simp [List.filter_cons, e]
    | false =>
      simp only [List.map_cons, lcL, h1, h2, e, h4 e]
      rw [lc_enc enc ts acc (fun y hy => hx y (List.mem_cons_of_mem _ hy)) (by omega)]
      simp [List.filter_cons, e]
/-- without one -/
theorem lc_all {α : Type} {gg : DG} {me : DE} {vs : List Nat} {sl : List (Option U)} {st : List Ob} (enc : α → T) {h : α → T} (ts : List α) (hx : ∀ x ∈ ts, ∃ ρ1 sl2, gg (.d (enc x)) ⟨wipeL sl vs, st⟩ = .ok () ρ1 ∧ me ρ1 = .ok (.d (h x)) ⟨sl2, st⟩) (hl : ts.length ≤ sizeLine) :
    lcL gg mYes me vs sl (ts.map enc) [] st = .ok (ts.map h) ⟨sl, st⟩ := by
  have := lc_enc (gg := gg) (t := mYes) (me := me) (vs := vs) (sl := sl) (st := st) enc (p := fun _ => true) (h := h) ts [] (fun x hx' => by
    obtain ⟨ρ1, sl2, h1, h2⟩ := hx x hx'
    exact ⟨ρ1, ρ1, h1, rfl, fun _ => ⟨sl2, h2⟩, fun e => by cases e⟩) (by simpa using hl)
  rw [this]
  have : ts.filter (fun _ => true) = ts := by simp
  rw [this]; rfl
def tk (k : Bool) (ts : List T) : T := if k = true then .ktp ts else .tup ts
@[simp] theorem itm_tk {k : Bool} {ts : List T} : itm (tk k ts) = some ts := by cases k <;> rfl
@[simp] theorem ix_tk {k : Bool} {ts : List T} {i : Int} : ixAF (tk k ts) (.int i) = ixAF (.tup ts) (.int i) := by cases k <;> rfl
@[simp] theorem seqK_tk {k : Bool} {ts : List T} {ρ : Sg} : seqK (.d (tk k ts)) ρ = .ok ts ρ := seqK_d itm_tk
end FL
namespace FL
open PySem L2 PyProof.Rows
variable [TabPar]
def Tm.isW (w : Str) : Tm → Bool
  | .w a => decide (a = w)
  | _ => false
/-- the other words -/
def Tm.oth (ws : List Str) (a : Tm) : List Str := ws.filter fun w => !a.isW w
def oPl (p : Str) : Str := if p = "one" then "two" else "one"
def oOp (k : Str) : Str := if k = "less" then "same" else "less"
def Te.oth (ws : List Str) : Te → List Te
  | .srt => []
  | .c k a b => .c (oOp k) a b :: ((ws.filter fun w => !decide (w = a)).map (fun w => .c k w b) ++ (ws.filter fun w => !decide (w = b)).map (fun w => .c k a w))
open Classical in
noncomputable def Sm.oth (ws : List Str) : Sm → List Sm
  | .give a b => (a.oth ws).map (fun w => .give (.w w) b) ++ (b.oth ws).map (fun w => .give a (.w w))
  | .keep p a => .keep (oPl p) a :: (a.oth ws).map fun w => .keep p (.w w)
  | .iff t x y => (t.oth ws).map (fun t' => .iff t' x y) ++ (if ens x = ens y then [] else [.iff t y x])
theorem tm_oth {ws : List Str} {a : Tm} {w : Str} (h : w ∈ a.oth ws) : w ∈ ws := (List.mem_filter.mp h).1
theorem te_oth {ws : List Str} {t t' : Te} (ok : t.ok ws) (h : t' ∈ t.oth ws) : t'.ok ws := by
  cases t with
  | srt => simp [Te.oth] at h
  | c k a b =>
    obtain ⟨h1, h2, h3⟩ := ok
    simp only [Te.oth, List.mem_cons, List.mem_append, List.mem_map, List.mem_filter] at h
    rcases h with rfl | ⟨w, ⟨hw, _⟩, rfl⟩ | ⟨w, ⟨hw, _⟩, rfl⟩
    · refine ⟨?_, h2, h3⟩
      unfold oOp; split <;> simp
    · exact ⟨h1, hw, h3⟩
    · exact ⟨h1, h2, hw⟩
theorem oth_ok {ws : List Str} {s s' : Sm} (h : s' ∈ s.oth ws) : ∀ d, s.ok ws d → s'.ok ws d := by
  intro d ok
  cases s with
  | give a b =>
    unfold Sm.ok at ok
    simp only [Sm.oth, List.mem_append, List.mem_map] at h
    rcases h with ⟨w, hw, rfl⟩ | ⟨w, hw, rfl⟩
    · unfold Sm.ok; exact ⟨tm_oth hw, ok.2⟩
    · unfold Sm.ok; exact ⟨ok.1, tm_oth hw⟩
  | keep p a =>
    unfold Sm.ok at ok
    simp only [Sm.oth, List.mem_cons, List.mem_map] at h
    rcases h with rfl | ⟨w, hw, rfl⟩
    · unfold Sm.ok
      refine ⟨?_, ok.2⟩
      unfold oPl; split <;> simp
    · unfold Sm.ok; exact ⟨ok.1, tm_oth hw⟩
  | iff t x y =>
    cases d with
    | zero => unfold Sm.ok at ok; exact ok.elim
    | succ d =>
      unfold Sm.ok at ok
      simp only [Sm.oth, List.mem_append, List.mem_map] at h
      rcases h with ⟨t', ht, rfl⟩ | h
      · unfold Sm.ok; exact ⟨te_oth ok.1 ht, ok.2⟩
      · split at h
        · simp at h
        · rw [List.mem_singleton] at h; subst h
          unfold Sm.ok; exact ⟨ok.1, ok.2.2, ok.2.1⟩
theorem oth_cnt {ws : List Str} {s s' : Sm} (h : s' ∈ s.oth ws) : cnt s' = cnt s := by
  cases s with
  | give a b =>
    simp only [Sm.oth, List.mem_append, List.mem_map] at h
    rcases h with ⟨w, hw, rfl⟩ | ⟨w, hw, rfl⟩ <;> simp [cnt]
  | keep p a =>
    simp only [Sm.oth, List.mem_cons, List.mem_map] at h
    rcases h with rfl | ⟨w, hw, rfl⟩ <;> simp [cnt]
  | iff t x y =>
    simp only [Sm.oth, List.mem_append, List.mem_map] at h
    rcases h with ⟨t', ht, rfl⟩ | h
    · simp [cnt]
    · split at h
      · simp at h
      · rw [List.mem_singleton] at h; subst h
        simp only [cnt]; omega
mutual
def rowsNS : Sm → List (List Nat × Sm)
  | .iff t x y => (rowsN 0 x).map (fun q => (0 :: q.1, q.2)) ++ (rowsN 0 y).map (fun q => (1 :: q.1, q.2))
  | _ => []
def rowsN : Nat → List Sm → List (List Nat × Sm)
  | _, [] => []
  | i, s :: r => ([i], s) :: ((rowsNS s).map (fun q => (i :: q.1, q.2)) ++ rowsN (i + 1) r)
end
abbrev kN (p : List Nat) : List NestedKey := p.map fun n : Nat => NestedKey.num (n : Int)
mutual
theorem rowsQS_N : ∀ (s : Sm) (h : List NestedKey), rowsQS h s = (rowsNS s).map fun q => (h ++ kN q.1, q.2)
  | .iff t x y, h => by
    have e1 := rowsQ_N x (h ++ [.num 0]) 0
    have e2 := rowsQ_N y (h ++ [.num 1]) 0
    rw [show ((0 : Nat) : Int) = 0 from rfl] at e1 e2
    rw [rowsQS, rowsNS, e1, e2, List.map_append, List.map_map, List.map_map]
    congr 1 <;> (apply List.map_congr_left; intro q _; simp [kN])
  | .give a b, h => by simp [rowsQS, rowsNS]
  | .keep p a, h => by simp [rowsQS, rowsNS]
theorem rowsQ_N : ∀ (l : List Sm) (h : List NestedKey) (i : Nat), rowsQ h (i : Int) l = (rowsN i l).map fun q => (h ++ kN q.1, q.2)
  | [], h, i => by simp [rowsQ, rowsN]
  | s :: r, h, i => by
    have e1 := rowsQS_N s (h ++ [.num (i : Int)])
    have e2 := rowsQ_N r h (i + 1)
    rw [show ((i + 1 : Nat) : Int) = (i : Int) + 1 by omega] at e2
    rw [rowsQ, rowsN, e1, e2, List.map_cons, List.map_append, List.map_map]
    rw [show (fun q : List Nat × Sm => (h ++ [NestedKey.num (i : Int)] ++ kN q.fst, q.snd)) = (fun q => (h ++ kN q.1, q.2)) ∘ fun q => (i :: q.1, q.2) from funext fun q => by simp [kN]]
    rfl
end
/-- a statement stands at a path -/
inductive StA : List Sm → List Nat → Sm → Prop
  | here {l i s} : l[i]? = some s → StA l [i] s
  | x {l i t x y p s} : l[i]? = some (.iff t x y) → StA x p s → StA l (i :: 0 :: p) s
  | y {l i t x y p s} : l[i]? = some (.iff t x y) → StA y p s → StA l (i :: 1 :: p) s
theorem StA.ne {l p s} (h : StA l p s) : p ≠ [] := by cases h <;> simp
mutual
theorem rowsNS_at : ∀ (s : Sm), ∀ q ∈ rowsNS s, ∃ t x y p, s = .iff t x y ∧ ((q.1 = 0 :: p ∧ StA x p q.2) ∨ (q.1 = 1 :: p ∧ StA y p q.2))
  | .iff t x y, q, hq => by
    simp only [rowsNS, List.mem_append, List.mem_map] at hq
    rcases hq with ⟨q', hq', rfl⟩ | ⟨q', hq', rfl⟩
    · exact ⟨t, x, y, q'.1, rfl, .inl ⟨rfl, rowsN_at x [] q' hq'⟩⟩
    · exact ⟨t, x, y, q'.1, rfl, .inr ⟨rfl, rowsN_at y [] q' hq'⟩⟩
  | .give a b, q, hq => by simp [rowsNS] at hq
  | .keep p a, q, hq => by simp [rowsNS] at hq
theorem rowsN_at : ∀ (l pre : List Sm), ∀ q ∈ rowsN pre.length l, StA (pre ++ l) q.1 q.2
  | [], pre, q, hq => by simp [rowsN] at hq
  | s :: r, pre, q, hq => by
    have hg : (pre ++ s :: r)[pre.length]? = some s := by simp
    simp only [rowsN, List.mem_cons, List.mem_append, List.mem_map] at hq
    rcases hq with rfl | ⟨q', hq', rfl⟩ | hq
    · exact .here hg
    · obtain ⟨t, x, y, p, rfl, h⟩ := rowsNS_at s q' hq'
      rcases h with ⟨e, h⟩ | ⟨e, h⟩
      · rw [e]; exact .x hg h
      · rw [e]; exact .y hg h
    · have := rowsN_at r (pre ++ [s]) q (by simpa using hq)
      simpa using this
end
/-- another statement in its place -/
def repl (s' : Sm) : List Nat → List Sm → List Sm
  | [], l => l
  | [i], l => l.set i s'
  | i :: n :: p, l => match l[i]? with
    | some (.iff t x y) => l.set i (if n = 0 then .iff t (repl s' p x) y else .iff t x (repl s' p y))
    | _ => l
theorem oks_get {ws : List Str} {d : Nat} : ∀ {l : List Sm} {i : Nat} {s : Sm}, oks ws d l → l[i]? = some s → s.ok ws d
  | [], i, s, _, e => by simp at e
  | a :: l, 0, s, h, e => by simp at e; subst e; exact (oks_cons.mp h).1
  | a :: l, i + 1, s, h, e => oks_get (oks_cons.mp h).2 (by simpa using e)
theorem oks_set {ws : List Str} {d : Nat} {s' : Sm} (hs : s'.ok ws d) : ∀ {l : List Sm} {i : Nat}, oks ws d l → oks ws d (l.set i s')
  | [], i, h => h
  | a :: l, 0, h => oks_cons.mpr ⟨hs, (oks_cons.mp h).2⟩
  | a :: l, i + 1, h => oks_cons.mpr ⟨(oks_cons.mp h).1, oks_set hs (oks_cons.mp h).2⟩
theorem cnts_set {s' : Sm} : ∀ {l : List Sm} {i : Nat} {s : Sm}, l[i]? = some s → cnt s' = cnt s → cnts (l.set i s') = cnts l
  | [], i, s, e, _ => by simp at e
  | a :: l, 0, s, e, h => by simp at e; subst e; simp [cnts, h]
  | a :: l, i + 1, s, e, h => by
    have := cnts_set (l := l) (i := i) (s := s) (by simpa using e) h
    simp only [List.set_cons_succ, cnts, this]
theorem repl_ok {ws : List Str} {s s' : Sm} {l : List Sm} {p : List Nat} (h : StA l p s) (hs : ∀ d, s.ok ws d → s'.ok ws d) : ∀ d, oks ws d l → oks ws d (repl s' p l) := by
  induction h with
  | here e => exact fun d ok => oks_set (hs d (oks_get ok e)) ok
  | @x l i t x y p s e h ih =>
    intro d ok
    have o := oks_get ok e
    simp only [repl, e, if_pos]
    refine oks_set ?_ ok
    cases d with
    | zero => unfold Sm.ok at o; exact o.elim
    | succ d => unfold Sm.ok at o ⊢; exact ⟨o.1, ih hs d o.2.1, o.2.2⟩
  | @y l i t x y p s e h ih =>
    intro d ok
    have o := oks_get ok e
    simp only [repl, e, Nat.one_ne_zero, if_false]
    refine oks_set ?_ ok
    cases d with
    | zero => unfold Sm.ok at o; exact o.elim
    | succ d => unfold Sm.ok at o ⊢; exact ⟨o.1, o.2.1, ih hs d o.2.2⟩
theorem repl_cnts {s s' : Sm} {l : List Sm} {p : List Nat} (h : StA l p s) (hs : cnt s' = cnt s) : cnts (repl s' p l) = cnts l := by
  induction h with
  | here e => exact cnts_set e hs
  | @x l i t x y p s e h ih =>
    simp only [repl, e, if_pos]
    exact cnts_set e (by simp only [cnt, ih hs])
  | @y l i t x y p s e h ih =>
    simp only [repl, e, Nat.one_ne_zero, if_false]
    exact cnts_set e (by simp only [cnt, ih hs])
theorem sta_len {ws : List Str} {l : List Sm} {p : List Nat} {s : Sm} (h : StA l p s) : ∀ d, oks ws d l → p.length ≤ 2 * d + 1 ∧ ∃ d', s.ok ws d' := by
  induction h with
  | here e => exact fun d ok => ⟨by simp, d, oks_get ok e⟩
  | x e h ih =>
    intro d ok
    have o := oks_get ok e
    cases d with
    | zero => unfold Sm.ok at o; exact o.elim
    | succ d => unfold Sm.ok at o; obtain ⟨h1, h2⟩ := ih d o.2.1; exact ⟨by simp only [List.length_cons]; omega, h2⟩
  | y e h ih =>
    intro d ok
    have o := oks_get ok e
    cases d with
    | zero => unfold Sm.ok at o; exact o.elim
    | succ d => unfold Sm.ok at o; obtain ⟨h1, h2⟩ := ih d o.2.2; exact ⟨by simp only [List.length_cons]; omega, h2⟩
theorem okSm_up {ws : List Str} : ∀ {d : Nat} {s : Sm}, s.ok ws d → s.ok ws (d + 1) := by
  intro d
  induction d with
  | zero =>
    intro s h
    cases s with
    | give a b => unfold Sm.ok at h ⊢; exact h
    | keep p a => unfold Sm.ok at h ⊢; exact h
    | iff t x y => unfold Sm.ok at h; exact h.elim
  | succ d ih =>
    have go : ∀ l : List Sm, oks ws d l → oks ws (d + 1) l := by
      intro l
      induction l with
      | nil => intro _; unfold oks; trivial
      | cons s l ihl => intro h; exact oks_cons.mpr ⟨ih (oks_cons.mp h).1, ihl (oks_cons.mp h).2⟩
    intro s h
    cases s with
    | give a b => unfold Sm.ok at h ⊢; exact h
    | keep p a => unfold Sm.ok at h ⊢; exact h
    | iff t x y => unfold Sm.ok at h ⊢; exact ⟨h.1, go _ h.2.1, go _ h.2.2⟩
theorem sm_ok2 {ws : List Str} {l : List Sm} {p : List Nat} {s : Sm} (h : StA l p s) : ∀ d, oks ws d l → s.ok ws d := by
  induction h with
  | here e => exact fun d ok => oks_get ok e
  | x e h ih =>
    intro d ok
    have o := oks_get ok e
    cases d with
    | zero => unfold Sm.ok at o; exact o.elim
    | succ d => unfold Sm.ok at o; exact okSm_up (ih d o.2.1)
  | y e h ih =>
    intro d ok
    have o := oks_get ok e
    cases d with
    | zero => unfold Sm.ok at o; exact o.elim
    | succ d => unfold Sm.ok at o; exact okSm_up (ih d o.2.2)
end FL
namespace FL
open PySem L2 PyProof.Rows
variable [TabPar]
theorem sl0 {ts : List T} {n : Nat} {i : Int} (hi : i = (n : Int) := by rfl) : slF (.tup ts) none (some i) = some (.d (.tup (ts.take n))) := by
  subst hi
  unfold slF cutT
  dsimp only
  rw [HT.sIx_nat, HT.sIx_none, List.drop_zero, Nat.sub_zero, ← List.take_eq_take_min]
theorem sl9 {ts : List T} {n : Nat} {i : Int} (h : n ≤ ts.length) (hi : i = (n : Int) := by rfl) : slF (.tup ts) (some i) none = some (.d (.tup (ts.drop n))) := by
  subst hi
  unfold slF cutT
  dsimp only
  rw [HT.sIx_nat, HT.sIx_none, Nat.min_eq_left h, List.take_of_length_le (by rw [List.length_drop]; omega)]
theorem zs : ∀ {n : Nat}, n ≤ 1000 → n ≤ sizeLine := fun h => Nat.le_trans h (by decide)
theorem zt : ∀ {n : Nat}, n ≤ 1000 → n < sizeLine := fun h => Nat.lt_of_le_of_lt h (by decide)
theorem ne_of {t u : T} (h : Pdt t) (g : Pdt u) {q : Bool} (hq : q = true ↔ t = u) : neF t u = some (.d (.bl (!q))) ∧ eqF t u = some (.d (.bl q)) := by
  obtain ⟨b, e1, e2, f⟩ := eqF_pn h g
  have : b = q := by cases b <;> cases q <;> simp_all
  subst this
  exact ⟨e2, e1⟩
theorem isW_iff {a : Tm} {x : Str} : a.isW x = true ↔ T.str x = a.e := by
  cases a with
  | w b => simp [Tm.isW, Tm.e, eq_comm]
  | c k a b => simp [Tm.isW, Tm.e]
theorem seqK_l0 {ts : List T} {sl : List (Option U)} {g : List Ob} : seqK (.own 0) ⟨sl, .lst ts :: g⟩ = .ok ts ⟨sl, .frz (.lst ts) :: g⟩ := rfl
section
variable {s w : T} {ws : List Str} {q : Str → Bool} {i : Int} {g : Str → T} {pre suf : List T}
abbrev wsl (s w : T) (i : Int) (a b c : Option U) : List (Option U) := [some (.d s), some (.d (.int i)), some (.d w), a, b, c]
theorem ww_run (hw : itm w = some (ws.map .str)) (hl : ws.length ≤ 100) (h1 : slF s none (some i) = some (.d (.tup pre))) (h2 : slF s (some (i + 1)) none = some (.d (.tup suf))) (hp : pre.length + suf.length ≤ 100)
    (hg : ∀ x, g x = .tup (pre ++ [.str x] ++ suf)) (hq : ∀ x ∈ ws, neF (g x) s = some (.d (.bl (q x)))) : dataF (runD d_with_words 6) [s, .int i, w] = some (.lst ((ws.filter q).map g)) := by
  rw [dataF_run]
  have e1 : ∀ st, lcL (gN 4) mYes (mOp addF (mOp addF (mSl (mVar 0) mPN (mPS (mVar 1))) (mTup (aCons (mVar 4) aNil))) (mSl (mVar 0) (mPS (mOp addF (mVar 1) (mC (.int 1)))) mPN)) [4] (wsl s w i none none none) (ws.map .str) [] st = .ok (ws.map g) ⟨wsl s w i none none none, st⟩ := fun st =>
    lc_all T.str ws (fun x _ => by
      refine ⟨⟨wsl s w i none (some (.d (.str x))) none, st⟩, wsl s w i none (some (.d (.str x))) none, rfl, ?_⟩
      have q1 : pre.length + 1 ≤ sizeLine := zs (by omega)
      have q2 : pre.length + 1 + suf.length ≤ sizeLine := zs (by omega)
      have q4 : pre.length + (suf.length + 1) ≤ sizeLine := zs (by omega)
      simp [h1, h2, addF, q1, q2, q4, hg, List.append_assoc]) (zs (by omega))
  have e2 : lcL (gN 5) (mTOp neF (mVar 5) (mVar 0)) (mVar 5) [5] (wsl s w i (some (.own 0)) none none) (ws.map g) [] [.frz (.lst (ws.map g))] = .ok ((ws.filter q).map g) ⟨wsl s w i (some (.own 0)) none none, [.frz (.lst (ws.map g))]⟩ :=
    lc_enc g ws [] (fun x hx => ⟨⟨wsl s w i (some (.own 0)) none (some (.d (g x))), [.frz (.lst (ws.map g))]⟩, ⟨wsl s w i (some (.own 0)) none (some (.d (g x))), [.frz (.lst (ws.map g))]⟩, rfl, by simp [hq x hx], fun _ => ⟨_, by simp; rfl⟩, fun _ => rfl⟩) (zs (by simp; omega))
  simp [d_with_words, List.replicate, seqK_d hw, e1, seqK_l0, e2, resD, toD]
end
/-- a triple with another word in the place of the second or third part -/
theorem ww1 {a b c w : T} {ws : List Str} {q : Str → Bool} (hw : itm w = some (ws.map .str)) (hl : ws.length ≤ 100) (hq : ∀ x ∈ ws, neF (.tup [a, .str x, c]) (.tup [a, b, c]) = some (.d (.bl (q x)))) : dataF (runD d_with_words 6) [.tup [a, b, c], .int 1, w] = some (.lst ((ws.filter q).map fun x => .tup [a, .str x, c])) :=
  ww_run hw hl (pre := [a]) (suf := [c]) (sl0 (n := 1)) (sl9 (n := 2) (by simp)) (by simp) (fun _ => rfl) hq
theorem ww2 {a b c w : T} {ws : List Str} {q : Str → Bool} (hw : itm w = some (ws.map .str)) (hl : ws.length ≤ 100) (hq : ∀ x ∈ ws, neF (.tup [a, b, .str x]) (.tup [a, b, c]) = some (.d (.bl (q x)))) : dataF (runD d_with_words 6) [.tup [a, b, c], .int 2, w] = some (.lst ((ws.filter q).map fun x => .tup [a, b, .str x])) :=
  ww_run hw hl (pre := [a, b]) (suf := []) (sl0 (n := 2)) (sl9 (n := 3) (by simp)) (by simp) (fun _ => rfl) hq
/-- what stands for words and for plain parts -/
structure Wds (w : T) (ws : List Str) : Prop where
  i : itm w = some (ws.map .str)
  l : ws.length ≤ 100
  t : ∀ a ∈ ws, a ∈ TERMs
theorem Wds.tm {w : T} {ws : List Str} (W : Wds w ws) {x : Str} (h : x ∈ ws) : (Tm.w x).ok ws := h
section
variable {w : T} {ws : List Str} (W : Wds w ws)
include W
theorem pd_sm {s : Sm} {d : Nat} (h : s.ok ws d) (hd : d ≤ 20) : Pdt s.e := by
  obtain ⟨h1, h2⟩ := pt_sm W.t s d h
  exact ⟨h1, by omega⟩
theorem pd_te {t : Te} (h : t.ok ws) : Pdt t.e := by
  obtain ⟨h1, h2⟩ := pt_te W.t h
  exact ⟨h1, by omega⟩
theorem ww_give1 {a b : Tm} {d : Nat} (h : (Sm.give a b).ok ws d) (hd : d ≤ 20) : dataF (runD d_with_words 6) [(Sm.give a b).e, .int 1, w] = some (.lst (((a.oth ws).map fun x => Sm.give (.w x) b).map Sm.e)) := by
  unfold Sm.ok at h
  rw [List.map_map]
  refine ww1 W.i W.l (q := fun x => !a.isW x) fun x hx => ?_
  have h1 : (Sm.give (.w x) b).ok ws d := by unfold Sm.ok; exact ⟨W.tm hx, h.2⟩
  have h2 : (Sm.give a b).ok ws d := by unfold Sm.ok; exact h
  refine (ne_of (pd_sm W h1 hd) (pd_sm W h2 hd) (isW_iff.trans ?_)).1
  simp [Sm.e, Tm.e]
theorem ww_give2 {a b : Tm} {d : Nat} (h : (Sm.give a b).ok ws d) (hd : d ≤ 20) : dataF (runD d_with_words 6) [(Sm.give a b).e, .int 2, w] = some (.lst (((b.oth ws).map fun x => Sm.give a (.w x)).map Sm.e)) := by
  unfold Sm.ok at h
  rw [List.map_map]
  refine ww2 W.i W.l (q := fun x => !b.isW x) fun x hx => ?_
  have h1 : (Sm.give a (.w x)).ok ws d := by unfold Sm.ok; exact ⟨h.1, W.tm hx⟩
  have h2 : (Sm.give a b).ok ws d := by unfold Sm.ok; exact h
  refine (ne_of (pd_sm W h1 hd) (pd_sm W h2 hd) (isW_iff.trans ?_)).1
  simp [Sm.e, Tm.e]
theorem ww_keep {p : Str} {a : Tm} {d : Nat} (h : (Sm.keep p a).ok ws d) (hd : d ≤ 20) : dataF (runD d_with_words 6) [(Sm.keep p a).e, .int 2, w] = some (.lst (((a.oth ws).map fun x => Sm.keep p (.w x)).map Sm.e)) := by
  unfold Sm.ok at h
  rw [List.map_map]
  refine ww2 W.i W.l (q := fun x => !a.isW x) fun x hx => ?_
  have h1 : (Sm.keep p (.w x)).ok ws d := by unfold Sm.ok; exact ⟨h.1, W.tm hx⟩
  have h2 : (Sm.keep p a).ok ws d := by unfold Sm.ok; exact h
  refine (ne_of (pd_sm W h1 hd) (pd_sm W h2 hd) (isW_iff.trans ?_)).1
  simp [Sm.e, Tm.e]
theorem ww_te1 {k a b : Str} (h : (Te.c k a b).ok ws) : dataF (runD d_with_words 6) [(Te.c k a b).e, .int 1, w] = some (.lst (((ws.filter fun x => !decide (x = a)).map fun x => Te.c k x b).map Te.e)) := by
  rw [List.map_map]
  refine ww1 W.i W.l (q := fun x => !decide (x = a)) fun x hx => ?_
  refine (ne_of (pd_te W (t := .c k x b) ⟨h.1, hx, h.2.2⟩) (pd_te W h) ?_).1
  simp [Te.e]
theorem ww_te2 {k a b : Str} (h : (Te.c k a b).ok ws) : dataF (runD d_with_words 6) [(Te.c k a b).e, .int 2, w] = some (.lst (((ws.filter fun x => !decide (x = b)).map fun x => Te.c k a x).map Te.e)) := by
  rw [List.map_map]
  refine ww2 W.i W.l (q := fun x => !decide (x = b)) fun x hx => ?_
  refine (ne_of (pd_te W (t := .c k a x) ⟨h.1, h.2.1, hx⟩) (pd_te W h) ?_).1
  simp [Te.e]
end
end FL
namespace FL
open PySem L2 PyProof.Rows
variable [TabPar]
theorem oth_len {ws : List Str} (h : ws.length ≤ 100) (s : Sm) : (s.oth ws).length ≤ 400 := by
  have f : ∀ p : Str → Bool, (ws.filter p).length ≤ 100 := fun p => Nat.le_trans (List.length_filter_le _ _) h
  cases s with
  | give a b => simp only [Sm.oth, Tm.oth, List.length_append, List.length_map]; have := f fun w => !a.isW w; have := f fun w => !b.isW w; omega
  | keep p a => simp only [Sm.oth, Tm.oth, List.length_cons, List.length_map]; have := f fun w => !a.isW w; omega
  | iff t x y =>
    have ht : (t.oth ws).length ≤ 300 := by
      cases t with
      | srt => simp [Te.oth]
      | c k a b =>
        simp only [Te.oth, List.length_cons, List.length_append, List.length_map]
        have := f fun w => !decide (w = a)
        have := f fun w => !decide (w = b)
        omega
    simp only [Sm.oth, List.length_append, List.length_map]
    split <;> simp <;> omega
theorem te_len {ws : List Str} (h : ws.length ≤ 100) (t : Te) : (t.oth ws).length ≤ 300 := by
  have f : ∀ p : Str → Bool, (ws.filter p).length ≤ 100 := fun p => Nat.le_trans (List.length_filter_le _ _) h
  cases t with
  | srt => simp [Te.oth]
  | c k a b =>
    simp only [Te.oth, List.length_cons, List.length_append, List.length_map]
    have := f fun w => !decide (w = a)
    have := f fun w => !decide (w = b)
    omega
section
variable (C_Program C_StretchError C_UnknownChange : Addr) {w : T} {ws : List Str} (W : Wds w ws)
include W
theorem f_tests_for {t : Te} (h : t.ok ws) : dataF (F_tests_for C_Program C_StretchError C_UnknownChange) [t.e, w] = some (.lst ((t.oth ws).map Te.e)) := by
  unfold F_tests_for
  rw [dataF_run]
  cases t with
  | srt => simp [d_tests_for, List.replicate, Te.e, Te.oth, resD, toD]
  | c k a b =>
    have e1 := ww_te1 W h
    have e2 := ww_te2 W h
    have hk : k ≠ "sort" := by rcases h.1 with rfl | rfl <;> simp
    have f : ∀ p : Str → Bool, (ws.filter p).length ≤ 100 := fun p => Nat.le_trans (List.length_filter_le _ _) W.l
    have q1 : 1 + (ws.filter fun x => !decide (x = a)).length ≤ sizeLine := zs (by have := f fun x => !decide (x = a); omega)
    have q2 : 1 + (ws.filter fun x => !decide (x = a)).length + (ws.filter fun x => !decide (x = b)).length ≤ sizeLine := zs (by have := f fun x => !decide (x = a); have := f fun x => !decide (x = b); omega)
    have q2' : (ws.filter fun x => !decide (x = a)).length + 1 + (ws.filter fun x => !decide (x = b)).length ≤ sizeLine := by rw [Nat.add_comm _ 1]; exact q2
    have q3 : (3 : Nat) ≤ sizeLine := zs (by omega)
    simp only [Te.e] at e1 e2
    have hif : (if k = "less" then (.ok (.d (.str "same")) : Sg → R U) else .ok (.d (.str "less"))) = .ok (.d (.str (oOp k))) := by unfold oOp; split <;> rfl
    rcases h.1 with rfl | rfl <;>
      simp [d_tests_for, List.replicate, Te.e, Te.oth, resD, toD, F_with_words, e1, e2, opK, pk, addF, q1, q2, q2', q3, oOp, List.map_append]
theorem f_others_for {s : Sm} {d : Nat} (h : s.ok ws d) (hd : d ≤ 15) : dataF (F_others_for C_Program C_StretchError C_UnknownChange) [s.e, w] = some (.lst ((s.oth ws).map Sm.e)) := by
  have hl := oth_len W.l s
  have f : ∀ p : Str → Bool, (ws.filter p).length ≤ 100 := fun p => Nat.le_trans (List.length_filter_le _ _) W.l
  unfold F_others_for
  rw [dataF_run]
  cases s with
  | give a b =>
    have e1 := ww_give1 W h (by omega)
    have e2 := ww_give2 W h (by omega)
    have q1 : (a.oth ws).length + (b.oth ws).length ≤ sizeLine := zs (by have := f fun x => !a.isW x; have := f fun x => !b.isW x; unfold Tm.oth; omega)
    simp only [Sm.e] at e1 e2
    simp [d_others_for, List.replicate, Sm.e, Sm.oth, resD, toD, F_with_words, e1, e2, opK, pk, addF, q1]
  | keep p a =>
    have e2 := ww_keep W h (by omega)
    have q1 : 1 + (a.oth ws).length ≤ sizeLine := zs (by have := f fun x => !a.isW x; unfold Tm.oth; omega)
    have q2 : (a.oth ws).length + 1 ≤ sizeLine := by rw [Nat.add_comm]; exact q1
    simp only [Sm.e] at e2
    rcases Classical.em (p = "one") with rfl | hp
    · simp [d_others_for, List.replicate, Sm.e, Sm.oth, resD, toD, F_with_words, e2, opK, pk, addF, q1, q2, oPl]
    · simp [d_others_for, List.replicate, Sm.e, Sm.oth, resD, toD, F_with_words, e2, opK, pk, addF, q1, q2, oPl, hp]
  | iff t x y =>
    obtain ⟨d, rfl⟩ : ∃ m, d = m + 1 := by
      cases d with
      | zero => unfold Sm.ok at h; exact h.elim
      | succ d => exact ⟨d, rfl⟩
    have h' := h
    unfold Sm.ok at h
    have e1 := f_tests_for C_Program C_StretchError C_UnknownChange W h.1
    have tl := te_len W.l t
    obtain ⟨x1, x2⟩ := pt_ens W.t x d h.2.1
    obtain ⟨y1, y2⟩ := pt_ens W.t y d h.2.2
    obtain ⟨bb, _, ne, fq⟩ := eqF_pn (Pdt.tup x1 (by omega)) (Pdt.tup y1 (by omega))
    simp only [T.tup.injEq] at fq
    have l1 : ∀ st, lcL (gN 7) mYes (mTup (aCons (mC (.str "if")) (aCons (mVar 7) (aCons (mVar 5) (aCons (mVar 6) aNil))))) [7] [some (.d (.tup [.str "if", t.e, .tup (ens x), .tup (ens y)])), some (.d w), none, none, some (.d t.e), some (.d (.tup (ens x))), some (.d (.tup (ens y))), none] ((t.oth ws).map Te.e) [] st = .ok ((t.oth ws).map fun t' => Sm.e (.iff t' x y)) ⟨[some (.d (.tup [.str "if", t.e, .tup (ens x), .tup (ens y)])), some (.d w), none, none, some (.d t.e), some (.d (.tup (ens x))), some (.d (.tup (ens y))), none], st⟩ := fun st =>
      lc_all Te.e (t.oth ws) (fun t' _ => ⟨⟨[some (.d (.tup [.str "if", t.e, .tup (ens x), .tup (ens y)])), some (.d w), none, none, some (.d t.e), some (.d (.tup (ens x))), some (.d (.tup (ens y))), some (.d t'.e)], st⟩, [some (.d (.tup [.str "if", t.e, .tup (ens x), .tup (ens y)])), some (.d w), none, none, some (.d t.e), some (.d (.tup (ens x))), some (.d (.tup (ens y))), some (.d t'.e)], rfl, by simp [Sm.e]⟩) (zs (by omega))
    have q0 : (t.oth ws).length ≤ sizeLine := zs (by omega)
    have q1 : (t.oth ws).length + 1 ≤ sizeLine := zs (by omega)
    cases bb with
    | true =>
      have hxy : ens x = ens y := fq.mp rfl
      rw [hxy] at ne l1
      simp [d_others_for, List.replicate, Sm.e, Sm.oth, resD, toD, F_with_words, e1, mAsg, opK, pk, addF, hxy, gT, gsCons, gsNil, itm, l1, ne, q0]
      try rfl
    | false =>
      have hxy : ¬ ens x = ens y := fun e => by simpa using fq.mpr e
      simp at ne
      simp [d_others_for, List.replicate, Sm.e, Sm.oth, resD, toD, F_with_words, e1, mAsg, opK, pk, addF, hxy, gT, gsCons, gsNil, itm, l1, ne, q1]
      try rfl
end
end FL
namespace FL
open PySem L2 PyProof.Rows
variable [TabPar]
section
variable (C_Program C_StretchError C_UnknownChange : Addr) {w : T} {ws : List Str} (W : Wds w ws)
include W
theorem f_lothers {s : Sm} {d : Nat} (h : s.ok ws d) (hd : d ≤ 15) : dataF (F__law_others C_Program C_StretchError C_UnknownChange) [s.e, w] = some (.lst ((s.oth ws).map Sm.e)) := by
  have hl := oth_len W.l s
  have f : ∀ p : Str → Bool, (ws.filter p).length ≤ 100 := fun p => Nat.le_trans (List.length_filter_le _ _) W.l
  have hF : F__law_words C_Program C_StretchError C_UnknownChange = runD d_with_words 6 := rfl
  unfold F__law_others
  rw [dataF_run, hF]
  cases s with
  | give a b =>
    have e1 := ww_give1 W h (by omega)
    have e2 := ww_give2 W h (by omega)
    have q1 : (a.oth ws).length + (b.oth ws).length ≤ sizeLine := zs (by have := f fun x => !a.isW x; have := f fun x => !b.isW x; unfold Tm.oth; omega)
    simp only [Sm.e] at e1 e2
    simp [d__law_others, List.replicate, Sm.e, Sm.oth, resD, toD, e1, e2, opK, pk, addF, q1]
  | keep p a =>
    have e2 := ww_keep W h (by omega)
    have q1 : 1 + (a.oth ws).length ≤ sizeLine := zs (by have := f fun x => !a.isW x; unfold Tm.oth; omega)
    have q2 : (a.oth ws).length + 1 ≤ sizeLine := by rw [Nat.add_comm]; exact q1
    simp only [Sm.e] at e2
    rcases Classical.em (p = "one") with rfl | hp
    · simp [d__law_others, List.replicate, Sm.e, Sm.oth, resD, toD, e2, opK, pk, addF, q1, q2, oPl, mGetK, mDisp, toDs, getKF, keyT, dkGet]
    · have hp' : ¬ ("one" : Str) = p := fun e => hp e.symm
      simp [d__law_others, List.replicate, Sm.e, Sm.oth, resD, toD, e2, opK, pk, addF, q1, q2, oPl, hp, hp', mGetK, mDisp, toDs, getKF, keyT, dkGet]
  | iff t x y =>
    obtain ⟨d, rfl⟩ : ∃ m, d = m + 1 := by
      cases d with
      | zero => unfold Sm.ok at h; exact h.elim
      | succ d => exact ⟨d, rfl⟩
    unfold Sm.ok at h
    have tl := te_len W.l t
    obtain ⟨x1, x2⟩ := pt_ens W.t x d h.2.1
    obtain ⟨y1, y2⟩ := pt_ens W.t y d h.2.2
    obtain ⟨bb, _, ne, fq⟩ := eqF_pn (Pdt.tup x1 (by omega)) (Pdt.tup y1 (by omega))
    simp only [T.tup.injEq] at fq
    have q0 : (t.oth ws).length ≤ sizeLine := zs (by omega)
    have q9 : (t.oth ws).length < sizeLine := zt (by omega)
    have z0 : (0 : Nat) < sizeLine := zt (by omega)
    have loop : ∀ (c : Str) (a b : Str) (u5 : Option U) (ts : List Te) (g : List Ob) (acc : List T) (u6 : Option U), acc.length + ts.length ≤ 300 → ∃ u6',
        forL (gN 6) (mDrop (mApp (mVar 4) (mOp addF (mTup (aCons (mC (.str "if")) (aCons (mVar 6) aNil))) (mSl (mVar 0) (mPS (mC (.int 2))) mPN)))) (ts.map Te.e) ⟨[some (.d (.tup [.str "if", .tup [.str c, .str a, .str b], .tup (ens x), .tup (ens y)])), some (.d w), none, some (.d (.tup [.str c, .str a, .str b])), some (.own 0), u5, u6], .lst acc :: g⟩ =
          .nx ⟨[some (.d (.tup [.str "if", .tup [.str c, .str a, .str b], .tup (ens x), .tup (ens y)])), some (.d w), none, some (.d (.tup [.str c, .str a, .str b])), some (.own 0), u5, u6'], .lst (acc ++ ts.map fun t' => Sm.e (.iff t' x y)) :: g⟩ := by
      intro c a b u5 ts
      induction ts with
      | nil => intro g acc u6 _; exact ⟨u6, by simp [forL]⟩
      | cons t' ts ih =>
        intro g acc u6 hl
        simp only [List.length_cons] at hl
        obtain ⟨u6', e⟩ := ih g (acc ++ [Sm.e (.iff t' x y)]) (some (.d t'.e)) (by simp; omega)
        refine ⟨u6', ?_⟩
        have q3 : acc.length < sizeLine := zt (by omega)
        have q4 : (4 : Nat) ≤ sizeLine := zs (by omega)
        simp [Sm.e] at e
        simp [forL, mApp, isL, addF, q3, q4, Sm.e, e]
    cases t with
    | srt =>
      cases bb with
      | true =>
        have hxy : ens x = ens y := fq.mp rfl
        rw [hxy] at ne
        simp [d__law_others, List.replicate, Sm.e, Te.e, Sm.oth, Te.oth, resD, toD, mPar, hxy, ne]
      | false =>
        have hxy : ¬ ens x = ens y := fun e => by simpa using fq.mpr e
        simp at ne
        simp [d__law_others, List.replicate, Sm.e, Te.e, Sm.oth, Te.oth, resD, toD, mPar, hxy, ne, mApp, isL, z0]
    | c k a b =>
      have e1 := ww_te1 W h.1
      have e2 := ww_te2 W h.1
      have q1 : 1 + (ws.filter fun x => !decide (x = a)).length ≤ sizeLine := zs (by have := f fun x => !decide (x = a); omega)
      have q1' : (ws.filter fun x => !decide (x = a)).length + 1 ≤ sizeLine := zs (by have := f fun x => !decide (x = a); omega)
      have q2 : 1 + (ws.filter fun x => !decide (x = a)).length + (ws.filter fun x => !decide (x = b)).length ≤ sizeLine := zs (by have := f fun x => !decide (x = a); have := f fun x => !decide (x = b); omega)
      have q2' : (ws.filter fun x => !decide (x = a)).length + 1 + (ws.filter fun x => !decide (x = b)).length ≤ sizeLine := by rw [Nat.add_comm _ 1]; exact q2
      have q3 : (3 : Nat) ≤ sizeLine := zs (by omega)
      simp only [Te.e] at e1 e2
      have hk : (Te.c (oOp k) a b :: ((ws.filter fun w => !decide (w = a)).map fun w => Te.c k w b)).map Te.e ++ ((ws.filter fun w => !decide (w = b)).map fun w => Te.c k a w).map Te.e = ((Te.c k a b).oth ws).map Te.e := by simp [Te.oth]
      have hk2 : T.tup [.str (oOp k), .str a, .str b] :: (((ws.filter fun w => !decide (w = a)).map fun w => Te.c k w b).map Te.e ++ ((ws.filter fun w => !decide (w = b)).map fun w => Te.c k a w).map Te.e) = ((Te.c k a b).oth ws).map Te.e := by rw [← hk]; rfl
      have ml : ((Te.c k a b).oth ws).length < sizeLine := zt (by omega)
      simp only [List.map_map] at hk2
      obtain ⟨u6, el⟩ := loop k a b (some (.own 3)) ((Te.c k a b).oth ws) [.dk [.inr "less"] [.str "same"], .lst [T.tup [T.str (oOp k), T.str a, T.str b]], .lst (T.tup [T.str (oOp k), T.str a, T.str b] :: (ws.filter fun w => !decide (w = a)).map (Te.e ∘ fun w => Te.c k w b)), .frz (.lst (((Te.c k a b).oth ws).map Te.e))] [] none (by simp; omega)
      cases bb with
      | true =>
        have hxy : ens x = ens y := fq.mp rfl
        rw [hxy] at ne el
        rcases h.1.1 with rfl | rfl
        · simp [oOp] at hk2 el
          simp [d__law_others, List.replicate, Sm.e, Te.e, resD, toD, mPar, mGetK, mDisp, toDs, getKF, keyT, dkGet, e1, e2, opK, pk, addF, q1, q1', q2, q2', q3, seqK, hxy, ne, Sm.oth, itm, hk2, el]
          try rfl
        · simp [oOp] at hk2 el
          simp [d__law_others, List.replicate, Sm.e, Te.e, resD, toD, mPar, mGetK, mDisp, toDs, getKF, keyT, dkGet, e1, e2, opK, pk, addF, q1, q1', q2, q2', q3, seqK, hxy, ne, Sm.oth, itm, hk2, el]
          try rfl
      | false =>
        have hxy : ¬ ens x = ens y := fun e => by simpa using fq.mpr e
        simp at ne
        rcases h.1.1 with rfl | rfl
        · simp [oOp] at hk2 el
          simp [d__law_others, List.replicate, Sm.e, Te.e, resD, toD, mPar, mGetK, mDisp, toDs, getKF, keyT, dkGet, e1, e2, opK, pk, addF, q1, q1', q2, q2', q3, seqK, hxy, ne, Sm.oth, itm, hk2, el, mApp, isL, ml]
          try rfl
        · simp [oOp] at hk2 el
          simp [d__law_others, List.replicate, Sm.e, Te.e, resD, toD, mPar, mGetK, mDisp, toDs, getKF, keyT, dkGet, e1, e2, opK, pk, addF, q1, q1', q2, q2', q3, seqK, hxy, ne, Sm.oth, itm, hk2, el, mApp, isL, ml]
          try rfl
end
end FL
namespace FL
open PySem L2 PyProof.Rows
variable [TabPar]
theorem zb : ∀ {n : Nat}, n ≤ 100000 → n ≤ sizeLine := fun h => Nat.le_trans h (by decide)
theorem zc : ∀ {n : Nat}, n ≤ 100000 → n < sizeLine := fun h => Nat.lt_of_le_of_lt h (by decide)
theorem wdT : Wds g_TERMS TERMs := ⟨rfl, by simp, fun a h => h⟩
theorem wdP : Wds g_PLACES PLACs := ⟨rfl, by simp, place_term⟩
/-- the words of the block in which a statement stands -/
def wsQ (q : List NestedKey × Sm) : List Str := match q.1 with
  | .text nm :: _ => if nm = "block" then TERMs else PLACs
  | _ => PLACs
structure RwOk (q : List NestedKey × Sm) : Prop where
  ex : ∃ nm rest d, q.1 = .text nm :: rest ∧ q.2.ok (wsQ q) d ∧ d ≤ 15
theorem progQ_rw {s : Str} {b l : List Sm} (ok : POk s b l) : ∀ q ∈ progQ b l, RwOk q := by
  intro q hq
  have hb := ok.hb
  have hl := ok.hl
  rcases List.mem_append.mp hq with h | h
  · rw [show (0 : Int) = ((0 : Nat) : Int) from rfl, rowsQ_N] at h
    obtain ⟨r, hr, rfl⟩ := List.mem_map.mp h
    have := rowsN_at b [] r hr
    obtain ⟨_, d', o⟩ := sta_len this 2 hb
    refine ⟨"block", kN r.1, 2, rfl, ?_, by omega⟩
    show r.2.ok (wsQ ([.text "block"] ++ kN r.1, r.2)) 2
    simp only [wsQ, List.cons_append, if_pos]
    exact sm_ok2 this 2 hb
  · rw [show (0 : Int) = ((0 : Nat) : Int) from rfl, rowsQ_N] at h
    obtain ⟨r, hr, rfl⟩ := List.mem_map.mp h
    have := rowsN_at l [] r hr
    refine ⟨"last", kN r.1, 2, rfl, ?_, by omega⟩
    show r.2.ok (wsQ ([.text "last"] ++ kN r.1, r.2)) 2
    have e : ¬ ("last" : Str) = "block" := by simp
    simp only [wsQ, List.cons_append, if_neg e]
    exact sm_ok2 this 2 hl
/-- the changes of one statement -/
noncomputable def chQ (q : List NestedKey × Sm) : List T := (q.2.oth (wsQ q)).map fun s' => .tup [.tup (q.1.map kT), s'.e]
noncomputable def chS (s : Str) : List T := (SORTs.filter fun x => !decide (x = s)).map fun x => .tup [.ktp [.str "sorting"], .str x]
noncomputable def chP (s : Str) (b l : List Sm) : List T := ((progQ b l).map chQ).flatten ++ chS s
theorem chQ_len (q : List NestedKey × Sm) : (chQ q).length ≤ 400 := by
  unfold chQ
  rw [List.length_map]
  refine oth_len ?_ _
  unfold wsQ
  split
  · split <;> simp
  · simp
section
variable (C_Program C_StretchError C_UnknownChange : Addr)
theorem ch_loop {P : T} {u5 : Option U} : ∀ (R : List (List NestedKey × Sm)) (acc : List T) (g : List Ob) (u2 u3 u4 u6 : Option U), (∀ q ∈ R, RwOk q) → acc.length + 400 * R.length ≤ 50000 → ∃ g' u2' u3' u4' u6',
    forL (gT 2 (gsCons (gN 2) (gsCons (gN 3) gsNil))) (mSeq (mSet 4 (mIf (mTOp eqF (mOp ixAF (mVar 2) (mC (.int 0))) (mC (.str "block"))) (mC g_TERMS) (mC g_PLACES))) (mDrop (mExt (mVar 1) (mLc (iSeq (mCall 2 (F_others_for C_Program C_StretchError C_UnknownChange) [false, false] (aCons (mVar 3) (aCons (mVar 4) aNil)))) (gN 6) mYes (mTup (aCons (mVar 2) (aCons (mVar 6) aNil))) [6])))) (R.map fun q => .tup [.tup (q.1.map kT), q.2.e]) ⟨[some (.d P), some (.own 0), u2, u3, u4, u5, u6], .lst acc :: g⟩ =
      .nx ⟨[some (.d P), some (.own 0), u2', u3', u4', u5, u6'], .lst (acc ++ (R.map chQ).flatten) :: g'⟩
  | [], acc, g, u2, u3, u4, u6, _, _ => ⟨g, u2, u3, u4, u6, by simp [forL]⟩
  | q :: R, acc, g, u2, u3, u4, u6, h, hl => by
    simp only [List.length_cons] at hl
    obtain ⟨nm, rest, d, e1, ok, hd⟩ := (h q List.mem_cons_self).ex
    have cl := chQ_len q
    have w : ∃ w, (if nm = "block" then g_TERMS else g_PLACES) = w ∧ Wds w (wsQ q) := by
      refine ⟨_, rfl, ?_⟩
      unfold wsQ
      rw [e1]
      dsimp only
      split
      · exact wdT
      · exact wdP
    obtain ⟨w, ew, W⟩ := w
    have eo := f_others_for C_Program C_StretchError C_UnknownChange W ok hd
    have ol := oth_len W.l q.2
    have l1 : ∀ st, lcL (gN 6) mYes (mTup (aCons (mVar 2) (aCons (mVar 6) aNil))) [6] [some (.d P), some (.own 0), some (.d (.tup (q.1.map kT))), some (.d q.2.e), some (.d w), u5, u6] ((q.2.oth (wsQ q)).map Sm.e) [] st = .ok (chQ q) ⟨[some (.d P), some (.own 0), some (.d (.tup (q.1.map kT))), some (.d q.2.e), some (.d w), u5, u6], st⟩ := fun st =>
      lc_all Sm.e (q.2.oth (wsQ q)) (fun s' _ => ⟨⟨[some (.d P), some (.own 0), some (.d (.tup (q.1.map kT))), some (.d q.2.e), some (.d w), u5, some (.d s'.e)], st⟩, [some (.d P), some (.own 0), some (.d (.tup (q.1.map kT))), some (.d q.2.e), some (.d w), u5, some (.d s'.e)], rfl, by simp⟩) (zs (by omega))
    obtain ⟨g', u2', u3', u4', u6', e⟩ := ch_loop (P := P) (u5 := u5) R (acc ++ chQ q) (g ++ [.lst (chQ q)]) (some (.d (.tup (q.1.map kT)))) (some (.d q.2.e)) (some (.d w)) u6 (fun x hx => h x (List.mem_cons_of_mem _ hx)) (by rw [List.length_append]; omega)
    refine ⟨g', u2', u3', u4', u6', ?_⟩
    have hx : ixAF (.tup (q.1.map kT)) (.int 0) = some (.d (.str nm)) := by rw [e1]; simp [kT]
    have q1 : acc.length + (chQ q).length ≤ sizeLine := zb (by omega)
    simp only [List.append_assoc] at e
    by_cases hb : nm = "block"
    · simp only [hb, if_pos] at ew
      subst ew
      simp [forL, gT, gsCons, gsNil, pk, itm, hx, hb, eo, l1, mExt, isL, q1, e]
    · simp only [hb, if_false] at ew
      subst ew
      simp [forL, gT, gsCons, gsNil, pk, itm, hx, hb, eo, l1, mExt, isL, q1, e]
theorem prog_len {s : Str} {b l : List Sm} (ok : POk s b l) : (progQ b l).length ≤ 16 := by
  have h1 := ok.nb
  have h2 := ok.nl
  rw [rows_block, List.length_map] at h1
  rw [rows_last, List.length_map] at h2
  unfold progQ
  rw [List.length_append]
  omega
theorem flat_len : ∀ (R : List (List NestedKey × Sm)), (R.map chQ).flatten.length ≤ 400 * R.length
  | [] => by simp
  | q :: R => by
    have := flat_len R
    have := chQ_len q
    simp only [List.map_cons, List.flatten_cons, List.length_append, List.length_cons]
    omega
theorem pair_map {α : Type} (f g : α → T) : ∀ l : List α, pairT (l.map f) (l.map g) = l.map fun x => .tup [f x, g x]
  | [] => by simp [pairT]
  | x :: l => by simp [pairT, pair_map f g l]
theorem chS_len (s : Str) : (chS s).length ≤ 5 := by
  unfold chS
  rw [List.length_map]
  exact Nat.le_trans (List.length_filter_le _ _) (by simp)
theorem f_changes {s : Str} {b l : List Sm} (ok : POk s b l) : dataF (F_changes C_Program C_StretchError C_UnknownChange) [progT C_Program s b l] = some (.lst (chP s b l)) := by
  have pl := prog_len ok
  obtain ⟨g', u2', u3', u4', u6', e⟩ := ch_loop C_Program C_StretchError C_UnknownChange (P := progT C_Program s b l) (u5 := none) (progQ b l) [] [] none none none none (progQ_rw ok) (by simp; omega)
  have fl := flat_len (progQ b l)
  have sl := chS_len s
  have l2 : ∀ (st : List Ob), lcL (gN 5) (mTOp neF (mVar 5) (mFld C_Program "order" (mVar 0))) (mTup (aCons (mC g_SORTING) (aCons (mVar 5) aNil))) [5] [some (.d (progT C_Program s b l)), some (.own 0), u2', u3', u4', none, u6'] (SORTs.map .str) [] st = .ok (chS s) ⟨[some (.d (progT C_Program s b l)), some (.own 0), u2', u3', u4', none, u6'], st⟩ := fun st =>
    lc_enc T.str SORTs [] (fun x _ => ⟨⟨[some (.d (progT C_Program s b l)), some (.own 0), u2', u3', u4', some (.d (.str x)), u6'], st⟩, ⟨[some (.d (progT C_Program s b l)), some (.own 0), u2', u3', u4', some (.d (.str x)), u6'], st⟩, rfl, by simp [mFld, progT, insOf, fAt], fun _ => ⟨[some (.d (progT C_Program s b l)), some (.own 0), u2', u3', u4', some (.d (.str x)), u6'], by simp [g_SORTING]⟩, fun _ => rfl⟩) (zs (by simp))
  have hS : seqK (.d g_SORTINGS) = .ok (SORTs.map .str) := funext fun ρ => seqK_d rfl
  unfold F_changes
  rw [dataF_run]
  have q1 : ((progQ b l).map chQ).flatten.length + (chS s).length ≤ sizeLine := zb (by omega)
  have hi : iItD (mFld C_Program "rows" (mVar 0)) ⟨[some (.d (progT C_Program s b l)), some (.own 0), none, none, none, none, none], [.lst []]⟩ = .ok ((progQ b l).map fun q => .tup [.tup (q.1.map kT), q.2.e]) ⟨[some (.d (progT C_Program s b l)), some (.own 0), none, none, none, none, none], [.lst []]⟩ := by
    simp [iItD, mFld, progT, insOf, fAt, pair_map]
  simp only [List.nil_append] at e
  simp only [SORTs, List.map_cons, List.map_nil] at l2
  unfold chP
  generalize ((progQ b l).map chQ).flatten = L at e q1 ⊢
  simp [d_changes, List.replicate, hi, e, hS, l2, opK, pk, addF, q1, resD, toD]
end
end FL
namespace FL
open PySem L2 PyProof.Rows
variable [TabPar]
theorem ens_get : ∀ {l : List Sm} {i : Nat} {s : Sm}, l[i]? = some s → (ens l)[i]? = some s.e
  | [], i, s, e => by simp at e
  | a :: l, 0, s, e => by simp at e; subst e; simp [ens]
  | a :: l, i + 1, s, e => by simpa [ens] using ens_get (l := l) (i := i) (by simpa using e)
theorem ens_set {s' : Sm} : ∀ {l : List Sm} {i : Nat}, i < l.length → (ens l).take i ++ (s'.e :: (ens l).drop (i + 1)) = ens (l.set i s')
  | [], i, h => by simp at h
  | a :: l, 0, h => by simp [ens]
  | a :: l, i + 1, h => by
    have := ens_set (s' := s') (l := l) (i := i) (by simpa using h)
    simp [ens, this]
theorem cnts_get : ∀ {l : List Sm} {i : Nat} {s : Sm}, l[i]? = some s → cnt s ≤ cnts l
  | [], i, s, e => by simp at e
  | a :: l, 0, s, e => by simp at e; subst e; simp only [cnts]; omega
  | a :: l, i + 1, s, e => by
    have := cnts_get (l := l) (i := i) (by simpa using e)
    simp only [cnts]; omega
theorem atN {ts : List T} {i : Nat} {t : T} (h : ts[i]? = some t) : atI ts (i : Int) = some t := by
  have hi : i < ts.length := by
    rcases Nat.lt_or_ge i ts.length with h1 | h1
    · exact h1
    · rw [List.getElem?_eq_none h1] at h; cases h
  have : (i : Int) < (ts.length : Int) := by omega
  simp [atI, ixN, this, h]
abbrev pN (p : List Nat) : List T := p.map fun n : Nat => T.int (n : Int)
section
variable (C_Program C_StretchError C_UnknownChange : Addr)
theorem f_replaced {s s' : Sm} {l : List Sm} {p : List Nat} (h : StA l p s) : ∀ n, p.length < 2 * n → cnts l ≤ 500 → dataF (F_replaced C_Program C_StretchError C_UnknownChange n) [.tup (ens l), .tup (pN p), s'.e] = some (.tup (ens (repl s' p l))) := by
  have fin : ∀ {l : List Sm} {i : Nat} {s : Sm} (t : T) (s2 : Sm) (u1 u2 u5 u6 : Option U) (st : List Ob), l[i]? = some s → cnts l ≤ 500 → t = s2.e →
      resD (mRet (mOp addF (mOp addF (mSl (mVar 0) mPN (mPS (mVar 3))) (mTup (aCons (mVar 4) aNil))) (mSl (mVar 0) (mPS (mOp addF (mVar 3) (mC (.int 1)))) mPN)) ⟨[some (.d (.tup (ens l))), u1, u2, some (.d (.int (i : Int))), some (.d t), u5, u6], st⟩) = some (.tup (ens (l.set i s2))) := by
    intro l i s t s2 u1 u2 u5 u6 st e hc ht
    subst ht
    have hi : i < l.length := by
      rcases Nat.lt_or_ge i l.length with h1 | h1
      · exact h1
      · rw [List.getElem?_eq_none h1] at e; cases e
    have hl := len_cnts l
    have h1 : slF (.tup (ens l)) none (some (i : Int)) = some (.d (.tup ((ens l).take i))) := sl0
    have h2 : slF (.tup (ens l)) (some ((i : Int) + 1)) none = some (.d (.tup ((ens l).drop (i + 1)))) := sl9 (by rw [ens_len]; omega)
    have hn := ens_len l
    have q1 : ((ens l).take i).length + 1 ≤ sizeLine := zs (by rw [List.length_take]; omega)
    have q2 : ((ens l).take i).length + 1 + ((ens l).drop (i + 1)).length ≤ sizeLine := zs (by rw [List.length_take, List.length_drop]; omega)
    have es := ens_set (s' := s2) hi
    generalize (ens l).take i = A at h1 q1 q2 es
    generalize (ens l).drop (i + 1) = B at h2 q2 es
    have q3 : A.length + (B.length + 1) ≤ sizeLine := by omega
    simp [h1, h2, addF, q1, q2, q3, es]
  induction h with
  | @here l i s e =>
    intro n hn hc
    cases n with
    | zero => simp at hn
    | succ n =>
      unfold F_replaced
      rw [dataF_run]
      have := fin s'.e s' (some (.d (.tup (pN [i])))) (some (.d s'.e)) none none [] e hc rfl
      simp only [List.map] at this
      simp only [repl]
      rw [← this]
      simp [d_replaced, List.replicate, caK, pks, pk, lenF, itm, iiF]
  | @x l i t x y p s e h ih =>
    intro n hn hc
    cases n with
    | zero => simp at hn
    | succ n =>
      have cg := cnts_get e
      simp only [cnt] at cg
      have hr := ih n (by simp only [List.length_cons] at hn; omega) (by omega)
      have hp : 1 ≤ p.length := by have := h.ne; cases p with | nil => exact absurd rfl this | cons a p => simp
      have hx : ixAF (.tup (ens l)) (.int (i : Int)) = some (.d (Sm.iff t x y).e) := ixA_tup (atN (ens_get e))
      have s1 : slF (.tup (T.int (i : Int) :: T.int 0 :: pN p)) (some 2) none = some (.d (.tup (pN p))) := sl_tup2
      have s2 : slF (Sm.iff t x y).e none (some 2) = some (.d (.tup [.str "if", t.e])) := sl0 (n := 2)
      have s3 : slF (Sm.iff t x y).e (some 3) none = some (.d (.tup [.tup (ens y)])) := sl9 (n := 3) (by simp)
      have hi : ixAF (Sm.iff t x y).e (.int 2) = some (.d (.tup (ens x))) := by simp [Sm.e]
      unfold F_replaced
      rw [dataF_run]
      have := fin (Sm.iff t (repl s' p x) y).e (Sm.iff t (repl s' p x) y) (some (.d (.tup (T.int (i : Int) :: T.int 0 :: pN p)))) (some (.d s'.e)) (some (.d (Sm.iff t x y).e)) (some (.d (.int 2))) [] e hc rfl
      simp only [repl, e, if_pos]
      rw [← this]
      have hl2 : (1 : Int) < (p.length : Int) + 1 + 1 := by omega
      have q3 : (3 : Nat) ≤ sizeLine := zs (by omega)
      have q4 : (4 : Nat) ≤ sizeLine := zs (by omega)
      simp only [Sm.e] at s2 s3 hi hx
      simp [d_replaced, List.replicate, caK, pks, pk, lenF, itm, iiF, hx, hl2, s1, s2, s3, hr, addF, q3, q4, Sm.e]
  | @y l i t x y p s e h ih =>
    intro n hn hc
    cases n with
    | zero => simp at hn
    | succ n =>
      have cg := cnts_get e
      simp only [cnt] at cg
      have hr := ih n (by simp only [List.length_cons] at hn; omega) (by omega)
      have hp : 1 ≤ p.length := by have := h.ne; cases p with | nil => exact absurd rfl this | cons a p => simp
      have hx : ixAF (.tup (ens l)) (.int (i : Int)) = some (.d (Sm.iff t x y).e) := ixA_tup (atN (ens_get e))
      have s1 : slF (.tup (T.int (i : Int) :: T.int 1 :: pN p)) (some 2) none = some (.d (.tup (pN p))) := sl_tup2
      have s2 : slF (Sm.iff t x y).e none (some 3) = some (.d (.tup [.str "if", t.e, .tup (ens x)])) := sl0 (n := 3)
      have s3 : slF (Sm.iff t x y).e (some 4) none = some (.d (.tup [])) := sl9 (n := 4) (by simp)
      have hi : ixAF (Sm.iff t x y).e (.int 3) = some (.d (.tup (ens y))) := by simp [Sm.e]
      unfold F_replaced
      rw [dataF_run]
      have := fin (Sm.iff t x (repl s' p y)).e (Sm.iff t x (repl s' p y)) (some (.d (.tup (T.int (i : Int) :: T.int 1 :: pN p)))) (some (.d s'.e)) (some (.d (Sm.iff t x y).e)) (some (.d (.int 3))) [] e hc rfl
      simp only [repl, e, Nat.one_ne_zero, if_false]
      rw [← this]
      have hl2 : (1 : Int) < (p.length : Int) + 1 + 1 := by omega
      have q3 : (3 : Nat) ≤ sizeLine := zs (by omega)
      have q4 : (4 : Nat) ≤ sizeLine := zs (by omega)
      simp only [Sm.e] at s2 s3 hi hx
      simp [d_replaced, List.replicate, caK, pks, pk, lenF, itm, iiF, hx, hl2, s1, s2, s3, hr, addF, q3, q4, Sm.e]
end
end FL
namespace FL
open PySem L2 PyProof.Rows
variable [TabPar]
theorem put_run {l : List Sm} {i : Nat} {s s2 : Sm} {u1 u2 : Option U} {rest : List (Option U)} {st : List Ob} (e : l[i]? = some s) (hc : cnts l ≤ 500) :
    resD (mRet (mOp addF (mOp addF (mSl (mVar 0) mPN (mPS (mVar 3))) (mTup (aCons (mVar 4) aNil))) (mSl (mVar 0) (mPS (mOp addF (mVar 3) (mC (.int 1)))) mPN)) ⟨some (.d (.tup (ens l))) :: u1 :: u2 :: some (.d (.int (i : Int))) :: some (.d s2.e) :: rest, st⟩) = some (.tup (ens (l.set i s2))) := by
  have hi : i < l.length := by
    rcases Nat.lt_or_ge i l.length with h1 | h1
    · exact h1
    · rw [List.getElem?_eq_none h1] at e; cases e
  have hl := len_cnts l
  have h1 : slF (.tup (ens l)) none (some (i : Int)) = some (.d (.tup ((ens l).take i))) := sl0
  have h2 : slF (.tup (ens l)) (some ((i : Int) + 1)) none = some (.d (.tup ((ens l).drop (i + 1)))) := sl9 (by rw [ens_len]; omega)
  have hn := ens_len l
  have q1 : ((ens l).take i).length + 1 ≤ sizeLine := zs (by rw [List.length_take]; omega)
  have q2 : ((ens l).take i).length + 1 + ((ens l).drop (i + 1)).length ≤ sizeLine := zs (by rw [List.length_take, List.length_drop]; omega)
  have es := ens_set (s' := s2) hi
  generalize (ens l).take i = A at h1 q1 q2 es
  generalize (ens l).drop (i + 1) = B at h2 q2 es
  have q3 : A.length + (B.length + 1) ≤ sizeLine := by omega
  simp [h1, h2, addF, q1, q2, q3, es]
section
variable (C_Program C_StretchError C_UnknownChange : Addr)
theorem f_lwith {s s' : Sm} {l : List Sm} {p : List Nat} (h : StA l p s) : ∀ n, p.length < 2 * n → cnts l ≤ 500 → dataF (F__law_with C_Program C_StretchError C_UnknownChange n) [.tup (ens l), .tup (pN p), s'.e] = some (.tup (ens (repl s' p l))) := by
  induction h with
  | @here l i s e =>
    intro n hn hc
    cases n with
    | zero => simp at hn
    | succ n =>
      unfold F__law_with
      rw [dataF_run]
      simp only [repl]
      rw [← put_run (u1 := some (.d (.tup (pN [i])))) (u2 := some (.d s'.e)) (rest := [none]) (st := []) e hc]
      simp [d__law_with, List.replicate, mPar, caK, pks, pk, lenF, itm, iiF]
  | @x l i t x y p s e h ih =>
    intro n hn hc
    cases n with
    | zero => simp at hn
    | succ n =>
      have cg := cnts_get e
      simp only [cnt] at cg
      have hr := ih n (by simp only [List.length_cons] at hn; omega) (by omega)
      have hp : 1 ≤ p.length := by have := h.ne; cases p with | nil => exact absurd rfl this | cons a p => simp
      have hx : ixAF (.tup (ens l)) (.int (i : Int)) = some (.d (Sm.iff t x y).e) := ixA_tup (atN (ens_get e))
      have s1 : slF (.tup (T.int (i : Int) :: T.int 0 :: pN p)) (some 2) none = some (.d (.tup (pN p))) := sl_tup2
      have hl2 : (1 : Int) < (p.length : Int) + 1 + 1 := by omega
      unfold F__law_with
      rw [dataF_run]
      simp only [repl, e, if_pos]
      rw [← put_run (s2 := Sm.iff t (repl s' p x) y) (u1 := some (.d (.tup (T.int (i : Int) :: T.int 0 :: pN p)))) (u2 := some (.d s'.e)) (rest := [some (.own 0)]) (st := [.lst [.str "if", t.e, .tup (ens (repl s' p x)), .tup (ens y)]]) e hc]
      have q4 : (4 : Nat) ≤ sizeLine := zs (by omega)
      simp only [Sm.e] at hx
      have i4 : ixN 4 2 = some 2 := by simp [ixN]
      simp [d__law_with, List.replicate, mPar, mAsg, gIx, caK, pks, pk, opK, lenF, listF, tupleF, addF, itm, iiF, hx, hl2, s1, hr, q4, i4, Sm.e]
  | @y l i t x y p s e h ih =>
    intro n hn hc
    cases n with
    | zero => simp at hn
    | succ n =>
      have cg := cnts_get e
      simp only [cnt] at cg
      have hr := ih n (by simp only [List.length_cons] at hn; omega) (by omega)
      have hp : 1 ≤ p.length := by have := h.ne; cases p with | nil => exact absurd rfl this | cons a p => simp
      have hx : ixAF (.tup (ens l)) (.int (i : Int)) = some (.d (Sm.iff t x y).e) := ixA_tup (atN (ens_get e))
      have s1 : slF (.tup (T.int (i : Int) :: T.int 1 :: pN p)) (some 2) none = some (.d (.tup (pN p))) := sl_tup2
      have hl2 : (1 : Int) < (p.length : Int) + 1 + 1 := by omega
      unfold F__law_with
      rw [dataF_run]
      simp only [repl, e, Nat.one_ne_zero, if_false]
      rw [← put_run (s2 := Sm.iff t x (repl s' p y)) (u1 := some (.d (.tup (T.int (i : Int) :: T.int 1 :: pN p)))) (u2 := some (.d s'.e)) (rest := [some (.own 0)]) (st := [.lst [.str "if", t.e, .tup (ens x), .tup (ens (repl s' p y))]]) e hc]
      have q4 : (4 : Nat) ≤ sizeLine := zs (by omega)
      simp only [Sm.e] at hx
      have i4 : ixN 4 3 = some 3 := by simp [ixN]
      simp [d__law_with, List.replicate, mPar, mAsg, gIx, caK, pks, pk, opK, lenF, listF, tupleF, addF, itm, iiF, hx, hl2, s1, hr, q4, i4, Sm.e]
/-- a program made of its parts -/
theorem new_prog {s : Str} {b l : List Sm} (ok : POk s b l) (ρ : Sg) : newK C_Program 4 (F_Program_init C_Program C_StretchError C_UnknownChange) [false, false, false] [.d (.str s), .d (.tup (ens b)), .d (.tup (ens l))] ρ =
    .ok (.own ρ.st.length) ⟨ρ.sl, ρ.st ++ [.obj C_Program ["order", "body", "ending", "rows", "words"] (([.str s, .tup (ens b), .tup (ens l), .dt ((progQ b l).map fun q => .tup (q.1.map kT)) ((progQ b l).map fun q => q.2.e), .lst ((progQ b l).map fun q => q.2.ws).flatten] : List T).map U.d)]⟩ := by
  obtain ⟨sl, e⟩ := f_init C_Program C_StretchError C_UnknownChange ok
  exact newK_data (C := C_Program) (n := 4) (cs := [false, false, false]) (ρ := ρ) (ts := [.str s, .tup (ens b), .tup (ens l)]) e (by simp [refO, refU]) rfl
theorem f_with {s s' : Str} {b l : List Sm} (ok : POk s' b l) : dataF (F_Program_with_sorting C_Program C_StretchError C_UnknownChange) [progT C_Program s b l, .str s'] = some (progT C_Program s' b l) := by
  unfold F_Program_with_sorting
  rw [dataF_run]
  simp [d_Program_with_sorting, List.replicate, ev_new, mFld, progT, insOf, fAt]
  rw [new_prog C_Program C_StretchError C_UnknownChange ok]
  simp [resD, toD, toDs, progT]
theorem f_with_b {s : Str} {b l : List Sm} {p : List Nat} {st s' : Sm} (h : StA b p st) (hp : p.length ≤ 10) (hc : cnts b ≤ 500) (ok : POk s (repl s' p b) l) : dataF (F_with_statement C_Program C_StretchError C_UnknownChange) [progT C_Program s b l, .tup (.str "block" :: pN p), s'.e] = some (progT C_Program s (repl s' p b) l) := by
  have hr := f_replaced C_Program C_StretchError C_UnknownChange (s' := s') h 8 (by omega) hc
  have s1 : slF (.tup (.str "block" :: pN p)) (some 1) none = some (.d (.tup (pN p))) := sl_tup1
  have hn := new_prog C_Program C_StretchError C_UnknownChange ok
  unfold F_with_statement
  rw [dataF_run]
  generalize pN p = P at hr s1
  simp [d_with_statement, List.replicate, ev_new, mFld, progT, insOf, fAt, s1, hr]
  rw [hn]
  simp [resD, toD, toDs, progT]
theorem f_with_l {s : Str} {b l : List Sm} {p : List Nat} {st s' : Sm} (h : StA l p st) (hp : p.length ≤ 10) (hc : cnts l ≤ 500) (ok : POk s b (repl s' p l)) : dataF (F_with_statement C_Program C_StretchError C_UnknownChange) [progT C_Program s b l, .tup (.str "last" :: pN p), s'.e] = some (progT C_Program s b (repl s' p l)) := by
  have hr := f_replaced C_Program C_StretchError C_UnknownChange (s' := s') h 8 (by omega) hc
  have s1 : slF (.tup (.str "last" :: pN p)) (some 1) none = some (.d (.tup (pN p))) := sl_tup1
  have hn := new_prog C_Program C_StretchError C_UnknownChange ok
  unfold F_with_statement
  rw [dataF_run]
  generalize pN p = P at hr s1
  simp [d_with_statement, List.replicate, ev_new, mFld, progT, insOf, fAt, s1, hr]
  rw [hn]
  simp [resD, toD, toDs, progT]
end
theorem repl_b {s : Str} {b l : List Sm} {p : List Nat} {st s' : Sm} (ok : POk s b l) (h : StA b p st) (o : s' ∈ st.oth TERMs) : POk s (repl s' p b) l :=
  ⟨ok.hs, repl_ok h (oth_ok o) 2 ok.hb, ok.hl, by rw [rowsL_cnt, repl_cnts h (oth_cnt o), ← rowsL_cnt b [.str "block"] 0]; exact ok.nb, ok.nl⟩
theorem repl_l {s : Str} {b l : List Sm} {p : List Nat} {st s' : Sm} (ok : POk s b l) (h : StA l p st) (o : s' ∈ st.oth PLACs) : POk s b (repl s' p l) :=
  ⟨ok.hs, ok.hb, repl_ok h (oth_ok o) 2 ok.hl, ok.nb, by rw [rowsL_cnt, repl_cnts h (oth_cnt o), ← rowsL_cnt l [.str "last"] 0]; exact ok.nl⟩
end FL
namespace FL
open PySem L2 PyProof.Rows
variable [TabPar]
mutual
def wtT : T → Nat
  | .tup ts => wtTs ts + 4
  | _ => 30
def wtTs : List T → Nat
  | [] => 0
  | t :: ts => wtT t + 2 + wtTs ts
end
mutual
/-- data of small numbers and short texts -/
def shT : T → Bool
  | .non => true
  | .int i => decide (0 ≤ i) && decide (i ≤ 1000)
  | .str x => PyData.strOk x && decide ((reprText x).length ≤ 30)
  | .tup ts => shTs ts
  | _ => false
def shTs : List T → Bool
  | [] => true
  | t :: ts => shT t && shTs ts
end
theorem int_short : ∀ n : Fin 1001, ((toString (((n : Nat) : Int)) : String) : Str).length ≤ 30 := by decide +kernel
theorem nat_log : ∀ n : Nat, n ≤ 1000 → n.log2 < 1920 := fun n h => by
  have : n.log2 ≤ n := Nat.log2_le_self n
  omega
theorem tt_len (ts : List Str) : (tupleText ts).length ≤ piled ts + 4 := by
  unfold tupleText
  rw [strLen_append, strLen_append]
  have h2 : ((if ts.length == 1 then ",)" else ")" : String) : Str).length ≤ 2 := by split <;> decide
  have h1 : (("(" : String) : Str).length = 1 := rfl
  cases ts with
  | nil =>
    have : (Str.join ", " ([] : List Str)).length = 0 := rfl
    simp only [piled_nil]; omega
  | cons a r =>
    have := join_length_add (a :: r) (by simp)
    omega
mutual
theorem sh_py : ∀ t : T, shT t = true → plT t = true ∧ ∀ d, t.py = some d → d.showable = true ∧ d.shown.length ≤ wtT t
  | .non, _ => ⟨rfl, fun d e => by
    simp only [T.py, Option.some.injEq] at e; subst e
    exact ⟨by simp [PyData.showable], by simp only [PyData.shown, wtT]; decide⟩⟩
  | .int i, h => ⟨by simp [plT], fun d e => by
    simp only [shT, Bool.and_eq_true, decide_eq_true_eq] at h
    simp only [T.py, Option.some.injEq] at e; subst e
    obtain ⟨n, rfl⟩ := Int.eq_ofNat_of_zero_le h.1
    refine ⟨by simp only [PyData.showable, decide_eq_true_eq]; exact nat_log _ (by omega), ?_⟩
    simp only [PyData.shown, wtT]
    exact int_short ⟨n, by omega⟩⟩
  | .str x, h => by
    simp only [shT, Bool.and_eq_true, decide_eq_true_eq] at h
    refine ⟨by simpa [plT] using h.1, fun d e => ?_⟩
    simp only [T.py, Option.some.injEq] at e; subst e
    exact ⟨by simp [PyData.showable], by simpa only [PyData.shown, wtT] using h.2⟩
  | .tup ts, h => by
    obtain ⟨h1, h2⟩ := shs_py ts (by simpa [shT] using h)
    refine ⟨by simpa [plT] using h1, fun d e => ?_⟩
    simp only [T.py, Option.map_eq_some_iff] at e
    obtain ⟨ds, e, rfl⟩ := e
    obtain ⟨g1, g2⟩ := h2 ds e
    refine ⟨by simpa [PyData.showable] using g1, ?_⟩
    simp only [PyData.shown, wtT]
    have := tt_len (PyData.shownAll ds)
    omega
  | .bl _, h => by simp [shT] at h
  | .ktp _, h => by simp [shT] at h
  | .lst _, h => by simp [shT] at h
  | .frl _, h => by simp [shT] at h
  | .dk _ _, h => by simp [shT] at h
  | .dt _ _, h => by simp [shT] at h
  | .dn _ _ _, h => by simp [shT] at h
  | .obj _ _ _, h => by simp [shT] at h
theorem shs_py : ∀ ts : List T, shTs ts = true → plTs ts = true ∧ ∀ ds, T.pys ts = some ds → PyData.showableAll ds = true ∧ piled (PyData.shownAll ds) ≤ wtTs ts
  | [], _ => ⟨rfl, fun ds e => by
    simp only [T.pys, Option.some.injEq] at e; subst e
    exact ⟨by simp [PyData.showableAll], by simp [PyData.shownAll, piled, wtTs]⟩⟩
  | t :: ts, h => by
    simp only [shTs, Bool.and_eq_true] at h
    obtain ⟨a1, a2⟩ := sh_py t h.1
    obtain ⟨b1, b2⟩ := shs_py ts h.2
    refine ⟨by simp [plTs, a1, b1], fun ds e => ?_⟩
    simp only [T.pys] at e
    split at e
    · rename_i d ds' e1 e2
      simp only [Option.some.injEq] at e; subst e
      obtain ⟨c1, c2⟩ := a2 d e1
      obtain ⟨d1, d2⟩ := b2 ds' e2
      refine ⟨by simp [PyData.showableAll, c1, d1], ?_⟩
      simp only [PyData.shownAll, piled_cons, wtTs]
      omega
    · cases e
end
/-- what str tells -/
structure Shd (t : T) : Prop where
  sh : shT t = true
  dp : dpT t ≤ 50
  wt : wtT t ≤ 10000000
theorem Shd.pd {t : T} (h : Shd t) : Pdt t := ⟨(sh_py t h.sh).1, by have := h.dp; omega⟩
theorem Shd.ok {t : T} (h : Shd t) {d : PyData} (e : t.py = some d) : ShwOk d := by
  obtain ⟨h1, h2⟩ := sh_py t h.sh
  obtain ⟨d', e1, e2, e3⟩ := plT_py t h1
  rw [e] at e1
  simp only [Option.some.injEq] at e1
  subst e1
  obtain ⟨g1, g2⟩ := h2 d e
  exact ⟨g1, PyData.hasDict_of_canLay d e2, by have := h.dp; omega, by
    have : wtT t ≤ 10000000 := h.wt
    have hz : (10000000 : Nat) ≤ sizeLine := by decide
    omega⟩
/-- a change with its path as a tuple of its own -/
def deK : T → T
  | .tup [.ktp p, x] => .tup [.tup p, x]
  | t => t
theorem deK_py (t : T) : (deK t).py = t.py := by
  unfold deK
  split
  · simp [T.py, T.pys]
  · rfl
def isTup : T → Bool
  | .tup _ => true
  | _ => false
theorem deK_tup {t : T} (h : isTup t = true) : isTup (deK t) = true := by
  unfold deK; split <;> first | rfl | exact h
theorem eq_py {a b c : T} (ha : isTup a = true) (hb : isTup b = true) (hc : isTup c = true) (e : a.py = b.py) : eqF a c = eqF b c := by
  cases a <;> simp only [isTup, Bool.false_eq_true] at ha
  cases b <;> simp only [isTup, Bool.false_eq_true] at hb
  cases c <;> simp only [isTup, Bool.false_eq_true] at hc
  unfold eqF eqB
  simp only [scT]
  rw [e]
theorem str_py {a b : T} (ha : isTup a = true) (e : a.py = b.py) (h : Shd b) : ∃ x, strF [a] = some (.d (.str x)) ∧ ∀ c, isTup c = true → c.py = a.py → strF [c] = some (.d (.str x)) := by
  obtain ⟨d, e1, _⟩ := h.pd.py
  have go : ∀ c, isTup c = true → c.py = some d → strF [c] = some (.d (.str d.shown)) := by
    intro c hc e2
    cases c <;> simp only [isTup, Bool.false_eq_true] at hc
    unfold strF
    simp only [e2]
    rw [if_pos (h.ok e1)]
  exact ⟨d.shown, go a ha (e.trans e1), fun c hc e2 => go c hc (e2.trans (e.trans e1))⟩
/-- the changes that are walked -/
structure Chd (o : T) : Prop where
  t : isTup o = true
  h : Shd (deK o)
section
variable {FD : Fn} {P c : T}
noncomputable abbrev chgB (FD : Fn) : DS := (mIfS (mAndT (mTest (mIsi "tuple" (mVar 1))) (mAndT (mTOp eqF (mCa strF (aCons (mVar 2) aNil)) (mCa strF (aCons (mVar 1) aNil))) (mTOp eqF (mVar 2) (mVar 1)))) (mRet (mCall 2 FD [false, false] (aCons (mVar 0) (aCons (mVar 2) aNil)))) mNx)
theorem isi_tupT (hc : isTup c = true) {ρ : Sg} : isiK "tuple" (.d c) ρ = .ok (.d (.bl true)) ρ := by
  cases c <;> simp only [isTup, Bool.false_eq_true] at hc
  exact isi_tup_tup
theorem chg_no {g : List Ob} (hc : isTup c = true) (sc : Shd c) {o : T} (ho : Chd o) (hne : deK o ≠ c) {u2 : Option U} : chgB FD ⟨[some (.d P), some (.d c), some (.d o)], g⟩ = .nx ⟨[some (.d P), some (.d c), some (.d o)], g⟩ := by
  obtain ⟨x, e1, _⟩ := str_py ho.t (deK_py o).symm ho.h
  obtain ⟨y, e2, _⟩ := str_py hc rfl sc
  have e3 : eqF o c = some (.d (.bl false)) := by
    rw [eq_py ho.t (deK_tup ho.t) hc (deK_py o).symm]
    exact (ne_of ho.h.pd sc.pd (q := false) (by simp [hne])).2
  by_cases hxy : x = y
  · simp [isi_tupT hc, e1, e2, opK, pk, e3, hxy]
  · simp [isi_tupT hc, e1, e2, opK, pk, hxy]
theorem chg_yes {g : List Ob} (hc : isTup c = true) (sc : Shd c) {o R : T} (ho : Chd o) (he : deK o = c) (hF : dataF FD [P, o] = some R) : chgB FD ⟨[some (.d P), some (.d c), some (.d o)], g⟩ = .rt (.d R) ⟨[some (.d P), some (.d c), some (.d o)], g⟩ := by
  obtain ⟨x, e1, f⟩ := str_py ho.t (deK_py o).symm ho.h
  have e2 : strF [c] = some (.d (.str x)) := f c hc (by rw [← he, deK_py])
  have e3 : eqF o c = some (.d (.bl true)) := by
    rw [eq_py ho.t (deK_tup ho.t) hc (deK_py o).symm]
    exact (ne_of ho.h.pd sc.pd (q := true) (by simp [he])).2
  simp [isi_tupT hc, e1, e2, opK, pk, e3, hF]
theorem chg_nos {g : List Ob} (hc : isTup c = true) (sc : Shd c) : ∀ (L : List T) (u2 : Option U), (∀ o ∈ L, Chd o ∧ deK o ≠ c) → ∃ u2', forL (gN 2) (chgB FD) L ⟨[some (.d P), some (.d c), u2], g⟩ = .nx ⟨[some (.d P), some (.d c), u2'], g⟩
  | [], u2, _ => ⟨u2, rfl⟩
  | o :: L, u2, h => by
    obtain ⟨u2', e⟩ := chg_nos hc sc L (some (.d o)) fun x hx => h x (List.mem_cons_of_mem _ hx)
    obtain ⟨h1, h2⟩ := h o List.mem_cons_self
    refine ⟨u2', ?_⟩
    simp only [forL, ev_gN, List.set]
    rw [chg_no hc sc h1 h2 (u2 := u2)]
    exact e
theorem chg_one {g : List Ob} (hc : isTup c = true) (sc : Shd c) {R : T} : ∀ (L : List T) (u2 : Option U), (∀ o ∈ L, Chd o) → (∃ o ∈ L, deK o = c) → (∀ o ∈ L, deK o = c → dataF FD [P, o] = some R) → ∃ ρ, forL (gN 2) (chgB FD) L ⟨[some (.d P), some (.d c), u2], g⟩ = .rt (.d R) ρ ∧ ρ.st = g
  | [], u2, _, h, _ => by obtain ⟨o, ho, _⟩ := h; simp at ho
  | o :: L, u2, h, hx, hF => by
    have h1 := h o List.mem_cons_self
    by_cases he : deK o = c
    · refine ⟨⟨[some (.d P), some (.d c), some (.d o)], g⟩, ?_, rfl⟩
      simp only [forL, ev_gN, List.set]
      rw [chg_yes hc sc h1 he (hF o List.mem_cons_self he)]
    · obtain ⟨o', ho', e'⟩ := hx
      have : o' ∈ L := by
        rcases List.mem_cons.mp ho' with rfl | h
        · exact absurd e' he
        · exact h
      obtain ⟨ρ, e, e2⟩ := chg_one hc sc L (some (.d o)) (fun x hx => h x (List.mem_cons_of_mem _ hx)) ⟨o', this, e'⟩ fun x hx => hF x (List.mem_cons_of_mem _ hx)
      refine ⟨ρ, ?_, e2⟩
      simp only [forL, ev_gN, List.set]
      rw [chg_no hc sc h1 he (u2 := u2)]
      exact e
/-- what is no tuple -/
def notTup : T → Bool
  | .non => true | .str _ => true | .lst _ => true | _ => false
theorem chg_odd {g : List Ob} (hc : notTup c = true) : ∀ (L : List T) (u2 : Option U), ∃ u2', forL (gN 2) (chgB FD) L ⟨[some (.d P), some (.d c), u2], g⟩ = .nx ⟨[some (.d P), some (.d c), u2'], g⟩
  | [], u2 => ⟨u2, rfl⟩
  | o :: L, u2 => by
    obtain ⟨u2', e⟩ := chg_odd hc L (some (.d o)) (g := g)
    refine ⟨u2', ?_⟩
    have hi : ∀ ρ, isiK "tuple" (.d c) ρ = .ok (.d (.bl false)) ρ := fun ρ => by
      have i0 : isiB "tuple" .non = some false := by decide +kernel
      have i1 : isiB "tuple" .str = some false := by decide +kernel
      have i2 : isiB "tuple" .lst = some false := by decide +kernel
      cases c <;> simp only [notTup, Bool.false_eq_true] at hc <;> simp [isiK, pk, isDt, T.kd, i0, i1, i2]
    simp only [forL, ev_gN, List.set]
    simp [hi]
    exact e
end
end FL
namespace FL
open PySem L2 PyProof.Rows
variable [TabPar]
theorem reach_nil {st : List Ob} : ∀ n, reach st n [] = []
  | 0 => rfl
  | n + 1 => by simp [reach, reach_nil n]
theorem toD_data (n : Nat) (t : T) (st : List Ob) : toD n (.d t) st = some (t, st) := by cases n <;> rfl
section
variable {C : Addr} {m : Str} {n : Nat} {F : Fn} {cs : List Bool} {mo : DE} {da : DA} {ρ : Sg} {ns : List Str} {os ts : List T} {t : T} {x : Xn} {sl' : List (Option U)} {st' : List Ob}
theorem methD_ok (ho : mo ρ = .ok (.d (.obj C ns os)) ρ) (hm : m ∉ ns) (hd : da ρ = .ok (ts.map .d) ρ) (hn : ts.length + 1 = n) (hF : dataF F (T.obj C ns os :: ts) = some t) : mMeth C m n F cs mo da ρ = .ok (.d t) ρ := by
  have e : argC cs (.d (.obj C ns os) :: ts.map .d) ρ.st = some ((T.obj C ns os :: ts).map .d, ρ.st) := argC_data cs (T.obj C ns os :: ts) ρ.st
  have hc := callR_data (ρ := ρ) hF
  simp only [List.map_cons] at hc e
  unfold mMeth
  simp [ho, insOf, hm, hd, e, hn, hc]
end
theorem shS {ws : List Str} (h : ws.all (fun x => shT (.str x)) = true) {x : Str} (hx : x ∈ ws) : shT (.str x) = true := List.all_eq_true.mp h x hx
theorem sh_term {x : Str} (hx : x ∈ TERMs) : shT (.str x) = true := shS (by decide +kernel) hx
theorem sh_choi {x : Str} (hx : x ∈ CHOIs) : shT (.str x) = true := shS (by decide +kernel) hx
theorem sh_sort {x : Str} (hx : x ∈ SORTs) : shT (.str x) = true := shS (by decide +kernel) hx
theorem sh_words {x : Str} (hx : x ∈ ([("give" : Str), "keep", "if", "sort", "a", "less", "same", "block", "last", "sorting", "up"] : List Str)) : shT (.str x) = true := shS (by decide +kernel) hx
theorem sh_tm {ws : List Str} (hw : ∀ a ∈ ws, a ∈ TERMs) {t : Tm} (h : t.ok ws) : shT t.e = true ∧ wtT t.e ≤ 100 := by
  cases t with
  | w a => exact ⟨sh_term (hw a h), by simp [Tm.e, wtT]⟩
  | c k a b => exact ⟨by simp [Tm.e, shT, shTs]; exact ⟨by simpa [shT] using sh_choi h.1, by simpa [shT] using sh_term (hw a h.2.1), by simpa [shT] using sh_term (hw b h.2.2)⟩, by simp [Tm.e, wtT, wtTs]⟩
theorem sh_te {ws : List Str} (hw : ∀ a ∈ ws, a ∈ TERMs) {t : Te} (h : t.ok ws) : shT t.e = true ∧ wtT t.e ≤ 100 := by
  cases t with
  | srt =>
    have h1 := sh_words (x := "sort") (by simp)
    have h2 := sh_words (x := "a") (by simp)
    exact ⟨by simp only [Te.e, shT, shTs, Bool.and_true]; simp only [shT] at h1 h2; simp [h1, h2], by simp [Te.e, wtT, wtTs]⟩
  | c k a b =>
    have h1 : shT (.str k) = true := by rcases h.1 with rfl | rfl <;> exact sh_words (by simp)
    have h2 := sh_term (hw a h.2.1)
    have h3 := sh_term (hw b h.2.2)
    exact ⟨by simp only [Te.e, shTs, Bool.and_true, shT] at h1 h2 h3 ⊢; simp [h1, h2, h3, shTs, shT], by simp [Te.e, wtT, wtTs]⟩
theorem shT_tup {ts : List T} : shT (.tup ts) = shTs ts := by simp [shT]
theorem shTs_cons {t : T} {ts : List T} : shTs (t :: ts) = (shT t && shTs ts) := by simp [shTs]
theorem shTs_nil : shTs [] = true := by simp [shTs]
mutual
theorem sh_sm {ws : List Str} (hw : ∀ a ∈ ws, a ∈ TERMs) : ∀ (s : Sm) (e : Nat), s.ok ws e → shT s.e = true ∧ wtT s.e + 2 ≤ 250 * cnt s
  | .give a b, e, h => by
    unfold Sm.ok at h
    obtain ⟨h1, h2⟩ := sh_tm hw h.1
    obtain ⟨g1, g2⟩ := sh_tm hw h.2
    have k := sh_words (x := "give") (by simp)
    refine ⟨by simp only [Sm.e, shT_tup, shTs_cons, shTs_nil, k, h1, g1, Bool.and_self], ?_⟩
    simp only [Sm.e, wtT, wtTs, cnt]; omega
  | .keep p a, e, h => by
    unfold Sm.ok at h
    obtain ⟨h1, h2⟩ := sh_tm hw h.2
    have hp := sh_term (place_term p h.1)
    have k := sh_words (x := "keep") (by simp)
    refine ⟨by simp only [Sm.e, shT_tup, shTs_cons, shTs_nil, k, h1, hp, Bool.and_self], ?_⟩
    simp only [Sm.e, wtT, wtTs, cnt]; omega
  | .iff t x y, e, h => by
    cases e with
    | zero => unfold Sm.ok at h; exact h.elim
    | succ e =>
      unfold Sm.ok at h
      obtain ⟨h1, h2⟩ := sh_te hw h.1
      obtain ⟨x1, x2⟩ := sh_ens hw x e h.2.1
      obtain ⟨y1, y2⟩ := sh_ens hw y e h.2.2
      have k := sh_words (x := "if") (by simp)
      refine ⟨by simp only [Sm.e, shT_tup, shTs_cons, shTs_nil, k, h1, x1, y1, Bool.and_self], ?_⟩
      simp only [Sm.e, wtT, wtTs, cnt]; omega
theorem sh_ens {ws : List Str} (hw : ∀ a ∈ ws, a ∈ TERMs) : ∀ (l : List Sm) (e : Nat), oks ws e l → shTs (ens l) = true ∧ wtTs (ens l) ≤ 250 * cnts l
  | [], e, _ => by simp [ens, shTs, wtTs]
  | s :: r, e, h => by
    obtain ⟨h1, h2⟩ := oks_cons.mp h
    obtain ⟨a1, a2⟩ := sh_sm hw s e h1
    obtain ⟨b1, b2⟩ := sh_ens hw r e h2
    exact ⟨by simp [ens, shTs, a1, b1], by simp only [ens, wtTs, cnts]; omega⟩
end
theorem sh_pN : ∀ (p : List Nat), (∀ i ∈ p, i ≤ 1000) → shTs (pN p) = true ∧ wtTs (pN p) = 32 * p.length ∧ dpTs (pN p) = 0
  | [], _ => by simp [shTs, wtTs, dpTs]
  | i :: p, h => by
    obtain ⟨a, b, c⟩ := sh_pN p fun j hj => h j (List.mem_cons_of_mem _ hj)
    have hi := h i List.mem_cons_self
    refine ⟨?_, ?_, ?_⟩
    · simp only [pN, List.map_cons, shTs, Bool.and_eq_true] at a ⊢
      exact ⟨by simp only [shT, Bool.and_eq_true, decide_eq_true_eq]; omega, a⟩
    · simp only [pN, List.map_cons, wtTs, wtT, List.length_cons] at b ⊢; omega
    · simp only [pN, List.map_cons, dpTs, dpT] at c ⊢; omega
theorem sta_ix {l : List Sm} {p : List Nat} {s : Sm} (h : StA l p s) : ∀ i ∈ p, i ≤ cnts l + 1 := by
  have lt : ∀ {l : List Sm} {i : Nat} {s : Sm}, l[i]? = some s → i ≤ cnts l + 1 := by
    intro l i s e
    have hl := len_cnts l
    rcases Nat.lt_or_ge i l.length with h1 | h1
    · omega
    · rw [List.getElem?_eq_none h1] at e; cases e
  induction h with
  | here e => intro i hi; rw [List.mem_singleton] at hi; subst hi; exact lt e
  | x e h ih =>
    intro i hi
    have cg := cnts_get e
    simp only [cnt] at cg
    rcases List.mem_cons.mp hi with rfl | hi
    · exact lt e
    · rcases List.mem_cons.mp hi with rfl | hi
      · omega
      · have := ih i hi; omega
  | y e h ih =>
    intro i hi
    have cg := cnts_get e
    simp only [cnt] at cg
    rcases List.mem_cons.mp hi with rfl | hi
    · exact lt e
    · rcases List.mem_cons.mp hi with rfl | hi
      · omega
      · have := ih i hi; omega
/-- a change, and the program that it makes -/
inductive Mk (s : Str) (b l : List Sm) : T → Str → List Sm → List Sm → Prop
  | b {p st s'} (h : StA b p st) (o : s' ∈ st.oth TERMs) : Mk s b l (.tup [.tup (.str "block" :: pN p), s'.e]) s (repl s' p b) l
  | l {p st s'} (h : StA l p st) (o : s' ∈ st.oth PLACs) : Mk s b l (.tup [.tup (.str "last" :: pN p), s'.e]) s b (repl s' p l)
  | s {x} (h : x ∈ SORTs) (n : x ≠ s) : Mk s b l (.tup [.ktp [.str "sorting"], .str x]) x b l
section
variable {s s2 : Str} {b l b2 l2 : List Sm} {o : T}
theorem Mk.ok (h : Mk s b l o s2 b2 l2) (ok : POk s b l) : POk s2 b2 l2 := by
  cases h with
  | b h o => exact repl_b ok h o
  | l h o => exact repl_l ok h o
  | s h n => exact ⟨h, ok.hb, ok.hl, ok.nb, ok.nl⟩
theorem pok_cnt (ok : POk s b l) : cnts b ≤ 8 ∧ cnts l ≤ 8 := by
  have h1 := ok.nb
  have h2 := ok.nl
  rw [rowsL_cnt] at h1 h2
  exact ⟨h1, h2⟩
theorem shd_ch {nm : Str} {p : List Nat} {ws : List Str} {s' : Sm} (hn : nm ∈ ([("give" : Str), "keep", "if", "sort", "a", "less", "same", "block", "last", "sorting", "up"] : List Str)) (hp : ∀ i ∈ p, i ≤ 1000) (hl : p.length ≤ 100) (hw : ∀ a ∈ ws, a ∈ TERMs) (ok : s'.ok ws 2) (hc : cnt s' ≤ 100) : Shd (.tup [.tup (.str nm :: pN p), s'.e]) := by
  obtain ⟨a1, a2, a3⟩ := sh_pN p hp
  obtain ⟨b1, b2⟩ := sh_sm hw s' 2 ok
  obtain ⟨_, c2⟩ := pt_sm hw s' 2 ok
  have k := sh_words hn
  refine ⟨by simp only [shT_tup, shTs_cons, shTs_nil, k, a1, b1, Bool.and_self], ?_, ?_⟩
  · simp only [dpT, dpTs, a3]; omega
  · simp only [wtT, wtTs, a2]; omega
theorem Mk.chd (h : Mk s b l o s2 b2 l2) (ok : POk s b l) : Chd o := by
  obtain ⟨cb, cl⟩ := pok_cnt ok
  cases h with
  | @b p st s' h o =>
    have e : deK (.tup [.tup (.str "block" :: pN p), s'.e]) = .tup [.tup (.str "block" :: pN p), s'.e] := rfl
    refine ⟨rfl, ?_⟩
    rw [e]
    have ho := sm_ok2 h 2 ok.hb
    have hc : cnt st ≤ 8 := by
      have : ∀ {l p s}, StA l p s → cnt s ≤ cnts l := fun h => by
        induction h with
        | here e => exact cnts_get e
        | x e h ih => have := cnts_get e; simp only [cnt] at this; omega
        | y e h ih => have := cnts_get e; simp only [cnt] at this; omega
      have := this h; omega
    exact shd_ch (by simp) (fun i hi => by have := sta_ix h i hi; omega) (by have := (sta_len h 2 ok.hb).1; omega) (fun a h => h) (oth_ok o 2 ho) (by rw [oth_cnt o]; omega)
  | @l p st s' h o =>
    have e : deK (.tup [.tup (.str "last" :: pN p), s'.e]) = .tup [.tup (.str "last" :: pN p), s'.e] := rfl
    refine ⟨rfl, ?_⟩
    rw [e]
    have ho := sm_ok2 h 2 ok.hl
    have hc : cnt st ≤ 8 := by
      have : ∀ {l p s}, StA l p s → cnt s ≤ cnts l := fun h => by
        induction h with
        | here e => exact cnts_get e
        | x e h ih => have := cnts_get e; simp only [cnt] at this; omega
        | y e h ih => have := cnts_get e; simp only [cnt] at this; omega
      have := this h; omega
    exact shd_ch (by simp) (fun i hi => by have := sta_ix h i hi; omega) (by have := (sta_len h 2 ok.hl).1; omega) place_term (oth_ok o 2 ho) (by rw [oth_cnt o]; omega)
  | s h n =>
    refine ⟨rfl, ?_⟩
    have e : deK (.tup [.ktp [.str "sorting"], .str s2]) = .tup [.tup [.str "sorting"], .str s2] := rfl
    rw [e]
    have k1 := sh_words (x := "sorting") (by simp)
    have k2 := sh_sort h
    exact ⟨by simp only [shT_tup, shTs_cons, shTs_nil, k1, k2, Bool.and_self], by simp [dpT, dpTs], by simp [wtT, wtTs]⟩
theorem deK_inj {o' : T} {s3 : Str} {b3 l3 : List Sm} (h : Mk s b l o s2 b2 l2) (g : Mk s b l o' s3 b3 l3) (e : deK o = deK o') : o = o' := by
  cases h with
  | b h1 o1 =>
    cases g with
    | b h2 o2 => exact e
    | l h2 o2 => exact e
    | s h2 n2 =>
      have := h1.ne
      simp only [deK, T.tup.injEq, List.cons.injEq, and_true] at e
      obtain ⟨⟨_, e⟩, _⟩ := e
      simp at e; exact absurd e this
  | l h1 o1 =>
    cases g with
    | b h2 o2 => exact e
    | l h2 o2 => exact e
    | s h2 n2 =>
      have := h1.ne
      simp only [deK, T.tup.injEq, List.cons.injEq, and_true] at e
      obtain ⟨⟨_, e⟩, _⟩ := e
      simp at e; exact absurd e this
  | s h1 n1 =>
    cases g with
    | b h2 o2 =>
      have := h2.ne
      simp only [deK, T.tup.injEq, List.cons.injEq, and_true] at e
      obtain ⟨⟨_, e⟩, _⟩ := e
      simp at e; exact absurd e this
    | l h2 o2 =>
      have := h2.ne
      simp only [deK, T.tup.injEq, List.cons.injEq, and_true] at e
      obtain ⟨⟨_, e⟩, _⟩ := e
      simp at e; exact absurd e this
    | s h2 n2 => simp only [deK, T.tup.injEq, List.cons.injEq, T.str.injEq, and_true, true_and] at e; rw [e]
theorem mk_of (h : o ∈ chP s b l) : ∃ s2 b2 l2, Mk s b l o s2 b2 l2 := by
  unfold chP at h
  rcases List.mem_append.mp h with h | h
  · obtain ⟨L, hL, ho⟩ := List.mem_flatten.mp h
    obtain ⟨q, hq, rfl⟩ := List.mem_map.mp hL
    unfold chQ at ho
    obtain ⟨s', hs, rfl⟩ := List.mem_map.mp ho
    unfold progQ at hq
    rw [show (0 : Int) = ((0 : Nat) : Int) from rfl, rowsQ_N, rowsQ_N] at hq
    rcases List.mem_append.mp hq with hq | hq
    · obtain ⟨r, hr, rfl⟩ := List.mem_map.mp hq
      have st := rowsN_at b [] r hr
      have hw : wsQ ([NestedKey.text "block"] ++ kN r.1, r.2) = TERMs := by simp [wsQ]
      rw [hw] at hs
      have e : (([NestedKey.text "block"] ++ kN r.1).map kT) = .str "block" :: pN r.1 := by simp [kT, kN, pN]
      dsimp only
      rw [e]
      exact ⟨_, _, _, .b st hs⟩
    · obtain ⟨r, hr, rfl⟩ := List.mem_map.mp hq
      have st := rowsN_at l [] r hr
      have hw : wsQ ([NestedKey.text "last"] ++ kN r.1, r.2) = PLACs := by simp [wsQ]
      rw [hw] at hs
      have e : (([NestedKey.text "last"] ++ kN r.1).map kT) = .str "last" :: pN r.1 := by simp [kT, kN, pN]
      dsimp only
      rw [e]
      exact ⟨_, _, _, .l st hs⟩
  · unfold chS at h
    obtain ⟨x, hx, rfl⟩ := List.mem_map.mp h
    obtain ⟨h1, h2⟩ := List.mem_filter.mp hx
    exact ⟨_, _, _, .s h1 (by simpa using h2)⟩
end
end FL
namespace FL
open PySem L2 PyProof.Rows
variable [TabPar]
theorem eq_ktpS {p : List T} (h : Pdt (.tup p)) (n : p ≠ [.str "sorting"]) : eqF (.tup p) g_SORTING = some (.d (.bl false)) := by
  have hs : Pdt (.tup [.str "sorting"]) := ⟨by have := sh_words (x := "sorting") (by simp); simp only [shT, Bool.and_eq_true] at this; simp [plT, plTs, this.1], by simp [dpT, dpTs]⟩
  have e : eqF (.tup p) g_SORTING = eqF (.tup p) (.tup [.str "sorting"]) := by
    unfold eqF eqB g_SORTING
    simp [scT, T.py, T.pys]
  rw [e]
  exact (ne_of h hs (q := false) (by simp [n])).2
theorem eq_kS : eqF (.ktp [.str "sorting"]) g_SORTING = some (.d (.bl true)) := by
  have hs : Pdt (.tup [.str "sorting"]) := ⟨by have := sh_words (x := "sorting") (by simp); simp only [shT, Bool.and_eq_true] at this; simp [plT, plTs, this.1], by simp [dpT, dpTs]⟩
  have e : eqF (.ktp [.str "sorting"]) g_SORTING = eqF (.tup [.str "sorting"]) (.tup [.str "sorting"]) := by
    unfold eqF eqB g_SORTING
    simp [scT, T.py, T.pys]
  rw [e]
  exact (eqF_self hs).1
section
variable (C_Program C_StretchError C_UnknownChange : Addr) {s s2 : Str} {b l b2 l2 : List Sm} {o c : T}
theorem f_done (ok : POk s b l) (h : Mk s b l o s2 b2 l2) : dataF (F_done C_Program C_StretchError C_UnknownChange) [progT C_Program s b l, o] = some (progT C_Program s2 b2 l2) := by
  have ok2 := h.ok ok
  have ch := h.chd ok
  obtain ⟨cb, cl⟩ := pok_cnt ok
  unfold F_done
  rw [dataF_run]
  cases h with
  | @b p st s' h o =>
    have pd : Pdt (.tup (.str "block" :: pN p)) := by
      have := ch.h.pd
      rw [show deK (.tup [.tup (.str "block" :: pN p), s'.e]) = .tup [.tup (.str "block" :: pN p), s'.e] from rfl] at this
      obtain ⟨h1, h2⟩ := this
      simp only [plT, plTs, Bool.and_eq_true] at h1
      simp only [dpT, dpTs] at h2
      exact ⟨by simp only [plT, plTs, Bool.and_eq_true]; exact h1.1, by simp only [dpT, dpTs]; omega⟩
    have e1 := eq_ktpS pd (by simp)
    have e2 := f_with_b C_Program C_StretchError C_UnknownChange h (by have := (sta_len h 2 ok.hb).1; omega) (by omega) ok2
    generalize progT C_Program s b l = P at e2
    generalize pN p = Q at e1 e2
    simp [d_done, List.replicate, mAsg, gT, gsCons, gsNil, pk, itm, e1, e2]
  | @l p st s' h o =>
    have pd : Pdt (.tup (.str "last" :: pN p)) := by
      have := ch.h.pd
      rw [show deK (.tup [.tup (.str "last" :: pN p), s'.e]) = .tup [.tup (.str "last" :: pN p), s'.e] from rfl] at this
      obtain ⟨h1, h2⟩ := this
      simp only [plT, plTs, Bool.and_eq_true] at h1
      simp only [dpT, dpTs] at h2
      exact ⟨by simp only [plT, plTs, Bool.and_eq_true]; exact h1.1, by simp only [dpT, dpTs]; omega⟩
    have e1 := eq_ktpS pd (by simp)
    have e2 := f_with_l C_Program C_StretchError C_UnknownChange h (by have := (sta_len h 2 ok.hl).1; omega) (by omega) ok2
    generalize progT C_Program s b l = P at e2
    generalize pN p = Q at e1 e2
    simp [d_done, List.replicate, mAsg, gT, gsCons, gsNil, pk, itm, e1, e2]
  | s h n =>
    have e2 := f_with C_Program C_StretchError C_UnknownChange (s := s) ok2
    have hm : ∀ st, mMeth C_Program "with_sorting" 2 (F_Program_with_sorting C_Program C_StretchError C_UnknownChange) [true, false] (mVar 0) (aCons (mVar 3) aNil) ⟨[some (.d (progT C_Program s b l)), some (.d (.tup [.ktp [.str "sorting"], .str s2])), some (.d (.ktp [.str "sorting"])), some (.d (.str s2))], st⟩ = .ok (.d (progT C_Program s2 b l)) ⟨[some (.d (progT C_Program s b l)), some (.d (.tup [.ktp [.str "sorting"], .str s2])), some (.d (.ktp [.str "sorting"])), some (.d (.str s2))], st⟩ := fun st =>
      methD_ok (ts := [.str s2]) rfl (by decide) rfl rfl e2
    have ek := eq_kS
    simp [d_done, List.replicate, mAsg, gT, gsCons, gsNil, pk, itm, ek, hm]
theorem f_changed (ok : POk s b l) (hc : isTup c = true) (sc : Shd c) (h : Mk s b l o s2 b2 l2) (hm : o ∈ chP s b l) (he : deK o = c) : dataF (F_changed C_Program C_StretchError C_UnknownChange) [progT C_Program s b l, c] = some (progT C_Program s2 b2 l2) := by
  have ec := f_changes C_Program C_StretchError C_UnknownChange ok
  obtain ⟨ρ, e, e2⟩ := chg_one (FD := F_done C_Program C_StretchError C_UnknownChange) (P := progT C_Program s b l) (g := []) hc sc (R := progT C_Program s2 b2 l2) (chP s b l) none (fun x hx => by obtain ⟨_, _, _, g⟩ := mk_of hx; exact g.chd ok) ⟨o, hm, he⟩ (fun x hx ex => by
    obtain ⟨_, _, _, g⟩ := mk_of hx
    have : x = o := deK_inj g h (ex.trans he.symm)
    rw [this]
    exact f_done C_Program C_StretchError C_UnknownChange ok h)
  unfold F_changed
  rw [dataF_run]
  have hd : d_changed C_UnknownChange (F_changes C_Program C_StretchError C_UnknownChange) (F_done C_Program C_StretchError C_UnknownChange) = mSeq (mFor (iSeq (mCall 1 (F_changes C_Program C_StretchError C_UnknownChange) [false] (aCons (mVar 0) aNil))) (gN 2) (chgB (F_done C_Program C_StretchError C_UnknownChange))) (mRaise0 C_UnknownChange) := rfl
  rw [hd]
  generalize progT C_Program s b l = P at ec e
  simp only [ev_seq, ev_for, ev_iSeq, ev_call, ev_aCons, ev_aNil, List.map_cons, List.map_nil, List.replicate, List.length_cons, List.length_nil, List.cons_append, List.nil_append, ev_var0, R.bind_ok, callK_1, ec, datK_s, seqK_lst, R.thn_ok, e, F.thn_rt]
  simp [resD]
theorem f_lrefused (ok : POk s b l) (h : notTup c = true ∨ (isTup c = true ∧ Shd c ∧ ∀ o ∈ chP s b l, deK o ≠ c)) : dataF (F__law_refused C_Program C_StretchError C_UnknownChange) [progT C_Program s b l, c] = some (.bl true) := by
  have ec := f_changes C_Program C_StretchError C_UnknownChange ok
  have hx : F_changed C_Program C_StretchError C_UnknownChange [] [.d (progT C_Program s b l), .d c] = .ex ⟨C_UnknownChange, []⟩ ⟨[], []⟩ := by
    have hf : ∃ u2, forL (gN 2) (chgB (F_done C_Program C_StretchError C_UnknownChange)) (chP s b l) ⟨[some (.d (progT C_Program s b l)), some (.d c), none], []⟩ = .nx ⟨[some (.d (progT C_Program s b l)), some (.d c), u2], []⟩ := by
      rcases h with h | ⟨h1, h2, h3⟩
      · exact chg_odd h _ _
      · exact chg_nos h1 h2 _ _ fun x hx => by obtain ⟨_, _, _, g⟩ := mk_of hx; exact ⟨g.chd ok, h3 x hx⟩
    obtain ⟨u2, e⟩ := hf
    unfold F_changed runD
    have hd : d_changed C_UnknownChange (F_changes C_Program C_StretchError C_UnknownChange) (F_done C_Program C_StretchError C_UnknownChange) = mSeq (mFor (iSeq (mCall 1 (F_changes C_Program C_StretchError C_UnknownChange) [false] (aCons (mVar 0) aNil))) (gN 2) (chgB (F_done C_Program C_StretchError C_UnknownChange))) (mRaise0 C_UnknownChange) := rfl
    rw [hd]
    generalize progT C_Program s b l = P at ec e
    simp only [ev_seq, ev_for, ev_iSeq, ev_call, ev_aCons, ev_aNil, List.map_cons, List.map_nil, List.replicate, List.length_cons, List.length_nil, List.cons_append, List.nil_append, ev_var0, R.bind_ok, callK_1, ec, datK_s, seqK_lst, R.thn_ok, e, F.thn_nx]
    simp [mRaise0, cutSt]
  unfold F__law_refused
  rw [dataF_run]
  have hm : ∀ st, mCall 2 (F_changed C_Program C_StretchError C_UnknownChange) [false, false] (aCons (mVar 0) (aCons (mVar 1) aNil)) ⟨[some (.d (progT C_Program s b l)), some (.d c), some (.d (.bl false)), none], st⟩ = .ex ⟨C_UnknownChange, []⟩ ⟨[some (.d (progT C_Program s b l)), some (.d c), some (.d (.bl false)), none], st⟩ := fun st => by
    have ea := argC_data [false, false] [progT C_Program s b l, c] st
    simp only [List.map] at ea
    generalize progT C_Program s b l = P at ea hx
    simp [callK, ea, callR, owns, reach_nil, handOn, renUs, renU, hx, handBack]
  generalize progT C_Program s b l = P at hm
  simp [d__law_refused, List.replicate, mTry, tabF, clrF, hIs, -ev_call, hm]
end
end FL
namespace FL
open PySem L2 PyProof.Rows
variable [TabPar]
abbrev dTl (s : Str) (b l : List Sm) : T := .dk dKs [.str s, .tup (ens b), .tup (ens l)]
/-- what is due, item by item -/
def DOk (s : Str) (b l : List Sm) : List T → List T → Prop
  | [], [] => True
  | it :: D, o :: cs => (∃ s2 b2 l2, Mk s b l o s2 b2 l2 ∧ it = .lst [deK o, dTl s2 b2 l2]) ∧ DOk s b l D cs
  | _, _ => False
section
variable {s : Str} {b l : List Sm}
theorem DOk.snoc {it o : T} (h : ∃ s2 b2 l2, Mk s b l o s2 b2 l2 ∧ it = .lst [deK o, dTl s2 b2 l2]) : ∀ {D cs : List T}, DOk s b l D cs → DOk s b l (D ++ [it]) (cs ++ [o])
  | [], [], _ => ⟨h, trivial⟩
  | [], _ :: _, g => g.elim
  | _ :: _, [], g => g.elim
  | _ :: D, _ :: cs, g => ⟨g.1, DOk.snoc h g.2⟩
theorem DOk.len : ∀ {D cs : List T}, DOk s b l D cs → D.length = cs.length
  | [], [], _ => rfl
  | [], _ :: _, g => g.elim
  | _ :: _, [], g => g.elim
  | _ :: D, _ :: cs, g => by simp [DOk.len g.2]
end
/-- the store of a turn: the row, what was drawn, what is due -/
structure St2 (st : List Ob) (row : List T) (k : Nat) (D : Ob) (j : Nat) (due : List T) : Prop where
  h0 : st[0]? = some (.lst row)
  hk : st[k]? = some D
  hj : st[j]? = some (.lst due)
  k0 : 0 < k
  kj : k ≠ j
  j0 : 0 < j
theorem ga {α : Type} {st xs : List α} {i : Nat} {x : α} (h : st[i]? = some x) : (st ++ xs)[i]? = some x := by
  have hi := (List.getElem?_eq_some_iff.mp h).1
  rw [List.getElem?_append_left hi, h]
section
variable {st : List Ob} {row : List T} {k : Nat} {D : Ob} {j : Nat} {due due' : List T}
theorem St2.app (h : St2 st row k D j due) (xs : List Ob) : St2 (st ++ xs) row k D j due := ⟨ga h.h0, ga h.hk, ga h.hj, h.k0, h.kj, h.j0⟩
theorem St2.setj (h : St2 st row k D j due) : St2 (st.set j (.lst due')) row k D j due' := by
  have hj := (List.getElem?_eq_some_iff.mp h.hj).1
  refine ⟨?_, ?_, ?_, h.k0, h.kj, h.j0⟩
  · rw [List.getElem?_set_ne (by have := h.j0; omega)]; exact h.h0
  · rw [List.getElem?_set_ne (by have := h.kj; omega)]; exact h.hk
  · rw [List.getElem?_set_self hj]
end
abbrev w15 (a0 a2 a3 a4 a5 a6 a7 a8 a9 a10 a11 a12 a13 a14 : Option U) : List (Option U) := [a0, some (.own 0), a2, a3, a4, a5, a6, a7, a8, a9, a10, a11, a12, a13, a14]
abbrev oB (FW : Fn) : DS := (mSeq (mSet 11 (mCa copyF (aCons (mVar 6) aNil))) (mSeq (mAsg (mCall 3 FW [false, false, false] (aCons (mOp ixAF (mVar 6) (mVar 8)) (aCons (mVar 12) (aCons (mVar 14) aNil)))) (gDix (mVar 11) (mVar 8))) (mDrop (mApp (mVar 7) (mLst (aCons (mTup (aCons (mOp addF (mTup (aCons (mVar 8) aNil)) (mVar 12)) (aCons (mVar 14) aNil))) (aCons (mVar 11) aNil)))))))
section
variable {FW : Fn} {st : List Ob} {row : List T} {k j : Nat} {due : List T} {a0 a2 a3 a4 a5 a9 a10 a13 : Option U}
theorem pk_d {st : List Ob} {t : T} : pk st (.d t) = some t := rfl
theorem dks_nd : dKs.Nodup := by decide
theorem oB_run {vs vs' : List T} {nm : Str} {pt : List T} {ot v nv : T} (S : St2 st row k (.dk dKs vs) j due) (a11 : Option U) (hix : ixAF (.dk dKs vs) (.str nm) = some (.d v)) (hF : dataF FW [v, .tup pt, ot] = some nv) (hput : dkPut dKs vs (.inr nm) nv = (dKs, vs')) (hd : due.length ≤ 90000) (hp : pt.length ≤ 100) : ∃ st' a11',
    oB FW ⟨w15 a0 a2 a3 a4 a5 (some (.own k)) (some (.own j)) (some (.d (.str nm))) a9 a10 a11 (some (.d (.tup pt))) a13 (some (.d ot)), st⟩ = .nx ⟨w15 a0 a2 a3 a4 a5 (some (.own k)) (some (.own j)) (some (.d (.str nm))) a9 a10 a11' (some (.d (.tup pt))) a13 (some (.d ot)), st'⟩ ∧
      St2 st' row k (.dk dKs vs) j (due ++ [.lst [.tup [.tup (.str nm :: pt), ot], .dk dKs vs']]) := by
  have hjl := (List.getElem?_eq_some_iff.mp S.hj).1
  have q1 : due.length < sizeLine := zc (by omega)
  have q2 : 1 + pt.length ≤ sizeLine := zb (by omega)
  have q3 : pt.length + 1 ≤ sizeLine := zb (by omega)
  have q4 : (3 : Nat) < sizeLine := by decide
  have pk6 : pk st (.own k) = some (.dk dKs vs) := by simp [pk, S.hk]
  have S1 := S.app [.dk dKs vs]
  have pk6' : pk (st ++ [.dk dKs vs]) (.own k) = some (.dk dKs vs) := by simp [pk, S1.hk]
  have p1 : mSet 11 (mCa copyF (aCons (mVar 6) aNil)) ⟨w15 a0 a2 a3 a4 a5 (some (.own k)) (some (.own j)) (some (.d (.str nm))) a9 a10 a11 (some (.d (.tup pt))) a13 (some (.d ot)), st⟩ = .nx ⟨w15 a0 a2 a3 a4 a5 (some (.own k)) (some (.own j)) (some (.d (.str nm))) a9 a10 (some (.own st.length)) (some (.d (.tup pt))) a13 (some (.d ot)), st ++ [.dk dKs vs]⟩ := by
    simp [ev_var (i := 6), caK, pks, pk6, copyF, mO]
  have p2 : mAsg (mCall 3 FW [false, false, false] (aCons (mOp ixAF (mVar 6) (mVar 8)) (aCons (mVar 12) (aCons (mVar 14) aNil)))) (gDix (mVar 11) (mVar 8)) ⟨w15 a0 a2 a3 a4 a5 (some (.own k)) (some (.own j)) (some (.d (.str nm))) a9 a10 (some (.own st.length)) (some (.d (.tup pt))) a13 (some (.d ot)), st ++ [.dk dKs vs]⟩ = .nx ⟨w15 a0 a2 a3 a4 a5 (some (.own k)) (some (.own j)) (some (.d (.str nm))) a9 a10 (some (.own st.length)) (some (.d (.tup pt))) a13 (some (.d ot)), st ++ [.dk dKs vs']⟩ := by
    have v8 : ∀ st, mVar 8 ⟨w15 a0 a2 a3 a4 a5 (some (.own k)) (some (.own j)) (some (.d (.str nm))) a9 a10 (some (.own st.length)) (some (.d (.tup pt))) a13 (some (.d ot)), st⟩ = .ok (.d (.str nm)) ⟨w15 a0 a2 a3 a4 a5 (some (.own k)) (some (.own j)) (some (.d (.str nm))) a9 a10 (some (.own st.length)) (some (.d (.tup pt))) a13 (some (.d ot)), st⟩ := fun st => rfl
    simp [mAsg, ev_var (i := 6), ev_var (i := 8), ev_var (i := 11), ev_var (i := 12), ev_var (i := 14), opK, pk6', pk_d, hix, hF, gDix, keyT, dks_nd, q4, hput]
  have S2 : St2 (st ++ [.dk dKs vs']) row k (.dk dKs vs) j due := S.app _
  have S3 : St2 ((st ++ [Ob.frz (.dk dKs vs')]) ++ [Ob.frz (.lst [.tup [.tup (.str nm :: pt), ot], .dk dKs vs'])]) row k (.dk dKs vs) j due := (S.app _).app _
  refine ⟨_, some (.own st.length), ?_, S3.setj (due' := due ++ [.lst [.tup [.tup (.str nm :: pt), ot], .dk dKs vs']])⟩
  unfold oB
  rw [ev_seq, p1, F.thn_nx, ev_seq, p2, F.thn_nx]
  have i1 : isL (st ++ [Ob.dk dKs vs']) (.own j) = true := by simp [isL, S2.hj]
  have f1 : (st ++ [Ob.dk dKs vs']).set st.length (Ob.frz (.dk dKs vs')) = st ++ [Ob.frz (.dk dKs vs')] := by simp
  have f2 : (st ++ [Ob.frz (.dk dKs vs')] ++ [Ob.lst [T.tup [.tup (.str nm :: pt), ot], .dk dKs vs']]).set (st.length + 1) (Ob.frz (.lst [T.tup [.tup (.str nm :: pt), ot], .dk dKs vs'])) = st ++ [Ob.frz (.dk dKs vs')] ++ [Ob.frz (.lst [T.tup [.tup (.str nm :: pt), ot], .dk dKs vs'])] := by
    rw [show st.length + 1 = (st ++ [Ob.frz (.dk dKs vs')]).length by simp]
    simp
  have g2 : (st ++ [Ob.frz (.dk dKs vs')] ++ [Ob.lst [T.tup [.tup (.str nm :: pt), ot], .dk dKs vs']])[st.length + 1]? = some (.lst [T.tup [.tup (.str nm :: pt), ot], .dk dKs vs']) := by
    rw [show st.length + 1 = (st ++ [Ob.frz (.dk dKs vs')]).length by simp]
    simp
  have e1 : mLst (aCons (mTup (aCons (mOp addF (mTup (aCons (mVar 8) aNil)) (mVar 12)) (aCons (mVar 14) aNil))) (aCons (mVar 11) aNil)) ⟨w15 a0 a2 a3 a4 a5 (some (.own k)) (some (.own j)) (some (.d (.str nm))) a9 a10 (some (.own st.length)) (some (.d (.tup pt))) a13 (some (.d ot)), st ++ [.dk dKs vs']⟩ = .ok (.own (st.length + 1)) ⟨w15 a0 a2 a3 a4 a5 (some (.own k)) (some (.own j)) (some (.d (.str nm))) a9 a10 (some (.own st.length)) (some (.d (.tup pt))) a13 (some (.d ot)), (st ++ [Ob.frz (.dk dKs vs')]) ++ [Ob.lst [.tup [.tup (.str nm :: pt), ot], .dk dKs vs']]⟩ := by
    have z2 : (2 : Nat) ≤ sizeLine := by decide
    simp [ev_var (i := 8), ev_var (i := 11), ev_var (i := 12), ev_var (i := 14), addF, q2, q3, lstK, toDs, toD, z2]
  have S4 : St2 ((st ++ [Ob.frz (.dk dKs vs')]) ++ [Ob.lst [.tup [.tup (.str nm :: pt), ot], .dk dKs vs']]) row k (.dk dKs vs) j due := (S.app _).app _
  rw [ev_drop]
  unfold mApp
  rw [ev_var (i := 7) rfl, R.bind_ok, if_pos i1, e1, R.bind_ok]
  simp only [toD, g2, f2, S3.hj, if_pos q1, R.thn_ok]
end
end FL
namespace FL
open PySem L2 PyProof.Rows
variable [TabPar]
abbrev chOf (nm : Str) (p : List Nat) (s' : Sm) : T := .tup [.tup (.str nm :: pN p), s'.e]
/-- a block of a program, its name and its words -/
structure BK (s : Str) (b l : List Sm) (nm : Str) (ws : List Str) (w : T) (bb : List Sm) (B' L' : List Sm → List Sm) : Prop where
  hix : ixAF (.dk dKs [.str s, .tup (ens b), .tup (ens l)]) (.str nm) = some (.d (.tup (ens bb)))
  hput : ∀ x, dkPut dKs [.str s, .tup (ens b), .tup (ens l)] (.inr nm) (.tup (ens x)) = (dKs, [.str s, .tup (ens (B' x)), .tup (ens (L' x))])
  hmk : ∀ p st s', StA bb p st → s' ∈ st.oth ws → Mk s b l (chOf nm p s') s (B' (repl s' p bb)) (L' (repl s' p bb))
  W : Wds w ws
  ok : oks ws 2 bb
  c : cnts bb ≤ 8
theorem bkB {s : Str} {b l : List Sm} (ok : POk s b l) : BK s b l "block" TERMs (.lst [.str "begin", .str "end", .str "one", .str "two"]) b (fun x => x) (fun _ => l) :=
  ⟨dk_block s b l, fun x => by simp [dkPut], fun p st s' h o => .b h o, ⟨rfl, by simp, fun a h => h⟩, ok.hb, (pok_cnt ok).1⟩
theorem bkL {s : Str} {b l : List Sm} (ok : POk s b l) : BK s b l "last" PLACs (.lst [.str "one", .str "two"]) l (fun _ => b) (fun x => x) :=
  ⟨(dk_all s b l).2, fun x => by simp [dkPut], fun p st s' h o => .l h o, ⟨rfl, by simp, place_term⟩, ok.hl, (pok_cnt ok).2⟩
section
variable (C_Program C_StretchError C_UnknownChange : Addr) {s : Str} {b l bb : List Sm} {nm : Str} {ws : List Str} {w : T} {B' L' : List Sm → List Sm} {row : List T} {k j : Nat} {a0 a2 a3 a4 a5 a10 : Option U}
theorem oth_loop (H : BK s b l nm ws w bb B' L') {p : List Nat} {stt : Sm} (h : StA bb p stt) {a9 a13 : Option U} : ∀ (O : List Sm) (st : List Ob) (due cs : List T) (a11 a14 : Option U), (∀ s' ∈ O, s' ∈ stt.oth ws) → St2 st row k (dKv s b l) j due → DOk s b l due cs → due.length + O.length ≤ 80000 → ∃ st' due' a11' a14',
    forL (gN 14) (oB (F__law_with C_Program C_StretchError C_UnknownChange 8)) (O.map Sm.e) ⟨w15 a0 a2 a3 a4 a5 (some (.own k)) (some (.own j)) (some (.d (.str nm))) a9 a10 a11 (some (.d (.tup (pN p)))) a13 a14, st⟩ = .nx ⟨w15 a0 a2 a3 a4 a5 (some (.own k)) (some (.own j)) (some (.d (.str nm))) a9 a10 a11' (some (.d (.tup (pN p)))) a13 a14', st'⟩ ∧
      St2 st' row k (dKv s b l) j due' ∧ DOk s b l due' (cs ++ O.map (chOf nm p)) ∧ due'.length = due.length + O.length
  | [], st, due, cs, a11, a14, _, S, D, _ => ⟨st, due, a11, a14, rfl, S, by simpa using D, rfl⟩
  | s' :: O, st, due, cs, a11, a14, hO, S, D, hl => by
    simp only [List.length_cons] at hl
    have hp := (sta_len h 2 H.ok).1
    have hs := hO s' List.mem_cons_self
    have hF := f_lwith C_Program C_StretchError C_UnknownChange (s' := s') h 8 (by omega) (by have := H.c; omega)
    obtain ⟨st1, b11, e1, S1⟩ := oB_run (FW := F__law_with C_Program C_StretchError C_UnknownChange 8) (a0 := a0) (a2 := a2) (a3 := a3) (a4 := a4) (a5 := a5) (a9 := a9) (a10 := a10) (a13 := a13) S a11 H.hix hF (H.hput _) (by omega) (by simp; omega)
    have D1 := D.snoc (it := .lst [chOf nm p s', dTl s (B' (repl s' p bb)) (L' (repl s' p bb))]) (o := chOf nm p s') ⟨_, _, _, H.hmk p stt s' h hs, rfl⟩
    obtain ⟨st2, due2, c11, c14, e2, S2, D2, l2⟩ := oth_loop H h O st1 _ _ b11 (some (.d s'.e)) (fun x hx => hO x (List.mem_cons_of_mem _ hx)) S1 D1 (by simp; omega)
    refine ⟨st2, due2, c11, c14, ?_, S2, by simpa using D2, by rw [l2]; simp; omega⟩
    simp only [List.map_cons, forL, ev_gN, List.set]
    rw [e1]
    exact e2
abbrev rB (FO FW : Fn) : DS := mFor (iSeq (mCall 2 FO [false, false] (aCons (mVar 13) (aCons (mVar 9) aNil)))) (gN 14) (oB FW)
theorem row_loop (H : BK s b l nm ws w bb B' L') : ∀ (qs : List (List Nat × Sm)) (st : List Ob) (due cs : List T) (a11 a12 a13 a14 : Option U), (∀ q ∈ qs, StA bb q.1 q.2) → St2 st row k (dKv s b l) j due → DOk s b l due cs → due.length + 400 * qs.length ≤ 70000 → ∃ st' due' a11' a12' a13' a14',
    forL (gT 2 (gsCons (gN 12) (gsCons (gN 13) gsNil))) (rB (F__law_others C_Program C_StretchError C_UnknownChange) (F__law_with C_Program C_StretchError C_UnknownChange 8)) (qs.map fun q => .tup [.tup (pN q.1), q.2.e]) ⟨w15 a0 a2 a3 a4 a5 (some (.own k)) (some (.own j)) (some (.d (.str nm))) (some (.d w)) a10 a11 a12 a13 a14, st⟩ = .nx ⟨w15 a0 a2 a3 a4 a5 (some (.own k)) (some (.own j)) (some (.d (.str nm))) (some (.d w)) a10 a11' a12' a13' a14', st'⟩ ∧
      St2 st' row k (dKv s b l) j due' ∧ DOk s b l due' (cs ++ (qs.map fun q => (q.2.oth ws).map (chOf nm q.1)).flatten) ∧ due'.length ≤ due.length + 400 * qs.length
  | [], st, due, cs, a11, a12, a13, a14, _, S, D, _ => ⟨st, due, a11, a12, a13, a14, rfl, S, by simpa using D, by simp⟩
  | q :: qs, st, due, cs, a11, a12, a13, a14, hR, S, D, hl => by
    simp only [List.length_cons] at hl
    have hq := hR q List.mem_cons_self
    have ol := oth_len H.W.l q.2
    have hO := f_lothers C_Program C_StretchError C_UnknownChange H.W (sm_ok2 hq 2 H.ok) (by omega)
    obtain ⟨st1, due1, b11, b14, e1, S1, D1, l1⟩ := oth_loop C_Program C_StretchError C_UnknownChange (a0 := a0) (a2 := a2) (a3 := a3) (a4 := a4) (a5 := a5) (a10 := a10) (a9 := some (.d w)) (a13 := some (.d q.2.e)) H hq (q.2.oth ws) st due cs a11 a14 (fun _ h => h) S D (by omega)
    obtain ⟨st2, due2, c11, c12, c13, c14, e2, S2, D2, l2⟩ := row_loop H qs st1 due1 _ b11 (some (.d (.tup (pN q.1)))) (some (.d q.2.e)) b14 (fun x hx => hR x (List.mem_cons_of_mem _ hx)) S1 D1 (by omega)
    refine ⟨st2, due2, c11, c12, c13, c14, ?_, S2, by simpa [List.append_assoc] using D2, by simp only [List.length_cons]; omega⟩
    have hb : rB (F__law_others C_Program C_StretchError C_UnknownChange) (F__law_with C_Program C_StretchError C_UnknownChange 8) ⟨w15 a0 a2 a3 a4 a5 (some (.own k)) (some (.own j)) (some (.d (.str nm))) (some (.d w)) a10 a11 (some (.d (.tup (pN q.1)))) (some (.d q.2.e)) a14, st⟩ = .nx ⟨w15 a0 a2 a3 a4 a5 (some (.own k)) (some (.own j)) (some (.d (.str nm))) (some (.d w)) a10 b11 (some (.d (.tup (pN q.1)))) (some (.d q.2.e)) b14, st1⟩ := by
      unfold rB
      rw [ev_for, ev_iSeq, ev_call, ev_aCons, ev_var (i := 13) rfl, R.bind_ok, ev_aCons, ev_var (i := 9) rfl, R.bind_ok, ev_aNil, R.bind_ok, R.bind_ok, R.bind_ok, callK_2, hO, datK_s, R.bind_ok, seqK_lst, R.thn_ok]
      exact e1
    have hg : gT 2 (gsCons (gN 12) (gsCons (gN 13) gsNil)) (.d (.tup [.tup (pN q.1), q.2.e])) ⟨w15 a0 a2 a3 a4 a5 (some (.own k)) (some (.own j)) (some (.d (.str nm))) (some (.d w)) a10 a11 a12 a13 a14, st⟩ = .ok () ⟨w15 a0 a2 a3 a4 a5 (some (.own k)) (some (.own j)) (some (.d (.str nm))) (some (.d w)) a10 a11 (some (.d (.tup (pN q.1)))) (some (.d q.2.e)) a14, st⟩ := by
      simp [gT, gsCons, gsNil, pk, itm]
    simp only [List.map_cons, forL, hg, hb]
    exact e2
abbrev nB (FA FO FW : Fn) : DS := mFor (iSeq (mCall 2 FA [false, false] (aCons (mOp ixAF (mVar 6) (mVar 8)) (aCons (mTup aNil) aNil)))) (gT 2 (gsCons (gN 12) (gsCons (gN 13) gsNil))) (rB FO FW)
theorem rows_tail (bb : List Sm) : rowsL [] 0 bb = (rowsN 0 bb).map fun q => .tup [.tup (pN q.1), q.2.e] := by
  have h := rowsQ_e bb [] 0
  rw [show (0 : Int) = ((0 : Nat) : Int) from rfl, rowsQ_N] at h
  simp only [List.map_nil] at h
  rw [show (0 : Int) = ((0 : Nat) : Int) from rfl, h, List.map_map]
  apply List.map_congr_left
  intro q _
  simp [rowE, kT, kN, pN]
theorem rowsN_len (bb : List Sm) : (rowsN 0 bb).length = cnts bb := by
  have h := rowsL_cnt bb [] 0
  rw [rows_tail, List.length_map] at h
  exact h
theorem name_run (H : BK s b l nm ws w bb B' L') {st : List Ob} {due cs : List T} (a11 a12 a13 a14 : Option U) (S : St2 st row k (dKv s b l) j due) (D : DOk s b l due cs) (hl : due.length ≤ 10000) : ∃ st' due' a11' a12' a13' a14',
    nB (F__law_all C_Program C_StretchError C_UnknownChange 8) (F__law_others C_Program C_StretchError C_UnknownChange) (F__law_with C_Program C_StretchError C_UnknownChange 8) ⟨w15 a0 a2 a3 a4 a5 (some (.own k)) (some (.own j)) (some (.d (.str nm))) (some (.d w)) a10 a11 a12 a13 a14, st⟩ = .nx ⟨w15 a0 a2 a3 a4 a5 (some (.own k)) (some (.own j)) (some (.d (.str nm))) (some (.d w)) a10 a11' a12' a13' a14', st'⟩ ∧
      St2 st' row k (dKv s b l) j due' ∧ DOk s b l due' (cs ++ ((rowsN 0 bb).map fun q => (q.2.oth ws).map (chOf nm q.1)).flatten) ∧ due'.length ≤ due.length + 3200 := by
  have hc := H.c
  obtain ⟨ts, eA, rA⟩ := px_all C_Program C_StretchError C_UnknownChange (ws := ws) 8 2 bb [] H.ok (by omega) (by omega) (by simp)
  rw [rA, rows_tail] at eA
  have rl := rowsN_len bb
  obtain ⟨st1, due1, b11, b12, b13, b14, e1, S1, D1, l1⟩ := row_loop C_Program C_StretchError C_UnknownChange (a0 := a0) (a2 := a2) (a3 := a3) (a4 := a4) (a5 := a5) (a10 := a10) H (rowsN 0 bb) st due cs a11 a12 a13 a14 (fun q hq => rowsN_at bb [] q hq) S D (by omega)
  refine ⟨st1, due1, b11, b12, b13, b14, ?_, S1, D1, by omega⟩
  have hop : opK ixAF (.own k) (.d (.str nm)) ⟨w15 a0 a2 a3 a4 a5 (some (.own k)) (some (.own j)) (some (.d (.str nm))) (some (.d w)) a10 a11 a12 a13 a14, st⟩ = .ok (.d (.tup (ens bb))) ⟨w15 a0 a2 a3 a4 a5 (some (.own k)) (some (.own j)) (some (.d (.str nm))) (some (.d w)) a10 a11 a12 a13 a14, st⟩ := by
    have : pk st (.own k) = some (.dk dKs [.str s, .tup (ens b), .tup (ens l)]) := by simp [pk, S.hk]
    simp [opK, this, pk_d, H.hix]
  unfold nB
  rw [ev_for, ev_iSeq, ev_call, ev_aCons, ev_op, ev_var (i := 6) rfl, R.bind_ok, ev_var (i := 8) rfl, R.bind_ok, hop, R.bind_ok, ev_aCons, ev_tup, ev_aNil, R.bind_ok, tupK_0, R.bind_ok, ev_aNil, R.bind_ok, R.bind_ok, R.bind_ok, callK_2, eA, datK_s, R.bind_ok, seqK_lst, R.thn_ok]
  exact e1
/-- what is due for a sorting -/
abbrev sB : DS := (mIfS (mTOp neF (mVar 4) (mOp ixAF (mVar 6) (mC (.str "sorting")))) (mSeq (mSet 11 (mCa copyF (aCons (mVar 6) aNil))) (mSeq (mAsg (mVar 4) (gDix (mVar 11) (mC (.str "sorting")))) (mDrop (mApp (mVar 7) (mLst (aCons (mTup (aCons (mTup (aCons (mC (.str "sorting")) aNil)) (aCons (mVar 4) aNil))) (aCons (mVar 11) aNil))))))) mNx)
abbrev chO (x : Str) : T := .tup [.ktp [.str "sorting"], .str x]
end
end FL
namespace FL
open PySem L2 PyProof.Rows
variable [TabPar]
section
variable {s : Str} {b l : List Sm} {row : List T} {k j : Nat} {a0 a2 a3 a5 a8 a9 a10 a12 a13 a14 : Option U}
theorem sB_yes {x : Str} (n : x ≠ s) {st : List Ob} {due : List T} (S : St2 st row k (dKv s b l) j due) (a11 : Option U) (hd : due.length ≤ 90000) : ∃ st' a11',
    sB ⟨w15 a0 a2 a3 (some (.d (.str x))) a5 (some (.own k)) (some (.own j)) a8 a9 a10 a11 a12 a13 a14, st⟩ = .nx ⟨w15 a0 a2 a3 (some (.d (.str x))) a5 (some (.own k)) (some (.own j)) a8 a9 a10 a11' a12 a13 a14, st'⟩ ∧
      St2 st' row k (dKv s b l) j (due ++ [.lst [deK (chO x), dTl x b l]]) := by
  have hjl := (List.getElem?_eq_some_iff.mp S.hj).1
  have q1 : due.length < sizeLine := zc (by omega)
  have q4 : (3 : Nat) < sizeLine := by decide
  have pk6 : pk st (.own k) = some (.dk dKs [.str s, .tup (ens b), .tup (ens l)]) := by simp [pk, S.hk]
  have hix := (dk_all s b l).1
  have p0 : mTOp neF (mVar 4) (mOp ixAF (mVar 6) (mC (.str "sorting"))) ⟨w15 a0 a2 a3 (some (.d (.str x))) a5 (some (.own k)) (some (.own j)) a8 a9 a10 a11 a12 a13 a14, st⟩ = .ok true ⟨w15 a0 a2 a3 (some (.d (.str x))) a5 (some (.own k)) (some (.own j)) a8 a9 a10 a11 a12 a13 a14, st⟩ := by
    simp [ev_var (i := 6), opK, pk6, pk_d, hix, n]
  have p1 : mSet 11 (mCa copyF (aCons (mVar 6) aNil)) ⟨w15 a0 a2 a3 (some (.d (.str x))) a5 (some (.own k)) (some (.own j)) a8 a9 a10 a11 a12 a13 a14, st⟩ = .nx ⟨w15 a0 a2 a3 (some (.d (.str x))) a5 (some (.own k)) (some (.own j)) a8 a9 a10 (some (.own st.length)) a12 a13 a14, st ++ [dKv s b l]⟩ := by
    simp [ev_var (i := 6), caK, pks, pk6, copyF, mO]
  have hput : dkPut dKs [.str s, .tup (ens b), .tup (ens l)] (.inr "sorting") (.str x) = (dKs, [.str x, .tup (ens b), .tup (ens l)]) := by simp [dkPut]
  have p2 : mAsg (mVar 4) (gDix (mVar 11) (mC (.str "sorting"))) ⟨w15 a0 a2 a3 (some (.d (.str x))) a5 (some (.own k)) (some (.own j)) a8 a9 a10 (some (.own st.length)) a12 a13 a14, st ++ [dKv s b l]⟩ = .nx ⟨w15 a0 a2 a3 (some (.d (.str x))) a5 (some (.own k)) (some (.own j)) a8 a9 a10 (some (.own st.length)) a12 a13 a14, st ++ [dKv x b l]⟩ := by
    simp [mAsg, ev_var (i := 11), gDix, keyT, dks_nd, q4, hput]
  have S2 : St2 (st ++ [dKv x b l]) row k (dKv s b l) j due := S.app _
  have S3 : St2 ((st ++ [Ob.frz (dTl x b l)]) ++ [Ob.frz (.lst [deK (chO x), dTl x b l])]) row k (dKv s b l) j due := (S.app _).app _
  refine ⟨_, some (.own st.length), ?_, S3.setj (due' := due ++ [.lst [deK (chO x), dTl x b l]])⟩
  unfold sB
  rw [ev_ifs, p0, R.thn_ok, if_pos rfl, ev_seq, p1, F.thn_nx, ev_seq, p2, F.thn_nx]
  have i1 : isL (st ++ [dKv x b l]) (.own j) = true := by simp [isL, S2.hj]
  have f1 : (st ++ [dKv x b l]).set st.length (Ob.frz (dTl x b l)) = st ++ [Ob.frz (dTl x b l)] := by simp
  have f2 : (st ++ [Ob.frz (dTl x b l)] ++ [Ob.lst [deK (chO x), dTl x b l]]).set (st.length + 1) (Ob.frz (.lst [deK (chO x), dTl x b l])) = st ++ [Ob.frz (dTl x b l)] ++ [Ob.frz (.lst [deK (chO x), dTl x b l])] := by
    rw [show st.length + 1 = (st ++ [Ob.frz (dTl x b l)]).length by simp]
    simp
  have g2 : (st ++ [Ob.frz (dTl x b l)] ++ [Ob.lst [deK (chO x), dTl x b l]])[st.length + 1]? = some (.lst [deK (chO x), dTl x b l]) := by
    rw [show st.length + 1 = (st ++ [Ob.frz (dTl x b l)]).length by simp]
    simp
  have e1 : mLst (aCons (mTup (aCons (mTup (aCons (mC (.str "sorting")) aNil)) (aCons (mVar 4) aNil))) (aCons (mVar 11) aNil)) ⟨w15 a0 a2 a3 (some (.d (.str x))) a5 (some (.own k)) (some (.own j)) a8 a9 a10 (some (.own st.length)) a12 a13 a14, st ++ [dKv x b l]⟩ = .ok (.own (st.length + 1)) ⟨w15 a0 a2 a3 (some (.d (.str x))) a5 (some (.own k)) (some (.own j)) a8 a9 a10 (some (.own st.length)) a12 a13 a14, (st ++ [Ob.frz (dTl x b l)]) ++ [Ob.lst [deK (chO x), dTl x b l]]⟩ := by
    have z2 : (2 : Nat) ≤ sizeLine := by decide
    simp [ev_var (i := 11), lstK, toDs, toD, z2, deK]
  rw [ev_drop]
  unfold mApp
  rw [ev_var (i := 7) rfl, R.bind_ok, if_pos i1, e1, R.bind_ok]
  have S4 : St2 ((st ++ [Ob.frz (dTl x b l)]) ++ [Ob.lst [deK (chO x), dTl x b l]]) row k (dKv s b l) j due := (S.app _).app _
  simp only [toD, g2, f2, S3.hj, if_pos q1, R.thn_ok]
theorem sB_no {st : List Ob} {due : List T} (S : St2 st row k (dKv s b l) j due) (a11 : Option U) :
    sB ⟨w15 a0 a2 a3 (some (.d (.str s))) a5 (some (.own k)) (some (.own j)) a8 a9 a10 a11 a12 a13 a14, st⟩ = .nx ⟨w15 a0 a2 a3 (some (.d (.str s))) a5 (some (.own k)) (some (.own j)) a8 a9 a10 a11 a12 a13 a14, st⟩ := by
  have pk6 : pk st (.own k) = some (.dk dKs [.str s, .tup (ens b), .tup (ens l)]) := by simp [pk, S.hk]
  have hix := (dk_all s b l).1
  have p0 : mTOp neF (mVar 4) (mOp ixAF (mVar 6) (mC (.str "sorting"))) ⟨w15 a0 a2 a3 (some (.d (.str s))) a5 (some (.own k)) (some (.own j)) a8 a9 a10 a11 a12 a13 a14, st⟩ = .ok false ⟨w15 a0 a2 a3 (some (.d (.str s))) a5 (some (.own k)) (some (.own j)) a8 a9 a10 a11 a12 a13 a14, st⟩ := by
    simp [ev_var (i := 6), opK, pk6, pk_d, hix]
  unfold sB
  rw [ev_ifs, p0, R.thn_ok]
  rfl
theorem s_loop : ∀ (xs : List Str) (st : List Ob) (due cs : List T) (a4 a11 : Option U), (∀ x ∈ xs, x ∈ SORTs) → St2 st row k (dKv s b l) j due → DOk s b l due cs → due.length + xs.length ≤ 80000 → ∃ st' due' a4' a11',
    forL (gN 4) sB (xs.map .str) ⟨w15 a0 a2 a3 a4 a5 (some (.own k)) (some (.own j)) a8 a9 a10 a11 a12 a13 a14, st⟩ = .nx ⟨w15 a0 a2 a3 a4' a5 (some (.own k)) (some (.own j)) a8 a9 a10 a11' a12 a13 a14, st'⟩ ∧
      St2 st' row k (dKv s b l) j due' ∧ DOk s b l due' (cs ++ (xs.filter fun x => !decide (x = s)).map chO) ∧ due'.length ≤ due.length + xs.length
  | [], st, due, cs, a4, a11, _, S, D, _ => ⟨st, due, a4, a11, rfl, S, by simpa using D, by simp⟩
  | x :: xs, st, due, cs, a4, a11, hx, S, D, hl => by
    simp only [List.length_cons] at hl
    have hm := hx x List.mem_cons_self
    by_cases hs : x = s
    · obtain ⟨st2, due2, c4, c11, e2, S2, D2, l2⟩ := s_loop xs st due cs (some (.d (.str s))) a11 (fun y hy => hx y (List.mem_cons_of_mem _ hy)) S D (by omega)
      refine ⟨st2, due2, c4, c11, ?_, S2, by simpa [List.filter_cons, hs] using D2, by simp only [List.length_cons]; omega⟩
      simp only [List.map_cons, forL, ev_gN, List.set, hs]
      rw [sB_no S]
      exact e2
    · obtain ⟨st1, b11, e1, S1⟩ := sB_yes (a0 := a0) (a2 := a2) (a3 := a3) (a5 := a5) (a8 := a8) (a9 := a9) (a10 := a10) (a12 := a12) (a13 := a13) (a14 := a14) hs S a11 (by omega)
      have D1 := D.snoc (it := .lst [deK (chO x), dTl x b l]) (o := chO x) ⟨_, _, _, .s hm hs, rfl⟩
      obtain ⟨st2, due2, c4, c11, e2, S2, D2, l2⟩ := s_loop xs st1 _ _ (some (.d (.str x))) b11 (fun y hy => hx y (List.mem_cons_of_mem _ hy)) S1 D1 (by simp; omega)
      refine ⟨st2, due2, c4, c11, ?_, S2, by simpa [List.filter_cons, hs] using D2, by simp only [List.length_append, List.length_cons, List.length_nil] at l2 ⊢; omega⟩
      simp only [List.map_cons, forL, ev_gN, List.set]
      rw [e1]
      exact e2
theorem chP_eq : chP s b l = (((rowsN 0 b).map fun q => (q.2.oth TERMs).map (chOf "block" q.1)).flatten ++ ((rowsN 0 l).map fun q => (q.2.oth PLACs).map (chOf "last" q.1)).flatten) ++ (SORTs.filter fun x => !decide (x = s)).map chO := by
  unfold chP chS progQ
  rw [show (0 : Int) = ((0 : Nat) : Int) from rfl, rowsQ_N, rowsQ_N, List.map_append, List.flatten_append, List.map_map, List.map_map]
  have e1 : (chQ ∘ fun q : List Nat × Sm => ([NestedKey.text "block"] ++ kN q.1, q.2)) = fun q => (q.2.oth TERMs).map (chOf "block" q.1) := by
    funext q
    simp [chQ, wsQ, kT, kN, pN]
  have e2 : (chQ ∘ fun q : List Nat × Sm => ([NestedKey.text "last"] ++ kN q.1, q.2)) = fun q => (q.2.oth PLACs).map (chOf "last" q.1) := by
    funext q
    simp [chQ, wsQ, kT, kN, pN]
  rw [e1, e2]
/-- what stands first -/
def fst1 : T → T
  | .lst (c :: _) => c
  | t => t
theorem DOk.fst : ∀ {D cs : List T}, DOk s b l D cs → D.map fst1 = cs.map deK
  | [], [], _ => rfl
  | [], _ :: _, g => g.elim
  | _ :: _, [], g => g.elim
  | it :: D, o :: cs, g => by
    obtain ⟨⟨_, _, _, _, rfl⟩, g2⟩ := g
    simp [fst1, DOk.fst g2]
theorem DOk.mem : ∀ {D cs : List T}, DOk s b l D cs → ∀ it ∈ D, ∃ o ∈ cs, ∃ s2 b2 l2, Mk s b l o s2 b2 l2 ∧ it = .lst [deK o, dTl s2 b2 l2]
  | [], [], _, _, h => by simp at h
  | [], _ :: _, g, _, _ => g.elim
  | _ :: _, [], g, _, _ => g.elim
  | it :: D, o :: cs, g, x, hx => by
    rcases List.mem_cons.mp hx with rfl | hx
    · exact ⟨o, List.mem_cons_self, g.1⟩
    · obtain ⟨o', h1, h2⟩ := DOk.mem g.2 x hx
      exact ⟨o', List.mem_cons_of_mem _ h1, h2⟩
theorem pys_deK : ∀ cs : List T, T.pys (cs.map deK) = T.pys cs
  | [] => rfl
  | c :: cs => by simp only [List.map_cons, T.pys, deK_py, pys_deK cs]
theorem ne_due (ok : POk s b l) : neF (.lst (chP s b l)) (.lst ((chP s b l).map deK)) = some (.d (.bl false)) := by
  have hp : Pdts ((chP s b l).map deK) := fun t ht => by
    obtain ⟨o, ho, rfl⟩ := List.mem_map.mp ht
    obtain ⟨_, _, _, g⟩ := mk_of ho
    exact (g.chd ok).h.pd
  have e := neF_lst hp
  have : neF (.lst (chP s b l)) (.lst ((chP s b l).map deK)) = neF (.lst ((chP s b l).map deK)) (.lst ((chP s b l).map deK)) := by
    unfold neF eqB
    simp only [scT, T.py, pys_deK]
  rw [this, e]
end
end FL
namespace FL
open PySem L2 PyProof.Rows
variable [TabPar]
theorem callN_row {n : Nat} {F : Fn} {sl sl' : List (Option U)} {g : List Ob} {row row' : List T} {ob : Ob} {i : Nat} (hF : F [.lst row] [.own 0] = .ok (.own 1) ⟨sl', [.lst row', ob]⟩) (hd : refO 0 ob = true) (h0 : sl[i]? = some (some (.own 0))) (hn : n = 1) :
    mCallN n F [true] (aCons (mVar i) aNil) ⟨sl, .lst row :: g⟩ = .ok (.own (g.length + 1)) ⟨sl, .lst row' :: (g ++ [ob])⟩ := by
  subst hn
  unfold mCallN
  rw [ev_aCons, ev_var h0]
  simp [argC, callN, owns, adds, reach, ownsO, handOn, renO, renUs, renU, behind, hF, hd, handBack, backO]
theorem eqA_ev {C : Addr} {FE : Fn} {st : List Ob} {ma mb : DE} {sl : List (Option U)} {st1 st2 : List Ob} {tx ty : T} {q : Bool} (h1 : ma ⟨sl, st⟩ = .ok (.d tx) ⟨sl, st1⟩) (h2 : mb ⟨sl, st1⟩ = .ok (.d ty) ⟨sl, st2⟩) (hx : isObj C tx = true) (hy : isObj C ty = true ∨ isTupT ty = true) (hF : FE [] [.d tx, .d ty] = .ok (.d (.bl q)) ⟨[], []⟩) :
    mEqA C FE ma mb ⟨sl, st⟩ = .ok (.d (.bl q)) ⟨sl, st2⟩ := by
  unfold mEqA
  rw [h1, R.bind_ok, h2, R.bind_ok, toD_data]
  dsimp only
  rw [toD_data]
  dsimp only
  rw [if_pos ⟨hx, hy⟩, hF]
  rfl
theorem obj_prog {C : Addr} {s : Str} {b l : List Sm} : isObj C (progT C s b l) = true := by simp [isObj, progT]
section
variable (C_Program C_StretchError C_UnknownChange : Addr) {s : Str} {b l : List Sm} {row : List T} {k j : Nat} {a0 a2 a3 a4 a5 a6 a7 a8 a9 a10 a12 a13 a14 : Option U}
theorem f_madeD (ok : POk s b l) : dataF (F__law_made C_Program C_StretchError C_UnknownChange) [dTl s b l] = some (progT C_Program s b l) := by
  have hn := new_prog C_Program C_StretchError C_UnknownChange ok
  unfold F__law_made
  rw [dataF_run]
  have h1 := dk_block s b l
  have h2 := dk_all s b l
  have hd : d__law_made C_Program (F_Program_init C_Program C_StretchError C_UnknownChange) ⟨[some (.d (dTl s b l))], []⟩ = .rt (.own 0) ⟨[some (.d (dTl s b l))], [.obj C_Program ["order", "body", "ending", "rows", "words"] (([.str s, .tup (ens b), .tup (ens l), .dt ((progQ b l).map fun q => .tup (q.1.map kT)) ((progQ b l).map fun q => q.2.e), .lst ((progQ b l).map fun q => q.2.ws).flatten] : List T).map U.d)]⟩ := by
    unfold d__law_made
    simp [ev_new, opK, pk, h1, h2, hn]
  have e0 : (([dTl s b l].map U.d).map some ++ List.replicate (1 - [dTl s b l].length) none : List (Option U)) = [some (.d (dTl s b l))] := rfl
  rw [e0, hd]
  simp [resD, toD, toDs, progT]
abbrev cB (C : Addr) (FE FC FM : Fn) : DS := mIfS (mNotT (mTest (mEqA C FE (mCall 2 FC [false, false] (aCons (mVar 3) (aCons (mVar 10) aNil))) (mCall 1 FM [true] (aCons (mVar 11) aNil))))) (mRet (mC (.bl false))) mNx
theorem c_loop (ok : POk s b l) {cs : List T} (hcs : ∀ o ∈ cs, o ∈ chP s b l) : ∀ (D : List T) (st : List Ob) (a10 a11 : Option U), (∀ it ∈ D, ∃ o ∈ cs, ∃ s2 b2 l2, Mk s b l o s2 b2 l2 ∧ it = .lst [deK o, dTl s2 b2 l2]) → ∃ a10' a11',
    forL (gT 2 (gsCons (gN 10) (gsCons (gN 11) gsNil))) (cB C_Program (F_Program_eq C_Program C_StretchError C_UnknownChange) (F_changed C_Program C_StretchError C_UnknownChange) (F__law_made C_Program C_StretchError C_UnknownChange)) D ⟨w15 a0 a2 (some (.d (progT C_Program s b l))) a4 a5 a6 a7 a8 a9 a10 a11 a12 a13 a14, st⟩ = .nx ⟨w15 a0 a2 (some (.d (progT C_Program s b l))) a4 a5 a6 a7 a8 a9 a10' a11' a12 a13 a14, st⟩
  | [], st, a10, a11, _ => ⟨a10, a11, rfl⟩
  | it :: D, st, a10, a11, h => by
    obtain ⟨o, ho, s2, b2, l2, mk, rfl⟩ := h it List.mem_cons_self
    obtain ⟨c10, c11, e⟩ := c_loop ok hcs D st (some (.d (deK o))) (some (.d (dTl s2 b2 l2))) fun x hx => h x (List.mem_cons_of_mem _ hx)
    refine ⟨c10, c11, ?_⟩
    have ch := mk.chd ok
    have ok2 := mk.ok ok
    have fc := f_changed C_Program C_StretchError C_UnknownChange ok (deK_tup ch.t) ch.h mk (hcs o ho) rfl
    have fm := f_madeD C_Program C_StretchError C_UnknownChange ok2
    obtain ⟨q, fe, fq⟩ := f_eqP C_Program C_StretchError C_UnknownChange ok2 ok2
    have hq : q = true := fq.mpr ⟨rfl, rfl, rfl⟩
    subst hq
    have hg : gT 2 (gsCons (gN 10) (gsCons (gN 11) gsNil)) (.d (.lst [deK o, dTl s2 b2 l2])) ⟨w15 a0 a2 (some (.d (progT C_Program s b l))) a4 a5 a6 a7 a8 a9 a10 a11 a12 a13 a14, st⟩ = .ok () ⟨w15 a0 a2 (some (.d (progT C_Program s b l))) a4 a5 a6 a7 a8 a9 (some (.d (deK o))) (some (.d (dTl s2 b2 l2))) a12 a13 a14, st⟩ := by
      simp [gT, gsCons, gsNil, pk, itm]
    have hb : cB C_Program (F_Program_eq C_Program C_StretchError C_UnknownChange) (F_changed C_Program C_StretchError C_UnknownChange) (F__law_made C_Program C_StretchError C_UnknownChange) ⟨w15 a0 a2 (some (.d (progT C_Program s b l))) a4 a5 a6 a7 a8 a9 (some (.d (deK o))) (some (.d (dTl s2 b2 l2))) a12 a13 a14, st⟩ = .nx ⟨w15 a0 a2 (some (.d (progT C_Program s b l))) a4 a5 a6 a7 a8 a9 (some (.d (deK o))) (some (.d (dTl s2 b2 l2))) a12 a13 a14, st⟩ := by
      have h1 : mCall 2 (F_changed C_Program C_StretchError C_UnknownChange) [false, false] (aCons (mVar 3) (aCons (mVar 10) aNil)) ⟨w15 a0 a2 (some (.d (progT C_Program s b l))) a4 a5 a6 a7 a8 a9 (some (.d (deK o))) (some (.d (dTl s2 b2 l2))) a12 a13 a14, st⟩ = .ok (.d (progT C_Program s2 b2 l2)) ⟨w15 a0 a2 (some (.d (progT C_Program s b l))) a4 a5 a6 a7 a8 a9 (some (.d (deK o))) (some (.d (dTl s2 b2 l2))) a12 a13 a14, st⟩ := by
        rw [ev_call, ev_aCons, ev_var3, R.bind_ok, ev_aCons, ev_var (i := 10) rfl, R.bind_ok, ev_aNil, R.bind_ok, R.bind_ok, R.bind_ok, callK_2, fc, datK_s]
      have h2 : mCall 1 (F__law_made C_Program C_StretchError C_UnknownChange) [true] (aCons (mVar 11) aNil) ⟨w15 a0 a2 (some (.d (progT C_Program s b l))) a4 a5 a6 a7 a8 a9 (some (.d (deK o))) (some (.d (dTl s2 b2 l2))) a12 a13 a14, st⟩ = .ok (.d (progT C_Program s2 b2 l2)) ⟨w15 a0 a2 (some (.d (progT C_Program s b l))) a4 a5 a6 a7 a8 a9 (some (.d (deK o))) (some (.d (dTl s2 b2 l2))) a12 a13 a14, st⟩ := by
        rw [ev_call, ev_aCons, ev_var (i := 11) rfl, R.bind_ok, ev_aNil, R.bind_ok, R.bind_ok, callK_1, fm, datK_s]
      have h3 := eqA_ev (C := C_Program) (FE := F_Program_eq C_Program C_StretchError C_UnknownChange) h1 h2 obj_prog (.inl obj_prog) fe
      unfold cB
      rw [ev_ifs, ev_notT, ev_test, h3, R.bind_ok, tstK_b, R.bind_ok, R.thn_ok]
      rfl
    simp only [forL, hg, hb]
    exact e
/-- wrong changes -/
def badL (s : Str) (b : List Sm) (c : T) : List T := [.non, .tup [.tup [.str "sorting"], .str s], .tup [.tup [.str "block", .int 9], .tup [.str "give", .str "one", .str "two"]], .tup [.tup [.str "sorting"], .str "up"], .tup [], c, .tup [.tup [.str "block"], .tup (ens b)], .str "sorting", .tup [.tup [.str "sorting"], .non]]
theorem bad_ref (ok : POk s b l) {c : T} (hc : notTup c = true) : ∀ x ∈ badL s b c, dataF (F__law_refused C_Program C_StretchError C_UnknownChange) [progT C_Program s b l, x] = some (.bl true) := by
  intro x hx
  obtain ⟨cb, cl⟩ := pok_cnt ok
  have w1 := sh_words (x := "sorting") (by simp)
  have w2 := sh_words (x := "block") (by simp)
  have w3 := sh_words (x := "give") (by simp)
  have w4 := sh_words (x := "up") (by simp)
  have w5 := sh_term (x := "one") (by simp)
  have w6 := sh_term (x := "two") (by simp)
  have sb := sh_ens (fun a h => h) b 2 ok.hb
  have db := (pt_ens (fun a h => h) b 2 ok.hb).2
  have nh : ∀ {o}, o ∈ chP s b l → ∃ s2 b2 l2, Mk s b l o s2 b2 l2 := fun h => mk_of h
  have ne0 : ∀ {p : List Nat} {bb : List Sm} {st : Sm}, StA bb p st → ¬ p = [] := fun h => h.ne
  simp only [badL, List.mem_cons, List.not_mem_nil, or_false] at hx
  rcases hx with rfl | rfl | rfl | rfl | rfl | rfl | rfl | rfl | rfl
  · exact f_lrefused C_Program C_StretchError C_UnknownChange ok (.inl rfl)
  · refine f_lrefused C_Program C_StretchError C_UnknownChange ok (.inr ⟨rfl, ⟨by simp only [shT_tup, shTs_cons, shTs_nil, w1, sh_sort ok.hs, Bool.and_self], by simp [dpT, dpTs], by simp [wtT, wtTs]⟩, fun o ho e => ?_⟩)
    obtain ⟨_, _, _, mk⟩ := nh ho
    cases mk with
    | b h o => simp [deK] at e
    | l h o => simp [deK] at e
    | s h n => simp [deK] at e; exact n e
  · refine f_lrefused C_Program C_StretchError C_UnknownChange ok (.inr ⟨rfl, ⟨by simp only [shT_tup, shTs_cons, shTs_nil, w2, w3, w5, w6, Bool.and_self]; simp [shT], by simp [dpT, dpTs], by simp [wtT, wtTs]⟩, fun o ho e => ?_⟩)
    obtain ⟨_, _, _, mk⟩ := nh ho
    cases mk with
    | @b p st s' h o =>
      have e9 : p = [9] := by
        simp only [deK, T.tup.injEq, List.cons.injEq, true_and] at e
        have e1 := e.1
        match p, e1 with
        | [], h => simp at h
        | [i], h =>
          simp at h
          have h9 : i = 9 := by omega
          rw [h9]
        | i :: j :: r, h => simp at h
      subst e9
      have hlc := len_cnts b
      cases h with
      | here g => rw [List.getElem?_eq_none (by omega)] at g; cases g
    | l h o => simp [deK] at e
    | s h n => simp [deK] at e
  · refine f_lrefused C_Program C_StretchError C_UnknownChange ok (.inr ⟨rfl, ⟨by simp only [shT_tup, shTs_cons, shTs_nil, w1, w4, Bool.and_self], by simp [dpT, dpTs], by simp [wtT, wtTs]⟩, fun o ho e => ?_⟩)
    obtain ⟨_, _, _, mk⟩ := nh ho
    cases mk with
    | b h o => simp [deK] at e
    | l h o => simp [deK] at e
    | s h n => simp [deK] at e; subst e; revert h; simp
  · refine f_lrefused C_Program C_StretchError C_UnknownChange ok (.inr ⟨rfl, ⟨by simp [shT, shTs], by simp [dpT, dpTs], by simp [wtT, wtTs]⟩, fun o ho e => ?_⟩)
    obtain ⟨_, _, _, mk⟩ := nh ho
    cases mk with
    | b h o => simp [deK] at e
    | l h o => simp [deK] at e
    | s h n => simp [deK] at e
  · exact f_lrefused C_Program C_StretchError C_UnknownChange ok (.inl hc)
  · refine f_lrefused C_Program C_StretchError C_UnknownChange ok (.inr ⟨rfl, ⟨by simp only [shT_tup, shTs_cons, shTs_nil, w2, sb.1, Bool.and_self], by simp only [dpT, dpTs]; omega, by have := sb.2; simp only [wtT, wtTs]; omega⟩, fun o ho e => ?_⟩)
    obtain ⟨_, _, _, mk⟩ := nh ho
    cases mk with
    | b h o => simp only [deK, T.tup.injEq, List.cons.injEq, true_and] at e; have := ne0 h; simp at e; exact this e.1
    | l h o => simp [deK] at e
    | s h n => simp [deK] at e
  · exact f_lrefused C_Program C_StretchError C_UnknownChange ok (.inl rfl)
  · refine f_lrefused C_Program C_StretchError C_UnknownChange ok (.inr ⟨rfl, ⟨by simp only [shT_tup, shTs_cons, shTs_nil, w1, Bool.and_true, Bool.true_and]; simp [shT], by simp [dpT, dpTs], by simp [wtT, wtTs]⟩, fun o ho e => ?_⟩)
    obtain ⟨_, _, _, mk⟩ := nh ho
    cases mk with
    | b h o => simp [deK] at e
    | l h o => simp [deK] at e
    | s h n => simp [deK] at e
end
end FL
namespace FL
open PySem L2 PyProof.Rows
variable [TabPar]
theorem set_same {st : List Ob} {k : Nat} {x : Ob} (h : st[k]? = some x) : st.set k x = st := by
  apply List.ext_getElem?
  intro i
  by_cases e : k = i
  · subst e
    rw [List.getElem?_set_self (List.getElem?_eq_some_iff.mp h).1, h]
  · rw [List.getElem?_set_ne e]
theorem frz_last {st : List Ob} {ts : List T} : toD 4 (.own st.length) (st ++ [.lst ts]) = some (.lst ts, st ++ [.frz (.lst ts)]) := by
  have g : (st ++ [Ob.lst ts])[st.length]? = some (.lst ts) := by simp
  have f : (st ++ [Ob.lst ts]).set st.length (.frz (.lst ts)) = st ++ [.frz (.lst ts)] := by simp
  simp [toD, g, f]
theorem lstK_5 {a b c d e : T} {ρ : Sg} : lstK [.d a, .d b, .d c, .d d, .d e] ρ = .ok (.own ρ.st.length) ⟨ρ.sl, ρ.st ++ [.lst [a, b, c, d, e]]⟩ := rfl
/-- a list newly made, walked at once -/
theorem seq_new {da : DA} {us : List U} {ts : List T} {sl : List (Option U)} {st st2 : List Ob} {ρ : Sg} (hd : da ρ = .ok us ⟨sl, st⟩) (hl : lstK us ⟨sl, st⟩ = .ok (.own st2.length) ⟨sl, st2 ++ [.lst ts]⟩) : iSeq (mLst da) ρ = .ok ts ⟨sl, st2 ++ [.frz (.lst ts)]⟩ := by
  rw [ev_iSeq, ev_lst, hd, R.bind_ok, hl, R.bind_ok]
  unfold seqK
  rw [frz_last]
  rfl
section
variable {sl : List (Option U)} {st : List Ob}
theorem tup_blk {nm : Str} {da : DA} {ts : List T} (hd : mLst da ⟨sl, st⟩ = .ok (.own st.length) ⟨sl, st ++ [.lst ts]⟩) : mTup (aCons (mC (.str nm)) (aCons (mLst da) aNil)) ⟨sl, st⟩ = .ok (.d (.tup [.str nm, .lst ts])) ⟨sl, st ++ [.frz (.lst ts)]⟩ := by
  rw [ev_tup, ev_aCons, ev_c, R.bind_ok, ev_aCons, hd, R.bind_ok, ev_aNil, R.bind_ok, R.bind_ok, R.bind_ok]
  unfold tupK
  have z : (2 : Nat) ≤ sizeLine := by decide
  simp [toDs, frz_last, toD_d, z]
theorem names_seq : iSeq (mLst (aCons (mTup (aCons (mC (.str "block")) (aCons (mLst (aCons (mC (.str "begin")) (aCons (mC (.str "end")) (aCons (mC (.str "one")) (aCons (mC (.str "two")) aNil))))) aNil))) (aCons (mTup (aCons (mC (.str "last")) (aCons (mLst (aCons (mC (.str "one")) (aCons (mC (.str "two")) aNil))) aNil))) aNil))) ⟨sl, st⟩ =
    .ok [.tup [.str "block", .lst [.str "begin", .str "end", .str "one", .str "two"]], .tup [.str "last", .lst [.str "one", .str "two"]]] ⟨sl, st ++ [.frz (.lst [.str "begin", .str "end", .str "one", .str "two"])] ++ [.frz (.lst [.str "one", .str "two"])] ++ [.frz (.lst [.tup [.str "block", .lst [.str "begin", .str "end", .str "one", .str "two"]], .tup [.str "last", .lst [.str "one", .str "two"]]])]⟩ := by
  have h1 : mTup (aCons (mC (.str "block")) (aCons (mLst (aCons (mC (.str "begin")) (aCons (mC (.str "end")) (aCons (mC (.str "one")) (aCons (mC (.str "two")) aNil))))) aNil)) ⟨sl, st⟩ = .ok (.d (.tup [.str "block", .lst [.str "begin", .str "end", .str "one", .str "two"]])) ⟨sl, st ++ [.frz (.lst [.str "begin", .str "end", .str "one", .str "two"])]⟩ := tup_blk rfl
  have h2 : ∀ st, mTup (aCons (mC (.str "last")) (aCons (mLst (aCons (mC (.str "one")) (aCons (mC (.str "two")) aNil))) aNil)) ⟨sl, st⟩ = .ok (.d (.tup [.str "last", .lst [.str "one", .str "two"]])) ⟨sl, st ++ [.frz (.lst [.str "one", .str "two"])]⟩ := fun st => tup_blk rfl
  refine seq_new (us := [.d _, .d _]) ?_ (lstK_2 (ρ := ⟨sl, st ++ [.frz (.lst [.str "begin", .str "end", .str "one", .str "two"])] ++ [.frz (.lst [.str "one", .str "two"])]⟩))
  rw [ev_aCons, h1, R.bind_ok, ev_aCons, h2, R.bind_ok, ev_aNil, R.bind_ok, R.bind_ok]
theorem sorts_seq : iSeq (mLst (aCons (mC (.str "none")) (aCons (mC (.str "begin")) (aCons (mC (.str "end")) (aCons (mC (.str "begin down")) (aCons (mC (.str "end down")) aNil)))))) ⟨sl, st⟩ = .ok (SORTs.map .str) ⟨sl, st ++ [.frz (.lst (SORTs.map .str))]⟩ :=
  seq_new rfl (lstK_5 (ρ := ⟨sl, st⟩))
end
section
variable (C_Program C_StretchError C_UnknownChange : Addr) {s : Str} {b l : List Sm} {row : List T} {k j : Nat} {a0 a2 a3 a4 a5 : Option U}
/-- both blocks -/
theorem names_run (ok : POk s b l) {st : List Ob} (a8 a9 a10 a11 a12 a13 a14 : Option U) (S : St2 st row k (dKv s b l) j []) : ∃ st' due a8' a9' a11' a12' a13' a14',
    mFor (iSeq (mLst (aCons (mTup (aCons (mC (.str "block")) (aCons (mLst (aCons (mC (.str "begin")) (aCons (mC (.str "end")) (aCons (mC (.str "one")) (aCons (mC (.str "two")) aNil))))) aNil))) (aCons (mTup (aCons (mC (.str "last")) (aCons (mLst (aCons (mC (.str "one")) (aCons (mC (.str "two")) aNil))) aNil))) aNil)))) (gT 2 (gsCons (gN 8) (gsCons (gN 9) gsNil))) (nB (F__law_all C_Program C_StretchError C_UnknownChange 8) (F__law_others C_Program C_StretchError C_UnknownChange) (F__law_with C_Program C_StretchError C_UnknownChange 8)) ⟨w15 a0 a2 a3 a4 a5 (some (.own k)) (some (.own j)) a8 a9 a10 a11 a12 a13 a14, st⟩ =
      .nx ⟨w15 a0 a2 a3 a4 a5 (some (.own k)) (some (.own j)) a8' a9' a10 a11' a12' a13' a14', st'⟩ ∧ St2 st' row k (dKv s b l) j due ∧
      DOk s b l due (((rowsN 0 b).map fun q => (q.2.oth TERMs).map (chOf "block" q.1)).flatten ++ ((rowsN 0 l).map fun q => (q.2.oth PLACs).map (chOf "last" q.1)).flatten) ∧ due.length ≤ 6400 := by
  have S0 : St2 (st ++ [.frz (.lst [.str "begin", .str "end", .str "one", .str "two"])] ++ [.frz (.lst [.str "one", .str "two"])] ++ [.frz (.lst [.tup [.str "block", .lst [.str "begin", .str "end", .str "one", .str "two"]], .tup [.str "last", .lst [.str "one", .str "two"]]])]) row k (dKv s b l) j [] := ((S.app _).app _).app _
  obtain ⟨st1, due1, b11, b12, b13, b14, e1, S1, D1, l1⟩ := name_run C_Program C_StretchError C_UnknownChange (a0 := a0) (a2 := a2) (a3 := a3) (a4 := a4) (a5 := a5) (a10 := a10) (bkB ok) (cs := []) a11 a12 a13 a14 S0 trivial (by simp)
  obtain ⟨st2, due2, c11, c12, c13, c14, e2, S2, D2, l2⟩ := name_run C_Program C_StretchError C_UnknownChange (a0 := a0) (a2 := a2) (a3 := a3) (a4 := a4) (a5 := a5) (a10 := a10) (bkL ok) b11 b12 b13 b14 S1 D1 (by simp at l1; omega)
  refine ⟨st2, due2, some (.d (.str "last")), some (.d (.lst [.str "one", .str "two"])), c11, c12, c13, c14, ?_, S2, by simpa using D2, by simp at l1; omega⟩
  rw [ev_for, names_seq, R.thn_ok]
  have g1 : ∀ (x y : T) (st : List Ob) (u8 u9 v11 v12 v13 v14 : Option U), gT 2 (gsCons (gN 8) (gsCons (gN 9) gsNil)) (.d (.tup [x, y])) ⟨w15 a0 a2 a3 a4 a5 (some (.own k)) (some (.own j)) u8 u9 a10 v11 v12 v13 v14, st⟩ = .ok () ⟨w15 a0 a2 a3 a4 a5 (some (.own k)) (some (.own j)) (some (.d x)) (some (.d y)) a10 v11 v12 v13 v14, st⟩ := fun x y st u8 u9 v11 v12 v13 v14 => by
    simp [gT, gsCons, gsNil, pk, itm]
  simp only [forL, g1]
  rw [e1]
  dsimp only
  rw [g1]
  dsimp only
  rw [e2]
/-- what is due stands frozen -/
structure St3 (st : List Ob) (row : List T) (k : Nat) (D : Ob) (j : Nat) (due : List T) : Prop where
  h0 : st[0]? = some (.lst row)
  hk : st[k]? = some D
  hj : st[j]? = some (.frz (.lst due))
theorem St3.app {st : List Ob} {D : Ob} {due : List T} (h : St3 st row k D j due) (xs : List Ob) : St3 (st ++ xs) row k D j due := ⟨ga h.h0, ga h.hk, ga h.hj⟩
/-- changes tells them -/
theorem cmp_run (ok : POk s b l) {st : List Ob} {due : List T} (a8 a9 a10 a11 a12 a13 a14 : Option U) (S : St2 st row k (dKv s b l) j due) (D : DOk s b l due (chP s b l)) (hd : due.length ≤ 80000) : ∃ st',
    mIfS (mTOp neF (mCall 1 (F_changes C_Program C_StretchError C_UnknownChange) [false] (aCons (mVar 3) aNil)) (mLc (iSeq (mVar 7)) (gT 2 (gsCons (gN 10) (gsCons (gN 11) gsNil))) mYes (mVar 10) [10, 11])) (mRet (mC (.bl false))) mNx ⟨w15 a0 a2 (some (.d (progT C_Program s b l))) a4 a5 (some (.own k)) (some (.own j)) a8 a9 a10 a11 a12 a13 a14, st⟩ =
      .nx ⟨w15 a0 a2 (some (.d (progT C_Program s b l))) a4 a5 (some (.own k)) (some (.own j)) a8 a9 a10 a11 a12 a13 a14, st'⟩ ∧ St3 st' row k (dKv s b l) j due := by
  have hjl := (List.getElem?_eq_some_iff.mp S.hj).1
  have S3 : St3 (st.set j (.frz (.lst due))) row k (dKv s b l) j due := ⟨by rw [List.getElem?_set_ne (by have := S.j0; omega)]; exact S.h0, by rw [List.getElem?_set_ne (by have := S.kj; omega)]; exact S.hk, by rw [List.getElem?_set_self hjl]⟩
  refine ⟨st.set j (.frz (.lst due)) ++ [.lst (due.map fst1)], ?_, S3.app _⟩
  have ec := f_changes C_Program C_StretchError C_UnknownChange ok
  have en := ne_due (s := s) (b := b) (l := l) ok
  rw [← D.fst] at en
  have hs : iSeq (mVar 7) ⟨w15 a0 a2 (some (.d (progT C_Program s b l))) a4 a5 (some (.own k)) (some (.own j)) a8 a9 a10 a11 a12 a13 a14, st⟩ = .ok due ⟨w15 a0 a2 (some (.d (progT C_Program s b l))) a4 a5 (some (.own k)) (some (.own j)) a8 a9 a10 a11 a12 a13 a14, st.set j (.frz (.lst due))⟩ := by
    rw [ev_iSeq, ev_var (i := 7) rfl, R.bind_ok]
    unfold seqK
    simp only [toD, S.hj, itm]
  have hl : lcL (gT 2 (gsCons (gN 10) (gsCons (gN 11) gsNil))) mYes (mVar 10) [10, 11] (w15 a0 a2 (some (.d (progT C_Program s b l))) a4 a5 (some (.own k)) (some (.own j)) a8 a9 a10 a11 a12 a13 a14) due [] (st.set j (.frz (.lst due))) = .ok ([] ++ due.map fst1) ⟨w15 a0 a2 (some (.d (progT C_Program s b l))) a4 a5 (some (.own k)) (some (.own j)) a8 a9 a10 a11 a12 a13 a14, st.set j (.frz (.lst due))⟩ := by
    refine lc_map due [] (fun x hx => ?_) (zb (by simp; omega))
    obtain ⟨o, _, s2, b2, l2, _, rfl⟩ := D.mem x hx
    exact ⟨⟨w15 a0 a2 (some (.d (progT C_Program s b l))) a4 a5 (some (.own k)) (some (.own j)) a8 a9 (some (.d (deK o))) (some (.d (dTl s2 b2 l2))) a12 a13 a14, st.set j (.frz (.lst due))⟩, w15 a0 a2 (some (.d (progT C_Program s b l))) a4 a5 (some (.own k)) (some (.own j)) a8 a9 (some (.d (deK o))) (some (.d (dTl s2 b2 l2))) a12 a13 a14, by simp [gT, gsCons, gsNil, pk, itm, wipeL], by rw [ev_var (i := 10) rfl]; rfl⟩
  rw [List.nil_append] at hl
  have hc : mTOp neF (mCall 1 (F_changes C_Program C_StretchError C_UnknownChange) [false] (aCons (mVar 3) aNil)) (mLc (iSeq (mVar 7)) (gT 2 (gsCons (gN 10) (gsCons (gN 11) gsNil))) mYes (mVar 10) [10, 11]) ⟨w15 a0 a2 (some (.d (progT C_Program s b l))) a4 a5 (some (.own k)) (some (.own j)) a8 a9 a10 a11 a12 a13 a14, st⟩ = .ok false ⟨w15 a0 a2 (some (.d (progT C_Program s b l))) a4 a5 (some (.own k)) (some (.own j)) a8 a9 a10 a11 a12 a13 a14, st.set j (.frz (.lst due)) ++ [.lst (due.map fst1)]⟩ := by
    rw [ev_top, ev_call, ev_aCons, ev_var3, R.bind_ok, ev_aNil, R.bind_ok, R.bind_ok, callK_1, ec, datK_s, R.bind_ok, ev_lc, hs, R.bind_ok]
    dsimp only
    rw [hl, R.bind_ok, R.bind_ok]
    have hp : pk (st.set j (.frz (.lst due)) ++ [.lst (due.map fst1)]) (.own (st.set j (.frz (.lst due))).length) = some (.lst (due.map fst1)) := by simp [pk]
    simp only [opK, pk_d, hp, en]
    rfl
  rw [ev_ifs, hc, R.thn_ok]
  rfl
end
end FL
namespace FL
open PySem L2 PyProof.Rows
variable [TabPar]
theorem DOk.last {s : Str} {b l : List Sm} {D cs : List T} (h : DOk s b l D cs) (n : cs ≠ []) : ∃ o s2 b2 l2, Mk s b l o s2 b2 l2 ∧ atI D (-1) = some (.lst [deK o, dTl s2 b2 l2]) := by
  have hl := h.len
  have hp : 0 < D.length := by
    rw [hl]
    cases cs with
    | nil => exact absurd rfl n
    | cons c cs => simp
  have hg : D[D.length - 1]? = some (D[D.length - 1]'(by omega)) := List.getElem?_eq_getElem (by omega)
  obtain ⟨o, _, s2, b2, l2, mk, e⟩ := h.mem _ (List.mem_of_getElem? hg)
  refine ⟨o, s2, b2, l2, mk, ?_⟩
  rw [← e]
  have h1 : ixN D.length (-1) = some (D.length - 1) := by
    have a1 : ¬ ((0 : Int) ≤ -1) := by omega
    have a2 : (-(D.length : Int)) ≤ -1 := by omega
    have a3 : ((-1 : Int) + (D.length : Int)).toNat = D.length - 1 := by omega
    simp only [ixN]
    simp [a2, a3]
    try omega
  simp only [atI, h1, Option.bind_some, hg]
/-- the list of wrong ones -/
abbrev b1 : DE := (mLst (aCons (mC .non) (aCons (mTup (aCons (mTup (aCons (mC (.str "sorting")) aNil)) (aCons (mOp ixAF (mVar 6) (mC (.str "sorting"))) aNil))) (aCons (mTup (aCons (mTup (aCons (mC (.str "block")) (aCons (mC (.int 9)) aNil))) (aCons (mTup (aCons (mC (.str "give")) (aCons (mC (.str "one")) (aCons (mC (.str "two")) aNil)))) aNil))) (aCons (mTup (aCons (mTup (aCons (mC (.str "sorting")) aNil)) (aCons (mC (.str "up")) aNil))) (aCons (mTup aNil) aNil))))))
abbrev b2 : DE := (mLst (aCons (mCa listF (aCons (mOp ixAF (mOp ixAF (mVar 7) (mNeg (mC (.int 1)))) (mC (.int 0))) aNil)) (aCons (mTup (aCons (mTup (aCons (mC (.str "block")) aNil)) (aCons (mOp ixAF (mVar 6) (mC (.str "block"))) aNil))) (aCons (mC (.str "sorting")) (aCons (mTup (aCons (mTup (aCons (mC (.str "sorting")) aNil)) (aCons (mC .non) aNil))) aNil)))))
section
variable {s : Str} {b l : List Sm} {row : List T} {k j : Nat} {a0 a2 a3 a4 a8 a9 a10 a11 a12 a13 a14 : Option U}
theorem b1_run {st : List Ob} (a5 a7 : Option U) (hk : st[k]? = some (dKv s b l)) : b1 ⟨w15 a0 a2 a3 a4 a5 (some (.own k)) a7 a8 a9 a10 a11 a12 a13 a14, st⟩ = .ok (.own st.length) ⟨w15 a0 a2 a3 a4 a5 (some (.own k)) a7 a8 a9 a10 a11 a12 a13 a14, st ++ [.lst [.non, .tup [.tup [.str "sorting"], .str s], .tup [.tup [.str "block", .int 9], .tup [.str "give", .str "one", .str "two"]], .tup [.tup [.str "sorting"], .str "up"], .tup []]]⟩ := by
  have pk6 : pk st (.own k) = some (.dk dKs [.str s, .tup (ens b), .tup (ens l)]) := by simp [pk, hk]
  have hix := (dk_all s b l).1
  unfold b1
  simp [ev_var (i := 6), opK, pk6, pk_d, hix, lstK_5]
theorem b2_run {st : List Ob} {due ts : List T} {o : T} {e : T} (a5 : Option U) (hk : st[k]? = some (dKv s b l)) (hj : st[j]? = some (.frz (.lst due))) (hl : atI due (-1) = some (.lst [.tup ts, e])) :
    b2 ⟨w15 a0 a2 a3 a4 a5 (some (.own k)) (some (.own j)) a8 a9 a10 a11 a12 a13 a14, st⟩ = .ok (.own (st.length + 1)) ⟨w15 a0 a2 a3 a4 a5 (some (.own k)) (some (.own j)) a8 a9 a10 a11 a12 a13 a14, st ++ [.frz (.lst ts)] ++ [.lst [.lst ts, .tup [.tup [.str "block"], .tup (ens b)], .str "sorting", .tup [.tup [.str "sorting"], .non]]]⟩ := by
  have pk6 : pk (st ++ [.lst ts]) (.own k) = some (.dk dKs [.str s, .tup (ens b), .tup (ens l)]) := by simp [pk, ga hk]
  have pk7 : pk st (.own j) = some (.lst due) := by simp [pk, hj]
  have hix := dk_block s b l
  have hx : ixAF (.lst due) (.int (-1)) = some (.d (.lst [.tup ts, e])) := ixA_lst hl
  have e1 : mCa listF (aCons (mOp ixAF (mOp ixAF (mVar 7) (mNeg (mC (.int 1)))) (mC (.int 0))) aNil) ⟨w15 a0 a2 a3 a4 a5 (some (.own k)) (some (.own j)) a8 a9 a10 a11 a12 a13 a14, st⟩ = .ok (.own st.length) ⟨w15 a0 a2 a3 a4 a5 (some (.own k)) (some (.own j)) a8 a9 a10 a11 a12 a13 a14, st ++ [.lst ts]⟩ := by
    simp [ev_var (i := 7), mNeg, opK, pk7, pk_d, hx, caK, pks, listF, itm, mO]
  have e2 : mTup (aCons (mTup (aCons (mC (.str "block")) aNil)) (aCons (mOp ixAF (mVar 6) (mC (.str "block"))) aNil)) ⟨w15 a0 a2 a3 a4 a5 (some (.own k)) (some (.own j)) a8 a9 a10 a11 a12 a13 a14, st ++ [.lst ts]⟩ = .ok (.d (.tup [.tup [.str "block"], .tup (ens b)])) ⟨w15 a0 a2 a3 a4 a5 (some (.own k)) (some (.own j)) a8 a9 a10 a11 a12 a13 a14, st ++ [.lst ts]⟩ := by
    simp [ev_var (i := 6), opK, pk6, pk_d, hix]
  unfold b2
  rw [ev_lst, ev_aCons, e1, R.bind_ok, ev_aCons, e2, R.bind_ok]
  have z4 : (4 : Nat) ≤ sizeLine := by decide
  simp [lstK, toDs, frz_last, toD_d, z4]
theorem cat_run {st : List Ob} {xs ys : List T} {m n : Nat} {sl : List (Option U)} (h1 : st[m]? = some (.lst xs)) (h2 : st[n]? = some (.lst ys)) (hl : xs.length + ys.length ≤ 1000) : opK addF (.own m) (.own n) ⟨sl, st⟩ = .ok (.own st.length) ⟨sl, st ++ [.lst (xs ++ ys)]⟩ := by
  have q : xs.length + ys.length ≤ sizeLine := zs hl
  simp [opK, pk, h1, h2, addF, q, mO]
end
section
variable (C_Program C_StretchError C_UnknownChange : Addr)
abbrev turnB (FX FT FE FC FM FH FA FO FW FD : Fn) : DS := mSeq (mPar 6 7 (aCons (mCallN 1 FD [true] (aCons (mVar 1) aNil)) (aCons (mLst aNil) aNil))) (mSeq (mSet 3 (mCall 1 FM [true] (aCons (mVar 6) aNil)))
  (mSeq (mFor (iSeq (mLst (aCons (mTup (aCons (mC (.str "block")) (aCons (mLst (aCons (mC (.str "begin")) (aCons (mC (.str "end")) (aCons (mC (.str "one")) (aCons (mC (.str "two")) aNil))))) aNil))) (aCons (mTup (aCons (mC (.str "last")) (aCons (mLst (aCons (mC (.str "one")) (aCons (mC (.str "two")) aNil))) aNil))) aNil)))) (gT 2 (gsCons (gN 8) (gsCons (gN 9) gsNil))) (nB FA FO FW))
  (mSeq (mFor (iSeq (mLst (aCons (mC (.str "none")) (aCons (mC (.str "begin")) (aCons (mC (.str "end")) (aCons (mC (.str "begin down")) (aCons (mC (.str "end down")) aNil))))))) (gN 4) sB)
  (mSeq (mIfS (mTOp neF (mCall 1 FH [false] (aCons (mVar 3) aNil)) (mLc (iSeq (mVar 7)) (gT 2 (gsCons (gN 10) (gsCons (gN 11) gsNil))) mYes (mVar 10) [10, 11])) (mRet (mC (.bl false))) mNx)
  (mSeq (mFor (iSeq (mVar 7)) (gT 2 (gsCons (gN 10) (gsCons (gN 11) gsNil))) (cB C_Program FE FC FM))
  (mSeq (mSet 5 b1) (mSeq (mSet 5 (mOp addF (mVar 5) b2)) (mIfS (mNotT (mTest (mCall 2 FX [false, false] (aCons (mVar 3) (aCons (mOp ixAF (mVar 5) (mCall 2 FT [true, false] (aCons (mVar 1) (aCons (mC (.int 9)) aNil)))) aNil))))) (mRet (mC (.bl false))) mNx))))))))
theorem d_law_eq (FX FT FE FC FM FH FA FO FW FD : Fn) : d_law C_Program FX FT FE FC FM FH FA FO FW FD = mSeq (mSet 1 (mLst (aCons (mVar 0) (aCons (mC (.int 0)) (aCons (mC (.int 0)) (aCons (mC (.int 0)) aNil)))))) (mSeq (mFor (iR1 (aCons (mC (.int 3)) aNil)) (gN 2) (turnB C_Program FX FT FE FC FM FH FA FO FW FD)) (mRet (mC (.bl true)))) := by
  unfold d_law turnB
  with_reducible rfl
noncomputable abbrev turnF : DS := turnB C_Program (F__law_refused C_Program C_StretchError C_UnknownChange) (F__law_taken C_Program C_StretchError C_UnknownChange) (F_Program_eq C_Program C_StretchError C_UnknownChange) (F_changed C_Program C_StretchError C_UnknownChange) (F__law_made C_Program C_StretchError C_UnknownChange) (F_changes C_Program C_StretchError C_UnknownChange) (F__law_all C_Program C_StretchError C_UnknownChange 8) (F__law_others C_Program C_StretchError C_UnknownChange) (F__law_with C_Program C_StretchError C_UnknownChange 8) (F__law_drawn C_Program C_StretchError C_UnknownChange)
theorem turn_ok {ns : List Int} {row : List T} (h : Vr ns row) (a0 a2 a3 a4 a5 a6 a7 a8 a9 a10 a11 a12 a13 a14 : Option U) (g : List Ob) : ∃ row' g' b3 b4 b5 b6 b7 b8 b9 b10 b11 b12 b13 b14,
    turnF C_Program C_StretchError C_UnknownChange ⟨w15 a0 a2 a3 a4 a5 a6 a7 a8 a9 a10 a11 a12 a13 a14, .lst row :: g⟩ = .nx ⟨w15 a0 a2 b3 b4 b5 b6 b7 b8 b9 b10 b11 b12 b13 b14, .lst row' :: g'⟩ ∧ Vr ns row' := by
  obtain ⟨s, b, l, r1, t1, e1, ok, h1⟩ := f_drawn C_Program C_StretchError C_UnknownChange h
  have p1 := callN_row (n := 1) (g := g) (sl := w15 a0 a2 a3 a4 a5 a6 a7 a8 a9 a10 a11 a12 a13 a14) (i := 1) e1 rfl rfl rfl
  -- drawn
  have q1 : mPar 6 7 (aCons (mCallN 1 (F__law_drawn C_Program C_StretchError C_UnknownChange) [true] (aCons (mVar 1) aNil)) (aCons (mLst aNil) aNil)) ⟨w15 a0 a2 a3 a4 a5 a6 a7 a8 a9 a10 a11 a12 a13 a14, .lst row :: g⟩ = .nx ⟨w15 a0 a2 a3 a4 a5 (some (.own (g.length + 1))) (some (.own (g.length + 2))) a8 a9 a10 a11 a12 a13 a14, .lst r1 :: (g ++ [dKv s b l]) ++ [.lst []]⟩ := by
    unfold mPar
    rw [ev_aCons, p1, R.bind_ok, ev_aCons, ev_lst, ev_aNil, R.bind_ok, lstK_0, R.bind_ok, ev_aNil, R.bind_ok, R.bind_ok, R.thn_ok]
    have : (Ob.lst r1 :: (g ++ [dKv s b l])).length = g.length + 2 := by simp
    dsimp only
    rw [this]
    rfl
  have S1 : St2 (.lst r1 :: (g ++ [dKv s b l]) ++ [.lst []]) r1 (g.length + 1) (dKv s b l) (g.length + 2) [] := by
    refine ⟨rfl, ?_, ?_, by omega, by omega, by omega⟩
    · simp
    · rw [show g.length + 2 = (Ob.lst r1 :: (g ++ [dKv s b l])).length by simp]
      simp
  generalize (Ob.lst r1 :: (g ++ [dKv s b l]) ++ [Ob.lst []]) = st1 at q1 S1
  generalize g.length + 1 = k at q1 S1
  generalize g.length + 2 = j at q1 S1
  obtain ⟨t2, e2⟩ := f_made C_Program C_StretchError C_UnknownChange ok
  have q2 : mSet 3 (mCall 1 (F__law_made C_Program C_StretchError C_UnknownChange) [true] (aCons (mVar 6) aNil)) ⟨w15 a0 a2 a3 a4 a5 (some (.own k)) (some (.own j)) a8 a9 a10 a11 a12 a13 a14, st1⟩ = .nx ⟨w15 a0 a2 (some (.d (progT C_Program s b l))) a4 a5 (some (.own k)) (some (.own j)) a8 a9 a10 a11 a12 a13 a14, st1⟩ := by
    have c1 := callK_own (n := 1) (cs := []) (ts := []) (ρ := ⟨w15 a0 a2 a3 a4 a5 (some (.own k)) (some (.own j)) a8 a9 a10 a11 a12 a13 a14, st1⟩) (i := k) (ob := dKv s b l) S1.hk rfl e2 rfl rfl
    simp only [List.map_nil, set_same S1.hk] at c1
    rw [ev_set, ev_call, ev_aCons, ev_var (i := 6) rfl, R.bind_ok, ev_aNil, R.bind_ok, R.bind_ok, c1]
    rfl
  obtain ⟨st3, due3, b8, b9, b11, b12, b13, b14, q3, S3, D3, l3⟩ := names_run C_Program C_StretchError C_UnknownChange (a0 := a0) (a2 := a2) (a3 := some (.d (progT C_Program s b l))) (a4 := a4) (a5 := a5) ok a8 a9 a10 a11 a12 a13 a14 S1
  have S3' := S3.app [.frz (.lst (SORTs.map .str))]
  obtain ⟨st4, due4, c4, c11, q4, S4, D4, l4⟩ := s_loop (a0 := a0) (a2 := a2) (a3 := some (.d (progT C_Program s b l))) (a5 := a5) (a8 := b8) (a9 := b9) (a10 := a10) (a12 := b12) (a13 := b13) (a14 := b14) SORTs _ due3 _ a4 b11 (fun x hx => hx) S3' D3 (by simp; omega)
  rw [← chP_eq] at D4
  simp only [List.length_cons, List.length_nil] at l4
  obtain ⟨st5, q5, S5⟩ := cmp_run C_Program C_StretchError C_UnknownChange (a0 := a0) (a2 := a2) (a4 := c4) (a5 := a5) ok b8 b9 a10 c11 b12 b13 b14 S4 D4 (by omega)
  obtain ⟨d10, d11, q6⟩ := c_loop C_Program C_StretchError C_UnknownChange (a0 := a0) (a2 := a2) (a4 := c4) (a5 := a5) (a6 := some (.own k)) (a7 := some (.own j)) (a8 := b8) (a9 := b9) (a12 := b12) (a13 := b13) (a14 := b14) ok (fun o ho => ho) due4 st5 a10 c11 D4.mem
  have n4 : chP s b l ≠ [] := by
    intro e
    have := chP_eq (s := s) (b := b) (l := l)
    rw [e] at this
    have h5 := congrArg List.length this
    simp only [List.length_nil, List.length_append, List.length_map] at h5
    have hne : 0 < (SORTs.filter fun x => !decide (x = s)).length := by
      rw [List.length_pos_iff_exists_mem]
      by_cases e1 : s = "none"
      · exact ⟨"begin", by subst e1; simp [SORTs]⟩
      · exact ⟨"none", by rw [List.mem_filter]; exact ⟨by simp, by simp; exact fun h => e1 h.symm⟩⟩
    omega
  obtain ⟨oL, s2, b2', l2, mkL, eL⟩ := D4.last n4
  have hT : ∃ ts, deK oL = .tup ts := by
    have := deK_tup (mkL.chd ok).t
    cases e : deK oL with
    | tup ts => exact ⟨ts, rfl⟩
    | _ => rw [e] at this; cases this
  obtain ⟨ts, eT⟩ := hT
  rw [eT] at eL
  have q7 := b1_run (a0 := a0) (a2 := a2) (a3 := some (.d (progT C_Program s b l))) (a4 := c4) (a8 := b8) (a9 := b9) (a10 := d10) (a11 := d11) (a12 := b12) (a13 := b13) (a14 := b14) a5 (some (.own j)) S5.hk
  have S7 := S5.app [.lst [.non, .tup [.tup [.str "sorting"], .str s], .tup [.tup [.str "block", .int 9], .tup [.str "give", .str "one", .str "two"]], .tup [.tup [.str "sorting"], .str "up"], .tup []]]
  have m7 : (st5 ++ [Ob.lst [.non, .tup [.tup [.str "sorting"], .str s], .tup [.tup [.str "block", .int 9], .tup [.str "give", .str "one", .str "two"]], .tup [.tup [.str "sorting"], .str "up"], .tup []]])[st5.length]? = some (.lst [.non, .tup [.tup [.str "sorting"], .str s], .tup [.tup [.str "block", .int 9], .tup [.str "give", .str "one", .str "two"]], .tup [.tup [.str "sorting"], .str "up"], .tup []]) := by simp
  generalize (st5 ++ [Ob.lst [.non, .tup [.tup [.str "sorting"], .str s], .tup [.tup [.str "block", .int 9], .tup [.str "give", .str "one", .str "two"]], .tup [.tup [.str "sorting"], .str "up"], .tup []]]) = st7 at q7 S7 m7
  generalize st5.length = m at q7 m7
  have q8 := b2_run (a0 := a0) (a2 := a2) (a3 := some (.d (progT C_Program s b l))) (a4 := c4) (a8 := b8) (a9 := b9) (a10 := d10) (a11 := d11) (a12 := b12) (a13 := b13) (a14 := b14) (o := oL) (some (.own m)) S7.hk S7.hj eL
  have S8 := (S7.app [.frz (.lst ts)]).app [.lst [.lst ts, .tup [.tup [.str "block"], .tup (ens b)], .str "sorting", .tup [.tup [.str "sorting"], .non]]]
  have m8 : (st7 ++ [Ob.frz (.lst ts)] ++ [.lst [.lst ts, .tup [.tup [.str "block"], .tup (ens b)], .str "sorting", .tup [.tup [.str "sorting"], .non]]])[m]? = _ := ga (ga m7)
  have m8' : (st7 ++ [Ob.frz (.lst ts)] ++ [.lst [.lst ts, .tup [.tup [.str "block"], .tup (ens b)], .str "sorting", .tup [.tup [.str "sorting"], .non]]])[st7.length + 1]? = some (.lst [.lst ts, .tup [.tup [.str "block"], .tup (ens b)], .str "sorting", .tup [.tup [.str "sorting"], .non]]) := by
    rw [show st7.length + 1 = (st7 ++ [Ob.frz (.lst ts)]).length by simp]
    simp
  generalize (st7 ++ [Ob.frz (.lst ts)] ++ [Ob.lst [.lst ts, .tup [.tup [.str "block"], .tup (ens b)], .str "sorting", .tup [.tup [.str "sorting"], .non]]]) = st8 at q8 S8 m8 m8'
  generalize st7.length + 1 = n at q8 m8'
  have q9 := cat_run (sl := w15 a0 a2 (some (.d (progT C_Program s b l))) c4 (some (.own m)) (some (.own k)) (some (.own j)) b8 b9 d10 d11 b12 b13 b14) m8 m8' (by simp)
  have S9 := S8.app [.lst (badL s b (.lst ts))]
  have m9 : (st8 ++ [Ob.lst (badL s b (.lst ts))])[st8.length]? = some (.lst (badL s b (.lst ts))) := by simp
  have hb : ([.non, .tup [.tup [.str "sorting"], .str s], .tup [.tup [.str "block", .int 9], .tup [.str "give", .str "one", .str "two"]], .tup [.tup [.str "sorting"], .str "up"], .tup []] ++ [.lst ts, .tup [.tup [.str "block"], .tup (ens b)], .str "sorting", .tup [.tup [.str "sorting"], .non]] : List T) = badL s b (.lst ts) := rfl
  rw [hb] at q9
  have z9 : (st8 ++ [Ob.lst (badL s b (.lst ts))])[0]? ≠ none := by rw [S9.h0]; simp
  have nz : st8.length ≠ 0 := by
    intro e
    have := S8.h0
    rw [List.getElem?_eq_none (by omega)] at this
    cases this
  generalize hst9 : (st8 ++ [Ob.lst (badL s b (.lst ts))]) = st9 at q9 S9 m9 z9
  generalize st8.length = w at q9 m9 nz
  obtain ⟨v, r9, t9, e9, v0, v1, h9⟩ := f_taken C_Program C_StretchError C_UnknownChange h1 (many := 9) (by omega) (by omega)
  have c9 := callK_own (n := 2) (cs := [false]) (ts := [.int 9]) (ρ := ⟨w15 a0 a2 (some (.d (progT C_Program s b l))) c4 (some (.own w)) (some (.own k)) (some (.own j)) b8 b9 d10 d11 b12 b13 b14, st9⟩) (i := 0) (ob := .lst r1) S9.h0 rfl e9 rfl rfl
  simp only [List.map_cons, List.map_nil] at c9
  have hw9 : (st9.set 0 (.lst r9))[w]? = some (.lst (badL s b (.lst ts))) := by rw [List.getElem?_set_ne (by omega)]; exact m9
  obtain ⟨x, ex, mx⟩ : ∃ x, atI (badL s b (.lst ts)) v = some x ∧ x ∈ badL s b (.lst ts) := by
    obtain ⟨n9, rfl⟩ := Int.eq_ofNat_of_zero_le v0
    have hl9 : n9 < (badL s b (.lst ts)).length := by simp [badL]; omega
    exact ⟨(badL s b (.lst ts))[n9], atN (List.getElem?_eq_getElem hl9), List.getElem_mem hl9⟩
  have rf := bad_ref C_Program C_StretchError C_UnknownChange ok (c := .lst ts) rfl x mx
  have qT : mTest (mCall 2 (F__law_refused C_Program C_StretchError C_UnknownChange) [false, false] (aCons (mVar 3) (aCons (mOp ixAF (mVar 5) (mCall 2 (F__law_taken C_Program C_StretchError C_UnknownChange) [true, false] (aCons (mVar 1) (aCons (mC (.int 9)) aNil)))) aNil))) ⟨w15 a0 a2 (some (.d (progT C_Program s b l))) c4 (some (.own w)) (some (.own k)) (some (.own j)) b8 b9 d10 d11 b12 b13 b14, st9⟩ = .ok true ⟨w15 a0 a2 (some (.d (progT C_Program s b l))) c4 (some (.own w)) (some (.own k)) (some (.own j)) b8 b9 d10 d11 b12 b13 b14, st9.set 0 (.lst r9)⟩ := by
    have pkw : pk (st9.set 0 (.lst r9)) (.own w) = some (.lst (badL s b (.lst ts))) := by simp only [pk, hw9]
    have ixw : ixAF (.lst (badL s b (.lst ts))) (.int v) = some (.d x) := ixA_lst ex
    rw [ev_test, ev_call, ev_aCons, ev_var3, R.bind_ok, ev_aCons, ev_op, ev_var (i := 5) rfl, R.bind_ok, ev_call, ev_aCons, ev_var1, R.bind_ok, ev_aCons, ev_c, R.bind_ok, ev_aNil, R.bind_ok, R.bind_ok, R.bind_ok, c9, R.bind_ok]
    simp only [opK, pkw, pk_d, ixw]
    rw [show mO (some (O.d x)) ⟨w15 a0 a2 (some (.d (progT C_Program s b l))) c4 (some (.own w)) (some (.own k)) (some (.own j)) b8 b9 d10 d11 b12 b13 b14, st9.set 0 (.lst r9)⟩ = .ok (.d x) ⟨w15 a0 a2 (some (.d (progT C_Program s b l))) c4 (some (.own w)) (some (.own k)) (some (.own j)) b8 b9 d10 d11 b12 b13 b14, st9.set 0 (.lst r9)⟩ from rfl, R.bind_ok, ev_aNil, R.bind_ok, R.bind_ok, R.bind_ok, callK_2, rf, datK_s, R.bind_ok]
    rfl
  obtain ⟨g9, hg9⟩ : ∃ g9, st9.set 0 (.lst r9) = .lst r9 :: g9 := by
    cases st9 with
    | nil => simp at z9
    | cons a g9 => exact ⟨g9, rfl⟩
  refine ⟨r9, g9, some (.d (progT C_Program s b l)), c4, some (.own w), some (.own k), some (.own j), b8, b9, d10, d11, b12, b13, b14, ?_, h9⟩
  unfold turnF turnB
  rw [ev_seq, q1, F.thn_nx, ev_seq, q2, F.thn_nx, ev_seq, q3, F.thn_nx, ev_seq, ev_for, sorts_seq, R.thn_ok, q4, F.thn_nx, ev_seq, q5, F.thn_nx, ev_seq, ev_for, ev_iSeq, ev_var (i := 7) rfl, R.bind_ok]
  rw [show seqK (.own j) ⟨w15 a0 a2 (some (.d (progT C_Program s b l))) c4 a5 (some (.own k)) (some (.own j)) b8 b9 a10 c11 b12 b13 b14, st5⟩ = .ok due4 ⟨w15 a0 a2 (some (.d (progT C_Program s b l))) c4 a5 (some (.own k)) (some (.own j)) b8 b9 a10 c11 b12 b13 b14, st5⟩ by unfold seqK; simp only [toD, S5.hj, itm], R.thn_ok, q6, F.thn_nx, ev_seq, ev_set, q7, R.thn_ok, F.thn_nx]
  have q8' : mSet 5 (mOp addF (mVar 5) b2) ⟨w15 a0 a2 (some (.d (progT C_Program s b l))) c4 (some (.own m)) (some (.own k)) (some (.own j)) b8 b9 d10 d11 b12 b13 b14, st7⟩ = .nx ⟨w15 a0 a2 (some (.d (progT C_Program s b l))) c4 (some (.own w)) (some (.own k)) (some (.own j)) b8 b9 d10 d11 b12 b13 b14, st9⟩ := by
    rw [ev_set, ev_op, ev_var (i := 5) rfl, R.bind_ok, q8, R.bind_ok, q9, R.thn_ok]
    rfl
  have e7 : ([some (.d (progT C_Program s b l))] : List (Option U)) = [some (.d (progT C_Program s b l))] := rfl
  rw [show (⟨(w15 a0 a2 (some (.d (progT C_Program s b l))) c4 a5 (some (.own k)) (some (.own j)) b8 b9 d10 d11 b12 b13 b14).set 5 (some (.own m)), st7⟩ : Sg) = ⟨w15 a0 a2 (some (.d (progT C_Program s b l))) c4 (some (.own m)) (some (.own k)) (some (.own j)) b8 b9 d10 d11 b12 b13 b14, st7⟩ from rfl, ev_seq, q8', F.thn_nx, ev_ifs, ev_notT, qT, R.bind_ok, R.thn_ok, hg9]
  rfl
theorem law_true : ∀ (C_Program C_StretchError C_UnknownChange : Addr) (ns : List Int), ns.length ≤ 63 → (∀ z ∈ ns, Builtin.Int.intBits z ≤ 1048576) → ∃ ρ, F_law C_Program C_StretchError C_UnknownChange [] [.d (.frl (ns.map .int))] = .ok (.d (.bl true)) ρ := by
  intro C_Program C_StretchError C_UnknownChange ns hl _
  have h0 : Vr ns [.frl (ns.map .int), .int 0, .int 0, .int 0] := ⟨0, 0, 0, rfl, by omega⟩
  obtain ⟨r1, g1, b3, b4, b5, b6, b7, b8, b9, b10, b11, b12, b13, b14, e1, h1⟩ := turn_ok C_Program C_StretchError C_UnknownChange h0 (some (.d (.frl (ns.map .int)))) (some (.d (.int 0))) none none none none none none none none none none none none []
  obtain ⟨r2, g2, c3, c4, c5, c6, c7, c8, c9, c10, c11, c12, c13, c14, e2, h2⟩ := turn_ok C_Program C_StretchError C_UnknownChange h1 (some (.d (.frl (ns.map .int)))) (some (.d (.int 1))) b3 b4 b5 b6 b7 b8 b9 b10 b11 b12 b13 b14 g1
  obtain ⟨r3, g3, d3, d4, d5, d6, d7, d8, d9, d10, d11, d12, d13, d14, e3, h3⟩ := turn_ok C_Program C_StretchError C_UnknownChange h2 (some (.d (.frl (ns.map .int)))) (some (.d (.int 2))) c3 c4 c5 c6 c7 c8 c9 c10 c11 c12 c13 c14 g2
  refine ⟨⟨[], []⟩, ?_⟩
  have hi : ∀ ρ, iR1 (aCons (mC (.int 3)) aNil) ρ = .ok [.int 0, .int 1, .int 2] ρ := fun ρ => by
    simp [iR1, iota]
  unfold F_law runD
  rw [d_law_eq]
  have hs : (List.map some [U.d (T.frl (List.map T.int ns))] ++ List.replicate (15 - [U.d (T.frl (List.map T.int ns))].length) none : List (Option U)) = [some (.d (.frl (ns.map .int))), none, none, none, none, none, none, none, none, none, none, none, none, none, none] := by simp [List.replicate]
  rw [hs]
  have g1 : (mSet 1 (mLst (aCons (mVar 0) (aCons (mC (.int 0)) (aCons (mC (.int 0)) (aCons (mC (.int 0)) aNil)))))) ⟨[some (.d (.frl (ns.map .int))), none, none, none, none, none, none, none, none, none, none, none, none, none, none], []⟩ = .nx ⟨w15 (some (.d (.frl (ns.map .int)))) none none none none none none none none none none none none none, [.lst [.frl (ns.map .int), .int 0, .int 0, .int 0]]⟩ := by
    simp
  rw [ev_seq, g1, F.thn_nx, ev_seq, ev_for, hi, R.thn_ok]
  have s2 : ∀ (x : T) (a0 a2 a3 a4 a5 a6 a7 a8 a9 a10 a11 a12 a13 a14 : Option U) (st : List Ob), gN 2 (.d x) ⟨w15 a0 a2 a3 a4 a5 a6 a7 a8 a9 a10 a11 a12 a13 a14, st⟩ = .ok () ⟨w15 a0 (some (.d x)) a3 a4 a5 a6 a7 a8 a9 a10 a11 a12 a13 a14, st⟩ := fun _ _ _ _ _ _ _ _ _ _ _ _ _ _ _ _ => rfl
  unfold turnF at e1 e2 e3
  simp only [forL, s2]
  rw [e1]
  dsimp only
  rw [s2]
  dsimp only
  rw [e2]
  dsimp only
  rw [s2]
  dsimp only
  rw [e3]
  simp [cutSt]
end
end FL
namespace FL
open PySem L2 PyProof.Rows
open LamX NdefX
section
variable {P : Program} {w : World} {K : PySem.W.Frag} {mg : Str → Option Value} {base : Heap} {C_Program : Addr} {C_StretchError : Addr} {C_UnknownChange : Addr}
theorem fin {h : Heap} {fa f4 : Addr} {od4 an4 : Option Addr} {sl4 : Array (Option Value)} {oc4 kV4 dc4 pm4 cd4 ct4 : Value} (X : K.In h) (G : h.Ns mainGlobals mg) (hfa : mg "law" = some (.ref fa)) (k_Program : PySem.W.nsIn K mainGlobals "Program" = some (some (.ref C_Program))) (k_StretchError : PySem.W.nsIn K mainGlobals "StretchError" = some (some (.ref C_StretchError))) (k_UnknownChange : PySem.W.nsIn K mainGlobals "UnknownChange" = some (some (.ref C_UnknownChange)))
    (T : Tx K w mg C_Program C_StretchError C_UnknownChange) (Q : Dfs K mg C_Program C_StretchError C_UnknownChange) (a4 : PySem.W.nsIn K mainGlobals "law" = some (some (.ref f4))) (l4 : K.lookup f4 = some ⟨oc4, od4, .func (PySem.W.fnOf "law" "law" (defArgs S_law) (defBody S_law) (defScope S_law) .none kV4 dc4 pm4 an4 cd4 ct4), sl4⟩) (c4 : PySem.W.codeIn K cd4 "law" = true) (k4 : PySem.W.keepIn K (.ref f4) = true) :
    ∃ fd : FuncData, (∀ (s : Shared) (v : Value), BindsTo s fd ⟨[v], []⟩ [("_law_script", v)]) ∧ ∀ base : Heap, K.In base → base.Ns mainGlobals mg → FnK P w K mg base (L2.CX P w) 18 fa fd ["_law_script"] (spL K) := by
  have e := hfa.symm.trans (PySem.W.mg_of X G a4)
  cases e
  exact ⟨_, fun s v => .of_eq rfl, fun base _ _ => (fn_denK (fun_mk (st := S_law) l4 c4 k4) sc_law rfl (b_law (k := 17) T (D__law_refused := (dn__law_refused T Q).mono (by decide)) (D__law_taken := (dn__law_taken T Q).mono (by decide)) (D_Program_eq := (dn_Program_eq T Q).mono (by decide)) (D_changed := (dn_changed T Q).mono (by decide)) (D__law_made := (dn__law_made T Q).mono (by decide)) (D_changes := (dn_changes T Q).mono (by decide)) (D__law_all := (dn__law_all T Q 8).mono (by decide)) (D__law_others := (dn__law_others T Q).mono (by decide)) (D__law_with := (dn__law_with T Q 8).mono (by decide)) (D__law_drawn := (dn__law_drawn T Q).mono (by decide)))).imp fun vs H Q E h => spL_of (F := F_law C_Program C_StretchError C_UnknownChange) (law_true C_Program C_StretchError C_UnknownChange) h⟩
end
end FL
open PySem PySem.W PyProof.Rows in
set_option maxRecDepth 100000 in
set_option maxHeartbeats 0 in
theorem PySem.Challenge.cw_stretchloops_k10_changes_told_holds : PySem.Challenge.rw_stretchloops_k10_changes_told.Holds := by
  w_on; o_law; k_head; (case hw => w_witness2)
  k_fill
  refine FL.walkK (l := PySem.Challenge.rw_stretchloops_k10_changes_told) (k := 18) (x := "_law_script") rfl rfl ⟨rfl, by decide, by decide⟩ (fun w h Y => PySem.W.kIn_of Y) rfl ?F
  case F =>
    intro w mg fa h KX G hmg
    refine' FL.fin KX G hmg ?k_Program ?k_StretchError ?k_UnknownChange ?T ?Q ?a4 ?l4 ?c4 ?k4
    (case k_Program => k_is)
    (case k_StretchError => k_is)
    (case k_UnknownChange => k_is)
    case T =>
     refine' ⟨?a_Program_body, ?a_Program_ending, ?a_Program_order, ?a_Program_rows, ?a_Program_words, ?c_Program, ?e_StretchError, ?e_UnknownChange, ?g_CHOICES, ?g_LENGTHS, ?g_MOST_AROUND, ?g_MOST_STATEMENTS, ?g_PLACES, ?g_SORTING, ?g_SORTINGS, ?g_TERMS, ?n_all, ?n_dict, ?n_enumerate, ?n_int, ?n_isinstance, ?n_len, ?n_list, ?n_range, ?n_str, ?n_tuple, ?o_Program, ?v_StretchError, ?w_UnknownChange_StretchError, ?w_UnknownChange_UnknownChange, ?xo_UnknownChange, ?z_Program⟩
     (case a_Program_body => (refine' FL.noAttr_of ?e; (case e => k_is)))
     (case a_Program_ending => (refine' FL.noAttr_of ?e; (case e => k_is)))
     (case a_Program_order => (refine' FL.noAttr_of ?e; (case e => k_is)))
     (case a_Program_rows => (refine' FL.noAttr_of ?e; (case e => k_is)))
     (case a_Program_words => (refine' FL.noAttr_of ?e; (case e => k_is)))
     (case c_Program => (refine' ⟨?pg, ?hd, ?po, ?sa⟩; (case pg => k_is); (case hd => k_is); (case po => k_is); (case sa => k_is)))
     (case e_StretchError => (refine' ⟨?mg, ?ty, ⟨?ga, ?gg, ?xc, ?hd⟩, ?ha, ?hn, ?htk, ?hm⟩; (case mg => (refine' PySem.W.mg_of KX G ?e; (case e => k_is))); (case ty => k_is); (case ga => k_is); (case gg => k_is); (case xc => k_is); (case hd => k_is); (case ha => k_is); (case hn => k_is); (case htk => k_is); (case hm => k_is)))
     (case e_UnknownChange => (refine' ⟨?mg, ?ty, ⟨?ga, ?gg, ?xc, ?hd⟩, ?ha, ?hn, ?htk, ?hm⟩; (case mg => (refine' PySem.W.mg_of KX G ?e; (case e => k_is))); (case ty => k_is); (case ga => k_is); (case gg => k_is); (case xc => k_is); (case hd => k_is); (case ha => k_is); (case hn => k_is); (case htk => k_is); (case hm => k_is)))
     (case g_CHOICES => (refine' FL.Gk.tup (xs := [L2.V.str "least", L2.V.str "greatest"]) KX G ?e1 ?e2 ?v ?z ?r; (case e1 => k_is); (case e2 => k_is); (case v => exact .cons ⟨_, rfl⟩ (.cons ⟨_, rfl⟩ (.nil))); (case z => decide); (case r => (simp [FL.g_CHOICES, FL.Rps, FL.Rp]))))
     (case g_LENGTHS => (refine' FL.Gd.of KX G ?e1 ?e2 ?zk ?zl ?za ?zm; (case e1 => k_is); (case e2 => k_is); (case zk => exact ⟨⟨_, _, rfl, rfl⟩, ⟨⟨_, _, rfl, rfl⟩, ⟨⟨_, _, rfl, rfl⟩, True.intro⟩⟩⟩); (case zl => decide); (case za => (intro z i hm; simp only [FL.g_LENGTHS, List.mem_cons, List.not_mem_nil, or_false, Prod.mk.injEq] at hm; rcases hm with ⟨rfl, rfl⟩ | ⟨rfl, rfl⟩ | ⟨rfl, rfl⟩; all_goals (exact ⟨_, by k_is⟩))); (case zm => first | rfl | kernel_rfl)))
     (case g_MOST_AROUND => (refine' FL.Gk.int KX G ?e; (case e => k_is)))
     (case g_MOST_STATEMENTS => (refine' FL.Gk.int KX G ?e; (case e => k_is)))
     (case g_PLACES => (refine' FL.Gk.tup (xs := [L2.V.str "one", L2.V.str "two"]) KX G ?e1 ?e2 ?v ?z ?r; (case e1 => k_is); (case e2 => k_is); (case v => exact .cons ⟨_, rfl⟩ (.cons ⟨_, rfl⟩ (.nil))); (case z => decide); (case r => (simp [FL.g_PLACES, FL.Rps, FL.Rp]))))
     (case g_SORTING => (refine' FL.Gk.tup (xs := [L2.V.str "sorting"]) KX G ?e1 ?e2 ?v ?z ?r; (case e1 => k_is); (case e2 => k_is); (case v => exact .cons ⟨_, rfl⟩ (.nil)); (case z => decide); (case r => (simp [FL.g_SORTING, FL.Rps, FL.Rp]))))
     (case g_SORTINGS => (refine' FL.Gk.tup (xs := [L2.V.str "none", L2.V.str "begin", L2.V.str "end", L2.V.str "begin down", L2.V.str "end down"]) KX G ?e1 ?e2 ?v ?z ?r; (case e1 => k_is); (case e2 => k_is); (case v => exact .cons ⟨_, rfl⟩ (.cons ⟨_, rfl⟩ (.cons ⟨_, rfl⟩ (.cons ⟨_, rfl⟩ (.cons ⟨_, rfl⟩ (.nil)))))); (case z => decide); (case r => (simp [FL.g_SORTINGS, FL.Rps, FL.Rp]))))
     (case g_TERMS => (refine' FL.Gk.tup (xs := [L2.V.str "begin", L2.V.str "end", L2.V.str "one", L2.V.str "two"]) KX G ?e1 ?e2 ?v ?z ?r; (case e1 => k_is); (case e2 => k_is); (case v => exact .cons ⟨_, rfl⟩ (.cons ⟨_, rfl⟩ (.cons ⟨_, rfl⟩ (.cons ⟨_, rfl⟩ (.nil))))); (case z => decide); (case r => (simp [FL.g_TERMS, FL.Rps, FL.Rp]))))
     (case n_all => (refine' PySem.W.mg_none_of KX G ?e; (case e => k_is)))
     (case n_dict => (refine' PySem.W.mg_none_of KX G ?e; (case e => k_is)))
     (case n_enumerate => (refine' PySem.W.mg_none_of KX G ?e; (case e => k_is)))
     (case n_int => (refine' PySem.W.mg_none_of KX G ?e; (case e => k_is)))
     (case n_isinstance => (refine' PySem.W.mg_none_of KX G ?e; (case e => k_is)))
     (case n_len => (refine' PySem.W.mg_none_of KX G ?e; (case e => k_is)))
     (case n_list => (refine' PySem.W.mg_none_of KX G ?e; (case e => k_is)))
     (case n_range => (refine' PySem.W.mg_none_of KX G ?e; (case e => k_is)))
     (case n_str => (refine' PySem.W.mg_none_of KX G ?e; (case e => k_is)))
     (case n_tuple => (refine' PySem.W.mg_none_of KX G ?e; (case e => k_is)))
     (case o_Program => (refine' ⟨?mg, ?cl, ?ha, ?hn, ?htk, ?hm⟩; (case mg => (refine' PySem.W.mg_of KX G ?e; (case e => k_is))); (case cl => (refine' ⟨?pg, ?hd, ?po, ?sa⟩; (case pg => k_is); (case hd => k_is); (case po => k_is); (case sa => k_is))); (case ha => k_is); (case hn => k_is); (case htk => k_is); (case hm => k_is)))
     (case v_StretchError => (refine' ⟨?mg, ?sp, ?ty, ?rd, ?fc⟩; (case mg => (refine' PySem.W.mg_of KX G ?e; (case e => k_is))); (case sp => k_is); (case ty => k_is); (case rd => k_is); (case fc => k_is)))
     (case w_UnknownChange_StretchError => (refine' FL.below_of ?e; (case e => k_is)))
     (case w_UnknownChange_UnknownChange => (refine' FL.below_of ?e; (case e => k_is)))
     (case xo_UnknownChange => (refine' FL.oex_of ?l ?r ?sa ?xc ?ty ?kc; (case l => k_is); (case r => rfl); (case sa => k_is); (case xc => k_is); (case ty => k_is); (case kc => k_is)))
     (case z_Program => (refine' FL.Gz.of ?e1 ?e2 ?e3; (case e1 => k_is); (case e2 => k_is); (case e3 => k_is)))
    case Q =>
     refine' ⟨?q_with_words, ?q_tests_for, ?q_others_for, ?q_changes, ?q_words_in, ?q_is_formed, ?q_blocks_of, ?q_walked, ?q_is_one_of, ?q_is_test, ?q_is_term, ?q_is_statement, ?q_check_block, ?q_Program_init, ?q_Program_with_sorting, ?q_replaced, ?q_with_statement, ?q_done, ?q_changed, ?q__law_refused, ?q__law_taken, ?q_Program_eq, ?q__law_made, ?q__law_all, ?q__law_words, ?q__law_others, ?q__law_with, ?q__law_term, ?q__law_test, ?q__law_statement, ?q__law_block, ?q__law_known, ?q__law_drawn, ?x_UnknownChange⟩
     (case q_with_words => (refine' FL.Df.of KX G FL.bi_with_words ?e1 ?e2 ?e3 ?e4; (case e1 => k_is); (case e2 => k_is); (case e3 => k_is); (case e4 => k_is)))
     (case q_tests_for => (refine' FL.Df.of KX G FL.bi_tests_for ?e1 ?e2 ?e3 ?e4; (case e1 => k_is); (case e2 => k_is); (case e3 => k_is); (case e4 => k_is)))
     (case q_others_for => (refine' FL.Df.of KX G FL.bi_others_for ?e1 ?e2 ?e3 ?e4; (case e1 => k_is); (case e2 => k_is); (case e3 => k_is); (case e4 => k_is)))
     (case q_changes => (refine' FL.Df.of KX G FL.bi_changes ?e1 ?e2 ?e3 ?e4; (case e1 => k_is); (case e2 => k_is); (case e3 => k_is); (case e4 => k_is)))
     (case q_words_in => (refine' FL.Df.of KX G FL.bi_words_in ?e1 ?e2 ?e3 ?e4; (case e1 => k_is); (case e2 => k_is); (case e3 => k_is); (case e4 => k_is)))
     (case q_is_formed => (refine' FL.Df.of KX G FL.bi_is_formed ?e1 ?e2 ?e3 ?e4; (case e1 => k_is); (case e2 => k_is); (case e3 => k_is); (case e4 => k_is)))
     (case q_blocks_of => (refine' FL.Df.of KX G FL.bi_blocks_of ?e1 ?e2 ?e3 ?e4; (case e1 => k_is); (case e2 => k_is); (case e3 => k_is); (case e4 => k_is)))
     (case q_walked => (refine' FL.Df.of KX G FL.bi_walked ?e1 ?e2 ?e3 ?e4; (case e1 => k_is); (case e2 => k_is); (case e3 => k_is); (case e4 => k_is)))
     (case q_is_one_of => (refine' FL.Df.of KX G FL.bi_is_one_of ?e1 ?e2 ?e3 ?e4; (case e1 => k_is); (case e2 => k_is); (case e3 => k_is); (case e4 => k_is)))
     (case q_is_test => (refine' FL.Df.of KX G FL.bi_is_test ?e1 ?e2 ?e3 ?e4; (case e1 => k_is); (case e2 => k_is); (case e3 => k_is); (case e4 => k_is)))
     (case q_is_term => (refine' FL.Df.of KX G FL.bi_is_term ?e1 ?e2 ?e3 ?e4; (case e1 => k_is); (case e2 => k_is); (case e3 => k_is); (case e4 => k_is)))
     (case q_is_statement => (refine' FL.Df.of KX G FL.bi_is_statement ?e1 ?e2 ?e3 ?e4; (case e1 => k_is); (case e2 => k_is); (case e3 => k_is); (case e4 => k_is)))
     (case q_check_block => (refine' FL.Df.of KX G FL.bi_check_block ?e1 ?e2 ?e3 ?e4; (case e1 => k_is); (case e2 => k_is); (case e3 => k_is); (case e4 => k_is)))
     (case q_Program_init => (refine' FL.Di.of KX G FL.bi_Program_init ?e0 ?e1 ?e2 ?e3 ?e4 ?e5 ?e6 ?e7; (case e0 => k_is); (case e1 => k_is); (case e2 => k_is); (case e3 => k_is); (case e4 => k_is); (case e5 => k_is); (case e6 => k_is); (case e7 => k_is)))
     (case q_Program_with_sorting => (refine' FL.Dm.of ?cl FL.bi_Program_with_sorting ?e1 ?e2 ?e3 ?e4 ?e5; (case cl => (refine' ⟨?pg, ?hd, ?po, ?sa⟩; (case pg => k_is); (case hd => k_is); (case po => k_is); (case sa => k_is))); (case e1 => k_is); (case e2 => k_is); (case e3 => k_is); (case e4 => k_is); (case e5 => k_is)))
     (case q_replaced => (refine' FL.Df.of KX G FL.bi_replaced ?e1 ?e2 ?e3 ?e4; (case e1 => k_is); (case e2 => k_is); (case e3 => k_is); (case e4 => k_is)))
     (case q_with_statement => (refine' FL.Df.of KX G FL.bi_with_statement ?e1 ?e2 ?e3 ?e4; (case e1 => k_is); (case e2 => k_is); (case e3 => k_is); (case e4 => k_is)))
     (case q_done => (refine' FL.Df.of KX G FL.bi_done ?e1 ?e2 ?e3 ?e4; (case e1 => k_is); (case e2 => k_is); (case e3 => k_is); (case e4 => k_is)))
     (case q_changed => (refine' FL.Df.of KX G FL.bi_changed ?e1 ?e2 ?e3 ?e4; (case e1 => k_is); (case e2 => k_is); (case e3 => k_is); (case e4 => k_is)))
     (case q__law_refused => (refine' FL.Df.of KX G FL.bi__law_refused ?e1 ?e2 ?e3 ?e4; (case e1 => k_is); (case e2 => k_is); (case e3 => k_is); (case e4 => k_is)))
     (case q__law_taken => (refine' FL.Df.of KX G FL.bi__law_taken ?e1 ?e2 ?e3 ?e4; (case e1 => k_is); (case e2 => k_is); (case e3 => k_is); (case e4 => k_is)))
     (case q_Program_eq => (refine' FL.Dm.of ?cl FL.bi_Program_eq ?e1 ?e2 ?e3 ?e4 ?e5; (case cl => (refine' ⟨?pg, ?hd, ?po, ?sa⟩; (case pg => k_is); (case hd => k_is); (case po => k_is); (case sa => k_is))); (case e1 => k_is); (case e2 => k_is); (case e3 => k_is); (case e4 => k_is); (case e5 => k_is)))
     (case q__law_made => (refine' FL.Df.of KX G FL.bi__law_made ?e1 ?e2 ?e3 ?e4; (case e1 => k_is); (case e2 => k_is); (case e3 => k_is); (case e4 => k_is)))
     (case q__law_all => (refine' FL.Df.of KX G FL.bi__law_all ?e1 ?e2 ?e3 ?e4; (case e1 => k_is); (case e2 => k_is); (case e3 => k_is); (case e4 => k_is)))
     (case q__law_words => (refine' FL.Df.of KX G FL.bi__law_words ?e1 ?e2 ?e3 ?e4; (case e1 => k_is); (case e2 => k_is); (case e3 => k_is); (case e4 => k_is)))
     (case q__law_others => (refine' FL.Df.of KX G FL.bi__law_others ?e1 ?e2 ?e3 ?e4; (case e1 => k_is); (case e2 => k_is); (case e3 => k_is); (case e4 => k_is)))
     (case q__law_with => (refine' FL.Df.of KX G FL.bi__law_with ?e1 ?e2 ?e3 ?e4; (case e1 => k_is); (case e2 => k_is); (case e3 => k_is); (case e4 => k_is)))
     (case q__law_term => (refine' FL.Df.of KX G FL.bi__law_term ?e1 ?e2 ?e3 ?e4; (case e1 => k_is); (case e2 => k_is); (case e3 => k_is); (case e4 => k_is)))
     (case q__law_test => (refine' FL.Df.of KX G FL.bi__law_test ?e1 ?e2 ?e3 ?e4; (case e1 => k_is); (case e2 => k_is); (case e3 => k_is); (case e4 => k_is)))
     (case q__law_statement => (refine' FL.Df.of KX G FL.bi__law_statement ?e1 ?e2 ?e3 ?e4; (case e1 => k_is); (case e2 => k_is); (case e3 => k_is); (case e4 => k_is)))
     (case q__law_block => (refine' FL.Df.of KX G FL.bi__law_block ?e1 ?e2 ?e3 ?e4; (case e1 => k_is); (case e2 => k_is); (case e3 => k_is); (case e4 => k_is)))
     (case q__law_known => (refine' FL.Df.of KX G FL.bi__law_known ?e1 ?e2 ?e3 ?e4; (case e1 => k_is); (case e2 => k_is); (case e3 => k_is); (case e4 => k_is)))
     (case q__law_drawn => (refine' FL.Df.of KX G FL.bi__law_drawn ?e1 ?e2 ?e3 ?e4; (case e1 => k_is); (case e2 => k_is); (case e3 => k_is); (case e4 => k_is)))
     (case x_UnknownChange => (refine' FL.dxi_of (h := h) FL.bi_xUnknownChange ?e1 ?e2 ?e3 ?e4 ?e5; (case e1 => k_is); (case e2 => k_is); (case e3 => k_is); (case e4 => k_is); (case e5 => k_is)))
    (case a4 => k_is)
    (case l4 => k_is)
    (case c4 => k_is)
    (case k4 => k_is)
#print axioms PySem.Challenge.cw_stretchloops_k10_changes_told_holds
