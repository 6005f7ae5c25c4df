import PyProof.Rows.All
import Wide.All
import OpenK.AllK
import Wide.FinOn
import HandS.ForMost
import HandS.ForExc
import HandS.IsInst
import HandS.Wide
import HandS.TupAny
import HandS.TupMul
import HandS.Conv
import HandS.Deep
import PyProof.ReprRoads
import PyProof.SumWalkG
import PyProof.WalksMore
import HandS.EndBits
import PyProof.ReprLen
import HandS.TupLe
import HandS.Text
import HandS.StrSplit
import HandS.Iter
import HandS.Walk
import HandS.TryOnly
import KE.SortKeyHeap
import HandS.SortKw
import KE.KDictDisplayH
import HandS.SortInts
import HandS.Zip
import KE.GoesMore
import KE.KDictWalk
import HandS.Dict
import KE.KDictPairs
import KE.KDictCopyH
import HandS.Style
import HandS.HotCalls
import HandS.ExcIs
import HandS.ExcCtx
import PyProof.StrLawsRepr
import PyProof.ReprReads
import PyProof.ReprText
import PyProof.Rows.ReprOcc
import PySem.Challenge.RW_kindsgathered_k33_pack_papers_looked_at
set_option Elab.async false
set_option linter.all false
set_option maxRecDepth 100000
set_option maxHeartbeats 4000000

namespace DL
open PySem L2

/-! data behind values -/
def keyD : Key → PyData
  | .inl i => .int i
  | .inr x => .str x

mutual
def Rp (K : PySem.W.Frag) (G : Hp) : PyData → V → Prop
  | .none, v => v = .non
  | .bool b, v => v = .bl b
  | .int i, v => v = .int i
  | .str s, v => v = .str s
  | .list ds, v => ∃ a xs, v = .ref a ∧ Rd G a (.lst xs) ∧ RpAll K G ds xs
  | .tuple ds, v => ∃ a xs, v = .ref a ∧ SqT K G a xs ∧ RpAll K G ds xs
  | .dict kvs, v => ∃ a, v = .ref a ∧ ((∃ es, G a = some (.dT es) ∧ RpT K G kvs es) ∨ (∃ es, G a = some (.dK es) ∧ RpK K G kvs es))
def RpAll (K : PySem.W.Frag) (G : Hp) : List PyData → List V → Prop
  | [], xs => xs = []
  | d :: ds, xs => ∃ x r, xs = x :: r ∧ Rp K G d x ∧ RpAll K G ds r
def RpT (K : PySem.W.Frag) (G : Hp) : List (PyData × PyData) → List (List Key × V) → Prop
  | [], es => es = []
  | (k, d) :: r, es => ∃ ks v t, es = (ks, v) :: t ∧ k = .tuple (ks.map keyD) ∧ Rp K G d v ∧ RpT K G r t
def RpK (K : PySem.W.Frag) (G : Hp) : List (PyData × PyData) → List (Key × V) → Prop
  | [], es => es = []
  | (k, d) :: r, es => ∃ ks v t, es = (ks, v) :: t ∧ k = keyD ks ∧ Rp K G d v ∧ RpK K G r t
end

def Le (G G' : Hp) : Prop := ∀ a o, G a = some o → G' a = some o
theorem Le.refl (G : Hp) : Le G G := fun _ _ h => h
theorem Le.trans {G G1 G2 : Hp} (a : Le G G1) (b : Le G1 G2) : Le G G2 := fun x o h => b x o (a x o h)
theorem Le.new {G : Hp} {p : Addr} {o : HO} (h : G p = none) : Le G (upd G p o) := fun a u e => by
  rw [upd_ne (ne_of_none e h)]; exact e
theorem Le.rd {G G' : Hp} {a : Addr} {u : HO} (e : Le G G') (h : Rd G a u) : Rd G' a u := by
  rcases h with h | ⟨o, h⟩
  · exact Or.inl (e a _ h)
  · exact Or.inr ⟨o, e a _ h⟩
theorem Le.sqL {K : PySem.W.Frag} {G G' : Hp} {a : Addr} {xs : List V} (e : Le G G') (h : SqL K G a xs) : SqL K G' a xs := by
  rcases h with h | h
  · exact Or.inl (e.rd h)
  · exact Or.inr h
theorem Le.sqT {K : PySem.W.Frag} {G G' : Hp} {a : Addr} {xs : List V} (e : Le G G') (h : SqT K G a xs) : SqT K G' a xs := by
  rcases h with h | h
  · exact Or.inl (e.rd h)
  · exact Or.inr h

mutual
theorem Rp.mono {K : PySem.W.Frag} {G G' : Hp} (e : Le G G') : ∀ (d : PyData) (v : V), Rp K G d v → Rp K G' d v
  | .none, v, h => by rw [Rp] at h ⊢; exact h
  | .bool b, v, h => by rw [Rp] at h ⊢; exact h
  | .int i, v, h => by rw [Rp] at h ⊢; exact h
  | .str s, v, h => by rw [Rp] at h ⊢; exact h
  | .list ds, v, h => by
    rw [Rp] at h ⊢
    obtain ⟨a, xs, h1, h2, h3⟩ := h
    exact ⟨a, xs, h1, e.rd h2, RpAll.mono e ds xs h3⟩
  | .tuple ds, v, h => by
    rw [Rp] at h ⊢
    obtain ⟨a, xs, h1, h2, h3⟩ := h
    exact ⟨a, xs, h1, e.sqT h2, RpAll.mono e ds xs h3⟩
  | .dict kvs, v, h => by
    rw [Rp] at h ⊢
    obtain ⟨a, h1, h2⟩ := h
    refine ⟨a, h1, ?_⟩
    rcases h2 with ⟨es, h3, h4⟩ | ⟨es, h3, h4⟩
    · exact Or.inl ⟨es, e _ _ h3, RpT.mono e kvs es h4⟩
    · exact Or.inr ⟨es, e _ _ h3, RpK.mono e kvs es h4⟩
theorem RpAll.mono {K : PySem.W.Frag} {G G' : Hp} (e : Le G G') : ∀ (ds : List PyData) (xs : List V), RpAll K G ds xs → RpAll K G' ds xs
  | [], xs, h => by rw [RpAll] at h ⊢; exact h
  | d :: ds, xs, h => by
    rw [RpAll] at h ⊢
    obtain ⟨x, r, h1, h2, h3⟩ := h
    exact ⟨x, r, h1, Rp.mono e d x h2, RpAll.mono e ds r h3⟩
theorem RpT.mono {K : PySem.W.Frag} {G G' : Hp} (e : Le G G') : ∀ (kvs : List (PyData × PyData)) (es : List (List Key × V)), RpT K G kvs es → RpT K G' kvs es
  | [], es, h => by rw [RpT] at h ⊢; exact h
  | (k, d) :: r, es, h => by
    rw [RpT] at h ⊢
    obtain ⟨ks, v, t, h1, h2, h3, h4⟩ := h
    exact ⟨ks, v, t, h1, h2, Rp.mono e d v h3, RpT.mono e r t h4⟩
theorem RpK.mono {K : PySem.W.Frag} {G G' : Hp} (e : Le G G') : ∀ (kvs : List (PyData × PyData)) (es : List (Key × V)), RpK K G kvs es → RpK K G' kvs es
  | [], es, h => by rw [RpK] at h ⊢; exact h
  | (k, d) :: r, es, h => by
    rw [RpK] at h ⊢
    obtain ⟨ks, v, t, h1, h2, h3, h4⟩ := h
    exact ⟨ks, v, t, h1, h2, Rp.mono e d v h3, RpK.mono e r t h4⟩
end

section
variable {K : PySem.W.Frag} {G : Hp} {v : V}
theorem rp_none : Rp K G .none v ↔ v = .non := by rw [Rp]
theorem rp_bool {b : Bool} : Rp K G (.bool b) v ↔ v = .bl b := by rw [Rp]
theorem rp_int {i : Int} : Rp K G (.int i) v ↔ v = .int i := by rw [Rp]
theorem rp_str {s : Str} : Rp K G (.str s) v ↔ v = .str s := by rw [Rp]
theorem rp_list {ds : List PyData} : Rp K G (.list ds) v ↔ ∃ a xs, v = .ref a ∧ Rd G a (.lst xs) ∧ RpAll K G ds xs := by rw [Rp]
theorem rp_tuple {ds : List PyData} : Rp K G (.tuple ds) v ↔ ∃ a xs, v = .ref a ∧ SqT K G a xs ∧ RpAll K G ds xs := by rw [Rp]
theorem rpa_nil {xs : List V} : RpAll K G [] xs ↔ xs = [] := by rw [RpAll]
theorem rpa_cons {d : PyData} {ds : List PyData} {xs : List V} : RpAll K G (d :: ds) xs ↔ ∃ x r, xs = x :: r ∧ Rp K G d x ∧ RpAll K G ds r := by rw [RpAll]
end

theorem RpAll.length {K : PySem.W.Frag} {G : Hp} : ∀ {ds : List PyData} {xs : List V}, RpAll K G ds xs → xs.length = ds.length
  | [], xs, h => by rw [RpAll] at h; rw [h]; rfl
  | d :: ds, xs, h => by
    rw [RpAll] at h
    obtain ⟨x, r, h1, _, h3⟩ := h
    rw [h1, List.length_cons, List.length_cons, RpAll.length h3]
theorem RpAll.get {K : PySem.W.Frag} {G : Hp} : ∀ {ds : List PyData} {xs : List V} {i : Nat} {x : V}, RpAll K G ds xs → xs[i]? = some x → ∃ d, ds[i]? = some d ∧ Rp K G d x
  | [], xs, i, x, h, e => by rw [RpAll] at h; subst h; simp at e
  | d :: ds, xs, 0, x, h, e => by
    rw [RpAll] at h
    obtain ⟨y, r, h1, h2, _⟩ := h
    subst h1
    simp at e
    subst e
    exact ⟨d, rfl, h2⟩
  | d :: ds, xs, i + 1, x, h, e => by
    rw [RpAll] at h
    obtain ⟨y, r, h1, _, h3⟩ := h
    subst h1
    obtain ⟨z, h4, h5⟩ := RpAll.get (i := i) (x := x) h3 (by simpa using e)
    exact ⟨z, by simpa using h4, h5⟩
theorem RpAll.at {K : PySem.W.Frag} {G : Hp} : ∀ {ds : List PyData} {xs : List V} {i : Nat} {d : PyData}, RpAll K G ds xs → ds[i]? = some d → ∃ x, xs[i]? = some x ∧ Rp K G d x
  | [], xs, i, d, h, e => by simp at e
  | d0 :: ds, xs, 0, d, h, e => by
    rw [RpAll] at h
    obtain ⟨y, r, h1, h2, _⟩ := h
    subst h1
    simp at e
    subst e
    exact ⟨y, rfl, h2⟩
  | d0 :: ds, xs, i + 1, d, h, e => by
    rw [RpAll] at h
    obtain ⟨y, r, h1, _, h3⟩ := h
    subst h1
    obtain ⟨z, h4, h5⟩ := RpAll.at (i := i) (d := d) h3 (by simpa using e)
    exact ⟨z, by simpa using h4, h5⟩
theorem RpAll.append {K : PySem.W.Frag} {G : Hp} : ∀ {ds es : List PyData} {xs ys : List V}, RpAll K G ds xs → RpAll K G es ys → RpAll K G (ds ++ es) (xs ++ ys)
  | [], es, xs, ys, h, g => by rw [RpAll] at h; subst h; exact g
  | d :: ds, es, xs, ys, h, g => by
    rw [RpAll] at h
    obtain ⟨y, r, h1, h2, h3⟩ := h
    subst h1
    rw [List.cons_append, List.cons_append, RpAll]
    exact ⟨y, r ++ ys, rfl, h2, RpAll.append h3 g⟩
theorem RpAll.ints {K : PySem.W.Frag} {G : Hp} : ∀ {ns : List Int} {xs : List V}, RpAll K G (ns.map PyData.int) xs → xs = ns.map V.int
  | [], xs, h => by rw [List.map_nil, RpAll] at h; rw [h]; rfl
  | n :: ns, xs, h => by
    rw [List.map_cons, RpAll] at h
    obtain ⟨y, r, h1, h2, h3⟩ := h
    rw [Rp] at h2
    rw [h1, h2, RpAll.ints h3]; rfl
theorem RpAll.bools {K : PySem.W.Frag} {G : Hp} : ∀ {ns : List Bool} {xs : List V}, RpAll K G (ns.map PyData.bool) xs → xs = ns.map V.bl
  | [], xs, h => by rw [List.map_nil, RpAll] at h; rw [h]; rfl
  | n :: ns, xs, h => by
    rw [List.map_cons, RpAll] at h
    obtain ⟨y, r, h1, h2, h3⟩ := h
    rw [Rp] at h2
    rw [h1, h2, RpAll.bools h3]; rfl
theorem RpAll.strs {K : PySem.W.Frag} {G : Hp} : ∀ {ns : List Str} {xs : List V}, RpAll K G (ns.map PyData.str) xs → xs = ns.map V.str
  | [], xs, h => by rw [List.map_nil, RpAll] at h; rw [h]; rfl
  | n :: ns, xs, h => by
    rw [List.map_cons, RpAll] at h
    obtain ⟨y, r, h1, h2, h3⟩ := h
    rw [Rp] at h2
    rw [h1, h2, RpAll.strs h3]; rfl
theorem rpa_ints {K : PySem.W.Frag} {G : Hp} : ∀ (ns : List Int), RpAll K G (ns.map PyData.int) (ns.map V.int)
  | [] => by rw [List.map_nil, RpAll]; rfl
  | n :: ns => by
    rw [List.map_cons, List.map_cons, RpAll]
    exact ⟨_, _, rfl, by rw [Rp], rpa_ints ns⟩

/-! values at this level -/
inductive Val where
  | d (x : PyData)
  | v (w : V)
  | scr (ns : List Int)
  | any
  /-- a tuple of ints, made by the code itself -/
  | t (ns : List Int)
  /-- a list of such tuples, that stays as it is -/
  | lt (nss : List (List Int))
  /-- a pair of such a tuple and data -/
  | p (ns : List Int) (x : PyData)
  /-- a tuple of ints without attributes of its own -/
  | f (ns : List Int)
  /-- any other thing that stays as it is, by what is true of it -/
  | g (P : Hp → V → Prop)

def TAll (G : Hp) : List (List Int) → List V → Prop
  | [], xs => xs = []
  | ns :: r, xs => ∃ b t, xs = .ref b :: t ∧ G b = some (.tup (ns.map V.int)) ∧ TAll G r t
theorem TAll.mono {G G' : Hp} (e : Le G G') : ∀ {nss : List (List Int)} {xs : List V}, TAll G nss xs → TAll G' nss xs
  | [], xs, h => h
  | ns :: r, xs, h => by
    obtain ⟨b, t, h1, h2, h3⟩ := h
    exact ⟨b, t, h1, e _ _ h2, TAll.mono e h3⟩
theorem TAll.all {K : PySem.W.Frag} {G : Hp} : ∀ {nss : List (List Int)} {xs : List V}, TAll G nss xs → RpAll K G (nss.map fun ns => .tuple (ns.map PyData.int)) xs
  | [], xs, h => by rw [List.map_nil, RpAll]; exact h
  | ns :: r, xs, h => by
    obtain ⟨b, t, h1, h2, h3⟩ := h
    rw [List.map_cons, RpAll]
    exact ⟨_, t, h1, rp_tuple.mpr ⟨b, _, rfl, SqT.of h2, rpa_ints ns⟩, TAll.all h3⟩
inductive VR (K : PySem.W.Frag) (G : Hp) : Val → V → Prop
  | d {x : PyData} {v : V} (h : Rp K G x v) : VR K G (.d x) v
  | v {w : V} : VR K G (.v w) w
  | scr {ns : List Int} {a : Addr} (h : SqL K G a (ns.map V.int)) : VR K G (.scr ns) (.ref a)
  | any {v : V} : VR K G .any v
  | t {ns : List Int} {a : Addr} (h : G a = some (.tup (ns.map V.int))) : VR K G (.t ns) (.ref a)
  | lt {nss : List (List Int)} {a : Addr} {xs : List V} (h : Rd G a (.lst xs)) (h2 : TAll G nss xs) : VR K G (.lt nss) (.ref a)
  | p {ns : List Int} {x : PyData} {a b : Addr} {w : V} (h : G a = some (.tup [.ref b, w])) (h2 : G b = some (.tup (ns.map V.int))) (h3 : Rp K G x w) : VR K G (.p ns x) (.ref a)
  | f {ns : List Int} {a : Addr} {o : Obj} (h : G a = some (.frz o (.tup (ns.map V.int)))) (h1 : o.cls = .type "tuple") (h2 : o.dict = none) : VR K G (.f ns) (.ref a)
  | g {P : Hp → V → Prop} {v : V} (h : P G v) (h1 : ∀ G G', Le G G' → P G v → P G' v) : VR K G (.g P) v
theorem VR.mono {K : PySem.W.Frag} {G G' : Hp} (e : Le G G') {r : Val} {v : V} (h : VR K G r v) : VR K G' r v := by
  cases h with
  | d h => exact .d (Rp.mono e _ v h)
  | v => exact .v
  | scr h => exact .scr (e.sqL h)
  | any => exact .any
  | t h => exact .t (e _ _ h)
  | lt h h2 => exact .lt (e.rd h) (h2.mono e)
  | p h h2 h3 => exact .p (e _ _ h) (e _ _ h2) (Rp.mono e _ _ h3)
  | f h h1 h2 => exact .f (e _ _ h) h1 h2
  | g h h1 => exact .g (h1 _ _ e h) h1
theorem VR.rp {K : PySem.W.Frag} {G : Hp} {x : PyData} {v : V} (h : VR K G (.d x) v) : Rp K G x v := by
  cases h with
  | d h => exact h
theorem VR.eq {K : PySem.W.Frag} {G : Hp} {w v : V} (h : VR K G (.v w) v) : v = w := by
  cases h with
  | v => rfl

def VRs (K : PySem.W.Frag) (G : Hp) : List Val → List V → Prop
  | [], xs => xs = []
  | r :: rs, xs => ∃ x t, xs = x :: t ∧ VR K G r x ∧ VRs K G rs t
theorem VRs.mono {K : PySem.W.Frag} {G G' : Hp} (e : Le G G') : ∀ {rs : List Val} {xs : List V}, VRs K G rs xs → VRs K G' rs xs
  | [], xs, h => h
  | r :: rs, xs, h => by
    obtain ⟨x, t, h1, h2, h3⟩ := h
    exact ⟨x, t, h1, h2.mono e, VRs.mono e h3⟩
theorem VRs.length {K : PySem.W.Frag} {G : Hp} : ∀ {rs : List Val} {xs : List V}, VRs K G rs xs → xs.length = rs.length
  | [], xs, h => by
    have h : xs = [] := h
    rw [h]; rfl
  | r :: rs, xs, h => by
    obtain ⟨x, t, h1, _, h3⟩ := h
    rw [h1, List.length_cons, List.length_cons, VRs.length h3]
theorem VRs.ofAll {K : PySem.W.Frag} {G : Hp} : ∀ {ds : List PyData} {xs : List V}, RpAll K G ds xs → VRs K G (ds.map Val.d) xs
  | [], xs, h => by rw [RpAll] at h; exact h
  | d :: ds, xs, h => by
    rw [RpAll] at h
    obtain ⟨x, r, h1, h2, h3⟩ := h
    exact ⟨x, r, h1, .d h2, VRs.ofAll h3⟩
theorem VRs.toAll {K : PySem.W.Frag} {G : Hp} : ∀ {ds : List PyData} {xs : List V}, VRs K G (ds.map Val.d) xs → RpAll K G ds xs
  | [], xs, h => by rw [RpAll]; exact h
  | d :: ds, xs, h => by
    obtain ⟨x, r, h1, h2, h3⟩ := h
    rw [RpAll]
    exact ⟨x, r, h1, h2.rp, VRs.toAll h3⟩
theorem VRs.append {K : PySem.W.Frag} {G : Hp} : ∀ {rs ss : List Val} {xs ys : List V}, VRs K G rs xs → VRs K G ss ys → VRs K G (rs ++ ss) (xs ++ ys)
  | [], ss, xs, ys, h, g => by
    have h : xs = [] := h
    subst h; exact g
  | r :: rs, ss, xs, ys, h, g => by
    obtain ⟨x, t, h1, h2, h3⟩ := h
    subst h1
    exact ⟨x, t ++ ys, rfl, h2, VRs.append h3 g⟩

/-! slots -/
def Sl (K : PySem.W.Frag) (G : Hp) : List Val → St → Prop
  | [], s => s = []
  | r :: rs, s => ∃ x t, s = x :: t ∧ (r = .any ∨ ∃ v, x = some v ∧ VR K G r v) ∧ Sl K G rs t
theorem Sl.mono {K : PySem.W.Frag} {G G' : Hp} (e : Le G G') : ∀ {rs : List Val} {s : St}, Sl K G rs s → Sl K G' rs s
  | [], s, h => h
  | r :: rs, s, h => by
    obtain ⟨x, t, h1, h2, h3⟩ := h
    refine ⟨x, t, h1, ?_, Sl.mono e h3⟩
    rcases h2 with h2 | ⟨v, h2, h4⟩
    · exact Or.inl h2
    · exact Or.inr ⟨v, h2, h4.mono e⟩
theorem Sl.get {K : PySem.W.Frag} {G : Hp} : ∀ {rs : List Val} {s : St} {i : Nat} {r : Val}, Sl K G rs s → rs[i]? = some r → r ≠ .any → ∃ v, s[i]? = some (some v) ∧ VR K G r v
  | [], s, i, r, h, e, _ => by simp at e
  | r0 :: rs, s, 0, r, h, e, n => by
    obtain ⟨x, t, h1, h2, h3⟩ := h
    subst h1
    have e : r0 = r := by simpa using e
    subst e
    rcases h2 with h2 | ⟨v, h2, h4⟩
    · exact absurd h2 n
    · exact ⟨v, by rw [h2]; rfl, h4⟩
  | r0 :: rs, s, i + 1, r, h, e, n => by
    obtain ⟨x, t, h1, h2, h3⟩ := h
    subst h1
    obtain ⟨v, h5, h6⟩ := Sl.get (i := i) (r := r) h3 (by simpa using e) n
    exact ⟨v, by simpa using h5, h6⟩
theorem Sl.set {K : PySem.W.Frag} {G : Hp} {r : Val} {v : V} (hv : VR K G r v) : ∀ {rs : List Val} {s : St} (i : Nat), Sl K G rs s → Sl K G (rs.set i r) (s.set i (some v))
  | [], s, i, h => by
    have h : s = [] := h
    subst h; exact rfl
  | r0 :: rs, s, 0, h => by
    obtain ⟨x, t, h1, h2, h3⟩ := h
    subst h1
    exact ⟨some v, t, rfl, Or.inr ⟨v, rfl, hv⟩, h3⟩
  | r0 :: rs, s, i + 1, h => by
    obtain ⟨x, t, h1, h2, h3⟩ := h
    subst h1
    exact ⟨x, t.set i (some v), rfl, h2, Sl.set hv i h3⟩
theorem Sl.forget {K : PySem.W.Frag} {G : Hp} : ∀ {rs : List Val} {s : St} (i : Nat), Sl K G rs s → Sl K G (rs.set i .any) (s.set i none)
  | [], s, i, h => by
    have h : s = [] := h
    subst h; exact rfl
  | r0 :: rs, s, 0, h => by
    obtain ⟨x, t, h1, h2, h3⟩ := h
    subst h1
    exact ⟨none, t, rfl, Or.inl rfl, h3⟩
  | r0 :: rs, s, i + 1, h => by
    obtain ⟨x, t, h1, h2, h3⟩ := h
    subst h1
    exact ⟨x, t.set i none, rfl, h2, Sl.forget i h3⟩
theorem Sl.length {K : PySem.W.Frag} {G : Hp} : ∀ {rs : List Val} {s : St}, Sl K G rs s → s.length = rs.length
  | [], s, h => by
    have h : s = [] := h
    rw [h]; rfl
  | r :: rs, s, h => by
    obtain ⟨x, t, h1, _, h3⟩ := h
    rw [h1, List.length_cons, List.length_cons, Sl.length h3]
theorem Sl.anys {K : PySem.W.Frag} {G : Hp} : ∀ (n : Nat), Sl K G (List.replicate n .any) (List.replicate n none)
  | 0 => rfl
  | n + 1 => ⟨none, List.replicate n none, rfl, Or.inl rfl, Sl.anys n⟩
theorem Sl.start {K : PySem.W.Frag} {G : Hp} : ∀ {rs : List Val} {vs : List V} (n : Nat), VRs K G rs vs → Sl K G (rs ++ List.replicate n .any) (vs.map some ++ List.replicate n none)
  | [], vs, n, h => by
    have h : vs = [] := h
    subst h; exact Sl.anys n
  | r :: rs, vs, n, h => by
    obtain ⟨x, t, h1, h2, h3⟩ := h
    subst h1
    exact ⟨some x, _, rfl, Or.inr ⟨x, rfl, h2⟩, Sl.start n h3⟩
/-- less told -/
def Wk : List Val → List Val → Prop
  | [], t => t = []
  | r :: rs, t => ∃ q u, t = q :: u ∧ (q = .any ∨ q = r) ∧ Wk rs u
theorem Sl.weak {K : PySem.W.Frag} {G : Hp} : ∀ {rs ts : List Val} {s : St}, Wk rs ts → Sl K G rs s → Sl K G ts s
  | [], ts, s, w, h => by
    have w : ts = [] := w
    subst w; exact h
  | r :: rs, ts, s, w, h => by
    obtain ⟨q, u, w1, w2, w3⟩ := w
    obtain ⟨x, t, h1, h2, h3⟩ := h
    subst w1
    refine ⟨x, t, h1, ?_, Sl.weak w3 h3⟩
    rcases w2 with w2 | w2
    · exact Or.inl w2
    · rw [w2]; exact h2

/-! what may change -/
inductive MO where
  | lst (rs : List Val)
  | dT (kvs : List (List Key × Val))
  | dK (kvs : List (Key × Val))
  /-- a dict that is being walked -/
  | lk (od : Obj) (es : List (List Key × V)) (kvs : List (List Key × Val))
  /-- a list of one whole number -/
  | box
  /-- any other thing, by what is true of it -/
  | g (P : Hp → Hp → Addr → Prop)
abbrev Mm := Addr → Option MO
def put (m : Mm) (a : Addr) (o : MO) : Mm := fun b => if b = a then some o else m b
def del (m : Mm) (a : Addr) : Mm := fun b => if b = a then none else m b
theorem put_same {m : Mm} {a : Addr} {o : MO} : put m a o a = some o := by unfold put; rw [if_pos rfl]
theorem put_ne {m : Mm} {a b : Addr} {o : MO} (h : b ≠ a) : put m a o b = m b := by unfold put; rw [if_neg h]
theorem put_put {m : Mm} {a : Addr} {o u : MO} : put (put m a o) a u = put m a u := by
  funext b; unfold put; split <;> rfl
theorem put_comm {m : Mm} {a b : Addr} {o u : MO} (h : a ≠ b) : put (put m a o) b u = put (put m b u) a o := by
  funext c; unfold put
  by_cases h1 : c = b
  · rw [if_pos h1]
    by_cases h2 : c = a
    · exact absurd (h2.symm.trans h1) h
    · rw [if_neg h2, if_pos h1]
  · rw [if_neg h1]
    by_cases h2 : c = a
    · rw [if_pos h2, if_pos h2]
    · rw [if_neg h2, if_neg h2, if_neg h1]
theorem ne_of_get {m : Mm} {a b : Addr} {o : MO} (h : m a = some o) (g : m b = none) : a ≠ b := fun e => by
  rw [e, g] at h; cases h
def KVs (K : PySem.W.Frag) (G : Hp) {α : Type} : List (α × Val) → List (α × V) → Prop
  | [], es => es = []
  | (k, r) :: t, es => ∃ v u, es = (k, v) :: u ∧ VR K G r v ∧ KVs K G t u
theorem KVs.mono {K : PySem.W.Frag} {G G' : Hp} {α : Type} (e : Le G G') : ∀ {kvs : List (α × Val)} {es : List (α × V)}, KVs K G kvs es → KVs K G' kvs es
  | [], es, h => h
  | (k, r) :: t, es, h => by
    obtain ⟨v, u, h1, h2, h3⟩ := h
    exact ⟨v, u, h1, h2.mono e, KVs.mono e h3⟩
def MR (K : PySem.W.Frag) (G H : Hp) (a : Addr) : MO → Prop
  | .lst rs => ∃ xs, H a = some (.lst xs) ∧ VRs K G rs xs
  | .dT kvs => ∃ es, H a = some (.dT es) ∧ KVs K G kvs es
  | .dK kvs => ∃ es, H a = some (.dK es) ∧ KVs K G kvs es
  | .lk od es kvs => H a = some (.frz od (.dT es)) ∧ KVs K G kvs es
  | .box => ∃ n : Int, H a = some (.lst [.int n])
  | .g P => P G H a ∧ (∀ G G' H H' : Hp, Le G G' → H' a = H a → P G H a → P G' H' a) ∧ (∃ u, H a = some u) ∧ ∀ xs, H a ≠ some (.tup xs)
theorem MR.some {K : PySem.W.Frag} {G H : Hp} {a : Addr} {o : MO} (h : MR K G H a o) : ∃ u, H a = some u := by
  cases o with
  | lst rs => obtain ⟨xs, h, _⟩ := h; exact ⟨_, h⟩
  | dT kvs => obtain ⟨xs, h, _⟩ := h; exact ⟨_, h⟩
  | dK kvs => obtain ⟨xs, h, _⟩ := h; exact ⟨_, h⟩
  | lk od es kvs => exact ⟨_, h.1⟩
  | box => obtain ⟨n, h⟩ := h; exact ⟨_, h⟩
  | g P => exact h.2.2.1
theorem MR.mono {K : PySem.W.Frag} {G G' H H' : Hp} {a : Addr} {o : MO} (e : Le G G') (hh : H' a = H a) (h : MR K G H a o) : MR K G' H' a o := by
  cases o with
  | lst rs => obtain ⟨xs, h, g⟩ := h; exact ⟨xs, hh.trans h, g.mono e⟩
  | dT kvs => obtain ⟨xs, h, g⟩ := h; exact ⟨xs, hh.trans h, g.mono e⟩
  | dK kvs => obtain ⟨xs, h, g⟩ := h; exact ⟨xs, hh.trans h, g.mono e⟩
  | lk od es kvs => exact ⟨hh.trans h.1, h.2.mono e⟩
  | box => obtain ⟨n, h⟩ := h; exact ⟨n, hh.trans h⟩
  | g P => obtain ⟨h1, h2, h3, h4⟩ := h; exact ⟨h2 _ _ _ _ e hh h1, h2, by rw [hh]; exact h3, by rw [hh]; exact h4⟩

structure Sta (K : PySem.W.Frag) (m : Mm) (H G : Hp) : Prop where
  sub : ∀ a o, G a = some o → H a = some o
  mem : ∀ a o, m a = some o → MR K G H a o
  dis : ∀ a o, m a = some o → G a = none

section
variable {K : PySem.W.Frag} {m : Mm} {H G : Hp} {p : Addr} {o : HO}
theorem Sta.free (S : Sta K m H G) (h : H p = none) : G p = none := by
  cases e : G p with
  | none => rfl
  | some u => rw [S.sub p u e] at h; cases h
theorem Sta.freeM (S : Sta K m H G) (h : H p = none) : m p = none := by
  cases e : m p with
  | none => rfl
  | some u =>
    obtain ⟨x, hx⟩ := (S.mem p u e).some
    rw [hx] at h; cases h
/-- a new thing that stays as it is -/
theorem Sta.fix (S : Sta K m H G) (h : H p = none) : Sta K m (upd H p o) (upd G p o) := by
  have hg := S.free h
  have hm := S.freeM h
  refine ⟨fun a u e => ?_, fun a u e => ?_, fun a u e => ?_⟩
  · by_cases ha : a = p
    · subst ha; rw [upd_same] at e ⊢; exact e
    · rw [upd_ne ha] at e ⊢; exact S.sub a u e
  · have ha : a ≠ p := ne_of_get e hm
    exact (S.mem a u e).mono (Le.new hg) (upd_ne ha)
  · have ha : a ≠ p := ne_of_get e hm
    rw [upd_ne ha]; exact S.dis a u e
/-- a new thing that may change -/
theorem Sta.new {u : MO} (S : Sta K m H G) (h : H p = none) (hu : MR K G (upd H p o) p u) : Sta K (put m p u) (upd H p o) G := by
  have hg := S.free h
  refine ⟨fun a w e => ?_, fun a w e => ?_, fun a w e => ?_⟩
  · rw [upd_ne (ne_of_none e hg)]; exact S.sub a w e
  · by_cases ha : a = p
    · subst ha; rw [put_same] at e; cases e; exact hu
    · rw [put_ne ha] at e
      exact (S.mem a w e).mono (Le.refl G) (upd_ne ha)
  · by_cases ha : a = p
    · subst ha; exact hg
    · rw [put_ne ha] at e; exact S.dis a w e
/-- a thing changed -/
theorem Sta.chg {u w : MO} (S : Sta K m H G) (h : m p = some w) (hu : MR K G (upd H p o) p u) : Sta K (put m p u) (upd H p o) G := by
  have hg := S.dis p w h
  refine ⟨fun a w e => ?_, fun a w e => ?_, fun a w e => ?_⟩
  · rw [upd_ne (ne_of_none e hg)]; exact S.sub a w e
  · by_cases ha : a = p
    · subst ha; rw [put_same] at e; cases e; exact hu
    · rw [put_ne ha] at e
      exact (S.mem a w e).mono (Le.refl G) (upd_ne ha)
  · by_cases ha : a = p
    · subst ha; exact hg
    · rw [put_ne ha] at e; exact S.dis a w e
/-- from now on it stays as it is -/
theorem Sta.freeze {u : MO} (S : Sta K m H G) (h : m p = some u) (ho : H p = some o) : Sta K (del m p) H (upd G p o) := by
  have hg := S.dis p u h
  refine ⟨fun a w e => ?_, fun a w e => ?_, fun a w e => ?_⟩
  · by_cases ha : a = p
    · subst ha; rw [upd_same] at e; cases e; exact ho
    · rw [upd_ne ha] at e; exact S.sub a w e
  · by_cases ha : a = p
    · subst ha; unfold del at e; rw [if_pos rfl] at e; cases e
    · unfold del at e; rw [if_neg ha] at e
      exact (S.mem a w e).mono (Le.new hg) rfl
  · by_cases ha : a = p
    · subst ha; unfold del at e; rw [if_pos rfl] at e; cases e
    · unfold del at e; rw [if_neg ha] at e
      rw [upd_ne ha]; exact S.dis a w e
/-- less told of what may change -/
theorem Sta.less {m' : Mm} (S : Sta K m H G) (h : ∀ a o, m' a = some o → m a = some o) : Sta K m' H G :=
  ⟨S.sub, fun a o e => S.mem a o (h a o e), fun a o e => S.dis a o (h a o e)⟩
theorem Sta.sqL {a : Addr} {xs : List V} (S : Sta K m H G) (h : SqL K G a xs) : SqL K H a xs := Le.sqL S.sub h
theorem Sta.sqT {a : Addr} {xs : List V} (S : Sta K m H G) (h : SqT K G a xs) : SqT K H a xs := Le.sqT S.sub h
end

/-! what code does, at this level -/
def Ev (K : PySem.W.Frag) (t : TE) (r : List Val) (m : Mm) (Q : Val → Mm → Prop) : Prop :=
  ∀ σ H G, Sta K m H G → Sl K G r σ → ∀ R : VK, (∀ v H' G' x m', Q x m' → Sta K m' H' G' → Le G G' → VR K G' x v → R v H') → t σ H R
def EvT (K : PySem.W.Frag) (t : TT) (r : List Val) (m : Mm) (Q : Bool → Mm → Prop) : Prop :=
  ∀ σ H G, Sta K m H G → Sl K G r σ → ∀ R : Bool → Hp → Prop, (∀ H' G' b m', Q b m' → Sta K m' H' G' → Le G G' → R b H') → t σ H R
def EvA (K : PySem.W.Frag) (t : TA) (r : List Val) (m : Mm) (Q : List Val → Mm → Prop) : Prop :=
  ∀ σ H G, Sta K m H G → Sl K G r σ → ∀ R : List V → Hp → Prop, (∀ vs H' G' xs m', Q xs m' → Sta K m' H' G' → Le G G' → VRs K G' xs vs → R vs H') → t σ H R
def Op2 (K : PySem.W.Frag) (f : R2) (x y : Val) (m : Mm) (Q : Val → Mm → Prop) : Prop :=
  ∀ H G v w, Sta K m H G → VR K G x v → VR K G y w → ∀ R : VK, (∀ v H' G' x m', Q x m' → Sta K m' H' G' → Le G G' → VR K G' x v → R v H') → f v w H R
def Op1 (K : PySem.W.Frag) (f : V → Hp → VK → Prop) (x : Val) (m : Mm) (Q : Val → Mm → Prop) : Prop :=
  ∀ H G v, Sta K m H G → VR K G x v → ∀ R : VK, (∀ v H' G' x m', Q x m' → Sta K m' H' G' → Le G G' → VR K G' x v → R v H') → f v H R
def OpN (K : PySem.W.Frag) (f : List V → Hp → VK → Prop) (xs : List Val) (m : Mm) (Q : Val → Mm → Prop) : Prop :=
  ∀ H G vs, Sta K m H G → VRs K G xs vs → ∀ R : VK, (∀ v H' G' x m', Q x m' → Sta K m' H' G' → Le G G' → VR K G' x v → R v H') → f vs H R
def Wp (K : PySem.W.Frag) (t : TS) (r : List Val) (m : Mm) (N : List Val → Mm → Prop) (E : Val → Mm → Prop) : Prop :=
  ∀ σ H G (D : Ends), Sta K m H G → Sl K G r σ → (∀ σ' H' G' r' m', N r' m' → Sta K m' H' G' → Le G G' → Sl K G' r' σ' → D.nx σ' H') →
    (∀ v H' G' x m', E x m' → Sta K m' H' G' → Le G G' → VR K G' x v → D.rt v H') → t D σ H

section
variable {K : PySem.W.Frag} {r : List Val} {m : Mm} {Q : Val → Mm → Prop} {ta tb tc te : TE} {tt tu : TT}
theorem Ev.imp {Q' : Val → Mm → Prop} (h : Ev K te r m Q) (i : ∀ x m', Q x m' → Q' x m') : Ev K te r m Q' := fun σ H G S L R q =>
  h σ H G S L R fun v H' G' x m' hq => q v H' G' x m' (i x m' hq)
theorem EvT.imp {Q Q' : Bool → Mm → Prop} (h : EvT K tt r m Q) (i : ∀ x m', Q x m' → Q' x m') : EvT K tt r m Q' := fun σ H G S L R q =>
  h σ H G S L R fun H' G' x m' hq => q H' G' x m' (i x m' hq)
theorem EvA.imp {t : TA} {Q Q' : List Val → Mm → Prop} (h : EvA K t r m Q) (i : ∀ x m', Q x m' → Q' x m') : EvA K t r m Q' := fun σ H G S L R q =>
  h σ H G S L R fun v H' G' x m' hq => q v H' G' x m' (i x m' hq)
theorem ev_var {i : Nat} {x : Val} (h : r[i]? = some x) (n : x ≠ .any) (q : Q x m) : Ev K (tVar i) r m Q := fun σ H G S L R k => by
  obtain ⟨v, h1, h2⟩ := L.get h n
  exact ⟨v, h1, k v H G x m q S (Le.refl G) h2⟩
theorem ev_cI {i : Int} (q : Q (.d (.int i)) m) : Ev K (tC (.int i)) r m Q := fun σ H G S L R k => k _ H G _ m q S (Le.refl G) (.d (rp_int.mpr rfl))
theorem ev_cB {i : Bool} (q : Q (.d (.bool i)) m) : Ev K (tC (.bl i)) r m Q := fun σ H G S L R k => k _ H G _ m q S (Le.refl G) (.d (rp_bool.mpr rfl))
theorem ev_cS {i : Str} (q : Q (.d (.str i)) m) : Ev K (tC (.str i)) r m Q := fun σ H G S L R k => k _ H G _ m q S (Le.refl G) (.d (rp_str.mpr rfl))
theorem ev_cN (q : Q (.d .none) m) : Ev K (tC .non) r m Q := fun σ H G S L R k => k _ H G _ m q S (Le.refl G) (.d (rp_none.mpr rfl))
theorem ev_cV {v : V} (q : Q (.v v) m) : Ev K (tC v) r m Q := fun σ H G S L R k => k _ H G _ m q S (Le.refl G) .v
/-- a constant of the module that is data -/
theorem ev_cG {v : V} {x : PyData} (hv : ∀ G, Rp K G x v) (q : Q (.d x) m) : Ev K (tC v) r m Q := fun σ H G S L R k => k _ H G _ m q S (Le.refl G) (.d (hv G))
theorem ev_op {f : R2} (h : Ev K ta r m fun x m1 => Ev K tb r m1 fun y m2 => Op2 K f x y m2 Q) : Ev K (tOp f ta tb) r m Q := fun σ H G S L R k =>
  h σ H G S L _ fun v H1 G1 x m1 h1 S1 e1 r1 => h1 σ H1 G1 S1 (L.mono e1) _ fun w H2 G2 y m2 h2 S2 e2 r2 =>
    h2 H2 G2 v w S2 (r1.mono e2) r2 R fun v' H3 G3 z m3 h3 S3 e3 r3 => k v' H3 G3 z m3 h3 S3 (e1.trans (e2.trans e3)) r3
theorem ev_un {f : V → Hp → VK → Prop} (h : Ev K ta r m fun x m1 => Op1 K f x m1 Q) : Ev K (tUn f ta) r m Q := fun σ H G S L R k =>
  h σ H G S L _ fun v H1 G1 x m1 h1 S1 e1 r1 => h1 H1 G1 v S1 r1 R fun v' H3 G3 z m3 h3 S3 e3 r3 => k v' H3 G3 z m3 h3 S3 (e1.trans e3) r3
theorem eva_nil {Q : List Val → Mm → Prop} (q : Q [] m) : EvA K tNil r m Q := fun σ H G S L R k => k [] H G [] m q S (Le.refl G) rfl
theorem eva_cons {tr : TA} {Q : List Val → Mm → Prop} (h : Ev K ta r m fun x m1 => EvA K tr r m1 fun xs m2 => Q (x :: xs) m2) : EvA K (tCons ta tr) r m Q := fun σ H G S L R k =>
  h σ H G S L _ fun v H1 G1 x m1 h1 S1 e1 r1 => h1 σ H1 G1 S1 (L.mono e1) _ fun vs H2 G2 xs m2 h2 S2 e2 r2 =>
    k (v :: vs) H2 G2 (x :: xs) m2 h2 S2 (e1.trans e2) ⟨v, vs, rfl, r1.mono e2, r2⟩
theorem ev_callB {f : List V → Hp → VK → Prop} {t : TA} (h : EvA K t r m fun xs m1 => OpN K f xs m1 Q) : Ev K (tCB f t) r m Q := fun σ H G S L R k =>
  h σ H G S L _ fun vs H1 G1 xs m1 h1 S1 e1 r1 => h1 H1 G1 vs S1 r1 R fun v' H3 G3 z m3 h3 S3 e3 r3 => k v' H3 G3 z m3 h3 S3 (e1.trans e3) r3
theorem ev_if (h : EvT K tt r m fun b m1 => (b = true → Ev K ta r m1 Q) ∧ (b = false → Ev K tb r m1 Q)) : Ev K (tIf tt ta tb) r m Q := fun σ H G S L R k =>
  h σ H G S L _ fun H1 G1 b m1 h1 S1 e1 => by
    cases b with
    | true =>
      show ta σ H1 R
      exact h1.1 rfl σ H1 G1 S1 (L.mono e1) R fun v' H3 G3 z m3 h3 S3 e3 r3 => k v' H3 G3 z m3 h3 S3 (e1.trans e3) r3
    | false =>
      show tb σ H1 R
      exact h1.2 rfl σ H1 G1 S1 (L.mono e1) R fun v' H3 G3 z m3 h3 S3 e3 r3 => k v' H3 G3 z m3 h3 S3 (e1.trans e3) r3
theorem evt_test {Q : Bool → Mm → Prop} (h : Ev K te r m fun x m1 => ∃ b, x = .d (.bool b) ∧ Q b m1) : EvT K (tTest te) r m Q := fun σ H G S L R k =>
  h σ H G S L _ fun v H1 G1 x m1 ⟨b, hx, hb⟩ S1 e1 r1 => by
    subst hx
    exact ⟨b, rp_bool.mp r1.rp, k H1 G1 b m1 hb S1 e1⟩
theorem evt_B {Q : Bool → Mm → Prop} (h : Ev K te r m fun x m1 => ∃ b, x = .d (.bool b) ∧ Q b m1) : EvT K (tB te) r m Q := fun σ H G S L R k =>
  h σ H G S L _ fun v H1 G1 x m1 ⟨b, hx, hb⟩ S1 e1 r1 => by
    subst hx
    exact ⟨b, rp_bool.mp r1.rp, k H1 G1 b m1 hb S1 e1⟩
theorem evt_and {Q : Bool → Mm → Prop} (h : EvT K tt r m fun b m1 => (b = true → EvT K tu r m1 Q) ∧ (b = false → Q false m1)) : EvT K (tAnd tt tu) r m Q := fun σ H G S L R k =>
  h σ H G S L _ fun H1 G1 b m1 h1 S1 e1 => by
    cases b with
    | true =>
      show tu σ H1 R
      exact h1.1 rfl σ H1 G1 S1 (L.mono e1) R fun H3 G3 z m3 h3 S3 e3 => k H3 G3 z m3 h3 S3 (e1.trans e3)
    | false =>
      show R false H1
      exact k H1 G1 false m1 (h1.2 rfl) S1 e1
theorem evt_or {Q : Bool → Mm → Prop} (h : EvT K tt r m fun b m1 => (b = true → Q true m1) ∧ (b = false → EvT K tu r m1 Q)) : EvT K (tOr tt tu) r m Q := fun σ H G S L R k =>
  h σ H G S L _ fun H1 G1 b m1 h1 S1 e1 => by
    cases b with
    | false =>
      show tu σ H1 R
      exact h1.2 rfl σ H1 G1 S1 (L.mono e1) R fun H3 G3 z m3 h3 S3 e3 => k H3 G3 z m3 h3 S3 (e1.trans e3)
    | true =>
      show R true H1
      exact k H1 G1 true m1 (h1.1 rfl) S1 e1
theorem evt_not {Q : Bool → Mm → Prop} (h : EvT K tt r m fun b m1 => Q (!b) m1) : EvT K (tNot tt) r m Q := fun σ H G S L R k =>
  h σ H G S L _ fun H1 G1 b m1 h1 S1 e1 => k H1 G1 (!b) m1 h1 S1 e1
theorem ev_and (h : Ev K ta r m fun x m1 => ∃ b, x = .d (.bool b) ∧ (b = true → Ev K tb r m1 Q) ∧ (b = false → Q (.d (.bool false)) m1)) : Ev K (tAndV ta tb) r m Q := fun σ H G S L R k =>
  h σ H G S L _ fun v H1 G1 x m1 ⟨b, hx, h1, h2⟩ S1 e1 r1 => by
    subst hx
    refine ⟨b, rp_bool.mp r1.rp, ?_⟩
    cases b with
    | true =>
      show tb σ H1 R
      exact h1 rfl σ H1 G1 S1 (L.mono e1) R fun v' H3 G3 z m3 h3 S3 e3 r3 => k v' H3 G3 z m3 h3 S3 (e1.trans e3) r3
    | false =>
      show R (.bl false) H1
      exact k _ H1 G1 _ m1 (h2 rfl) S1 e1 (.d (rp_bool.mpr rfl))
theorem ev_or (h : Ev K ta r m fun x m1 => ∃ b, x = .d (.bool b) ∧ (b = true → Q (.d (.bool true)) m1) ∧ (b = false → Ev K tb r m1 Q)) : Ev K (tOrV ta tb) r m Q := fun σ H G S L R k =>
  h σ H G S L _ fun v H1 G1 x m1 ⟨b, hx, h1, h2⟩ S1 e1 r1 => by
    subst hx
    refine ⟨b, rp_bool.mp r1.rp, ?_⟩
    cases b with
    | false =>
      show tb σ H1 R
      exact h2 rfl σ H1 G1 S1 (L.mono e1) R fun v' H3 G3 z m3 h3 S3 e3 r3 => k v' H3 G3 z m3 h3 S3 (e1.trans e3) r3
    | true =>
      show R (.bl true) H1
      exact k _ H1 G1 _ m1 (h1 rfl) S1 e1 (.d (rp_bool.mpr rfl))
theorem ev_not (h : Ev K ta r m fun x m1 => ∃ b, x = .d (.bool b) ∧ Q (.d (.bool (!b))) m1) : Ev K (tNotV ta) r m Q := fun σ H G S L R k =>
  h σ H G S L _ fun v H1 G1 x m1 ⟨b, hx, h1⟩ S1 e1 r1 => by
    subst hx
    exact ⟨b, rp_bool.mp r1.rp, k _ H1 G1 _ m1 h1 S1 e1 (.d (rp_bool.mpr rfl))⟩
theorem ev_chain {f g : R2} (h : Ev K ta r m fun x m1 => Ev K tb r m1 fun y m2 => Op2 K f x y m2 fun z m3 => ∃ b, z = .d (.bool b) ∧ (b = true → Ev K tc r m3 fun w m4 => Op2 K g y w m4 Q) ∧ (b = false → Q (.d (.bool false)) m3)) :
    Ev K (tChain f g ta tb tc) r m Q := fun σ H G S L R k =>
  h σ H G S L _ fun v H1 G1 x m1 h1 S1 e1 r1 => h1 σ H1 G1 S1 (L.mono e1) _ fun w H2 G2 y m2 h2 S2 e2 r2 =>
    h2 H2 G2 v w S2 (r1.mono e2) r2 _ fun v' H3 G3 z m3 ⟨b, hz, h3, h4⟩ S3 e3 r3 => by
      subst hz
      refine ⟨b, rp_bool.mp r3.rp, ?_⟩
      cases b with
      | true =>
        show tc σ H3 _
        exact h3 rfl σ H3 G3 S3 (L.mono (e1.trans (e2.trans e3))) _ fun u H4 G4 q m4 h5 S4 e4 r4 =>
          h5 H4 G4 w u S4 (r2.mono (e3.trans e4)) r4 R fun v5 H5 G5 z5 m5 q5 S5 e5 r5 => k v5 H5 G5 z5 m5 q5 S5 (e1.trans (e2.trans (e3.trans (e4.trans e5)))) r5
      | false =>
        show R (.bl false) H3
        exact k _ H3 G3 _ m3 (h4 rfl) S3 (e1.trans (e2.trans e3)) (.d (rp_bool.mpr rfl))
/-- a tuple -/
theorem ev_tup {t : TA} (h : EvA K t r m fun xs m1 => ∃ ds : List PyData, xs = ds.map Val.d ∧ ds.length ≤ 100000 ∧ Q (.d (.tuple ds)) m1) : Ev K (tTup t) r m Q := fun σ H G S L R k =>
  h σ H G S L _ fun vs H1 G1 xs m1 ⟨ds, hx, hl, q⟩ S1 e1 r1 => by
    subst hx
    have hA := r1.toAll
    refine ⟨by rw [hA.length]; exact Nat.le_trans hl (by decide), fun p hp => ?_⟩
    have hg := S1.free hp
    exact k (.ref p) _ (upd G1 p (.tup vs)) _ m1 q (S1.fix hp) (e1.trans (Le.new hg)) (.d <| rp_tuple.mpr ⟨p, vs, rfl, SqT.of upd_same, RpAll.mono (Le.new hg) ds vs hA⟩)
/-- a list that stays as it is -/
theorem ev_lstD {t : TA} (h : EvA K t r m fun xs m1 => ∃ ds : List PyData, xs = ds.map Val.d ∧ ds.length ≤ 100000 ∧ Q (.d (.list ds)) m1) : Ev K (tLst t) r m Q := fun σ H G S L R k =>
  h σ H G S L _ fun vs H1 G1 xs m1 ⟨ds, hx, hl, q⟩ S1 e1 r1 => by
    subst hx
    have hA := r1.toAll
    refine ⟨by rw [hA.length]; exact Nat.le_trans hl (by decide), fun p hp => ?_⟩
    have hg := S1.free hp
    exact k (.ref p) _ (upd G1 p (.lst vs)) _ m1 q (S1.fix hp) (e1.trans (Le.new hg)) (.d <| rp_list.mpr ⟨p, vs, rfl, Rd.of upd_same, RpAll.mono (Le.new hg) ds vs hA⟩)
/-- a list that may change -/
theorem ev_lstM {t : TA} (h : EvA K t r m fun xs m1 => xs.length ≤ 100000 ∧ ∀ p, m1 p = none → Q (.v (.ref p)) (put m1 p (.lst xs))) : Ev K (tLst t) r m Q := fun σ H G S L R k =>
  h σ H G S L _ fun vs H1 G1 xs m1 ⟨hl, q⟩ S1 e1 r1 => by
    refine ⟨by rw [r1.length]; exact Nat.le_trans hl (by decide), fun p hp => ?_⟩
    exact k (.ref p) _ G1 _ _ (q p (S1.freeM hp)) (S1.new hp ⟨vs, upd_same, r1⟩) e1 .v
/-- what may change is data from now on -/
theorem ev_freezeL (h : Ev K te r m fun x m1 => ∃ p ds, x = .v (.ref p) ∧ m1 p = some (.lst (ds.map Val.d)) ∧ Q (.d (.list ds)) (del m1 p)) : Ev K te r m Q := fun σ H G S L R k =>
  h σ H G S L R fun v H1 G1 x m1 ⟨p, ds, hx, hm, q⟩ S1 e1 r1 => by
    subst hx
    have r1 : v = .ref p := r1.eq
    subst r1
    obtain ⟨xs, h1, h2⟩ := S1.mem p _ hm
    have hg := S1.dis p _ hm
    exact k (.ref p) H1 (upd G1 p (.lst xs)) _ _ q (S1.freeze hm h1) (e1.trans (Le.new hg)) (.d <| rp_list.mpr ⟨p, xs, rfl, Rd.of upd_same, RpAll.mono (Le.new hg) ds xs h2.toAll⟩)

/-! statements -/
variable {N : List Val → Mm → Prop} {E : Val → Mm → Prop} {t u : TS}
theorem Wp.imp {N' : List Val → Mm → Prop} {E' : Val → Mm → Prop} (h : Wp K t r m N E) (i : ∀ x m', N x m' → N' x m') (j : ∀ x m', E x m' → E' x m') : Wp K t r m N' E' := fun σ H G D S L a b =>
  h σ H G D S L (fun σ' H' G' r' m' hq => a σ' H' G' r' m' (i _ _ hq)) (fun v H' G' x m' hq => b v H' G' x m' (j _ _ hq))
theorem w_next (q : N r m) : Wp K tNext r m N E := fun σ H G D S L a b => a σ H G r m q S (Le.refl G) L
theorem w_seq (h : Wp K t r m (fun r1 m1 => Wp K u r1 m1 N E) E) : Wp K (tSeq t u) r m N E := fun σ H G D S L a b =>
  h σ H G { D with nx := u D } S L (fun σ1 H1 G1 r1 m1 h1 S1 e1 L1 => h1 σ1 H1 G1 D S1 L1 (fun σ2 H2 G2 r2 m2 n2 S2 e2 L2 => a σ2 H2 G2 r2 m2 n2 S2 (e1.trans e2) L2)
    (fun v H2 G2 x m2 n2 S2 e2 L2 => b v H2 G2 x m2 n2 S2 (e1.trans e2) L2)) b
theorem w_asg {i : Nat} (h : Ev K te r m fun x m1 => N (r.set i x) m1) : Wp K (tAsg te (gName i)) r m N E := fun σ H G D S L a b =>
  h σ H G S L _ fun v H1 G1 x m1 q S1 e1 r1 => a (σ.set i (some v)) H1 G1 (r.set i x) m1 q S1 e1 ((L.mono e1).set r1 i)
theorem w_drop (h : Ev K te r m fun _ m1 => N r m1) : Wp K (tDrop te) r m N E := fun σ H G D S L a b =>
  h σ H G S L _ fun v H1 G1 x m1 q S1 e1 r1 => a σ H1 G1 r m1 q S1 e1 (L.mono e1)
theorem w_ret (h : Ev K te r m E) : Wp K (tRet te) r m N E := fun σ H G D S L a b => h σ H G S L _ b
theorem w_if (h : EvT K tt r m fun c m1 => (c = true → Wp K t r m1 N E) ∧ (c = false → Wp K u r m1 N E)) : Wp K (tIfS tt t u) r m N E := fun σ H G D S L a b =>
  h σ H G S L _ fun H1 G1 c m1 h1 S1 e1 => by
    cases c with
    | true =>
      show t D σ H1
      exact h1.1 rfl σ H1 G1 D S1 (L.mono e1) (fun σ2 H2 G2 r2 m2 n2 S2 e2 L2 => a σ2 H2 G2 r2 m2 n2 S2 (e1.trans e2) L2) (fun v H2 G2 x m2 n2 S2 e2 L2 => b v H2 G2 x m2 n2 S2 (e1.trans e2) L2)
    | false =>
      show u D σ H1
      exact h1.2 rfl σ H1 G1 D S1 (L.mono e1) (fun σ2 H2 G2 r2 m2 n2 S2 e2 L2 => a σ2 H2 G2 r2 m2 n2 S2 (e1.trans e2) L2) (fun v H2 G2 x m2 n2 S2 e2 L2 => b v H2 G2 x m2 n2 S2 (e1.trans e2) L2)
/-- less told -/
theorem w_weak {r' : List Val} (w : Wk r r') (h : Wp K t r' m N E) : Wp K t r m N E := fun σ H G D S L a b => h σ H G D S (L.weak w) a b
/-- a, b = .. of one tuple -/
theorem w_asg2 {i j : Nat} (h : Ev K te r m fun x m1 => ∃ d1 d2, x = .d (.tuple [d1, d2]) ∧ N ((r.set i (.d d1)).set j (.d d2)) m1) : Wp K (tAsg te (gTup K 2 (gCons (gName i) (gCons (gName j) gNil)))) r m N E := fun σ H G D S L a b =>
  h σ H G S L _ fun v H1 G1 x m1 ⟨d1, d2, hx, q⟩ S1 e1 r1 => by
    subst hx
    obtain ⟨p, xs, hv, hs, hA⟩ := rp_tuple.mp r1.rp
    have hl := hA.length
    obtain ⟨x1, t1, rfl, a1, hA⟩ := rpa_cons.mp hA
    obtain ⟨x2, t2, rfl, a2, hA⟩ := rpa_cons.mp hA
    obtain rfl := rpa_nil.mp hA
    refine ⟨p, _, hv, S1.sqT hs, rfl, x1, [x2], rfl, x2, [], rfl, rfl, ?_⟩
    exact a _ H1 G1 _ m1 q S1 e1 (((L.mono e1).set (r := .d d1) (.d a1) i).set (r := .d d2) (.d a2) j)
/-- a, b = e, f -/
theorem w_par {i j : Nat} {ta : TA} (h : EvA K ta r m fun xs m1 => ∃ x y, xs = [x, y] ∧ N ((r.set i x).set j y) m1) : Wp K (tPar i j ta) r m N E := fun σ H G D S L a b =>
  h σ H G S L _ fun vs H1 G1 xs m1 ⟨x, y, hx, q⟩ S1 e1 r1 => by
    subst hx
    obtain ⟨v1, t1, rfl, a1, t2⟩ := r1
    obtain ⟨v2, t2, rfl, a2, t3⟩ := t2
    have t3 : t2 = [] := t3
    subst t3
    exact ⟨v1, v2, rfl, a _ H1 G1 _ m1 q S1 e1 (((L.mono e1).set a1 i).set a2 j)⟩
theorem w_while {tt : TT} (W : Nat → List Val → Mm → Prop) (n0 : Nat) (h0 : W n0 r m)
    (hs : ∀ n r' m', W n r' m' → EvT K tt r' m' fun c m1 => (c = true → Wp K t r' m1 (fun r2 m2 => ∃ n', n' < n ∧ W n' r2 m2) E) ∧ (c = false → N r' m1)) : Wp K (tWhile tt t) r m N E := fun σ H G D S L a b => by
  refine ⟨fun n σ' H' => ∃ G' r' m', W n r' m' ∧ Sta K m' H' G' ∧ Le G G' ∧ Sl K G' r' σ', ⟨n0, G, r, m, h0, S, Le.refl G, L⟩, ?_⟩
  rintro n σ1 H1 ⟨G1, r1, m1, hw, S1, e1, L1⟩
  refine hs n r1 m1 hw σ1 H1 G1 S1 L1 _ fun H2 G2 c m2 h2 S2 e2 => ?_
  cases c with
  | true =>
    refine ⟨fun σ' H' => ∃ n', n' < n ∧ ∃ G' r' m', W n' r' m' ∧ Sta K m' H' G' ∧ Le G G' ∧ Sl K G' r' σ', fun σ' H' h => h, ?_⟩
    exact h2.1 rfl σ1 H2 G2 _ S2 (L1.mono e2) (fun σ3 H3 G3 r3 m3 ⟨n', hn, hw'⟩ S3 e3 L3 => ⟨n', hn, G3, r3, m3, hw', S3, e1.trans (e2.trans e3), L3⟩)
      (fun v H3 G3 x m3 n3 S3 e3 L3 => b v H3 G3 x m3 n3 S3 (e1.trans (e2.trans e3)) L3)
  | false => exact a σ1 H2 G2 r1 m2 (h2.2 rfl) S2 (e1.trans e2) (L1.mono e2)
theorem w_forTA {tl : TE} {j : Nat} (P : List PyData → Prop) (h : Ev K tl r m fun x m1 => m1 = m ∧ ∃ ds, x = .d (.tuple ds) ∧ P ds) (W : List PyData → Nat → List Val → Mm → Prop) (h0 : ∀ ds, P ds → W ds 0 r m)
    (hs : ∀ (ds : List PyData) (i : Nat) (d : PyData) r' m', P ds → ds[i]? = some d → W ds i r' m' → Wp K t (r'.set j (.d d)) m' (W ds (i + 1)) E) (hd : ∀ (ds : List PyData) r' m', P ds → W ds ds.length r' m' → N r' m') : Wp K (tFor (iTup K tl) (gName j) t) r m N E := fun σ H G D S L a b =>
  h σ H G S L _ fun v H1 G1 x m1 ⟨hm, ds, hx, hP⟩ S1 e1 r1 => by
    subst hx hm
    obtain ⟨p, xs, hv, hs1, hA⟩ := rp_tuple.mp r1.rp
    refine ⟨p, hv, ⟨xs, S1.sqT hs1⟩, for_tup (xs := xs) (fun i σ' H' => ∃ G' r' m', W ds i r' m' ∧ Sta K m' H' G' ∧ Le G1 G' ∧ Sl K G' r' σ') ⟨G1, r, _, h0 ds hP, S1, Le.refl G1, L.mono e1⟩ ?_ ?_ ?_⟩
    · rintro i σ' H' hi ⟨G', r', m', _, S', e', _⟩
      exact S'.sqT (e'.sqT hs1)
    · rintro i y σ' H' hy ⟨G', r', m', hw, S', e', L'⟩
      obtain ⟨d, hd1, hd2⟩ := hA.get hy
      refine hs ds i d r' m' hP hd1 hw (σ'.set j (some y)) H' G' _ S' (L'.set (r := .d d) (.d (Rp.mono e' d y hd2)) j) (fun σ3 H3 G3 r3 m3 h3 S3 e3 L3 => ⟨G3, r3, m3, h3, S3, e'.trans e3, L3⟩) (fun v H3 G3 x m3 n3 S3 e3 L3 => b v H3 G3 x m3 n3 S3 (e1.trans (e'.trans e3)) L3)
    · rintro σ' H' ⟨G', r', m', hw, S', e', L'⟩
      rw [hA.length] at hw
      exact a σ' H' G' r' m' (hd ds r' m' hP hw) S' (e1.trans e') L'
theorem w_forT {tl : TE} {j : Nat} {ds : List PyData} (h : Ev K tl r m fun x m1 => x = .d (.tuple ds) ∧ m1 = m) (W : Nat → List Val → Mm → Prop) (h0 : W 0 r m)
    (hs : ∀ (i : Nat) (d : PyData) r' m', ds[i]? = some d → W i r' m' → Wp K t (r'.set j (.d d)) m' (W (i + 1)) E) (hd : ∀ r' m', W ds.length r' m' → N r' m') : Wp K (tFor (iTup K tl) (gName j) t) r m N E :=
  w_forTA (fun l => l = ds) (h.imp fun x m' e => ⟨e.2, ds, e.1, rfl⟩) (fun _ => W) (fun _ _ => h0) (fun l i d r' m' e hd hw => hs i d r' m' (by rw [← e]; exact hd) hw) (fun l r' m' e hw => hd r' m' (by rw [← e]; exact hw))
theorem w_forLA {tl : TE} {j : Nat} (P : List PyData → Prop) (h : Ev K tl r m fun x m1 => m1 = m ∧ ∃ ds, x = .d (.list ds) ∧ P ds) (W : List PyData → Nat → List Val → Mm → Prop) (h0 : ∀ ds, P ds → W ds 0 r m)
    (hs : ∀ (ds : List PyData) (i : Nat) (d : PyData) r' m', P ds → ds[i]? = some d → W ds i r' m' → Wp K t (r'.set j (.d d)) m' (W ds (i + 1)) E) (hd : ∀ (ds : List PyData) r' m', P ds → W ds ds.length r' m' → N r' m') : Wp K (tFor (iList K tl) (gName j) t) r m N E := fun σ H G D S L a b =>
  h σ H G S L _ fun v H1 G1 x m1 ⟨hm, ds, hx, hP⟩ S1 e1 r1 => by
    subst hx hm
    obtain ⟨p, xs, hv, hs1, hA⟩ := rp_list.mp r1.rp
    have hs1 : SqL K G1 p xs := Or.inl hs1
    refine ⟨p, hv, ⟨xs, S1.sqL hs1⟩, for_list (xs := xs) (fun i σ' H' => ∃ G' r' m', W ds i r' m' ∧ Sta K m' H' G' ∧ Le G1 G' ∧ Sl K G' r' σ') ⟨G1, r, _, h0 ds hP, S1, Le.refl G1, L.mono e1⟩ ?_ ?_ ?_⟩
    · rintro i σ' H' hi ⟨G', r', m', _, S', e', _⟩
      exact S'.sqL (e'.sqL hs1)
    · rintro i y σ' H' hy ⟨G', r', m', hw, S', e', L'⟩
      obtain ⟨d, hd1, hd2⟩ := hA.get hy
      refine hs ds i d r' m' hP hd1 hw (σ'.set j (some y)) H' G' _ S' (L'.set (r := .d d) (.d (Rp.mono e' d y hd2)) j) (fun σ3 H3 G3 r3 m3 h3 S3 e3 L3 => ⟨G3, r3, m3, h3, S3, e'.trans e3, L3⟩) (fun v H3 G3 x m3 n3 S3 e3 L3 => b v H3 G3 x m3 n3 S3 (e1.trans (e'.trans e3)) L3)
    · rintro σ' H' ⟨G', r', m', hw, S', e', L'⟩
      rw [hA.length] at hw
      exact a σ' H' G' r' m' (hd ds r' m' hP hw) S' (e1.trans e') L'
theorem w_forL {tl : TE} {j : Nat} {ds : List PyData} (h : Ev K tl r m fun x m1 => x = .d (.list ds) ∧ m1 = m) (W : Nat → List Val → Mm → Prop) (h0 : W 0 r m)
    (hs : ∀ (i : Nat) (d : PyData) r' m', ds[i]? = some d → W i r' m' → Wp K t (r'.set j (.d d)) m' (W (i + 1)) E) (hd : ∀ r' m', W ds.length r' m' → N r' m') : Wp K (tFor (iList K tl) (gName j) t) r m N E :=
  w_forLA (fun l => l = ds) (h.imp fun x m' e => ⟨e.2, ds, e.1, rfl⟩) (fun _ => W) (fun _ _ => h0) (fun l i d r' m' e hd hw => hs i d r' m' (by rw [← e]; exact hd) hw) (fun l r' m' e hw => hd r' m' (by rw [← e]; exact hw))
theorem w_forR1 {ta : TA} {j : Nat} {n : Nat} (h : EvA K ta r m fun xs m1 => xs = [.d (.int (n : Int))] ∧ m1 = m) (hn : n ≤ 100000) (W : Nat → List Val → Mm → Prop) (h0 : W 0 r m)
    (hs : ∀ (i : Nat) r' m', i < n → W i r' m' → Wp K t (r'.set j (.d (.int (i : Int)))) m' (W (i + 1)) E) (hd : ∀ r' m', W n r' m' → N r' m') : Wp K (tFor (iRng1 ta) (gName j) t) r m N E := fun σ H G D S L a b =>
  h σ H G S L _ fun vs H1 G1 xs m1 ⟨hx, hm⟩ S1 e1 r1 => by
    subst hx hm
    obtain ⟨v1, t1, rfl, a1, t2⟩ := r1
    have t2 : t1 = [] := t2
    subst t2
    have a1 : v1 = .int (n : Int) := rp_int.mp a1.rp
    subst a1
    have en : ((n : Int)).toNat = n := by omega
    refine ⟨(n : Int), rfl, by omega, by omega, ?_⟩
    rw [en]
    refine for_range (lo := 0) (n := n) (fun i σ' H' => ∃ G' r' m', W i r' m' ∧ Sta K m' H' G' ∧ Le G1 G' ∧ Sl K G' r' σ') ⟨G1, r, _, h0, S1, Le.refl G1, L.mono e1⟩ ?_ ?_
    · rintro i σ' H' hi ⟨G', r', m', hw, S', e', L'⟩
      rw [Int.zero_add]
      refine hs i r' m' hi hw (σ'.set j (some (.int (i : Int)))) H' G' _ S' (L'.set (r := .d (.int (i : Int))) (.d (rp_int.mpr rfl)) j) (fun σ3 H3 G3 r3 m3 h3 S3 e3 L3 => ⟨G3, r3, m3, h3, S3, e'.trans e3, L3⟩) (fun v H3 G3 x m3 n3 S3 e3 L3 => b v H3 G3 x m3 n3 S3 (e1.trans (e'.trans e3)) L3)
    · rintro σ' H' ⟨G', r', m', hw, S', e', L'⟩
      exact a σ' H' G' r' m' (hd r' m' hw) S' (e1.trans e') L'
theorem w_forR2 {ta : TA} {j : Nat} {lo n : Nat} (h : EvA K ta r m fun xs m1 => xs = [.d (.int (lo : Int)), .d (.int ((lo + n : Nat) : Int))] ∧ m1 = m) (hn : lo + n ≤ 100000) (W : Nat → List Val → Mm → Prop) (h0 : W 0 r m)
    (hs : ∀ (i : Nat) r' m', i < n → W i r' m' → Wp K t (r'.set j (.d (.int ((lo + i : Nat) : Int)))) m' (W (i + 1)) E) (hd : ∀ r' m', W n r' m' → N r' m') : Wp K (tFor (iRng2 ta) (gName j) t) r m N E := fun σ H G D S L a b =>
  h σ H G S L _ fun vs H1 G1 xs m1 ⟨hx, hm⟩ S1 e1 r1 => by
    subst hx hm
    obtain ⟨v1, t1, rfl, a1, t2⟩ := r1
    obtain ⟨v2, t3, rfl, a2, t2⟩ := t2
    have t2 : t3 = [] := t2
    subst t2
    have a1 : v1 = .int (lo : Int) := rp_int.mp a1.rp
    have a2 : v2 = .int ((lo + n : Nat) : Int) := rp_int.mp a2.rp
    subst a1 a2
    have en : (((lo + n : Nat) : Int) - (lo : Int)).toNat = n := by omega
    refine ⟨(lo : Int), ((lo + n : Nat) : Int), rfl, ⟨by omega, by omega, by omega, by omega⟩, ?_⟩
    rw [en]
    refine for_range (lo := (lo : Int)) (n := n) (fun i σ' H' => ∃ G' r' m', W i r' m' ∧ Sta K m' H' G' ∧ Le G1 G' ∧ Sl K G' r' σ') ⟨G1, r, _, h0, S1, Le.refl G1, L.mono e1⟩ ?_ ?_
    · rintro i σ' H' hi ⟨G', r', m', hw, S', e', L'⟩
      rw [show (lo : Int) + (i : Int) = ((lo + i : Nat) : Int) from (Int.natCast_add lo i).symm]
      refine hs i r' m' hi hw _ H' G' _ S' (L'.set (r := .d (.int ((lo + i : Nat) : Int))) (.d (rp_int.mpr rfl)) j) (fun σ3 H3 G3 r3 m3 h3 S3 e3 L3 => ⟨G3, r3, m3, h3, S3, e'.trans e3, L3⟩) (fun v H3 G3 x m3 n3 S3 e3 L3 => b v H3 G3 x m3 n3 S3 (e1.trans (e'.trans e3)) L3)
    · rintro σ' H' ⟨G', r', m', hw, S', e', L'⟩
      exact a σ' H' G' r' m' (hd r' m' hw) S' (e1.trans e') L'
end

/-! what a def does, at this level -/
abbrev FSp := List Val → Mm → (Val → Mm → Prop) → Prop
def spD (K : PySem.W.Frag) (f : FSp) : Sp := fun vs H Q _ => ∃ m G args R, Sta K m H G ∧ VRs K G args vs ∧ f args m R ∧ ∀ v H' G' x m', R x m' → Sta K m' H' G' → Le G G' → VR K G' x v → Q v H'
theorem ev_call {K : PySem.W.Frag} {f : FSp} {t : TA} {E : XK} {r : List Val} {m : Mm} {Q : Val → Mm → Prop} (h : EvA K t r m fun xs m1 => f xs m1 Q) : Ev K (tCall (spD K f) [] E t) r m Q := fun σ H G S L R k =>
  h σ H G S L _ fun vs H1 G1 xs m1 h1 S1 e1 r1 => by
    rw [List.append_nil]
    exact ⟨m1, G1, xs, Q, S1, r1, h1, fun v' H3 G3 z m3 h3 S3 e3 r3 => k v' H3 G3 z m3 h3 S3 (e1.trans e3) r3⟩
section
variable {P : Program} {w : World} {K : PySem.W.Frag} {mg : Str → Option Value} {base : Heap}
theorem fn_ok {x qual : Str} {st : Stmt} {f : Addr} {fd : FuncData} {N ps : List Str} {k : Nat} {sp : FSp} (F : Fun K x qual st f fd) (S : FnScope N ps (defScope st)) (hl : ∀ args m R, sp args m R → args.length = ps.length)
    (hb : ∀ (cdv : Value) (A : Around) (outer : List Env) (s : Shared) (H : Hp) (E : XK), Room k (A.deeper (PyProof.Rows.envOfC qual (defScope st) s.heap.objs.size f cdv)) →
      ∃ t, PSs (cxOf CX0 P w K mg base N qual (defScope st) f cdv A outer s H E).nox (defBody st) t ∧
        ∀ args m R, sp args m R → Wp K t (args ++ List.replicate (N.length - args.length) .any) m (fun _ m' => R (.d .none) m') R) : FnOk P w K mg base CX0 (k + 1) f fd ps (spD K sp) := by
  refine F.ok S (fun vs H Q E h => ?_) (fun cdv A outer s H vs Q E hr h => ?_)
  · obtain ⟨m, G, args, R, S1, r1, h1, _⟩ := h
    rw [r1.length]; exact hl args m R h1
  · obtain ⟨m, G, args, R, S1, r1, h1, k1⟩ := h
    obtain ⟨t, ht, hw⟩ := hb cdv A outer s H E hr
    refine ⟨t, ht, ?_⟩
    refine hw args m R h1 _ H G _ S1 ?_ (fun σ' H' G' r' m' hn S' e' L' => ?_) (fun v H' G' x m' hn S' e' L' => k1 v H' G' x m' hn S' e' L')
    · unfold L2.start
      rw [r1.length]
      exact Sl.start _ r1
    · exact k1 .non H' G' (.d .none) m' hn S' e' (.d (rp_none.mpr rfl))
end
end DL


namespace DL
open PySem L2

/-! rules of the layer below, joined -/
section
variable {X : Cx}
/-- list + list, as they may be read -/
def rCatR : R2 := fun x y H Q => ∃ l b xs zs, x = .ref l ∧ y = .ref b ∧ Rd H l (.lst xs) ∧ Rd H b (.lst zs) ∧ xs.length + zs.length ≤ sizeLine ∧ ∀ p, H p = none → Q (.ref p) (upd H p (.lst (xs ++ zs)))
theorem rd_list {pins : List (Addr × Obj)} {σ : L2.St} {H : Hp} {s : Shared} {l : Addr} {xs : List V} (I : Inv X pins σ H s) (h : Rd H l (.lst xs)) :
    xs.length ≤ sizeLine ∧ ∃ (its : List Value) (n : Nat), Vals xs its ∧ xs.length = its.length ∧ s.heap.get? l = some { cls := .type "list", data := .seq its.toArray n } := by
  obtain ⟨z, its, n, r, e⟩ := h.ok I.hok
  exact ⟨z, its, n, r, r.length, e⟩
theorem op_catR : OpR X (binaryOp .Add) rCatR := by
  intro pins s σ H x y v u Q I rx ry h
  obtain ⟨l, b, xs, zs, rfl, rfl, hH, hB, hz, q⟩ := h
  cases rx
  cases ry
  obtain ⟨z1, its1, n1, r1, hl1, e1⟩ := rd_list I hH
  obtain ⟨z2, its2, n2, r2, hl2, e2⟩ := rd_list I hB
  refine PySem.P.add_list e1 e2 ?_ (by rw [List.size_toArray, List.size_toArray, ← hl1, ← hl2]; exact hz)
  have ea : its1.toArray ++ its2.toArray = (its1 ++ its2).toArray := by simp
  rw [ea]
  exact ⟨.ref _, _, I.lnew (t' := s.toks) (r1.append r2) (by rw [List.length_append]; exact hz), rfl, q _ I.fresh⟩
def rAddI : R2 := rI0 fun i j => .int (i + j)
def rAddS : R2 := fun x y H Q => ∃ i j, x = .str i ∧ y = .str j ∧ i.length + j.length ≤ sizeLine ∧ Q (.str (i ++ j)) H
def rAdd (K : PySem.W.Frag) : R2 := fun x y H Q => rAddI x y H Q ∨ (rCatA K x y H Q ∨ (rCatR x y H Q ∨ rAddS x y H Q))
theorem oAdd : OpR X (binaryOp .Add) (rAdd X.K) := (op_add).or (op_catA.or (op_catR.or op_add_str))
def rSub : R2 := rI0 fun i j => .int (i - j)
theorem oSub : OpR X (binaryOp .Sub) rSub := op_sub
def rMulI : R2 := rI CMulW fun i j => .int (i * j)
def rFdv : R2 := rI CDivW fun i j => .int (i / j)
theorem oFdv : OpR X (binaryOp .FloorDiv) rFdv := op_fdivW
def rMod : R2 := rI (fun _ j => 0 < j) fun i j => .int (i % j)
theorem oMod : OpR X (binaryOp .Mod) rMod := op_mod
def rPow : R2 := rI CPow fun i j => .int (i ^ j.toNat)
theorem oPow : OpR X (binaryOp .Pow) rPow := op_pow
def rLt : R2 := rI0 fun i j => .bl (decide (i < j))
def rLe : R2 := rI0 fun i j => .bl (decide (i ≤ j))
def rGt : R2 := rI0 fun i j => .bl (decide (j < i))
def rGe : R2 := rI0 fun i j => .bl (decide (j ≤ i))
theorem oLt : OpR X (compareOp .Lt) rLt := op_lt
theorem oLe : OpR X (compareOp .LtE) rLe := op_le
theorem oGt : OpR X (compareOp .Gt) rGt := op_gt
theorem oGe : OpR X (compareOp .GtE) rGe := op_ge
def rEqA (K : PySem.W.Frag) : R2 := fun x y H Q => rEq x y H Q ∨ rEqD K x y H Q
def rNeA (K : PySem.W.Frag) : R2 := fun x y H Q => rNe x y H Q ∨ rNeD K x y H Q
theorem oEq {k : Nat} (hr : Room k X.A) : OpR X (compareOp .Eq) (rEqA X.K) := op_eq.or (op_eqD hr.units)
theorem oNe {k : Nat} (hr : Room k X.A) : OpR X (compareOp .NotEq) (rNeA X.K) := op_ne.or (op_neD hr.units)
def rNeg : V → Hp → VK → Prop := rU fun i => .int (-i)
theorem oNeg : UnR X (unaryOp .USub) rNeg := un_neg

/-! a tuple so many times: once it is the same one -/
theorem mul_tuple1 {l : Addr} {items : Array Value} {n : Nat} {dd : Option Addr} {sl : Array (Option Value)} {u : Tok} :
    Meets (Builtin.«tuple.__mul__» ⟨[.ref l, .int 1 u], []⟩) (fun _ R s => s.heap.get? l = some { cls := .type "tuple", dict := dd, data := .seq items n, slots := sl } ∧ R (.ok (.ret (Value.ref l))) s) :=
  .of_wp fun prog w A R s h => by
    obtain ⟨hp, g, d, tk, os⟩ := s
    obtain ⟨hl, h⟩ := h
    have f1 := AutoSeq1.idx_int
    wp_walk using wpAny_loadPart' hl
    repeat (first
      | (refine wpAny_ite_false (by decide) ?_; wp_walk using wpAny_loadPart' hl)
      | (refine wpAny_ite_true (by simp) ?_; wp_walk using wpAny_loadPart' hl))
    exact ⟨_, rfl, h⟩


def rRepT1 (K : PySem.W.Frag) : R2 := fun x y H Q => ∃ l xs, x = .ref l ∧ y = .int 1 ∧ SqT K H l xs ∧ Q (.ref l) H
theorem op_repT1 : OpR X (binaryOp .Mult) (rRepT1 X.K) := by
  intro pins s σ H x y v u Q I rx ry h
  obtain ⟨l, xs, rfl, rfl, hT, q⟩ := h
  cases rx
  obtain ⟨t, rfl⟩ := ry
  obtain ⟨its, r, ⟨⟨cls, dd, data, sl⟩, ho, hc, n, hd⟩, hs⟩ := I.tuple hT
  simp only at hc hd
  subst hc hd
  refine wpAny_binaryOp_repeat_ref (T := "tuple") (U := "int") (by decide) ⟨_, ho, rfl⟩ (fun s' => typeIs_int s' 1 t) noFill_tuple_mul PySem.F.fills_int_mul PySem.F.slot_int_rmul repeat_tuple PySem.F.slot_int_index.lookup
    (call_meets PySem.F.slot_int_rmul (typeIs_int s 1 t) PySem.F.entry_int_rmul (PySem.F.args_int_rmul_2 _ _) (int_rmul_tuple 1 t l its.toArray n dd sl)
      ⟨ho, rfl, ⟨_, ho, rfl⟩, call_meets PySem.F.slot_tuple_mul ⟨_, ho, rfl⟩ PySem.F.entry_tuple_mul (PySem.F.args_tuple_mul_2 _ _) mul_tuple1 ⟨ho, ?_⟩⟩)
  exact ⟨.ref l, H, I, rfl, q⟩
def rMul (K : PySem.W.Frag) : R2 := fun x y H Q => rMulI x y H Q ∨ (rRepT K x y H Q ∨ (rRepT1 K x y H Q ∨ rRep x y H Q))
theorem oMul : OpR X (binaryOp .Mult) (rMul X.K) := op_mulW.or (op_repT.or (op_repT1.or op_rep))

/-! sum of a tuple -/
def rSumT (K : PySem.W.Frag) : List V → Hp → VK → Prop := fun vs H Q => ∃ (a : Addr) (ns : List Int), vs = [V.ref a] ∧ SqT K H a (ns.map V.int) ∧ Q (.int ns.sum) H
theorem presum_take (ns : List Int) : ∀ k, preSum (fun i => ns.getD i 0) k = (ns.take k).sum
  | 0 => by simp [preSum]
  | k + 1 => by
    have ih := presum_take ns k
    by_cases h : k < ns.length
    · rw [List.take_succ_eq_append_getElem h, List.sum_append]
      simp only [preSum, ih, List.sum_cons, List.sum_nil, Int.add_zero]
      rw [List.getD_eq_getElem?_getD, List.getElem?_eq_getElem h]; rfl
    · rw [List.take_of_length_le (by omega)] at ih ⊢
      simp only [preSum, ih]
      rw [List.getD_eq_getElem?_getD, List.getElem?_eq_none (by omega)]; simp
theorem cr_sumT (hc : X.calm = true) : CallR X (.builtin "sum") (rSumT X.K) := by
  intro pins s σ H vs us Q I r h
  obtain ⟨a, ns, rfl, hs, q⟩ := h
  obtain ⟨its, rv, ht, _⟩ := I.tuple hs
  rw [Vals.ref1 r]
  have hlt : a < s.heap.objs.size := ht.lt
  refine call_sum_walkG (wpAny_pyIter_tuple ht ?_)
  refine ⟨s.heap.objs.size, [s.heap.objs.size, a], [s.heap.objs.size], its.toArray.size, _, _, fun i => ns.getD i 0, rfl, Walks.tuple (A := X.A.in1) (I.ok.hd hc) s.heap.objs.size a (Nat.ne_of_lt hlt) its.toArray, ⟨⟨_, Heap.get?_push_size _ rfl, rfl, rfl⟩, ?_⟩, ?_, ?_, ?_⟩
  · obtain ⟨o, h1, h2⟩ := ht
    exact ⟨o, Heap.get?_push_of_some _ h1, h2⟩
  · intro b hb
    have hsz : (s.heap.push { cls := .type "tuple_iterator", data := .fields #[.ref a, .int 0 0] }).objs.size = s.heap.objs.size + 1 := Heap.size_push ..
    show b < (s.heap.push { cls := .type "tuple_iterator", data := .fields #[.ref a, .int 0 0] }).objs.size
    rw [hsz]
    rcases List.mem_cons.mp hb with e | e
    · rw [e]; exact Nat.lt_succ_self _
    · rw [List.mem_singleton.mp e]; exact Nat.lt_succ_of_lt hlt
  · intro i v hv
    have hv : its[i]? = some v := by simpa using hv
    have hlen := rv.length
    have hil : i < its.length := (List.getElem?_eq_some_iff.mp hv).1
    rw [List.length_map] at hlen
    have hx : (ns.map V.int)[i]? = some (.int (ns.getD i 0)) := by
      rw [List.getElem?_map, List.getD_eq_getElem?_getD, List.getElem?_eq_getElem (by omega)]; rfl
    obtain ⟨u, h1, h2⟩ := rv.get hx
    rw [hv] at h1
    cases h1
    exact h2
  · intro h' tk t' hk
    have hlen := rv.length
    rw [List.length_map] at hlen
    have e : preSum (fun i => ns.getD i 0) its.toArray.size = ns.sum := by
      rw [presum_take, List.size_toArray, List.take_of_length_le (by omega)]
    rw [e]
    refine ⟨.int ns.sum, H, I.kept (fun b o e => hk b o (fun hb => ?_) (Heap.get?_push_of_some _ e)), ⟨_, rfl⟩, q⟩
    have hb : b = s.heap.objs.size := by simpa using hb
    subst hb
    exact absurd (Heap.lt_size e) (Nat.lt_irrefl _)
def rSumA (K : PySem.W.Frag) : List V → Hp → VK → Prop := fun vs H Q => rSum K vs H Q ∨ rSumT K vs H Q
theorem cSum (hc : X.calm = true) : CallR X (.builtin "sum") (rSumA X.K) := (cr_sum hc).or (cr_sumT hc)
theorem cAll (hc : X.calm = true) : CallR X (.builtin "all") (rAll X.K) := cr_all hc
theorem cAny (hc : X.calm = true) : CallR X (.builtin "any") (rAny X.K) := cr_any hc
def rAbs : List V → Hp → VK → Prop := fun xs H Q => ∃ i, xs = [.int i] ∧ Q (.int (if i < 0 then -i else i)) H
theorem cAbs : CallR X (.builtin "abs") rAbs := call_abs
def rMax2 : List V → Hp → VK → Prop := fun xs H Q => ∃ i j, xs = [.int i, .int j] ∧ Q (.int (if j > i then j else i)) H
def rMin2 : List V → Hp → VK → Prop := fun xs H Q => ∃ i j, xs = [.int i, .int j] ∧ Q (.int (if j < i then j else i)) H
theorem cMax (hc : X.calm = true) : CallR X (.builtin "max") rMax2 := call_max2 hc
theorem cMin (hc : X.calm = true) : CallR X (.builtin "min") rMin2 := call_min2 hc
def rLenQ (K : PySem.W.Frag) : List V → Hp → VK → Prop := fun xs H Q => ∃ p ys, xs = [.ref p] ∧ (SqL K H p ys ∨ SqT K H p ys) ∧ Q (.int ys.length) H
def rLenS : List V → Hp → VK → Prop := fun xs H Q => ∃ z, xs = [.str z] ∧ z.length ≤ sizeLine ∧ Q (.int z.length) H
def rLen (K : PySem.W.Frag) : List V → Hp → VK → Prop := fun vs H Q => rLenQ K vs H Q ∨ rLenS vs H Q
theorem cLen : CallR X (.builtin "len") (rLen X.K) := call_len_seq.or call_len_str
def rTupO (K : PySem.W.Frag) : List V → Hp → VK → Prop := fun xs H Q => ∃ p ys, xs = [.ref p] ∧ ((SqL K H p ys ∧ ∀ l, H l = none → Q (.ref l) (upd H l (.tup ys))) ∨ (SqT K H p ys ∧ Q (.ref p) H))
theorem cTup : CallR X (.type "tuple") (rTupO X.K) := call_tuple_of
def rLstO (K : PySem.W.Frag) : List V → Hp → VK → Prop := fun xs H Q => ∃ p ys, xs = [.ref p] ∧ (SqL K H p ys ∨ SqT K H p ys) ∧ ∀ l, H l = none → Q (.ref l) (upd H l (.lst ys))
theorem cLst : CallR X (.type "list") (rLstO X.K) := call_list_of
theorem cIsi : CallR X (.builtin "isinstance") (rIsi X.K) := call_isi
def rDivmod : List V → Hp → VK → Prop := fun xs H Q => ∃ i j, xs = [.int i, .int j] ∧ CDivW i j ∧ ∀ p, H p = none → Q (.ref p) (upd H p (.tup [.int (i / j), .int (i % j)]))
theorem cDivmod : CallR X (.builtin "divmod") rDivmod := by
  intro pins s σ H xs us Q I r h
  obtain ⟨i, j, rfl, ⟨h1, h2⟩, q⟩ := h
  obtain ⟨u, w', rfl, ⟨t, rfl⟩, ⟨t', rfl⟩⟩ := vals2 r
  refine PyProof.Rows.divmod_int (by omega) ?_ (.inl (PyProof.noPylong_of_log2 h2))
  rw [Int.fdiv_eq_ediv_of_nonneg i (by omega), Int.fmod_eq_emod_of_nonneg i (by omega)]
  have hn : H s.heap.objs.size = none := I.hok.fresh (Nat.le_refl _)
  refine ⟨.ref s.heap.objs.size, _, ?_, rfl, q _ hn⟩
  refine I.laid (fun b o e => Heap.get?_push_of_some _ e) (Nat.le_refl _) ⟨by rw [sizeLine_eq]; show 2 ≤ 16777216; decide, [.int (i / j) s.toks, .int (i % j) (s.toks + 1)], .cons ⟨_, rfl⟩ (.cons ⟨_, rfl⟩ .nil), ?_⟩
  exact ⟨_, Heap.get?_push_size s.heap rfl, rfl, 0, rfl⟩

/-! repr of data -/
mutual
theorem rp_dp {K : PySem.W.Frag} {G : Hp} : ∀ (d : PyData) (v : V), d.hasDict = false → Rp K G d v → Dp K G v d
  | .none, v, _, h => by rw [rp_none.mp h]; exact .non
  | .bool b, v, _, h => by rw [rp_bool.mp h]; exact .bl b
  | .int i, v, _, h => by rw [rp_int.mp h]; exact .int i
  | .str s, v, _, h => by rw [rp_str.mp h]; exact .str s
  | .list ds, v, n, h => by
    obtain ⟨a, xs, rfl, h2, h3⟩ := rp_list.mp h
    exact .lst (Or.inl h2) (rp_dpAll ds xs (by simpa [PyData.hasDict] using n) h3)
  | .tuple ds, v, n, h => by
    obtain ⟨a, xs, rfl, h2, h3⟩ := rp_tuple.mp h
    exact .tup h2 (rp_dpAll ds xs (by simpa [PyData.hasDict] using n) h3)
  | .dict kvs, v, n, h => by simp [PyData.hasDict] at n
theorem rp_dpAll {K : PySem.W.Frag} {G : Hp} : ∀ (ds : List PyData) (xs : List V), PyData.hasDictAll ds = false → RpAll K G ds xs → DpAll K G xs ds
  | [], xs, _, h => by rw [rpa_nil.mp h]; exact .nil
  | d :: ds, xs, n, h => by
    obtain ⟨x, r, rfl, h2, h3⟩ := rpa_cons.mp h
    have n : d.hasDict = false ∧ PyData.hasDictAll ds = false := by simpa [PyData.hasDictAll] using n
    exact .cons (rp_dp d x n.1 h2) (rp_dpAll ds r n.2 h3)
end
def rRepr (K : PySem.W.Frag) : List V → Hp → VK → Prop := fun xs H Q => ∃ x d, xs = [x] ∧ Rp K H d x ∧ d.hasDict = false ∧ d.depth ≤ 64 ∧ d.showable = true ∧ d.shown.length ≤ sizeLine ∧ Q (.str d.shown) H
theorem repr_leaf {pins : List (Addr × Obj)} {σ : L2.St} {H : Hp} {s : Shared} {Q : VK} {u : Value} {as : List Addr} {d : PyData} (I : Inv X pins σ H s) (r : Reads s.heap u d as) (h0 : d.hasDict = false) (hg : X.A.guards = some []) (hu : X.A.units + 65 < cLine)
    (h1 : d.depth ≤ 64) (h2 : d.showable = true) (h3 : d.shown.length ≤ sizeLine) (q : Q (.str d.shown) H) : wpAny (model X.prog X.w) X.A (call (.builtin "repr") [u]) (EP X pins σ Q) X.xe s := by
  cases r with
  | none =>
    simp only [PyData.shown] at q
    exact PySem.P.repr_of_none ⟨.str _, H, I.tok _, ⟨_, rfl⟩, q⟩
  | bool b =>
    simp only [PyData.shown] at q
    exact PySem.P.repr_of_bool ⟨.str _, H, I.tok _, ⟨_, rfl⟩, q⟩
  | int i t =>
    simp only [PyData.shown] at q
    exact PySem.P.repr_of_int (by simpa [PyData.showable] using h2) ⟨.str _, H, I.tok _, ⟨_, rfl⟩, q⟩
  | str x t =>
    simp only [PyData.shown] at q h3
    exact PySem.P.repr_of_str ⟨.str _, H, I.tok _, ⟨_, rfl⟩, q⟩ h3
  | list a1 a2 a3 a4 =>
    exact repr_of_reads' (.list a1 a2 a3 a4) h2 (PyData.noDict_hsm h0) hg (by omega) (fun _ _ e => e) (fun h' u tk hk => ⟨.str _, H, I.kept hk, ⟨_, rfl⟩, q⟩) h3
  | tuple a1 a2 a3 a4 =>
    exact repr_of_reads' (.tuple a1 a2 a3 a4) h2 (PyData.noDict_hsm h0) hg (by omega) (fun _ _ e => e) (fun h' u tk hk => ⟨.str _, H, I.kept hk, ⟨_, rfl⟩, q⟩) h3
  | dict a1 a2 a3 a4 a5 => simp [PyData.hasDict] at h0
theorem cRepr {k : Nat} (hr : Room k X.A) (hg : X.A.guards = some []) : CallR X (.builtin "repr") (rRepr X.K) := by
  intro pins s σ H xs us Q I r h
  obtain ⟨x, d, rfl, hd, h0, h1, h2, h3, q⟩ := h
  obtain ⟨u, rfl, rx⟩ := vals1 r
  obtain ⟨as, rd⟩ := Dp.reads I d x u (rp_dp d x h0 hd) rx
  have := hr.un
  exact repr_leaf I rd h0 hg (by omega) h1 h2 h3 q
end
end DL


namespace DL
open PySem L2

section
variable {K : PySem.W.Frag} {m : Mm} {Q : Val → Mm → Prop}
/-! operators upon ints -/
theorem int_of {G : Hp} {i : Int} {v : V} (h : VR K G (.d (.int i)) v) : v = .int i := rp_int.mp h.rp
theorem bool_of {G : Hp} {i : Bool} {v : V} (h : VR K G (.d (.bool i)) v) : v = .bl i := rp_bool.mp h.rp
theorem str_of {G : Hp} {i : Str} {v : V} (h : VR K G (.d (.str i)) v) : v = .str i := rp_str.mp h.rp
theorem vr_int {G : Hp} {i : Int} : VR K G (.d (.int i)) (.int i) := .d (rp_int.mpr rfl)
theorem vr_bool {G : Hp} {i : Bool} : VR K G (.d (.bool i)) (.bl i) := .d (rp_bool.mpr rfl)
theorem vr_str {G : Hp} {i : Str} : VR K G (.d (.str i)) (.str i) := .d (rp_str.mpr rfl)
theorem vr_none {G : Hp} : VR K G (.d .none) .non := .d (rp_none.mpr rfl)
theorem o2_I0 {g : Int → Int → Int} {i j : Int} (q : Q (.d (.int (g i j))) m) : Op2 K (rI0 fun i j => .int (g i j)) (.d (.int i)) (.d (.int j)) m Q := fun H G v w S a b R k => by
  rw [int_of a, int_of b]
  exact ⟨i, j, rfl, rfl, k _ H G _ m q S (Le.refl G) vr_int⟩
theorem o2_B0 {g : Int → Int → Bool} {i j : Int} (q : Q (.d (.bool (g i j))) m) : Op2 K (rI0 fun i j => .bl (g i j)) (.d (.int i)) (.d (.int j)) m Q := fun H G v w S a b R k => by
  rw [int_of a, int_of b]
  exact ⟨i, j, rfl, rfl, k _ H G _ m q S (Le.refl G) vr_bool⟩
theorem o2_I {C : Int → Int → Prop} {g : Int → Int → Int} {i j : Int} (c : C i j) (q : Q (.d (.int (g i j))) m) : Op2 K (rI C fun i j => .int (g i j)) (.d (.int i)) (.d (.int j)) m Q := fun H G v w S a b R k => by
  rw [int_of a, int_of b]
  exact ⟨i, j, rfl, rfl, c, k _ H G _ m q S (Le.refl G) vr_int⟩
theorem o2_addI {i j : Int} (q : Q (.d (.int (i + j))) m) : Op2 K (rAdd K) (.d (.int i)) (.d (.int j)) m Q := fun H G v w S a b R k => Or.inl (o2_I0 (g := fun i j => i + j) q H G v w S a b R k)
theorem o2_sub {i j : Int} (q : Q (.d (.int (i - j))) m) : Op2 K rSub (.d (.int i)) (.d (.int j)) m Q := o2_I0 (g := fun i j => i - j) q
theorem o2_mulI {i j : Int} (c : CMulW i j) (q : Q (.d (.int (i * j))) m) : Op2 K (rMul K) (.d (.int i)) (.d (.int j)) m Q := fun H G v w S a b R k => Or.inl (o2_I (C := CMulW) (g := fun i j => i * j) c q H G v w S a b R k)
theorem o2_fdv {i j : Int} (c : CDivW i j) (q : Q (.d (.int (i / j))) m) : Op2 K rFdv (.d (.int i)) (.d (.int j)) m Q := o2_I (C := CDivW) (g := fun i j => i / j) c q
theorem o2_mod {i j : Int} (c : 0 < j) (q : Q (.d (.int (i % j))) m) : Op2 K rMod (.d (.int i)) (.d (.int j)) m Q := o2_I (C := fun _ j => 0 < j) (g := fun i j => i % j) c q
theorem o2_lt {i j : Int} (q : Q (.d (.bool (decide (i < j)))) m) : Op2 K rLt (.d (.int i)) (.d (.int j)) m Q := o2_B0 (g := fun i j => decide (i < j)) q
theorem o2_le {i j : Int} (q : Q (.d (.bool (decide (i ≤ j)))) m) : Op2 K rLe (.d (.int i)) (.d (.int j)) m Q := o2_B0 (g := fun i j => decide (i ≤ j)) q
theorem o2_gt {i j : Int} (q : Q (.d (.bool (decide (j < i)))) m) : Op2 K rGt (.d (.int i)) (.d (.int j)) m Q := o2_B0 (g := fun i j => decide (j < i)) q
theorem o2_ge {i j : Int} (q : Q (.d (.bool (decide (j ≤ i)))) m) : Op2 K rGe (.d (.int i)) (.d (.int j)) m Q := o2_B0 (g := fun i j => decide (j ≤ i)) q
theorem o1_neg {i : Int} (q : Q (.d (.int (-i))) m) : Op1 K rNeg (.d (.int i)) m Q := fun H G v S a R k => by
  rw [int_of a]
  exact ⟨i, rfl, k _ H G _ m q S (Le.refl G) vr_int⟩

/-! == of data -/
theorem dp_of {H G : Hp} {x : PyData} {v : V} (S : Sta K m H G) (h : SeqAt.shaped x = true) (a : VR K G (.d x) v) : Dp K H v x := by
  have h : (x.canLay0 && decide (x.depth ≤ 64)) = true := h
  rw [Bool.and_eq_true] at h
  exact rp_dp x v (PyData.hasDict_of_canLay x h.1) (Rp.mono S.sub x v a.rp)
theorem o2_eq {x y : PyData} (hx : SeqAt.shaped x = true) (hy : SeqAt.shaped y = true) (q : Q (.d (.bool (PyData.eqv x y))) m) : Op2 K (rEqA K) (.d x) (.d y) m Q := fun H G v w S a b R k =>
  Or.inr ⟨x, y, dp_of S hx a, dp_of S hy b, hx, hy, k _ H G _ m q S (Le.refl G) vr_bool⟩
theorem o2_ne {x y : PyData} (hx : SeqAt.shaped x = true) (hy : SeqAt.shaped y = true) (q : Q (.d (.bool (!PyData.eqv x y))) m) : Op2 K (rNeA K) (.d x) (.d y) m Q := fun H G v w S a b R k =>
  Or.inr ⟨x, y, dp_of S hx a, dp_of S hy b, hx, hy, k _ H G _ m q S (Le.refl G) vr_bool⟩
theorem shaped_int (i : Int) : SeqAt.shaped (.int i) = true := by simp [SeqAt.shaped, PyData.canLay0, PyData.depth]
theorem shaped_bool (i : Bool) : SeqAt.shaped (.bool i) = true := by simp [SeqAt.shaped, PyData.canLay0, PyData.depth]
theorem eqv_int (i j : Int) : PyData.eqv (.int i) (.int j) = decide (i = j) := by
  simp only [PyData.eqv]; exact Bool.beq_eq_decide_eq i j
theorem o2_eqI {i j : Int} (q : Q (.d (.bool (decide (i = j)))) m) : Op2 K (rEqA K) (.d (.int i)) (.d (.int j)) m Q := o2_eq (shaped_int i) (shaped_int j) (by rw [eqv_int]; exact q)
theorem o2_neI {i j : Int} (q : Q (.d (.bool (!decide (i = j)))) m) : Op2 K (rNeA K) (.d (.int i)) (.d (.int j)) m Q := o2_ne (shaped_int i) (shaped_int j) (by rw [eqv_int]; exact q)

/-! texts -/
theorem o2_eqS {x y : Str} (q : Q (.d (.bool (decide (x = y)))) m) : Op2 K (rEqA K) (.d (.str x)) (.d (.str y)) m Q := fun H G v w S a b R k => by
  rw [str_of a, str_of b]
  refine Or.inl ⟨rfl, ?_⟩
  rw [dec_str, Bool.beq_eq_decide_eq]
  exact k _ H G _ m q S (Le.refl G) vr_bool
theorem o2_neS {x y : Str} (q : Q (.d (.bool (!decide (x = y)))) m) : Op2 K (rNeA K) (.d (.str x)) (.d (.str y)) m Q := fun H G v w S a b R k => by
  rw [str_of a, str_of b]
  refine Or.inl ⟨rfl, ?_⟩
  rw [dec_str, Bool.beq_eq_decide_eq]
  exact k _ H G _ m q S (Le.refl G) vr_bool

/-! items -/
theorem atI_map {α β : Type} (f : α → β) (xs : List α) (i : Int) : atI (xs.map f) i = (atI xs i).map f := by
  unfold atI
  rw [List.length_map]
  cases ixN xs.length i with
  | none => rfl
  | some j => simp [List.getElem?_map]
theorem atI_nth {α : Type} (xs : List α) (i : Nat) : atI xs (i : Int) = xs[i]? := by
  unfold atI ixN
  rw [if_pos (Int.natCast_nonneg i)]
  by_cases h : i < xs.length
  · rw [if_pos (by omega), show ((i : Int)).toNat = i by omega]; rfl
  · rw [if_neg (by omega), List.getElem?_eq_none (by omega)]; rfl
theorem RpAll.atI {G : Hp} {ds : List PyData} {xs : List V} {i : Int} {d : PyData} (h : RpAll K G ds xs) (e : L2.atI ds i = some d) : ∃ x, L2.atI xs i = some x ∧ Rp K G d x := by
  unfold L2.atI at e ⊢
  rw [h.length]
  cases hj : ixN ds.length i with
  | none => rw [hj] at e; cases e
  | some j =>
    rw [hj] at e
    exact h.at e
theorem VRs.atI {G : Hp} : ∀ {rs : List Val} {xs : List V} {i : Nat} {r : Val}, VRs K G rs xs → rs[i]? = some r → ∃ x, xs[i]? = some x ∧ VR K G r x
  | [], xs, i, r, h, e => by simp at e
  | r0 :: rs, xs, 0, r, h, e => by
    obtain ⟨y, t, h1, h2, _⟩ := h
    subst h1
    have e : r0 = r := by simpa using e
    subst e
    exact ⟨y, rfl, h2⟩
  | r0 :: rs, xs, i + 1, r, h, e => by
    obtain ⟨y, t, h1, _, h3⟩ := h
    subst h1
    obtain ⟨z, h4, h5⟩ := VRs.atI (i := i) (r := r) h3 (by simpa using e)
    exact ⟨z, by simpa using h4, h5⟩
theorem o2_ixT {ds : List PyData} {i : Int} {d : PyData} (h : atI ds i = some d) (q : Q (.d d) m) : Op2 K (rIx K) (.d (.tuple ds)) (.d (.int i)) m Q := fun H G v w S a b R k => by
  rw [int_of b]
  obtain ⟨p, xs, hv, h2, h3⟩ := rp_tuple.mp a.rp
  obtain ⟨x, h4, h5⟩ := h3.atI h
  exact Or.inr (Or.inl ⟨p, xs, i, x, hv, rfl, S.sqT h2, h4, k _ H G _ m q S (Le.refl G) (.d h5)⟩)
theorem o2_ixL {ds : List PyData} {i : Int} {d : PyData} (h : atI ds i = some d) (q : Q (.d d) m) : Op2 K (rIx K) (.d (.list ds)) (.d (.int i)) m Q := fun H G v w S a b R k => by
  rw [int_of b]
  obtain ⟨p, xs, hv, h2, h3⟩ := rp_list.mp a.rp
  obtain ⟨x, h4, h5⟩ := h3.atI h
  exact Or.inl ⟨p, xs, i, x, hv, rfl, Or.inl (Le.rd S.sub h2), h4, k _ H G _ m q S (Le.refl G) (.d h5)⟩
theorem o2_ixM {p : Addr} {rs : List Val} {i : Nat} {r : Val} (hm : m p = some (.lst rs)) (h : rs[i]? = some r) (q : Q r m) : Op2 K (rIx K) (.v (.ref p)) (.d (.int (i : Int))) m Q := fun H G v w S a b R k => by
  rw [int_of b]
  obtain ⟨xs, h2, h3⟩ := S.mem p _ hm
  obtain ⟨x, h4, h5⟩ := h3.atI h
  exact Or.inl ⟨p, xs, i, x, a.eq, rfl, Or.inl (Or.inl h2), by rw [atI_nth]; exact h4, k _ H G _ m q S (Le.refl G) h5⟩
theorem o2_ixB {p : Addr} (hm : m p = some .box) (q : ∀ n : Int, Q (.d (.int n)) m) : Op2 K (rIx K) (.v (.ref p)) (.d (.int 0)) m Q := fun H G v w S a b R k => by
  rw [int_of b]
  obtain ⟨n, h2⟩ := S.mem p _ hm
  exact Or.inl ⟨p, [.int n], 0, .int n, a.eq, rfl, Or.inl (Or.inl h2), rfl, k _ H G _ m (q n) S (Le.refl G) vr_int⟩
theorem o2_ixS {ns : List Int} {i : Nat} {n : Int} (h : ns[i]? = some n) (q : Q (.d (.int n)) m) : Op2 K (rIx K) (.scr ns) (.d (.int (i : Int))) m Q := fun H G v w S a b R k => by
  rw [int_of b]
  cases a with
  | scr h2 =>
    exact Or.inl ⟨_, _, i, .int n, rfl, rfl, S.sqL h2, by rw [atI_nth, List.getElem?_map, h]; rfl, k _ H G _ m q S (Le.refl G) vr_int⟩

/-! built-ins -/
theorem vrs1 {G : Hp} {x : Val} {vs : List V} (h : VRs K G [x] vs) : ∃ v, vs = [v] ∧ VR K G x v := by
  obtain ⟨v, t, h1, h2, h3⟩ := h
  have h3 : t = [] := h3
  exact ⟨v, by rw [h1, h3], h2⟩
theorem vrs2 {G : Hp} {x y : Val} {vs : List V} (h : VRs K G [x, y] vs) : ∃ v w, vs = [v, w] ∧ VR K G x v ∧ VR K G y w := by
  obtain ⟨v, t, h1, h2, h3⟩ := h
  obtain ⟨w, h4, h5⟩ := vrs1 h3
  exact ⟨v, w, by rw [h1, h4], h2, h5⟩
theorem on_abs {i : Int} (q : Q (.d (.int (i.natAbs : Int))) m) : OpN K rAbs [.d (.int i)] m Q := fun H G vs S a R k => by
  obtain ⟨v, rfl, h⟩ := vrs1 a
  rw [int_of h]
  refine ⟨i, rfl, ?_⟩
  have e : (if i < 0 then -i else i) = (i.natAbs : Int) := by split <;> omega
  rw [e]
  exact k _ H G _ m q S (Le.refl G) vr_int
theorem on_max {i j : Int} (q : Q (.d (.int (max i j))) m) : OpN K rMax2 [.d (.int i), .d (.int j)] m Q := fun H G vs S a R k => by
  obtain ⟨v, w, rfl, h1, h2⟩ := vrs2 a
  rw [int_of h1, int_of h2]
  refine ⟨i, j, rfl, ?_⟩
  have e : (if j > i then j else i) = max i j := by split <;> omega
  rw [e]
  exact k _ H G _ m q S (Le.refl G) vr_int
theorem on_min {i j : Int} (q : Q (.d (.int (min i j))) m) : OpN K rMin2 [.d (.int i), .d (.int j)] m Q := fun H G vs S a R k => by
  obtain ⟨v, w, rfl, h1, h2⟩ := vrs2 a
  rw [int_of h1, int_of h2]
  refine ⟨i, j, rfl, ?_⟩
  have e : (if j < i then j else i) = min i j := by split <;> omega
  rw [e]
  exact k _ H G _ m q S (Le.refl G) vr_int
theorem on_lenT {ds : List PyData} (q : Q (.d (.int (ds.length : Int))) m) : OpN K (rLen K) [.d (.tuple ds)] m Q := fun H G vs S a R k => by
  obtain ⟨v, rfl, h⟩ := vrs1 a
  obtain ⟨p, xs, hv, h2, h3⟩ := rp_tuple.mp h.rp
  refine Or.inl ⟨p, xs, by rw [hv], Or.inr (S.sqT h2), ?_⟩
  rw [h3.length]
  exact k _ H G _ m q S (Le.refl G) vr_int
theorem on_lenL {ds : List PyData} (q : Q (.d (.int (ds.length : Int))) m) : OpN K (rLen K) [.d (.list ds)] m Q := fun H G vs S a R k => by
  obtain ⟨v, rfl, h⟩ := vrs1 a
  obtain ⟨p, xs, hv, h2, h3⟩ := rp_list.mp h.rp
  refine Or.inl ⟨p, xs, by rw [hv], Or.inl (Or.inl (Le.rd S.sub h2)), ?_⟩
  rw [h3.length]
  exact k _ H G _ m q S (Le.refl G) vr_int
theorem on_lenS {ns : List Int} (q : Q (.d (.int (ns.length : Int))) m) : OpN K (rLen K) [.scr ns] m Q := fun H G vs S a R k => by
  obtain ⟨v, rfl, h⟩ := vrs1 a
  cases h with
  | scr h2 =>
    refine Or.inl ⟨_, _, rfl, Or.inl (S.sqL h2), ?_⟩
    rw [List.length_map]
    exact k _ H G _ m q S (Le.refl G) vr_int
theorem on_lenM {p : Addr} {rs : List Val} (hm : m p = some (.lst rs)) (q : Q (.d (.int (rs.length : Int))) m) : OpN K (rLen K) [.v (.ref p)] m Q := fun H G vs S a R k => by
  obtain ⟨v, rfl, h⟩ := vrs1 a
  obtain ⟨xs, h2, h3⟩ := S.mem p _ hm
  refine Or.inl ⟨p, xs, by rw [h.eq], Or.inl (Or.inl (Or.inl h2)), ?_⟩
  rw [h3.length]
  exact k _ H G _ m q S (Le.refl G) vr_int
theorem on_lenX {x : Str} (hz : x.length ≤ 100000) (q : Q (.d (.int (x.length : Int))) m) : OpN K (rLen K) [.d (.str x)] m Q := fun H G vs S a R k => by
  obtain ⟨v, rfl, h⟩ := vrs1 a
  exact Or.inr ⟨x, by rw [str_of h], Nat.le_trans hz (by decide), k _ H G _ m q S (Le.refl G) vr_int⟩
theorem on_sumL {ns : List Int} (q : Q (.d (.int ns.sum)) m) : OpN K (rSumA K) [.d (.list (ns.map PyData.int))] m Q := fun H G vs S a R k => by
  obtain ⟨v, rfl, h⟩ := vrs1 a
  obtain ⟨p, xs, hv, h2, h3⟩ := rp_list.mp h.rp
  rw [h3.ints] at h2
  exact Or.inl ⟨p, ns, by rw [hv], Or.inl (Le.rd S.sub h2), k _ H G _ m q S (Le.refl G) vr_int⟩
theorem on_sumT {ns : List Int} (q : Q (.d (.int ns.sum)) m) : OpN K (rSumA K) [.d (.tuple (ns.map PyData.int))] m Q := fun H G vs S a R k => by
  obtain ⟨v, rfl, h⟩ := vrs1 a
  obtain ⟨p, xs, hv, h2, h3⟩ := rp_tuple.mp h.rp
  rw [h3.ints] at h2
  exact Or.inr ⟨p, ns, by rw [hv], S.sqT h2, k _ H G _ m q S (Le.refl G) vr_int⟩
theorem on_all {bs : List Bool} (q : Q (.d (.bool (bs.all id))) m) : OpN K (rAll K) [.d (.list (bs.map PyData.bool))] m Q := fun H G vs S a R k => by
  obtain ⟨v, rfl, h⟩ := vrs1 a
  obtain ⟨p, xs, hv, h2, h3⟩ := rp_list.mp h.rp
  rw [h3.bools] at h2
  exact ⟨p, bs, by rw [hv], Or.inl (Le.rd S.sub h2), k _ H G _ m q S (Le.refl G) vr_bool⟩
theorem on_any {bs : List Bool} (q : Q (.d (.bool (bs.any id))) m) : OpN K (rAny K) [.d (.list (bs.map PyData.bool))] m Q := fun H G vs S a R k => by
  obtain ⟨v, rfl, h⟩ := vrs1 a
  obtain ⟨p, xs, hv, h2, h3⟩ := rp_list.mp h.rp
  rw [h3.bools] at h2
  exact ⟨p, bs, by rw [hv], Or.inl (Le.rd S.sub h2), k _ H G _ m q S (Le.refl G) vr_bool⟩
theorem on_tupL {ds : List PyData} (q : Q (.d (.tuple ds)) m) : OpN K (rTupO K) [.d (.list ds)] m Q := fun H G vs S a R k => by
  obtain ⟨v, rfl, h⟩ := vrs1 a
  obtain ⟨p, xs, hv, h2, h3⟩ := rp_list.mp h.rp
  refine ⟨p, xs, by rw [hv], Or.inl ⟨Or.inl (Le.rd S.sub h2), fun l hl => ?_⟩⟩
  have hg := S.free hl
  exact k _ _ (upd G l (.tup xs)) _ m q (S.fix hl) (Le.new hg) (.d (rp_tuple.mpr ⟨l, xs, rfl, SqT.of upd_same, RpAll.mono (Le.new hg) ds xs h3⟩))
theorem on_tupT {ds : List PyData} (q : Q (.d (.tuple ds)) m) : OpN K (rTupO K) [.d (.tuple ds)] m Q := fun H G vs S a R k => by
  obtain ⟨v, rfl, h⟩ := vrs1 a
  obtain ⟨p, xs, hv, h2, h3⟩ := rp_tuple.mp h.rp
  exact ⟨p, xs, by rw [hv], Or.inr ⟨S.sqT h2, by rw [← hv]; exact k _ H G _ m q S (Le.refl G) h⟩⟩
theorem on_lstT {ds : List PyData} (q : Q (.d (.list ds)) m) : OpN K (rLstO K) [.d (.tuple ds)] m Q := fun H G vs S a R k => by
  obtain ⟨v, rfl, h⟩ := vrs1 a
  obtain ⟨p, xs, hv, h2, h3⟩ := rp_tuple.mp h.rp
  refine ⟨p, xs, by rw [hv], Or.inr (S.sqT h2), fun l hl => ?_⟩
  have hg := S.free hl
  exact k _ _ (upd G l (.lst xs)) _ m q (S.fix hl) (Le.new hg) (.d (rp_list.mpr ⟨l, xs, rfl, Rd.of upd_same, RpAll.mono (Le.new hg) ds xs h3⟩))
theorem on_divmod {i j : Int} (c : CDivW i j) (q : Q (.d (.tuple [.int (i / j), .int (i % j)])) m) : OpN K rDivmod [.d (.int i), .d (.int j)] m Q := fun H G vs S a R k => by
  obtain ⟨v, w, rfl, h1, h2⟩ := vrs2 a
  rw [int_of h1, int_of h2]
  refine ⟨i, j, rfl, c, fun p hp => ?_⟩
  have hg := S.free hp
  exact k _ _ (upd G p (.tup [.int (i / j), .int (i % j)])) _ m q (S.fix hp) (Le.new hg) (.d (rp_tuple.mpr ⟨p, _, rfl, SqT.of upd_same, rpa_ints [i / j, i % j]⟩))

/-! isinstance -/
def tyN : PyData → String
  | .none => "NoneType" | .bool _ => "bool" | .int _ => "int" | .str _ => "str" | .list _ => "list" | .tuple _ => "tuple" | .dict _ => "dict"
theorem ty_of {H G : Hp} {x : PyData} {v : V} (S : Sta K m H G) (a : Rp K G x v) : TyX K H v (.type (tyN x)) := by
  cases x with
  | none => rw [rp_none.mp a]; exact .base .non
  | bool b => rw [rp_bool.mp a]; exact .base (.bl b)
  | int b => rw [rp_int.mp a]; exact .base (.int b)
  | str b => rw [rp_str.mp a]; exact .base (.str b)
  | list ds =>
    obtain ⟨p, xs, rfl, h2, _⟩ := rp_list.mp a
    rcases Le.rd S.sub h2 with h | ⟨o, h⟩
    · exact .base (.lst h)
    · exact .base (.frz h)
  | tuple ds =>
    obtain ⟨p, xs, rfl, h2, _⟩ := rp_tuple.mp a
    rcases S.sqT h2 with (h | ⟨o, h⟩) | ⟨o, its, n, h, hc, _⟩
    · exact .base (.tup h)
    · exact .fTuple h
    · exact .kTuple h hc
  | dict kvs =>
    rw [Rp] at a
    obtain ⟨p, rfl, ⟨es, h, _⟩ | ⟨es, h, _⟩⟩ := a
    · exact .base (.dT (S.sub _ _ h))
    · exact .base (.dK (S.sub _ _ h))
theorem on_isi {x : PyData} {T : String} {b : Bool} (hb : kitB (tyN x) T = some b) (q : Q (.d (.bool b)) m) : OpN K (rIsi K) [.d x, .v (.ty T)] m Q := fun H G vs S a R k => by
  obtain ⟨v, w, rfl, h1, h2⟩ := vrs2 a
  rw [h2.eq]
  exact ⟨v, .ty T, _, _, b, rfl, .ty T, ty_of S h1.rp, kit_ty hb, k _ H G _ m q S (Le.refl G) vr_bool⟩
def isTup : PyData → Bool | .tuple _ => true | _ => false
def isIntB : PyData → Bool | .int _ => true | .bool _ => true | _ => false
def isBoo : PyData → Bool | .bool _ => true | _ => false
def isStrD : PyData → Bool | .str _ => true | _ => false
def isLst : PyData → Bool | .list _ => true | _ => false
def isDct : PyData → Bool | .dict _ => true | _ => false
theorem on_isiTup {x : PyData} (q : Q (.d (.bool (isTup x))) m) : OpN K (rIsi K) [.d x, .v (.ty "tuple")] m Q := on_isi (by cases x <;> (simp only [tyN, isTup, isIntB, isBoo, isStrD, isLst, isDct]; decide +kernel)) q
theorem on_isiInt {x : PyData} (q : Q (.d (.bool (isIntB x))) m) : OpN K (rIsi K) [.d x, .v (.ty "int")] m Q := on_isi (by cases x <;> (simp only [tyN, isTup, isIntB, isBoo, isStrD, isLst, isDct]; decide +kernel)) q
theorem on_isiBool {x : PyData} (q : Q (.d (.bool (isBoo x))) m) : OpN K (rIsi K) [.d x, .v (.ty "bool")] m Q := on_isi (by cases x <;> (simp only [tyN, isTup, isIntB, isBoo, isStrD, isLst, isDct]; decide +kernel)) q
theorem on_isiStr {x : PyData} (q : Q (.d (.bool (isStrD x))) m) : OpN K (rIsi K) [.d x, .v (.ty "str")] m Q := on_isi (by cases x <;> (simp only [tyN, isTup, isIntB, isBoo, isStrD, isLst, isDct]; decide +kernel)) q
theorem on_isiList {x : PyData} (q : Q (.d (.bool (isLst x))) m) : OpN K (rIsi K) [.d x, .v (.ty "list")] m Q := on_isi (by cases x <;> (simp only [tyN, isTup, isIntB, isBoo, isStrD, isLst, isDct]; decide +kernel)) q
theorem on_isiDict {x : PyData} (q : Q (.d (.bool (isDct x))) m) : OpN K (rIsi K) [.d x, .v (.ty "dict")] m Q := on_isi (by cases x <;> (simp only [tyN, isTup, isIntB, isBoo, isStrD, isLst, isDct]; decide +kernel)) q

/-! repr -/
theorem on_repr {x : PyData} (h0 : x.hasDict = false) (h1 : x.depth ≤ 64) (h2 : x.showable = true) (h3 : x.shown.length ≤ sizeLine) (q : Q (.d (.str x.shown)) m) : OpN K (rRepr K) [.d x] m Q := fun H G vs S a R k => by
  obtain ⟨v, rfl, h⟩ := vrs1 a
  exact ⟨v, x, rfl, Rp.mono S.sub x v h.rp, h0, h1, h2, h3, k _ H G _ m q S (Le.refl G) vr_str⟩

/-! + of tuples and lists, * -/
theorem nil_of_all {G : Hp} {ds : List PyData} (h : RpAll K G ds []) : ds = [] := by
  cases ds with
  | nil => rfl
  | cons d r =>
    obtain ⟨x, t, h1, _⟩ := rpa_cons.mp h
    cases h1
theorem o2_addT {ds es : List PyData} (hz : ds.length + es.length ≤ 100000) (q : Q (.d (.tuple (ds ++ es))) m) : Op2 K (rAdd K) (.d (.tuple ds)) (.d (.tuple es)) m Q := fun H G v w S a b R k => by
  obtain ⟨p, xs, rfl, h2, h3⟩ := rp_tuple.mp a.rp
  obtain ⟨p', ys, rfl, h4, h5⟩ := rp_tuple.mp b.rp
  refine Or.inr (Or.inl ⟨p, p', xs, ys, rfl, rfl, S.sqT h2, S.sqT h4, ?_, fun e => ?_, fun _ e => ?_, fun _ _ l hl => ?_⟩)
  · rw [h3.length, h5.length]; exact Nat.le_trans hz (by decide)
  · subst e
    have e := nil_of_all h3
    subst e
    exact k _ H G _ m q S (Le.refl G) b
  · subst e
    have e := nil_of_all h5
    subst e
    rw [List.append_nil] at q
    exact k _ H G _ m q S (Le.refl G) a
  · have hg := S.free hl
    exact k _ _ (upd G l (.tup (xs ++ ys))) _ m q (S.fix hl) (Le.new hg) (.d (rp_tuple.mpr ⟨l, _, rfl, SqT.of upd_same, RpAll.mono (Le.new hg) _ _ (h3.append h5)⟩))
theorem o2_addL {ds es : List PyData} (hz : ds.length + es.length ≤ 100000) (q : Q (.d (.list (ds ++ es))) m) : Op2 K (rAdd K) (.d (.list ds)) (.d (.list es)) m Q := fun H G v w S a b R k => by
  obtain ⟨p, xs, rfl, h2, h3⟩ := rp_list.mp a.rp
  obtain ⟨p', ys, rfl, h4, h5⟩ := rp_list.mp b.rp
  refine Or.inr (Or.inr (Or.inl ⟨p, p', xs, ys, rfl, rfl, Le.rd S.sub h2, Le.rd S.sub h4, ?_, fun l hl => ?_⟩))
  · rw [h3.length, h5.length]; exact Nat.le_trans hz (by decide)
  · have hg := S.free hl
    exact k _ _ (upd G l (.lst (xs ++ ys))) _ m q (S.fix hl) (Le.new hg) (.d (rp_list.mpr ⟨l, _, rfl, Rd.of upd_same, RpAll.mono (Le.new hg) _ _ (h3.append h5)⟩))
theorem o2_addS {x y : Str} (hz : x.length + y.length ≤ 100000) (q : Q (.d (.str (x ++ y))) m) : Op2 K (rAdd K) (.d (.str x)) (.d (.str y)) m Q := fun H G v w S a b R k => by
  rw [str_of a, str_of b]
  exact Or.inr (Or.inr (Or.inr ⟨x, y, rfl, rfl, Nat.le_trans hz (by decide), k _ H G _ m q S (Le.refl G) vr_str⟩))
theorem RpAll.rep {G : Hp} {ds : List PyData} {xs : List V} (h : RpAll K G ds xs) : ∀ n : Nat, RpAll K G (List.replicate n ds).flatten (List.replicate n xs).flatten
  | 0 => rpa_nil.mpr rfl
  | n + 1 => by
    rw [List.replicate_succ, List.replicate_succ, List.flatten_cons, List.flatten_cons]
    exact h.append (RpAll.rep h n)
theorem o2_mulT {ds : List PyData} {n : Nat} (h0 : ds ≠ []) (h1 : 1 ≤ n) (h2 : n ≤ 1000) (h3 : ds.length ≤ 1000) (q : Q (.d (.tuple (List.replicate n ds).flatten)) m) : Op2 K (rMul K) (.d (.tuple ds)) (.d (.int (n : Int))) m Q := fun H G v w S a b R k => by
  rw [int_of b]
  obtain ⟨p, xs, rfl, g2, g3⟩ := rp_tuple.mp a.rp
  by_cases e : n = 1
  · subst e
    have e : (List.replicate 1 ds).flatten = ds := by simp
    rw [e] at q
    exact Or.inr (Or.inr (Or.inl ⟨p, xs, rfl, rfl, S.sqT g2, k _ H G _ m q S (Le.refl G) a⟩))
  · refine Or.inr (Or.inl ⟨p, (n : Int), xs, rfl, rfl, S.sqT g2, fun e => ?_, by omega, by omega, by rw [g3.length]; exact h3, fun l hl => ?_⟩)
    · subst e; exact h0 (nil_of_all g3)
    · have hg := S.free hl
      have en : ((n : Int)).toNat = n := by omega
      rw [en]
      exact k _ _ (upd G l _) _ m q (S.fix hl) (Le.new hg) (.d (rp_tuple.mpr ⟨l, _, rfl, SqT.of upd_same, RpAll.mono (Le.new hg) _ _ (g3.rep n)⟩))
end

/-! list(range), tuple(range) -/
section
variable {K : PySem.W.Frag} {r : List Val} {m : Mm} {Q : Val → Mm → Prop} {ta tb tc te : TE} {tt : TT}
def rngD (a n : Nat) : List PyData := (List.range n).map fun i => .int ((a + i : Nat) : Int)
theorem rpa_rng {G : Hp} (a n : Nat) : RpAll K G (rngD a n) (rgV (a : Int) ((a + n : Nat) : Int)) := by
  have e : rgV (a : Int) ((a + n : Nat) : Int) = ((List.range n).map fun i => ((a + i : Nat) : Int)).map V.int := by
    unfold rgV
    have e : (((a + n : Nat) : Int) - (a : Int)).toNat = n := by omega
    rw [e, List.map_map]
    rfl
  have e2 : rngD a n = ((List.range n).map fun i => ((a + i : Nat) : Int)).map PyData.int := by
    unfold rngD
    rw [List.map_map]
    rfl
  rw [e, e2]
  exact rpa_ints _
theorem rgok {a n : Nat} (h : a + n ≤ 100000) : RgOk (a : Int) ((a + n : Nat) : Int) := RgOk.of_le (by omega) (by omega) (by omega) (by omega)
theorem ev_tupR1 {n : Nat} (hn : n ≤ 100000) (h : Ev K ta r m fun x m1 => x = .d (.int (n : Int)) ∧ Q (.d (.tuple (rngD 0 n))) m1) : Ev K (tTupRg (tRg1 ta)) r m Q := fun σ H G S L R k =>
  h σ H G S L _ fun v H1 G1 x m1 ⟨hx, q⟩ S1 e1 r1 => by
    subst hx
    rw [int_of r1]
    have e : (n : Int) = ((0 + n : Nat) : Int) := by omega
    refine ⟨(n : Int), rfl, by rw [e]; exact rgok (a := 0) (n := n) (by omega), fun p hp => ?_⟩
    have hg := S1.free hp
    exact k _ _ (upd G1 p _) _ m1 q (S1.fix hp) (e1.trans (Le.new hg)) (.d (rp_tuple.mpr ⟨p, _, rfl, SqT.of upd_same, by rw [e]; exact rpa_rng 0 n⟩))
theorem ev_lstR1 {n : Nat} (hn : n ≤ 100000) (h : Ev K ta r m fun x m1 => x = .d (.int (n : Int)) ∧ Q (.d (.list (rngD 0 n))) m1) : Ev K (tLstRg (tRg1 ta)) r m Q := fun σ H G S L R k =>
  h σ H G S L _ fun v H1 G1 x m1 ⟨hx, q⟩ S1 e1 r1 => by
    subst hx
    rw [int_of r1]
    have e : (n : Int) = ((0 + n : Nat) : Int) := by omega
    refine ⟨(n : Int), rfl, by rw [e]; exact rgok (a := 0) (n := n) (by omega), fun p hp => ?_⟩
    have hg := S1.free hp
    exact k _ _ (upd G1 p _) _ m1 q (S1.fix hp) (e1.trans (Le.new hg)) (.d (rp_list.mpr ⟨p, _, rfl, Rd.of upd_same, by rw [e]; exact rpa_rng 0 n⟩))

/-! comprehensions -/
def Ext (m m' : Mm) : Prop := ∀ a o, m a = some o → m' a = some o
theorem Ext.refl (m : Mm) : Ext m m := fun _ _ h => h
/-- one turn's end: the list so far stands at D -/
def LcW (K : PySem.W.Frag) (m : Mm) (G : Hp) (D : Addr) (W : Nat → List PyData → Prop) (i : Nat) (H' : Hp) : Prop :=
  ∃ G' acc, W i acc ∧ acc.length ≤ i ∧ Sta K (put m D (.lst (acc.map Val.d))) H' G' ∧ Le G G'
theorem lc_turn {G : Hp} {D : Addr} {W : Nat → List PyData → Prop} {i : Nat} {σ : L2.St} {H' : Hp} {r' : List Val} (hm : m D = none) (hi : i < 100000) (L : ∀ G', Le G G' → Sl K G' r' σ)
    (hs : ∀ m' acc, Ext m m' → W i acc → EvT K tt r' m' fun b m2 => m2 = m' ∧ (b = true → Ev K te r' m' fun x m3 => m3 = m' ∧ ∃ y, x = .d y ∧ W (i + 1) (acc ++ [y])) ∧ (b = false → W (i + 1) acc))
    (h : LcW K m G D W i H') : tt σ H' fun b H3 => if b = true then te σ H3 fun y H4 => ∃ acc, H4 D = some (.lst acc) ∧ acc.length < sizeLine ∧ LcW K m G D W (i + 1) (upd H4 D (.lst (acc ++ [y]))) else LcW K m G D W (i + 1) H3 := by
  obtain ⟨G', acc, hw, hl, S, e⟩ := h
  have hx : Ext m (put m D (.lst (acc.map Val.d))) := fun a o ha => by
    rw [put_ne (ne_of_get ha hm)]; exact ha
  refine hs _ acc hx hw σ H' G' S (L G' e) _ fun H3 G3 b m3 ⟨e3, h1, h2⟩ S3 l3 => ?_
  subst e3
  cases b with
  | true =>
    show te σ H3 _
    refine h1 rfl σ H3 G3 S3 (L G3 (e.trans l3)) _ fun v H4 G4 x m4 ⟨e4, y, hy, hw'⟩ S4 l4 r4 => ?_
    subst e4 hy
    obtain ⟨xs, g1, g2⟩ := S4.mem D _ put_same
    have hlen := g2.length
    rw [List.length_map] at hlen
    refine ⟨xs, g1, Nat.lt_of_lt_of_le (show xs.length < 100000 by omega) (by decide), G4, acc ++ [y], hw', by rw [List.length_append]; show acc.length + 1 ≤ i + 1; omega, ?_, e.trans (l3.trans l4)⟩
    have S5 := S4.chg (u := .lst ((acc ++ [y]).map Val.d)) (o := .lst (xs ++ [v])) put_same ⟨_, upd_same, by
      rw [List.map_append]
      exact g2.append ⟨v, [], rfl, r4, rfl⟩⟩
    rw [put_put] at S5
    exact S5
  | false =>
    show LcW K m G D W (i + 1) H3
    exact ⟨G3, acc, h2 rfl, by omega, S3, e.trans l3⟩
theorem wipe1 (σ : L2.St) (j : Nat) (x : V) : wipe ((wipe σ [j]).set j (some x)) [j] = wipe σ [j] := by
  show ((σ.set j none).set j (some x)).set j none = σ.set j none
  rw [List.set_set, List.set_set]
theorem sl_in {G : Hp} {σ : L2.St} {j : Nat} {d : PyData} {x : V} (L : Sl K G r σ) {G' : Hp} (e : Le G G') (h : Rp K G' d x) : Sl K G' (r.set j (.d d)) ((wipe σ [j]).set j (some x)) := by
  have := (L.mono e).set (r := .d d) (.d h) j
  show Sl K G' (r.set j (.d d)) ((σ.set j none).set j (some x))
  rw [List.set_set]
  exact this
theorem lc_end {G : Hp} {D : Addr} {W : Nat → List PyData → Prop} {n : Nat} {H' : Hp} {R : VK} (hm : m D = none) (h : LcW K m G D W n H') (hd : ∀ acc, W n acc → Q (.d (.list acc)) m)
    (k : ∀ v H' G' x m', Q x m' → Sta K m' H' G' → Le G G' → VR K G' x v → R v H') : R (.ref D) H' := by
  obtain ⟨G', acc, hw, hl, S, e⟩ := h
  obtain ⟨xs, g1, g2⟩ := S.mem D _ put_same
  have hg := S.dis D _ put_same
  have S2 := S.freeze put_same g1
  have e2 : del (put m D (.lst (acc.map Val.d))) D = m := by
    funext b
    unfold del put
    by_cases hb : b = D
    · rw [if_pos hb, hb, hm]
    · rw [if_neg hb, if_neg hb]
  rw [e2] at S2
  exact k _ H' _ _ m (hd acc hw) S2 (e.trans (Le.new hg)) (.d (rp_list.mpr ⟨D, xs, rfl, Rd.of upd_same, RpAll.mono (Le.new hg) acc xs g2.toAll⟩))
theorem lc_start {H G : Hp} {D : Addr} {W : Nat → List PyData → Prop} (S : Sta K m H G) (hD : H D = none) (h0 : W 0 []) : LcW K m G D W 0 (upd H D (.lst [])) :=
  ⟨G, [], h0, Nat.le_refl _, S.new hD ⟨[], upd_same, rfl⟩, Le.refl G⟩
theorem ev_lcT {tl : TE} {j : Nat} {ds : List PyData} (h : Ev K tl r m fun x m1 => x = .d (.tuple ds) ∧ m1 = m) (hn : ds.length ≤ 100000) (W : Nat → List PyData → Prop) (h0 : W 0 [])
    (hs : ∀ i d m' acc, ds[i]? = some d → Ext m m' → W i acc → EvT K tt (r.set j (.d d)) m' fun b m2 => m2 = m' ∧ (b = true → Ev K te (r.set j (.d d)) m' fun x m3 => m3 = m' ∧ ∃ y, x = .d y ∧ W (i + 1) (acc ++ [y])) ∧ (b = false → W (i + 1) acc))
    (hd : ∀ acc, W ds.length acc → Q (.d (.list acc)) m) : Ev K (tLc (iTup K tl) (gName j) tt te [j]) r m Q := fun σ H G S L R k =>
  h σ H G S L _ fun v H1 G1 x m1 ⟨hx, hm⟩ S1 e1 r1 => by
    subst hx hm
    obtain ⟨p, xs, hv, hs1, hA⟩ := rp_tuple.mp r1.rp
    refine ⟨p, hv, ⟨xs, S1.sqT hs1⟩, fun D hD => ?_⟩
    have hmD := S1.freeM hD
    refine lc_tup (xs := xs) (LcW K m1 G1 D W) (lc_start S1 hD h0) ?_ ?_ ?_
    · rintro i H' hi ⟨G', acc, _, _, S', e'⟩
      exact S'.sqT (e'.sqT hs1)
    · intro i y H' hy hP
      obtain ⟨d, hd1, hd2⟩ := hA.get hy
      have hi : i < 100000 := by
        have := (List.getElem?_eq_some_iff.mp hy).1
        rw [hA.length] at this
        omega
      exact ⟨wipe1 σ j y, lc_turn hmD hi (fun G' e' => sl_in (L.mono e1) e' (Rp.mono e' d y hd2)) (fun m' acc hx hw => hs i d m' acc hd1 hx hw) hP⟩
    · intro H' hP
      rw [hA.length] at hP
      exact lc_end hmD hP hd fun v H' G' x m' q S' e' r' => k v H' G' x m' q S' (e1.trans e') r'
theorem ev_lcL {tl : TE} {j : Nat} {ds : List PyData} (h : Ev K tl r m fun x m1 => x = .d (.list ds) ∧ m1 = m) (hn : ds.length ≤ 100000) (W : Nat → List PyData → Prop) (h0 : W 0 [])
    (hs : ∀ i d m' acc, ds[i]? = some d → Ext m m' → W i acc → EvT K tt (r.set j (.d d)) m' fun b m2 => m2 = m' ∧ (b = true → Ev K te (r.set j (.d d)) m' fun x m3 => m3 = m' ∧ ∃ y, x = .d y ∧ W (i + 1) (acc ++ [y])) ∧ (b = false → W (i + 1) acc))
    (hd : ∀ acc, W ds.length acc → Q (.d (.list acc)) m) : Ev K (tLc (iList K tl) (gName j) tt te [j]) r m Q := fun σ H G S L R k =>
  h σ H G S L _ fun v H1 G1 x m1 ⟨hx, hm⟩ S1 e1 r1 => by
    subst hx hm
    obtain ⟨p, xs, hv, hs1, hA⟩ := rp_list.mp r1.rp
    have hs1 : SqL K G1 p xs := Or.inl hs1
    refine ⟨p, hv, ⟨xs, S1.sqL hs1⟩, fun D hD => ?_⟩
    have hmD := S1.freeM hD
    refine lc_list (xs := xs) (LcW K m1 G1 D W) (lc_start S1 hD h0) ?_ ?_ ?_
    · rintro i H' hi ⟨G', acc, _, _, S', e'⟩
      exact S'.sqL (e'.sqL hs1)
    · intro i y H' hy hP
      obtain ⟨d, hd1, hd2⟩ := hA.get hy
      have hi : i < 100000 := by
        have := (List.getElem?_eq_some_iff.mp hy).1
        rw [hA.length] at this
        omega
      exact ⟨wipe1 σ j y, lc_turn hmD hi (fun G' e' => sl_in (L.mono e1) e' (Rp.mono e' d y hd2)) (fun m' acc hx hw => hs i d m' acc hd1 hx hw) hP⟩
    · intro H' hP
      rw [hA.length] at hP
      exact lc_end hmD hP hd fun v H' G' x m' q S' e' r' => k v H' G' x m' q S' (e1.trans e') r'
theorem ev_lcR1 {ta : TA} {j : Nat} {n : Nat} (h : EvA K ta r m fun xs m1 => xs = [.d (.int (n : Int))] ∧ m1 = m) (hn : n ≤ 100000) (W : Nat → List PyData → Prop) (h0 : W 0 [])
    (hs : ∀ (i : Nat) m' acc, i < n → Ext m m' → W i acc → EvT K tt (r.set j (.d (.int (i : Int)))) m' fun b m2 => m2 = m' ∧ (b = true → Ev K te (r.set j (.d (.int (i : Int)))) m' fun x m3 => m3 = m' ∧ ∃ y, x = .d y ∧ W (i + 1) (acc ++ [y])) ∧ (b = false → W (i + 1) acc))
    (hd : ∀ acc, W n acc → Q (.d (.list acc)) m) : Ev K (tLc (iRng1 ta) (gName j) tt te [j]) r m Q := fun σ H G S L R k =>
  h σ H G S L _ fun vs H1 G1 xs m1 ⟨hx, hm⟩ S1 e1 r1 => by
    subst hx hm
    obtain ⟨v1, rfl, a1⟩ := vrs1 r1
    have a1 := int_of a1
    subst a1
    have en : ((n : Int)).toNat = n := by omega
    refine ⟨(n : Int), rfl, by omega, by omega, ?_⟩
    rw [en]
    intro D hD
    have hmD := S1.freeM hD
    refine lc_range (lo := 0) (n := n) (LcW K m1 G1 D W) (lc_start S1 hD h0) ?_ ?_
    · intro i H' hi hP
      rw [Int.zero_add]
      exact ⟨wipe1 σ j _, lc_turn hmD (by omega) (fun G' e' => sl_in (L.mono e1) e' (rp_int.mpr rfl)) (fun m' acc hx hw => hs i m' acc hi hx hw) hP⟩
    · intro H' hP
      exact lc_end hmD hP hd fun v H' G' x m' q S' e' r' => k v H' G' x m' q S' (e1.trans e') r'
theorem ev_lcR2 {ta : TA} {j : Nat} {lo n : Nat} (h : EvA K ta r m fun xs m1 => xs = [.d (.int (lo : Int)), .d (.int ((lo + n : Nat) : Int))] ∧ m1 = m) (hn : lo + n ≤ 100000) (W : Nat → List PyData → Prop) (h0 : W 0 [])
    (hs : ∀ (i : Nat) m' acc, i < n → Ext m m' → W i acc → EvT K tt (r.set j (.d (.int ((lo + i : Nat) : Int)))) m' fun b m2 => m2 = m' ∧ (b = true → Ev K te (r.set j (.d (.int ((lo + i : Nat) : Int)))) m' fun x m3 => m3 = m' ∧ ∃ y, x = .d y ∧ W (i + 1) (acc ++ [y])) ∧ (b = false → W (i + 1) acc))
    (hd : ∀ acc, W n acc → Q (.d (.list acc)) m) : Ev K (tLc (iRng2 ta) (gName j) tt te [j]) r m Q := fun σ H G S L R k =>
  h σ H G S L _ fun vs H1 G1 xs m1 ⟨hx, hm⟩ S1 e1 r1 => by
    subst hx hm
    obtain ⟨v1, v2, rfl, a1, a2⟩ := vrs2 r1
    have a1 := int_of a1
    have a2 := int_of a2
    subst a1 a2
    have en : (((lo + n : Nat) : Int) - (lo : Int)).toNat = n := by omega
    refine ⟨(lo : Int), ((lo + n : Nat) : Int), rfl, ⟨by omega, by omega, by omega, by omega⟩, ?_⟩
    rw [en]
    intro D hD
    have hmD := S1.freeM hD
    refine lc_range (lo := (lo : Int)) (n := n) (LcW K m1 G1 D W) (lc_start S1 hD h0) ?_ ?_
    · intro i H' hi hP
      rw [show (lo : Int) + (i : Int) = ((lo + i : Nat) : Int) from (Int.natCast_add lo i).symm]
      exact ⟨wipe1 σ j _, lc_turn hmD (by omega) (fun G' e' => sl_in (L.mono e1) e' (rp_int.mpr rfl)) (fun m' acc hx hw => hs i m' acc hi hx hw) hP⟩
    · intro H' hP
      exact lc_end hmD hP hd fun v H' G' x m' q S' e' r' => k v H' G' x m' q S' (e1.trans e') r'
theorem ev_cTy {T : String} (q : Q (.v (.ty T)) m) : Ev K (tC (.ty T)) r m Q := ev_cV q
theorem evt_yes {Q : Bool → Mm → Prop} (q : Q true m) : EvT K tYes r m Q := fun σ H G S L R k => k H G true m q S (Le.refl G)

/-! a[i] = e -/
variable {N : List Val → Mm → Prop} {E : Val → Mm → Prop}
theorem w_setB {to ti : TE} {p : Addr} (h : Ev K te r m fun x m1 => ∃ n : Int, x = .d (.int n) ∧ Ev K to r m1 fun y m2 => y = .v (.ref p) ∧ Ev K ti r m2 fun z m3 => z = .d (.int 0) ∧ m3 p = some .box ∧ N r m3) :
    Wp K (tAsg te (gSub to ti rSetL)) r m N E := fun σ H G D S L a b =>
  h σ H G S L _ fun v H1 G1 x m1 ⟨n, hx, h1⟩ S1 e1 r1 => h1 σ H1 G1 S1 (L.mono e1) _ fun w H2 G2 y m2 ⟨hy, h2⟩ S2 e2 r2 => h2 σ H2 G2 S2 (L.mono (e1.trans e2)) _ fun u H3 G3 z m3 ⟨hz, hb, q⟩ S3 e3 r3 => by
    subst hx hy hz
    have a1 := int_of r1
    have a2 := r2.eq
    have a3 := int_of r3
    subst a1 a2 a3
    obtain ⟨n0, g1⟩ := S3.mem p _ hb
    refine ⟨p, [.int n0], 0, 0, rfl, rfl, g1, rfl, ?_⟩
    have S4 := S3.chg (u := .box) (o := .lst [.int n]) hb ⟨n, upd_same⟩
    have e4 : put m3 p .box = m3 := by
      funext c
      unfold put
      by_cases hc : c = p
      · rw [if_pos hc, hc, hb]
      · rw [if_neg hc]
    rw [e4] at S4
    exact a σ _ G3 r m3 q S4 (e1.trans (e2.trans e3)) (L.mono (e1.trans (e2.trans e3)))
/-- a box made -/
theorem ev_lstB {t : TA} (h : EvA K t r m fun xs m1 => ∃ n : Int, xs = [.d (.int n)] ∧ ∀ p, m1 p = none → Q (.v (.ref p)) (put m1 p .box)) : Ev K (tLst t) r m Q := fun σ H G S L R k =>
  h σ H G S L _ fun vs H1 G1 xs m1 ⟨n, hx, q⟩ S1 e1 r1 => by
    subst hx
    obtain ⟨v1, rfl, a1⟩ := vrs1 r1
    have a1 := int_of a1
    subst a1
    refine ⟨by rw [sizeLine_eq]; show 1 ≤ 16777216; decide, fun p hp => ?_⟩
    exact k (.ref p) _ G1 _ _ (q p (S1.freeM hp)) (S1.new hp ⟨n, upd_same⟩) e1 .v
/-! what grew is data from now on -/
theorem w_freeze {t : TS} {i : Nat} {p : Addr} {ds : List PyData} (hi : r[i]? = some (.v (.ref p))) (hm : m p = some (.lst (ds.map Val.d))) (h : Wp K t (r.set i (.d (.list ds))) (del m p) N E) : Wp K t r m N E := fun σ H G D S L a b => by
  obtain ⟨xs, h1, h2⟩ := S.mem p _ hm
  have hg := S.dis p _ hm
  obtain ⟨v, hv, hr⟩ := L.get hi (fun h => nomatch h)
  have hr := hr.eq
  subst hr
  have L2 := (L.mono (Le.new hg)).set (r := .d (.list ds)) (.d (rp_list.mpr ⟨p, xs, rfl, Rd.of upd_same, RpAll.mono (Le.new (o := .lst xs) hg) ds xs h2.toAll⟩)) i
  have e : σ.set i (some (.ref p)) = σ := by
    refine List.ext_getElem? fun k => ?_
    by_cases hk : k = i
    · subst hk
      rw [List.getElem?_set_self (List.getElem?_eq_some_iff.mp hv).1, hv]
    · rw [List.getElem?_set_ne (Ne.symm hk)]
  rw [e] at L2
  exact h σ H _ D (S.freeze hm h1) L2 (fun σ' H' G' r' m' n S' e' L' => a σ' H' G' r' m' n S' ((Le.new hg).trans e') L') (fun v H' G' x m' n S' e' L' => b v H' G' x m' n S' ((Le.new hg).trans e') L')
/-- xs.append(e) -/
theorem ev_app {to : TE} {p : Addr} {rs : List Val} (h : Ev K to r m fun x m1 => x = .v (.ref p) ∧ m1 p = some (.lst rs) ∧ Ev K te r m1 fun y m2 => m2 p = some (.lst rs) ∧ rs.length < 100000 ∧ Q (.d .none) (put m2 p (.lst (rs ++ [y])))) :
    Ev K (tBM K "list" rAppend to (tCons te tNil)) r m Q := fun σ H G S L R k =>
  h σ H G S L _ fun v H1 G1 x m1 ⟨hx, hm, h1⟩ S1 e1 r1 => by
    subst hx
    have r1 := r1.eq
    subst r1
    obtain ⟨xs, g1, g2⟩ := S1.mem p _ hm
    refine ⟨Or.inl ⟨rfl, xs, Or.inl (Or.inl g1)⟩, ?_⟩
    refine h1 σ H1 G1 S1 (L.mono e1) _ fun w H2 G2 y m2 ⟨hm2, hl, q⟩ S2 e2 r2 => ?_
    obtain ⟨ys, g3, g4⟩ := S2.mem p _ hm2
    refine ⟨p, ys, w, rfl, rfl, g3, Nat.lt_of_lt_of_le (by rw [g4.length]; exact hl) (by decide), ?_⟩
    exact k .non _ G2 _ _ q (S2.chg hm2 ⟨_, upd_same, g4.append ⟨w, [], rfl, r2, rfl⟩⟩) (e1.trans e2) vr_none
/-- a list that may change, as an operand of + -/
theorem o2_addM {p : Addr} {ds es : List PyData} (hm : m p = some (.lst (ds.map Val.d))) (hz : ds.length + es.length ≤ 100000) (q : Q (.d (.list (ds ++ es))) m) : Op2 K (rAdd K) (.v (.ref p)) (.d (.list es)) m Q := fun H G v w S a b R k => by
  have a := a.eq
  subst a
  obtain ⟨xs, g1, g2⟩ := S.mem p _ hm
  obtain ⟨p', ys, rfl, h4, h5⟩ := rp_list.mp b.rp
  have h3 := g2.toAll
  refine Or.inr (Or.inr (Or.inl ⟨p, p', xs, ys, rfl, rfl, Or.inl g1, Le.rd S.sub h4, ?_, fun l hl => ?_⟩))
  · rw [h3.length, h5.length]; exact Nat.le_trans hz (by decide)
  · have hg := S.free hl
    exact k _ _ (upd G l (.lst (xs ++ ys))) _ m q (S.fix hl) (Le.new hg) (.d (rp_list.mpr ⟨l, _, rfl, Rd.of upd_same, RpAll.mono (Le.new hg) _ _ (h3.append h5)⟩))
theorem o2_pow {i j : Int} (c : CPow i j) (q : Q (.d (.int (i ^ j.toNat))) m) : Op2 K rPow (.d (.int i)) (.d (.int j)) m Q := o2_I (C := CPow) (g := fun i j => i ^ j.toNat) c q
end
end DL


namespace DL
open PySem L2

/-- a def of the text that keeps a word of this level -/
structure Cl (P : Program) (w : World) (K : PySem.W.Frag) (mg : Str → Option Value) (base : Heap) (k : Nat) (x : Str) (sp : FSp) : Prop where
  ex : ∃ f fd ps, FnOk P w K mg base CX0 k f fd ps (spD K sp) ∧ mg x = some (.ref f) ∧ PySem.W.keepIn K (.ref f) = true ∧ Binds K fd ps []
section
variable {X : Cx} {k j n0 : Nat} {x : Str} {sp : FSp} {e : Expr} {es : List Expr} {t : TA} {p pos : Pos} {P : Program} {w : World} {K : PySem.W.Frag} {mg : Str → Option Value} {base : Heap}
theorem pe_cl (c : Cl P w K mg base k x sp) (hr : Room j X.A) (hk : k ≤ j) (hg : Gl X x) (ha : PA X (e :: es) t) (hP : X.prog = P := by rfl) (hw : X.w = w := by rfl) (hK : X.K = K := by rfl) (hmg : X.mg = mg := by rfl) (hbs : X.base = base := by rfl)
    (hdb : (x == ("__debug__" : Str)) = false := by decide)
    (he : starEach (e :: es) X.env = (false, eval e X.env) :: starEach es X.env := by rfl) (hpl : (backTo pos (starEach es X.env)).any (·.1) = false := by rfl) :
    PE X (.Call (.Name x p) (e :: es) [] pos) (tCall (spD K sp) [] E0 t) := by
  subst hP hw hK hmg hbs
  obtain ⟨f, fd, ps, F, hm, hkp, hb⟩ := c.ex
  exact pe_call F (hr.mono hk) hg hm hkp hb .nil pass0 ha hdb he hpl
theorem pe_gi {i : Int} (h : ∃ t, mg x = some (.int i t)) (hg : Gl X x) (hmg : X.mg = mg := by rfl) (hd : (x == ("__debug__" : Str)) = false := by decide) : PE X (.Name x pos) (tC (.int i)) := by
  subst hmg
  obtain ⟨t, h⟩ := h
  exact pe_glob hg h ⟨_, rfl⟩ hd
theorem pe_gs {i : Str} (h : ∃ t, mg x = some (.str i t)) (hg : Gl X x) (hmg : X.mg = mg := by rfl) (hd : (x == ("__debug__" : Str)) = false := by decide) : PE X (.Name x pos) (tC (.str i)) := by
  subst hmg
  obtain ⟨t, h⟩ := h
  exact pe_glob hg h ⟨_, rfl⟩ hd
/-! the joined rules, the written part by name -/
theorem kAdd (K : PySem.W.Frag) (h : X.K = K := by rfl) : OpR X (binaryOp .Add) (rAdd K) := h ▸ oAdd
theorem kMul (K : PySem.W.Frag) (h : X.K = K := by rfl) : OpR X (binaryOp .Mult) (rMul K) := h ▸ oMul
theorem kEq (K : PySem.W.Frag) (hr : Room j X.A) (h : X.K = K := by rfl) : OpR X (compareOp .Eq) (rEqA K) := h ▸ oEq hr
theorem kNe (K : PySem.W.Frag) (hr : Room j X.A) (h : X.K = K := by rfl) : OpR X (compareOp .NotEq) (rNeA K) := h ▸ oNe hr
theorem kIx (K : PySem.W.Frag) (h : X.K = K := by rfl) : IxR X (rIx K) := h ▸ ix_seq
theorem kLen (K : PySem.W.Frag) (h : X.K = K := by rfl) : CallR X (.builtin "len") (rLen K) := h ▸ cLen
theorem kSum (K : PySem.W.Frag) (hc : X.calm = true := by rfl) (h : X.K = K := by rfl) : CallR X (.builtin "sum") (rSumA K) := h ▸ cSum hc
theorem kAll (K : PySem.W.Frag) (hc : X.calm = true := by rfl) (h : X.K = K := by rfl) : CallR X (.builtin "all") (rAll K) := h ▸ cAll hc
theorem kAny (K : PySem.W.Frag) (hc : X.calm = true := by rfl) (h : X.K = K := by rfl) : CallR X (.builtin "any") (rAny K) := h ▸ cAny hc
theorem kTup (K : PySem.W.Frag) (h : X.K = K := by rfl) : CallR X (.type "tuple") (rTupO K) := h ▸ cTup
theorem kLst (K : PySem.W.Frag) (h : X.K = K := by rfl) : CallR X (.type "list") (rLstO K) := h ▸ cLst
theorem kIsi (K : PySem.W.Frag) (h : X.K = K := by rfl) : CallR X (.builtin "isinstance") (rIsi K) := h ▸ cIsi
theorem kRepr (K : PySem.W.Frag) (hr : Room j X.A) (hg : X.A.guards = some []) (h : X.K = K := by rfl) : CallR X (.builtin "repr") (rRepr K) := h ▸ cRepr hr hg
theorem kSlT (K : PySem.W.Frag) (h : X.K = K := by rfl) : SlR X (rSlA K) := h ▸ sl_tupA
theorem kSlL (K : PySem.W.Frag) (h : X.K = K := by rfl) : SlR X (rSlL K) := h ▸ sl_list
theorem kBM (K : PySem.W.Frag) {e : Expr} {T : String} {r : V → List V → Hp → VK → Prop} {to : TE} {ta : TA} (hp : PE X e (tBM X.K T r to ta)) (h : X.K = K := by rfl) : PE X e (tBM K T r to ta) := h ▸ hp
theorem kgT (K : PySem.W.Frag) {tg : Expr} {t : TGs} (hp : PG X tg (gTup X.K n0 t)) (h : X.K = K := by rfl) : PG X tg (gTup K n0 t) := h ▸ hp
theorem kiT (K : PySem.W.Frag) {tg l : Expr} {tl : TE} (hl : PE X l tl) (h : X.K = K := by rfl) : PI X tg l (iTup K tl) := h ▸ pi_tup hl
theorem kiL (K : PySem.W.Frag) {tg l : Expr} {tl : TE} (hl : PE X l tl) (h : X.K = K := by rfl) : PI X tg l (iList K tl) := h ▸ pi_list hl
end

/-! defs that want to know that nothing is being shown around them -/
structure FnG (P : Program) (w : World) (K : PySem.W.Frag) (mg : Str → Option Value) (base : Heap) (k : Nat) (f : Addr) (fd : FuncData) (ps : List Str) (sp : Sp) : Prop where
  len : ∀ vs H Q E, sp vs H Q E → vs.length = ps.length
  run : ∀ (A : Around) (outer : List Env) (s : Shared) (H : Hp) (args : Args) (us : List Value) (vs : List V) (Q : VK) (E : XK), A.guards = some [] → Room k A →
    Env0 P w K mg base A outer s H → BindsTo s fd args (ps.zip us) → Vals vs us → sp vs H Q E → codeAny (model P w) A (.call (.ref f) args) (CR CX0 outer P w H s Q E) s
section
variable {P : Program} {w : World} {K : PySem.W.Frag} {mg : Str → Option Value} {base : Heap}
theorem deeper_guards (A : Around) (env : Env) : (A.deeper env).guards = A.guards := by
  first
    | rfl
    | simp [Around.deeper]
theorem fnG_of {x qual : Str} {st : Stmt} {f : Addr} {fd : FuncData} {N ps : List Str} {k : Nat} {sp : Sp} (F : Fun K x qual st f fd) (S : FnScope N ps (defScope st)) (len : ∀ vs H Q E, sp vs H Q E → vs.length = ps.length)
    (hbody : ∀ (cdv : Value) (A : Around) (outer : List Env) (s : Shared) (H : Hp) (vs : List V) (Q : VK) (E : XK), (A.deeper (PyProof.Rows.envOfC qual (defScope st) s.heap.objs.size f cdv)).guards = some [] →
      Room k (A.deeper (PyProof.Rows.envOfC qual (defScope st) s.heap.objs.size f cdv)) → sp vs H Q E →
      ∃ t, PSs (cxOf CX0 P w K mg base N qual (defScope st) f cdv A outer s H E).nox (defBody st) t ∧ t { nx := fun _ H' => Q .non H', rt := Q } (L2.start N vs) H) : FnG P w K mg base (k + 1) f fd ps sp := by
  obtain ⟨oc, od, kV, doc, pm, an, cdv, ct, osl, rfl, lk, hcd⟩ := F.ex
  refine ⟨len, fun A outer s H args us vs Q E hgd hr e0 hb r hsp => ?_⟩
  have hl := len _ _ _ _ hsp
  have KX : K.In s.heap := e0.mod.kin.keeps fun b o e => (e0.bs b o e).1
  have lim : s.heap.NoLimit := e0.mod.nolimit.keeps fun b o e => (e0.bs b o e).1
  refine codeAny_call_function hr.depth (KX _ _ lk) rfl S.co S.gen rfl (PySem.W.codeRec_of KX hcd) (hb _ _ _ _ ?_)
  refine wpAny_newFunctionEnv_cells S.kind (fun y hy => ?_) fun env he s1 z => ?_
  · obtain ⟨n, v⟩ := y
    rcases S.par n (List.of_mem_zip hy).1 with q | q
    · exact Or.inl q
    · exact Or.inr ⟨q, PySem.W.cellsFrom_some _ _ _ (.inl q)⟩
  subst he
  refine ⟨lim.keeps z.toInCall.keep, codeAny_func ?_⟩
  obtain ⟨t, ht, hq⟩ := hbody cdv A outer s H vs Q E ((deeper_guards A _).trans hgd) (hr.deeper _) hsp
  have ht := ht.nox
  have I : Inv (cxOf CX0 P w K mg base N qual (defScope st) f cdv A outer s H E) [] (L2.start N vs) H s1 := inv_start S hr.hd e0 hl r z
  refine wpAny_mono (ht.run [] s1 (L2.start N vs) H _ I hq) (fun fl s' hs => ?_) fun e s' hs => hs
  cases fl with
  | ret u =>
    obtain ⟨v, σ', H', J, rv, q⟩ := hs
    exact ⟨v, H', J.os, J.bare, J.base, J.hok, rv, q⟩
  | next =>
    obtain ⟨σ', H', J, q⟩ := hs
    exact ⟨.non, H', J.os, J.bare, J.base, J.hok, rfl, q⟩
  | brk =>
    obtain ⟨_, _, _, q⟩ := hs
    exact q.elim
  | cont =>
    obtain ⟨_, _, _, q⟩ := hs
    exact q.elim
theorem fnG_ok {x qual : Str} {st : Stmt} {f : Addr} {fd : FuncData} {N ps : List Str} {k : Nat} {sp : FSp} (F : Fun K x qual st f fd) (S : FnScope N ps (defScope st)) (hl : ∀ args m R, sp args m R → args.length = ps.length)
    (hb : ∀ (cdv : Value) (A : Around) (outer : List Env) (s : Shared) (H : Hp) (E : XK), (A.deeper (PyProof.Rows.envOfC qual (defScope st) s.heap.objs.size f cdv)).guards = some [] →
      Room k (A.deeper (PyProof.Rows.envOfC qual (defScope st) s.heap.objs.size f cdv)) →
      ∃ t, PSs (cxOf CX0 P w K mg base N qual (defScope st) f cdv A outer s H E).nox (defBody st) t ∧
        ∀ args m R, sp args m R → Wp K t (args ++ List.replicate (N.length - args.length) .any) m (fun _ m' => R (.d .none) m') R) : FnG P w K mg base (k + 1) f fd ps (spD K sp) := by
  refine fnG_of F S (fun vs H Q E h => ?_) (fun cdv A outer s H vs Q E hg hr h => ?_)
  · obtain ⟨m, G, args, R, S1, r1, h1, _⟩ := h
    rw [r1.length]; exact hl args m R h1
  · obtain ⟨m, G, args, R, S1, r1, h1, k1⟩ := h
    obtain ⟨t, ht, hw⟩ := hb cdv A outer s H E hg hr
    refine ⟨t, ht, ?_⟩
    refine hw args m R h1 _ H G _ S1 ?_ (fun σ' H' G' r' m' hn S' e' L' => ?_) (fun v H' G' x m' hn S' e' L' => k1 v H' G' x m' hn S' e' L')
    · unfold L2.start
      rw [r1.length]
      exact Sl.start _ r1
    · exact k1 .non H' G' (.d .none) m' hn S' e' (.d (rp_none.mpr rfl))
end
end DL


namespace DL
open PySem L2

section
variable {P : Program} {w : World} {K : PySem.W.Frag} {mg mb : Str → Option Value} {k : Nat} {fa a : Addr} {fd : FuncData} {x : Str} {sp : FSp} {s1 : Shared} {vs : List Value} {ns : List Int}
/-- what the law's def is asked at the heap behind the top: the script alone is known -/
theorem law_core (KX : K.In s1.heap) (hns : s1.heap.Ns mainGlobals mg) (hb : s1.heap.Ns builtinsNs mb) (hbb : ∀ x : Str, x ≠ "__name__" → mb x = bootBuiltins x) (hlim : s1.heap.NoLimit) (hgs : s1.gens = #[])
    (ha : s1.heap.get? a = some { cls := .type "list", data := .seq vs.toArray }) (hr : Room k callerA)
    (F : ∀ base : Heap, K.In base → base.Ns mainGlobals mg → FnG P w K mg base k fa fd [x] (spD K sp)) (hbind : ∀ (s : Shared) (u : Value), BindsTo s fd ⟨[u], []⟩ [(x, u)])
    (hsp : sp [.scr ns] (fun _ => none) fun y _ => y = .d (.bool true))
    (H : Hp) (hO : Only H) (hS : SqL K H a (ns.map V.int)) (hok : HOk P w H s1.heap) (hA : ∀ b, H b ≠ none → b = a) (hK : H a ≠ none → K.lookup a = none) :
    codeAny (model P w) callerA (.call (.ref fa) ⟨[.ref a], []⟩) (fun r s' => r = .ok (.ret (.bool true)) ∧ OldK s1.heap s'.heap ∧ s'.os = s1.os ∧ PyProof.Rows.AllBare s'.gens) s1 := by
  have baseOf : ∀ {b : Addr} {o : Obj}, s1.heap.get? b = some o → H b = none → (hidT s1.heap H).get? b = some o := hidT_get
  have free : ∀ {b : Addr} {o : Obj} {es : Array DictEntry} {ep : Nat}, s1.heap.get? b = some o → o.data = .dict es ep → H b = none := fun {b o es ep} e d => by
    cases q : H b with
    | none => rfl
    | some u =>
      obtain rfl : b = a := hA b fun z => by rw [q] at z; cases z
      rw [ha] at e
      cases e
      exact absurd d fun z => nomatch z
  have nsK : ∀ {b : Addr} {m : Str → Option Value}, s1.heap.Ns b m → (hidT s1.heap H).Ns b m := fun ⟨o, es, ep, e, d, z⟩ => ⟨o, es, ep, baseOf e (free e d), d, z⟩
  have kB : K.In (hidT s1.heap H) := fun b o e => baseOf (KX b o e) (by
    cases q : H b with
    | none => rfl
    | some u =>
      obtain rfl : b = a := hA b fun z => by rw [q] at z; cases z
      rw [hK fun z => by rw [q] at z; cases z] at e
      cases e)
  have e0 : Env0 P w K mg (hidT s1.heap H) callerA [] s1 H := by
    refine ⟨rfl, ⟨kB, nsK hns, ⟨mb, nsK hb, hbb⟩, ?_⟩, fun b o e => of_hidT e, Nat.le_of_eq (hidT_size _ _), trivial, fun b z => ?_, hok, .of_eq hgs⟩
    · obtain ⟨mc, z1, z2⟩ := hlim
      exact ⟨mc, nsK z1, z2⟩
    · exact nomatch (show b ∈ ([] : List Addr) from z)
  have hs : spD K sp [.ref a] H (fun v _ => v = .bl true) fun _ _ _ => False := by
    refine ⟨fun _ => none, H, [.scr ns], fun y _ => y = .d (.bool true), ⟨fun _ _ e => e, (fun _ _ e => nomatch e), (fun _ _ e => nomatch e)⟩, ⟨_, [], rfl, .scr hS, rfl⟩, hsp, ?_⟩
    intro v H' G' y m' hy _ _ hv
    subst hy
    exact rp_bool.mp hv.rp
  refine codeAny_mono ((F _ kB (nsK hns)).run callerA [] s1 H ⟨[.ref a], []⟩ [.ref a] [.ref a] _ _ rfl hr e0 (hbind s1 (.ref a)) (.cons rfl .nil) hs) fun r s' h => ?_
  cases r with
  | error e => exact False.elim h
  | ok fl =>
    cases fl with
    | next => exact False.elim h
    | brk => exact False.elim h
    | cont => exact False.elim h
    | ret u =>
      obtain ⟨v, H', os, bare, un, hok', rv, q⟩ := h
      have q : v = .bl true := q
      subst q
      obtain rfl : u = Value.bool true := rv
      refine ⟨rfl, OldK.of_keep fun b o e => ?_, os, bare⟩
      cases q : H b with
      | none => exact un.keep b o e q (fun z => nomatch (show b ∈ ([] : List Addr) from z)) (fun z => nomatch z)
      | some y =>
        rcases hO b with z | ⟨ob, xs, z⟩
        · rw [q] at z; cases z
        · obtain ⟨e1, _⟩ := hok b _ z
          obtain ⟨e2, _⟩ := hok' b _ (un.frzs b ob _ z)
          rw [e] at e1
          cases e1
          exact e2
theorem law_run (KX : K.In s1.heap) (hns : s1.heap.Ns mainGlobals mg) (hb : s1.heap.Ns builtinsNs mb) (hbb : ∀ x : Str, x ≠ "__name__" → mb x = bootBuiltins x) (hlim : s1.heap.NoLimit) (hgs : s1.gens = #[])
    (ha : s1.heap.get? a = some { cls := .type "list", data := .seq vs.toArray }) (hi : PyProof.Rows.IntsAre vs ns) (hl : ns.length ≤ sizeLine) (hr : Room k callerA)
    (F : ∀ base : Heap, K.In base → base.Ns mainGlobals mg → FnG P w K mg base k fa fd [x] (spD K sp)) (hbind : ∀ (s : Shared) (u : Value), BindsTo s fd ⟨[u], []⟩ [(x, u)])
    (hsp : sp [.scr ns] (fun _ => none) fun y _ => y = .d (.bool true)) :
    codeAny (model P w) callerA (.call (.ref fa) ⟨[.ref a], []⟩) (fun r s' => r = .ok (.ret (.bool true)) ∧ OldK s1.heap s'.heap ∧ s'.os = s1.os ∧ PyProof.Rows.AllBare s'.gens) s1 := by
  have rv := vals_ints hi
  have hlen := hi.length
  cases hk : K.lookup a with
  | some o =>
    have e := KX a o hk
    rw [ha] at e
    cases e
    refine law_core KX hns hb hbb hlim hgs ha hr F hbind hsp (fun _ => none) (fun _ => Or.inl rfl) (Or.inr ⟨_, vs.toArray, _, hk, rfl, rfl, rfl, ?_, ?_⟩) (fun b u z => nomatch (show (none : Option HO) = some u from z)) (fun b z => absurd rfl z) fun z => absurd rfl z
    · rw [List.size_toArray, hlen]; exact hl
    · simpa using rv
  | none =>
    refine law_core KX hns hb hbb hlim hgs ha hr F hbind hsp (fun b => if b = a then some (.frz { cls := .type "list", data := .seq vs.toArray } (.lst (ns.map V.int))) else none) (fun b => ?_) (Or.inl (Or.inr ⟨{ cls := .type "list", data := .seq vs.toArray }, if_pos rfl⟩)) (fun b u z => ?_) (fun b z => ?_) fun _ => hk
    · by_cases h : b = a
      · exact Or.inr ⟨_, _, if_pos h⟩
      · exact Or.inl (if_neg h)
    · by_cases h : b = a
      · have z := (if_pos h).symm.trans z
        cases z
        subst h
        exact ⟨ha, by rw [List.length_map]; exact hl, vs, _, rv, ha⟩
      · exact nomatch (if_neg h).symm.trans z
    · by_cases h : b = a
      · exact h
      · exact absurd (if_neg h) z
end
/-- from the law's def to the row -/
theorem walkG {l : PySem.W.OpenLaw} {n k : Nat} {q : Program} {loose : List Str} {XP : (Str → Option Value) → Heap → Prop} {YP : World → Heap → Prop} {d : DefRec} {K : Params → PySem.W.Frag} {sp : FSp} {x : Str}
    (hn : l.most = some n) (hn2 : n ≤ sizeLine) (hdf : d.params.defaults = []) (hr : Room k callerA) (hY : ∀ (w : World) (h : Heap), YP w h → (K w.params).In h)
    (F : ∀ (w : World) (mg : Str → Option Value) (fa : Addr) (h : Heap), (K w.params).In h → h.Ns mainGlobals mg → mg d.name = some (.ref fa) →
      ∃ fd : FuncData, (∀ (s : Shared) (u : Value), BindsTo s fd ⟨[u], []⟩ [(x, u)]) ∧
        ∀ base : Heap, (K w.params).In base → base.Ns mainGlobals mg → FnG l.prog w (K w.params) mg base k fa fd [x] (spD (K w.params) sp))
    (hsp : ∀ ns : List Int, ns.length ≤ n → (∀ z ∈ ns, Builtin.Int.intBits z ≤ 1048576) → sp [.scr ns] (fun _ => none) fun y _ => y = .d (.bool true)) :
    PySem.W.WalkO q loose XP YP l.row.toRowW d [] (fun f vs => PySem.call f vs) := by
  refine Att.attach_callB hn hdf fun w s0 s1 mg mb fa o pm cd doc a vs ns G Y ho hd hcd hmg hobj hints hlen hbits hg => ?_
  have KX := hY w _ Y
  obtain ⟨fd, hb, hF⟩ := F w mg fa _ KX G.T.g hmg
  exact law_run KX G.T.g G.T.b G.T.builtins G.T.nolimit hg hobj hints (Nat.le_trans hlen hn2) hr hF hb (hsp ns hlen hbits)
end DL


namespace DL
open PySem L2

/-! bits -/
def Bt (i : Int) (k : Nat) : Prop := i.natAbs < 2 ^ k
theorem Bt.mono {i : Int} {a b : Nat} (h : Bt i a) (hb : a ≤ b) : Bt i b := Nat.lt_of_lt_of_le h (Nat.pow_le_pow_right (by decide) hb)
theorem Bt.mul {i j : Int} {a b : Nat} (h : Bt i a) (g : Bt j b) : Bt (i * j) (a + b) := wide_lt h g
theorem Bt.add {i j : Int} {a b c : Nat} (h : Bt i a) (g : Bt j b) (h1 : a ≤ c) (h2 : b ≤ c) : Bt (i + j) (c + 1) := by
  have h := h.mono h1
  have g := g.mono h2
  unfold Bt at *
  rw [Nat.pow_succ]
  have : (i + j).natAbs ≤ i.natAbs + j.natAbs := Int.natAbs_add_le i j
  omega
theorem Bt.neg {i : Int} {a : Nat} (h : Bt i a) : Bt (-i) a := by
  unfold Bt at *; rw [Int.natAbs_neg]; exact h
theorem Bt.le {i j : Int} {a : Nat} (h : Bt j a) (hi : i.natAbs ≤ j.natAbs) : Bt i a := Nat.lt_of_le_of_lt hi h
theorem bt_small {i : Int} {a : Nat} (h : i.natAbs < 2 ^ a) : Bt i a := h
theorem Bt.cmul {i j : Int} {a b : Nat} (h : Bt i a) (g : Bt j b) (c : a + b + 2 ≤ 1000000) : CMulW i j := wide_mul (h.mono (Nat.le_succ a)) (g.mono (Nat.le_succ b)) (Nat.succ_pos a) (Nat.succ_pos b) (by omega)
theorem Bt.cdiv {i j : Int} {b : Nat} (g : Bt j b) (h0 : 0 < j) (c : b < 9000) : CDivW i j := wide_div h0 (g.mono (Nat.le_succ b)) (Nat.succ_pos b) (by omega)
theorem cdiv_small {i j : Int} (h0 : 0 < j) (h : j < 1073741824) : CDivW i j := wide_div (b := 30) h0 (by
  have e : (2 : Nat) ^ 30 = 1073741824 := by decide
  rw [e]; omega) (by decide) (by decide)
theorem cmul_small {i j : Int} (h0 : i.natAbs < 18446744073709551616) (h : j.natAbs < 18446744073709551616) : CMulW i j := by
  have e : (2 : Nat) ^ 64 = 18446744073709551616 := by decide
  exact wide_mul (a := 64) (b := 64) (by rw [e]; exact h0) (by rw [e]; exact h) (by decide) (by decide) (by decide)

/-! fractions -/
def frac (q : Rat) : PyData := .tuple [.int q.num, .int (q.den : Int)]
theorem frac_mk (t : Int) (b : Nat) (hb : b ≠ 0) : frac (mkRat t b) = .tuple [.int (t / (Nat.gcd b t.natAbs : Nat)), .int ((b / Nat.gcd b t.natAbs : Nat) : Int)] := by
  unfold frac
  rw [Rat.num_mkRat, Rat.den_mkRat, if_neg hb, if_neg hb]
theorem frac_int (n : Int) : frac (n : Rat) = .tuple [.int n, .int 1] := rfl
theorem depth_frac (q : Rat) : (frac q).depth = 1 := by simp [frac, PyData.depth, PyData.depthAll]
theorem shaped_frac (q : Rat) : SeqAt.shaped (frac q) = true := by simp [SeqAt.shaped, frac, PyData.canLay0, PyData.canLayAll0, PyData.depth, PyData.depthAll]
theorem noDict_frac (q : Rat) : (frac q).hasDict = false := by simp [frac, PyData.hasDict, PyData.hasDictAll]
theorem frac_inj {p q : Rat} (h : frac p = frac q) : p = q := by
  unfold frac at h
  have h1 : p.num = q.num := by injection h with h; injection h with h1 h2; injection h1
  have h2 : (p.den : Int) = q.den := by injection h with h; injection h with h1 h2; injection h2 with h2; injection h2
  exact Rat.ext h1 (by omega)

/-! ints of bounded size are shown -/
theorem log2_of_bt {i : Int} {a : Nat} (h : Bt i a) (h0 : 0 < a) : i.natAbs.log2 < a := PySem.Flt.log2_lt_of h0 h
theorem showable_int {i : Int} {a : Nat} (h : Bt i a) (h0 : 0 < a) (ha : a ≤ 1920) : (PyData.int i).showable = true := by
  simp only [PyData.showable]
  exact decide_eq_true (Nat.lt_of_lt_of_le (log2_of_bt h h0) ha)

/-! what may be shown: how deep, how long -/
structure Sh (d : PyData) (k n : Nat) : Prop where
  nd : d.hasDict = false
  dp : d.depth ≤ k
  sh : d.showable = true
  ln : d.shown.length ≤ n
theorem Sh.mono {d : PyData} {k n k' n' : Nat} (h : Sh d k n) (h1 : k ≤ k') (h2 : n ≤ n') : Sh d k' n' := ⟨h.nd, Nat.le_trans h.dp h1, h.sh, Nat.le_trans h.ln h2⟩
theorem sh_int {i : Int} {a : Nat} (h : Bt i a) (h0 : 0 < a) (ha : a ≤ 1920) : Sh (.int i) 0 (a + 1) := by
  refine ⟨by simp only [PyData.hasDict], by simp only [PyData.depth]; exact Nat.le_refl 0, showable_int h h0 ha, ?_⟩
  simp only [PyData.shown]
  rw [ofString_length]
  exact int_text_length_le h0 (log2_of_bt h h0)
theorem sh_bool (b : Bool) : Sh (.bool b) 0 5 := by
  refine ⟨by simp only [PyData.hasDict], by simp only [PyData.depth]; exact Nat.le_refl 0, by simp only [PyData.showable], ?_⟩
  simp only [PyData.shown]
  cases b <;> decide
theorem sh_none : Sh .none 0 4 := by
  refine ⟨by simp only [PyData.hasDict], by simp only [PyData.depth]; exact Nat.le_refl 0, by simp only [PyData.showable], ?_⟩
  simp only [PyData.shown]
  decide
theorem shAll {k n : Nat} : ∀ {ds : List PyData}, (∀ d ∈ ds, Sh d k n) → PyData.hasDictAll ds = false ∧ PyData.depthAll ds ≤ k ∧ PyData.showableAll ds = true ∧ ((PyData.shownAll ds).map (·.length)).sum ≤ n * ds.length ∧ (PyData.shownAll ds).length = ds.length
  | [], _ => ⟨by simp only [PyData.hasDictAll], by simp only [PyData.depthAll]; exact Nat.zero_le _, by simp only [PyData.showableAll], by simp [PyData.shownAll], by simp [PyData.shownAll]⟩
  | d :: ds, h => by
    have h1 := h d (List.mem_cons_self ..)
    obtain ⟨a, b, c, e, f⟩ := shAll (ds := ds) fun x hx => h x (List.mem_cons_of_mem _ hx)
    refine ⟨by simp only [PyData.hasDictAll, h1.nd, a]; rfl, ?_, by simp only [PyData.showableAll, h1.sh, c]; rfl, ?_, ?_⟩
    · simp only [PyData.depthAll]
      exact Nat.max_le.mpr ⟨h1.dp, b⟩
    · have := h1.ln
      simp only [PyData.shownAll, List.map_cons, List.sum_cons, List.length_cons]
      rw [Nat.mul_succ]
      omega
    · simp only [PyData.shownAll, List.length_cons, f]
theorem sh_tuple {ds : List PyData} {k n c : Nat} (h : ∀ d ∈ ds, Sh d k n) (hc : ds.length ≤ c) : Sh (.tuple ds) (k + 1) ((n + 2) * c + 3) := by
  obtain ⟨a, b, e, f, g⟩ := shAll h
  refine ⟨by simp only [PyData.hasDict, a], by simp only [PyData.depth]; omega, by simp only [PyData.showable, e], ?_⟩
  simp only [PyData.shown]
  have := tupleText_len_le (PyData.shownAll ds)
  have h1 : n * ds.length ≤ n * c := Nat.mul_le_mul_left n hc
  have h2 : (n + 2) * c = n * c + 2 * c := Nat.add_mul n 2 c
  omega
theorem sh_list {ds : List PyData} {k n c : Nat} (h : ∀ d ∈ ds, Sh d k n) (hc : ds.length ≤ c) : Sh (.list ds) (k + 1) ((n + 2) * c + 3) := by
  obtain ⟨a, b, e, f, g⟩ := shAll h
  refine ⟨by simp only [PyData.hasDict, a], by simp only [PyData.depth]; omega, by simp only [PyData.showable, e], ?_⟩
  simp only [PyData.shown]
  have := listText_len_le (PyData.shownAll ds)
  have h1 : n * ds.length ≤ n * c := Nat.mul_le_mul_left n hc
  have h2 : (n + 2) * c = n * c + 2 * c := Nat.add_mul n 2 c
  omega
theorem on_show {K : PySem.W.Frag} {m : Mm} {Q : Val → Mm → Prop} {x : PyData} {k n : Nat} (h : Sh x k n) (h1 : k ≤ 64) (h2 : n ≤ 16777216) (q : Q (.d (.str x.shown)) m) : OpN K (rRepr K) [.d x] m Q :=
  on_repr h.nd (Nat.le_trans h.dp h1) h.sh (Nat.le_trans h.ln (by rw [sizeLine_eq]; exact h2)) q
/-- a fraction of small enough parts -/
def FrB (q : Rat) (a : Nat) : Prop := Bt q.num a ∧ Bt (q.den : Int) a
theorem sh_frac {q : Rat} {a : Nat} (h : FrB q a) (h0 : 0 < a) (ha : a ≤ 1920) : Sh (frac q) 1 4000 := by
  unfold frac
  refine (sh_tuple (ds := [.int q.num, .int (q.den : Int)]) (k := 0) (n := a + 1) (c := 2) (fun d hd => ?_) (Nat.le_refl 2)).mono (Nat.le_refl _) (by omega)
  rcases List.mem_cons.mp hd with e | hd
  · rw [e]; exact sh_int h.1 h0 ha
  · rw [List.mem_singleton.mp hd]; exact sh_int h.2 h0 ha
end DL


namespace DL
open PySem L2

theorem br_t {c : Bool} {A B : Prop} (h : c = true) (a : A) : (c = true → A) ∧ (c = false → B) := ⟨fun _ => a, fun g => by rw [h] at g; cases g⟩
theorem br_f {c : Bool} {A B : Prop} (h : c = false) (b : B) : (c = true → A) ∧ (c = false → B) := ⟨(fun g => by rw [h] at g; cases g), (fun _ => b)⟩
theorem take_one {α : Type} {ds : List α} {i : Nat} {d : α} (h : ds[i]? = some d) : ds.take (i + 1) = ds.take i ++ [d] := by
  rw [List.take_succ, h]; rfl
theorem range_one (i : Nat) : List.range (i + 1) = List.range i ++ [i] := List.range_succ

section
variable {K : PySem.W.Frag} {r : List Val} {m : Mm} {Q : Val → Mm → Prop} {te tl : TE} {tt : TT} {j : Nat} {ds : List PyData}
theorem ev_mapT (h : Ev K tl r m fun x m1 => x = .d (.tuple ds) ∧ m1 = m) (hn : ds.length ≤ 100000) (f : PyData → PyData)
    (hs : ∀ (i : Nat) (d : PyData) m', ds[i]? = some d → Ext m m' → Ev K te (r.set j (.d d)) m' fun x m3 => x = .d (f d) ∧ m3 = m') (q : Q (.d (.list (ds.map f))) m) : Ev K (tLc (iTup K tl) (gName j) tYes te [j]) r m Q :=
  ev_lcT h hn (fun i acc => acc = (ds.take i).map f) (by simp) (fun i d m' acc hd hx hw => evt_yes ⟨rfl, fun _ => (hs i d m' hd hx).imp fun x m3 e => ⟨e.2, f d, e.1, by rw [hw, take_one hd, List.map_append]; rfl⟩, (fun g => nomatch g)⟩)
    (fun acc hw => by rw [hw, List.take_length]; exact q)
theorem ev_mapL (h : Ev K tl r m fun x m1 => x = .d (.list ds) ∧ m1 = m) (hn : ds.length ≤ 100000) (f : PyData → PyData)
    (hs : ∀ (i : Nat) (d : PyData) m', ds[i]? = some d → Ext m m' → Ev K te (r.set j (.d d)) m' fun x m3 => x = .d (f d) ∧ m3 = m') (q : Q (.d (.list (ds.map f))) m) : Ev K (tLc (iList K tl) (gName j) tYes te [j]) r m Q :=
  ev_lcL h hn (fun i acc => acc = (ds.take i).map f) (by simp) (fun i d m' acc hd hx hw => evt_yes ⟨rfl, fun _ => (hs i d m' hd hx).imp fun x m3 e => ⟨e.2, f d, e.1, by rw [hw, take_one hd, List.map_append]; rfl⟩, (fun g => nomatch g)⟩)
    (fun acc hw => by rw [hw, List.take_length]; exact q)
theorem ev_filT (h : Ev K tl r m fun x m1 => x = .d (.tuple ds) ∧ m1 = m) (hn : ds.length ≤ 100000) (p : PyData → Bool) (f : PyData → PyData)
    (ht : ∀ (i : Nat) (d : PyData) m', ds[i]? = some d → Ext m m' → EvT K tt (r.set j (.d d)) m' fun b m3 => b = p d ∧ m3 = m')
    (hs : ∀ (i : Nat) (d : PyData) m', ds[i]? = some d → Ext m m' → p d = true → Ev K te (r.set j (.d d)) m' fun x m3 => x = .d (f d) ∧ m3 = m') (q : Q (.d (.list ((ds.filter p).map f))) m) : Ev K (tLc (iTup K tl) (gName j) tt te [j]) r m Q :=
  ev_lcT h hn (fun i acc => acc = ((ds.take i).filter p).map f) (by simp) (fun i d m' acc hd hx hw => (ht i d m' hd hx).imp fun b m2 e => ⟨e.2, fun hb => (hs i d m' hd hx (e.1.symm.trans hb)).imp fun x m3 e2 => ⟨e2.2, f d, e2.1, by
      rw [hw, take_one hd, List.filter_append, List.map_append, List.filter_cons, if_pos (e.1.symm.trans hb)]; rfl⟩, fun hb => by
      rw [hw, take_one hd, List.filter_append, List.map_append, List.filter_cons, if_neg (by rw [← e.1, hb]; decide)]; simp⟩)
    (fun acc hw => by rw [hw, List.take_length]; exact q)
theorem ev_filL (h : Ev K tl r m fun x m1 => x = .d (.list ds) ∧ m1 = m) (hn : ds.length ≤ 100000) (p : PyData → Bool) (f : PyData → PyData)
    (ht : ∀ (i : Nat) (d : PyData) m', ds[i]? = some d → Ext m m' → EvT K tt (r.set j (.d d)) m' fun b m3 => b = p d ∧ m3 = m')
    (hs : ∀ (i : Nat) (d : PyData) m', ds[i]? = some d → Ext m m' → p d = true → Ev K te (r.set j (.d d)) m' fun x m3 => x = .d (f d) ∧ m3 = m') (q : Q (.d (.list ((ds.filter p).map f))) m) : Ev K (tLc (iList K tl) (gName j) tt te [j]) r m Q :=
  ev_lcL h hn (fun i acc => acc = ((ds.take i).filter p).map f) (by simp) (fun i d m' acc hd hx hw => (ht i d m' hd hx).imp fun b m2 e => ⟨e.2, fun hb => (hs i d m' hd hx (e.1.symm.trans hb)).imp fun x m3 e2 => ⟨e2.2, f d, e2.1, by
      rw [hw, take_one hd, List.filter_append, List.map_append, List.filter_cons, if_pos (e.1.symm.trans hb)]; rfl⟩, fun hb => by
      rw [hw, take_one hd, List.filter_append, List.map_append, List.filter_cons, if_neg (by rw [← e.1, hb]; decide)]; simp⟩)
    (fun acc hw => by rw [hw, List.take_length]; exact q)
theorem ev_mapR1 {ta : TA} {n : Nat} (h : EvA K ta r m fun xs m1 => xs = [.d (.int (n : Int))] ∧ m1 = m) (hn : n ≤ 100000) (f : Nat → PyData)
    (hs : ∀ i m', i < n → Ext m m' → Ev K te (r.set j (.d (.int (i : Int)))) m' fun x m3 => x = .d (f i) ∧ m3 = m') (q : Q (.d (.list ((List.range n).map f))) m) : Ev K (tLc (iRng1 ta) (gName j) tYes te [j]) r m Q :=
  ev_lcR1 h hn (fun i acc => acc = (List.range i).map f) (by simp) (fun i m' acc hi hx hw => evt_yes ⟨rfl, fun _ => (hs i m' hi hx).imp fun x m3 e => ⟨e.2, f i, e.1, by rw [hw, range_one, List.map_append]; rfl⟩, (fun g => nomatch g)⟩)
    (fun acc hw => by rw [hw]; exact q)
theorem ev_mapR2 {ta : TA} {lo n : Nat} (h : EvA K ta r m fun xs m1 => xs = [.d (.int (lo : Int)), .d (.int ((lo + n : Nat) : Int))] ∧ m1 = m) (hn : lo + n ≤ 100000) (f : Nat → PyData)
    (hs : ∀ i m', i < n → Ext m m' → Ev K te (r.set j (.d (.int ((lo + i : Nat) : Int)))) m' fun x m3 => x = .d (f i) ∧ m3 = m') (q : Q (.d (.list ((List.range n).map f))) m) : Ev K (tLc (iRng2 ta) (gName j) tYes te [j]) r m Q :=
  ev_lcR2 h hn (fun i acc => acc = (List.range i).map f) (by simp) (fun i m' acc hi hx hw => evt_yes ⟨rfl, fun _ => (hs i m' hi hx).imp fun x m3 e => ⟨e.2, f i, e.1, by rw [hw, range_one, List.map_append]; rfl⟩, (fun g => nomatch g)⟩)
    (fun acc hw => by rw [hw]; exact q)
/-- a range that is none -/
theorem ev_lcR2' {ta : TA} (h : EvA K ta r m fun xs m1 => xs = [.d (.int 1), .d (.int 0)] ∧ m1 = m) (q : Q (.d (.list [])) m) : Ev K (tLc (iRng2 ta) (gName j) tt te [j]) r m Q := fun σ H G S L R k =>
  h σ H G S L _ fun vs H1 G1 xs m1 ⟨hx, hm⟩ S1 e1 r1 => by
    subst hx hm
    obtain ⟨v1, v2, rfl, a1, a2⟩ := vrs2 r1
    have a1 := int_of a1
    have a2 := int_of a2
    subst a1 a2
    refine ⟨1, 0, rfl, ⟨by omega, by omega, by omega, by omega⟩, fun D hD => ?_⟩
    have hmD := S1.freeM hD
    refine lc_range (lo := 1) (n := 0) (LcW K m1 G1 D (fun _ acc => acc = [])) (lc_start S1 hD rfl) (fun i H' hi => absurd hi (Nat.not_lt_zero i)) fun H' hP => ?_
    exact lc_end hmD hP (fun acc hw => by rw [hw]; exact q) fun v H' G' x m' q S' e' r' => k v H' G' x m' q S' (e1.trans e') r'
/-- drawn items: each may be any that P allows -/
theorem ev_anyR1 {ta : TA} {n : Nat} (h : EvA K ta r m fun xs m1 => xs = [.d (.int (n : Int))] ∧ m1 = m) (hn : n ≤ 100000) (P : Nat → PyData → Prop)
    (hs : ∀ i m', i < n → Ext m m' → Ev K te (r.set j (.d (.int (i : Int)))) m' fun x m3 => (∃ y, x = .d y ∧ P i y) ∧ m3 = m') (q : ∀ ds : List PyData, ds.length = n → (∀ (i : Nat) (d : PyData), ds[i]? = some d → P i d) → Q (.d (.list ds)) m) : Ev K (tLc (iRng1 ta) (gName j) tYes te [j]) r m Q :=
  ev_lcR1 h hn (fun i acc => acc.length = i ∧ ∀ (k : Nat) (d : PyData), acc[k]? = some d → P k d) ⟨rfl, fun k d hk => by simp at hk⟩ (fun i m' acc hi hx hw => evt_yes ⟨rfl, fun _ => (hs i m' hi hx).imp fun x m3 e => ⟨e.2, by
      obtain ⟨y, hy, hp⟩ := e.1
      refine ⟨y, hy, by rw [List.length_append, hw.1]; rfl, fun k d hk => ?_⟩
      by_cases hki : k < i
      · rw [List.getElem?_append_left (by omega)] at hk
        exact hw.2 k d hk
      · have e2 : k = i := by
          have := (List.getElem?_eq_some_iff.mp hk).1
          rw [List.length_append, hw.1] at this
          simp at this
          omega
        subst e2
        rw [List.getElem?_append_right (by omega), hw.1] at hk
        simp at hk
        subst hk
        exact hp⟩, (fun g => nomatch g)⟩)
    (fun acc hw => q acc hw.1 hw.2)
end
end DL


namespace DL
open PySem L2

def f_gcd : FSp := fun args m R => ∃ a b : Nat, args = [.d (.int (a : Int)), .d (.int (b : Int))] ∧ R (.d (.int ((Nat.gcd a b : Nat) : Int))) m

def f_made : FSp := fun args m R => ∃ (t : Int) (b : Nat), args = [.d (.int t), .d (.int (b : Int))] ∧ 0 < b ∧ Bt (b : Int) 8000 ∧ R (.d (frac (mkRat t b))) m

def isInt : PyData → Bool
  | .int _ => true
  | _ => false
def f_isWhole : FSp := fun args m R => ∃ x, args = [.d x] ∧ R (.d (.bool (isInt x))) m

def okS : PyData → Bool
  | .int i => decide (1 ≤ i) && decide (i ≤ 9)
  | _ => false
def isShares : PyData → Bool
  | .tuple ds => decide (1 ≤ ds.length) && (decide (ds.length ≤ 5) && ds.all okS)
  | _ => false
structure Shares (ss : List Int) : Prop where
  pos : 1 ≤ ss.length
  few : ss.length ≤ 5
  each : ∀ s ∈ ss, 1 ≤ s ∧ s ≤ 9
def tupI (ns : List Int) : PyData := .tuple (ns.map PyData.int)
def tupN (ks : List Nat) : PyData := .tuple ((ks.map fun (k : Nat) => (k : Int)).map PyData.int)
theorem isShares_of {ss : List Int} (h : Shares ss) : isShares (tupI ss) = true := by
  unfold isShares tupI
  dsimp only
  rw [List.length_map, decide_eq_true h.pos, decide_eq_true h.few, Bool.true_and, Bool.true_and, List.all_eq_true]
  intro d hd
  obtain ⟨i, hi, rfl⟩ := List.mem_map.mp hd
  obtain ⟨a, b⟩ := h.each i hi
  show (decide (1 ≤ i) && decide (i ≤ 9)) = true
  rw [decide_eq_true a, decide_eq_true b]; rfl
theorem int_shape {d : PyData} (h : isInt d = true) : ∃ i, d = .int i := by
  cases d with
  | int i => exact ⟨i, rfl⟩
  | _ => cases h
theorem tup_shape {d : PyData} (h : isTup d = true) : ∃ ds, d = .tuple ds := by
  cases d with
  | tuple i => exact ⟨i, rfl⟩
  | _ => cases h
def f_isShares : FSp := fun args m R => ∃ x, args = [.d x] ∧ R (.d (.bool (isShares x))) m

def f_needShares : FSp := fun args m R => ∃ x, args = [.d x] ∧ isShares x = true ∧ R (.d .none) m

def okK (n : Int) : PyData → Bool
  | .int i => decide (0 ≤ i) && decide (i < n)
  | _ => false
def intOf : PyData → Int
  | .int i => i
  | _ => 0
def rising (ds : List PyData) : Bool := (List.range (ds.length - 1)).all fun i => decide (intOf (ds.getD i .none) < intOf (ds.getD (i + 1) .none))
def areKinds (x : PyData) (n : Int) : Bool := match x with
  | .tuple ds => ds.all (okK n) && rising ds
  | _ => false
def shortD : PyData → Prop
  | .tuple ds => ds.length ≤ 90000
  | _ => True
def f_areKinds : FSp := fun args m R => ∃ x n, args = [.d x, .d (.int n)] ∧ shortD x ∧ R (.d (.bool (areKinds x n))) m

def f_needKinds : FSp := fun args m R => ∃ ds x, args = [.d (.tuple ds), .d x] ∧ shortD x ∧ areKinds x (ds.length : Int) = true ∧ R (.d .none) m

def sumP (ss : List Int) (ks : List Nat) : Int := (ks.map fun k => ss.getD k 0).sum
def f_sumPart : FSp := fun args m R => ∃ (ss : List Int) (ks : List Nat), args = [.d (tupI ss), .d (tupN ks)] ∧ ks.length ≤ 1000 ∧ (∀ k ∈ ks, k < ss.length) ∧ R (.d (.int (sumP ss ks))) m
theorem tupI_at {ss : List Int} {k : Nat} (h : k < ss.length) : atI (ss.map PyData.int) (k : Int) = some (.int (ss.getD k 0)) := by
  rw [atI_nth, List.getElem?_map, List.getD_eq_getElem?_getD, List.getElem?_eq_getElem h]; rfl

def f_total : FSp := fun args m R => ∃ ss : List Int, args = [.d (tupI ss)] ∧ Shares ss ∧ R (.d (.int ss.sum)) m

theorem shares_sum {ss : List Int} (h : Shares ss) : 1 ≤ ss.sum ∧ ss.sum ≤ 45 := by
  obtain ⟨h1, h2, h3⟩ := h
  match ss, h1, h2 with
  | [a], _, _ => have := h3 a (by simp); simp; omega
  | [a, b], _, _ => have := h3 a (by simp); have := h3 b (by simp); simp; omega
  | [a, b, c], _, _ => have := h3 a (by simp); have := h3 b (by simp); have := h3 c (by simp); simp; omega
  | [a, b, c, d], _, _ => have := h3 a (by simp); have := h3 b (by simp); have := h3 c (by simp); have := h3 d (by simp); simp; omega
  | [a, b, c, d, e], _, _ => have := h3 a (by simp); have := h3 b (by simp); have := h3 c (by simp); have := h3 d (by simp); have := h3 e (by simp); simp; omega
/-- some kinds of so many -/
structure Kinds (n : Nat) (ks : List Nat) : Prop where
  up : ks.Pairwise (· < ·)
  lt : ∀ k ∈ ks, k < n
theorem Kinds.len {n : Nat} {ks : List Nat} (h : Kinds n ks) : ks.length ≤ n := by
  have h1 : ks.Sublist (List.range n) := by
    have : ∀ (ks : List Nat) (m : Nat), ks.Pairwise (· < ·) → (∀ k ∈ ks, m ≤ k ∧ k < n) → ks.Sublist ((List.range n).drop m) := by
      intro ks
      induction ks with
      | nil => intro m _ _; exact List.nil_sublist _
      | cons k t ih =>
        intro m hp hl
        have hk := hl k (by simp)
        have hkn : k < (List.range n).length := by rw [List.length_range]; exact hk.2
        have hd : (List.range n).drop k = k :: (List.range n).drop (k + 1) := by
          rw [List.drop_eq_getElem_cons hkn, List.getElem_range]
        have h1 : (k :: t).Sublist ((List.range n).drop k) := by
          rw [hd]
          refine (ih (k + 1) (List.pairwise_cons.mp hp).2 fun x hx => ⟨?_, (hl x (by simp [hx])).2⟩).cons_cons k
          exact (List.pairwise_cons.mp hp).1 x hx
        refine h1.trans ?_
        have e : (List.range n).drop k = ((List.range n).drop m).drop (k - m) := by rw [List.drop_drop]; congr 1; omega
        rw [e]
        exact List.drop_sublist _ _
    exact this ks 0 h.up fun k hk => ⟨Nat.zero_le _, h.lt k hk⟩
  have := h1.length_le
  rw [List.length_range] at this
  exact this
theorem areKinds_of {n : Nat} {ks : List Nat} (h : Kinds n ks) : areKinds (tupN ks) (n : Int) = true := by
  show (((ks.map fun (k : Nat) => (k : Int)).map PyData.int).all (okK n) && rising ((ks.map fun (k : Nat) => (k : Int)).map PyData.int)) = true
  rw [Bool.and_eq_true]
  constructor
  · rw [List.all_eq_true]
    intro d hd
    rw [List.map_map] at hd
    obtain ⟨k, hk, rfl⟩ := List.mem_map.mp hd
    have := h.lt k hk
    show (decide ((0 : Int) ≤ (k : Int)) && decide ((k : Int) < (n : Int))) = true
    rw [decide_eq_true (by omega), decide_eq_true (by omega)]; rfl
  · unfold rising
    rw [List.all_eq_true]
    intro i hi
    rw [List.mem_range, List.length_map, List.length_map] at hi
    apply decide_eq_true
    have g : ∀ j, j < ks.length → intOf (((ks.map fun (k : Nat) => (k : Int)).map PyData.int).getD j .none) = (ks.getD j 0 : Nat) := by
      intro j hj
      rw [List.getD_eq_getElem?_getD, List.getElem?_map, List.getElem?_map, List.getD_eq_getElem?_getD, List.getElem?_eq_getElem hj]; rfl
    rw [g i (by omega), g (i + 1) (by omega)]
    have := List.pairwise_iff_getElem.mp h.up i (i + 1) (by omega) (by omega) (by omega)
    rw [List.getD_eq_getElem?_getD, List.getD_eq_getElem?_getD, List.getElem?_eq_getElem (by omega), List.getElem?_eq_getElem (by omega)]
    simp only [Option.getD_some]
    omega
theorem sumP_nonneg {ss : List Int} (h : Shares ss) : ∀ ks : List Nat, 0 ≤ sumP ss ks
  | [] => Int.le_refl 0
  | k :: t => by
    have ih := sumP_nonneg h t
    have e : sumP ss (k :: t) = ss.getD k 0 + sumP ss t := rfl
    have : 0 ≤ ss.getD k 0 := by
      rw [List.getD_eq_getElem?_getD]
      cases hk : ss[k]? with
      | none => decide
      | some s => have := h.each s (List.mem_of_getElem? hk); simp; omega
    omega
def f_part : FSp := fun args m R => ∃ (ss : List Int) (ks : List Nat), args = [.d (tupI ss), .d (tupN ks)] ∧ Shares ss ∧ Kinds ss.length ks ∧ R (.d (frac (mkRat (sumP ss ks) ss.sum.toNat))) m

theorem getD_bounds {ss : List Int} (h : Shares ss) (k : Nat) : 0 ≤ ss.getD k 0 ∧ ss.getD k 0 ≤ 9 := by
  rw [List.getD_eq_getElem?_getD]
  cases hk : ss[k]? with
  | none => exact ⟨by decide, by decide⟩
  | some s => have := h.each s (List.mem_of_getElem? hk); simp; omega
theorem sumP_le9 {ss : List Int} (h : Shares ss) : ∀ ks : List Nat, sumP ss ks ≤ 9 * (ks.length : Int)
  | [] => Int.le_refl 0
  | k :: t => by
    have ih := sumP_le9 h t
    have e : sumP ss (k :: t) = ss.getD k 0 + sumP ss t := rfl
    have := getD_bounds h k
    rw [List.length_cons]
    omega
theorem sumP_le {ss : List Int} (h : Shares ss) {ks : List Nat} (hk : Kinds ss.length ks) : sumP ss ks ≤ 45 := by
  have := sumP_le9 h ks
  have := hk.len
  have := h.few
  omega
theorem frB_mk {t : Int} {b a : Nat} (h1 : Bt t a) (h2 : Bt (b : Int) a) (h0 : 0 < b) : FrB (mkRat t b) a := by
  refine ⟨?_, ?_⟩
  · rw [Rat.num_mkRat, if_neg (by omega)]
    refine h1.le ?_
    rw [Int.natAbs_ediv_of_dvd (Int.ofNat_dvd_left.mpr (Nat.gcd_dvd_right b t.natAbs)), Int.natAbs_natCast]
    exact Nat.div_le_self _ _
  · rw [Rat.den_mkRat, if_neg (by omega)]
    exact h2.le (by simp only [Int.natAbs_natCast]; exact Nat.div_le_self _ _)
theorem on_lenI {K : PySem.W.Frag} {m : Mm} {Q : Val → Mm → Prop} {ss : List Int} (q : Q (.d (.int (ss.length : Int))) m) : OpN K (rLen K) [.d (tupI ss)] m Q := on_lenT (by rw [List.length_map]; exact q)
theorem on_lenN {K : PySem.W.Frag} {m : Mm} {Q : Val → Mm → Prop} {ks : List Nat} (q : Q (.d (.int (ks.length : Int))) m) : OpN K (rLen K) [.d (tupN ks)] m Q := on_lenT (by rw [List.length_map, List.length_map]; exact q)
theorem on_sumI {K : PySem.W.Frag} {m : Mm} {Q : Val → Mm → Prop} {ss : List Int} (q : Q (.d (.int ss.sum)) m) : OpN K (rSumA K) [.d (tupI ss)] m Q := on_sumT q
/-! fractions reckoned -/
theorem o2_ixF0 {K : PySem.W.Frag} {m : Mm} {Q : Val → Mm → Prop} {q : Rat} (h : Q (.d (.int q.num)) m) : Op2 K (rIx K) (.d (frac q)) (.d (.int 0)) m Q := o2_ixT (d := .int q.num) rfl h
theorem o2_ixF1 {K : PySem.W.Frag} {m : Mm} {Q : Val → Mm → Prop} {q : Rat} (h : Q (.d (.int (q.den : Int))) m) : Op2 K (rIx K) (.d (frac q)) (.d (.int 1)) m Q := o2_ixT (d := .int (q.den : Int)) rfl h
def f_sumOf : FSp := fun args m R => ∃ p q : Rat, args = [.d (frac p), .d (frac q)] ∧ FrB p 3900 ∧ FrB q 3900 ∧ R (.d (frac (p + q))) m
def f_timesOf : FSp := fun args m R => ∃ p q : Rat, args = [.d (frac p), .d (frac q)] ∧ FrB p 3900 ∧ FrB q 3900 ∧ R (.d (frac (p * q))) m
def f_below : FSp := fun args m R => ∃ p q : Rat, args = [.d (frac p), .d (frac q)] ∧ FrB p 3900 ∧ FrB q 3900 ∧ R (.d (.bool (decide (p < q)))) m
theorem FrB.mono {q : Rat} {a b : Nat} (h : FrB q a) (hb : a ≤ b) : FrB q b := ⟨h.1.mono hb, h.2.mono hb⟩
theorem den_pos (q : Rat) : 0 < q.den := Nat.pos_of_ne_zero q.den_nz
theorem FrB.add {p q : Rat} {a b c : Nat} (h : FrB p a) (g : FrB q b) (hc : a + b + 1 ≤ c) : FrB (p + q) c := by
  rw [Rat.add_def']
  refine frB_mk (((h.1.mul g.2).add (g.1.mul h.2) (c := a + b) (Nat.le_refl _) (by omega)).mono hc) (Bt.mono (a := a + b) ?_ (by omega)) (Nat.mul_pos (den_pos p) (den_pos q))
  rw [Int.natCast_mul]
  exact h.2.mul g.2
theorem FrB.mul {p q : Rat} {a b c : Nat} (h : FrB p a) (g : FrB q b) (hc : a + b ≤ c) : FrB (p * q) c := by
  rw [Rat.mul_def']
  refine frB_mk ((h.1.mul g.1).mono hc) (Bt.mono (a := a + b) ?_ hc) (Nat.mul_pos (den_pos p) (den_pos q))
  rw [Int.natCast_mul]
  exact h.2.mul g.2
theorem FrB.neg {p : Rat} {a : Nat} (h : FrB p a) : FrB (-p) a := ⟨h.1.neg, h.2⟩
theorem frac_neg (q : Rat) : (.tuple [.int (0 - q.num), .int (q.den : Int)] : PyData) = frac (-q) := by
  unfold frac
  rw [Rat.neg_num, Rat.neg_den, Int.zero_sub]
/-- whether a thing is a fraction -/
def isFrac : PyData → Bool
  | .tuple [.int t, .int b] => decide (1 ≤ b) && decide (Nat.gcd b.toNat t.natAbs = 1)
  | _ => false
def szFrac : PyData → Prop
  | .tuple [.int _, .int b] => Bt b 8000
  | _ => True
def f_isFrac : FSp := fun args m R => ∃ x, args = [.d x] ∧ szFrac x ∧ R (.d (.bool (isFrac x))) m
def f_needFrac : FSp := fun args m R => ∃ q : Rat, args = [.d (frac q)] ∧ FrB q 3900 ∧ R (.d .none) m
theorem isFrac_frac (q : Rat) : isFrac (frac q) = true := by
  show (decide (1 ≤ (q.den : Int)) && decide (Nat.gcd ((q.den : Int)).toNat q.num.natAbs = 1)) = true
  have h := q.reduced
  have hd := den_pos q
  rw [decide_eq_true (by omega), decide_eq_true (by rw [Int.toNat_natCast, Nat.gcd_comm]; exact h)]; rfl
theorem eqv_frac2 (t : Int) (b : Nat) (hb : 0 < b) : PyData.eqv (frac (mkRat t b)) (.tuple [.int t, .int (b : Int)]) = decide (Nat.gcd b t.natAbs = 1) := by
  rw [frac_mk t b (by omega)]
  simp only [PyData.eqv, PyData.eqvAll, Bool.and_true]
  by_cases h : Nat.gcd b t.natAbs = 1
  · rw [decide_eq_true h]
    simp [h]
  · rw [decide_eq_false h]
    have hg : 0 < Nat.gcd b t.natAbs := Nat.gcd_pos_of_pos_left _ hb
    have hlt : b / Nat.gcd b t.natAbs < b := Nat.div_lt_self hb (by omega)
    have e : ((((b / Nat.gcd b t.natAbs : Nat) : Int)) == (b : Int)) = false := beq_eq_false_iff_ne.mpr (by omega)
    rw [e, Bool.and_false]
def f_lowest : FSp := fun args m R => ∃ (t : Int) (b : Nat), args = [.d (.int t), .d (.int (b : Int))] ∧ 0 < b ∧ Bt (b : Int) 8000 ∧ R (.d (frac (mkRat t b))) m
def f_added : FSp := f_sumOf
def f_lessened : FSp := fun args m R => ∃ p q : Rat, args = [.d (frac p), .d (frac q)] ∧ FrB p 3900 ∧ FrB q 3900 ∧ R (.d (frac (p - q))) m
def f_drawnNumber : FSp := fun args m R => ∃ p : Addr, args = [.v (.ref p)] ∧ m p = some .box ∧ ∀ z : Int, z.natAbs ≤ 10000000000000000000 → R (.d (.int z)) m
def f_truth : FSp := fun args m R => ∃ a b : Bool, args = [.d (.bool a), .d (.bool b)] ∧ R (.d (.bool (decide (a = b)))) m
/-! a law's own helpers -/
theorem bt_lit {i : Int} {n a : Nat} (h : i.natAbs < 2 ^ n) (ha : n ≤ a) : Bt i a := Bt.mono (show Bt i n from h) ha
def f_cell : FSp := fun args m R => ∃ (ns : List Int) (k : Nat), args = [.scr ns, .d (.int (k : Int))] ∧ ∀ z : Int, R (.d (.int z)) m
def f_mix : FSp := fun args m R => ∃ (c : Int) (k : Nat), args = [.d (.int c), .d (.int (k : Int))] ∧ k ≤ 1000 ∧ ∀ z : Int, 0 ≤ z → z < 1073741824 → R (.d (.int z)) m
def f_box : FSp := fun args m R => ∃ (ns : List Int) (k : Nat), args = [.scr ns, .d (.int (k : Int))] ∧ ∀ p, m p = none → R (.v (.ref p)) (put m p .box)
def f_take : FSp := fun args m R => ∃ (p : Addr) (k : Int), args = [.v (.ref p), .d (.int k)] ∧ m p = some .box ∧ 0 < k ∧ Bt k 8000 ∧ ∀ z : Int, 0 ≤ z → z < k → R (.d (.int z)) m
def f_drawnShares : FSp := fun args m R => ∃ (p : Addr) (a b : Int), args = [.v (.ref p), .d (.int a), .d (.int b)] ∧ m p = some .box ∧ 1 ≤ a ∧ a ≤ 5 ∧ 2 ≤ b ∧ b ≤ 9 ∧ ∀ ss : List Int, Shares ss → (ss.length : Int) ≤ a → R (.d (tupI ss)) m
def f_some : FSp := fun args m R => ∃ (p : Addr) (n : Nat), args = [.v (.ref p), .d (.int (n : Int))] ∧ m p = some .box ∧ n ≤ 1000 ∧ ∀ ks : List Nat, Kinds n ks → R (.d (tupN ks)) m
def f_law : FSp := fun args m R => ∃ ns : List Int, args = [.scr ns] ∧ ∀ m', R (.d (.bool true)) m'
theorem mem_tupN {ks : List Nat} {i : Nat} {d : PyData} (h : ((ks.map fun (k : Nat) => (k : Int)).map PyData.int)[i]? = some d) : ∃ k, k ∈ ks ∧ d = .int (k : Int) := by
  have := List.mem_of_getElem? h
  rw [List.map_map] at this
  obtain ⟨k, h1, h2⟩ := List.mem_map.mp this
  exact ⟨k, h1, h2.symm⟩
theorem rngD_eq (n : Nat) : PyData.tuple (rngD 0 n) = tupN (List.range n) := by
  unfold rngD tupN
  rw [List.map_map]
  congr 1
  exact List.map_congr_left fun i _ => by rw [Nat.zero_add]; rfl
theorem kinds_all (n : Nat) : Kinds n (List.range n) := ⟨List.pairwise_lt_range, fun k hk => List.mem_range.mp hk⟩
theorem kinds_nil (n : Nat) : Kinds n [] := ⟨List.Pairwise.nil, (fun k hk => nomatch hk)⟩
section
variable {K : PySem.W.Frag} {r : List Val} {m : Mm} {Q : Val → Mm → Prop} {te tl : TE} {t : TS} {j : Nat} {N : List Val → Mm → Prop} {E : Val → Mm → Prop}
/-- [shares[kind] for kind in some] -/
theorem ev_pick {a b : Nat} {ss : List Int} {ks : List Nat} (ha : r[a]? = some (.d (tupN ks))) (hb : r[b]? = some (.d (tupI ss))) (hj : j < r.length) (h2 : j ≠ b) (hz : ks.length ≤ 1000) (hk : ∀ k ∈ ks, k < ss.length) (q : Q (.d (.list ((ks.map fun k => ss.getD k 0).map PyData.int))) m) :
    Ev K (tLc (iTup K (tVar a)) (gName j) tYes (tOp (rIx K) (tVar b) (tVar j)) [j]) r m Q := by
  refine ev_mapT (ds := (ks.map fun (k : Nat) => (k : Int)).map PyData.int) (ev_var ha (fun h => nomatch h) ⟨rfl, rfl⟩) (by rw [List.length_map, List.length_map]; omega) (fun d => .int (ss.getD (intOf d).toNat 0)) (fun i d m' hd hx => ?_) ?_
  · obtain ⟨k, hk1, rfl⟩ := mem_tupN hd
    refine ev_op (ev_var (x := .d (tupI ss)) (by rw [List.getElem?_set_ne h2]; exact hb) (fun h => nomatch h) (ev_var (x := .d (.int (k : Int))) (by rw [List.getElem?_set_self hj]) (fun h => nomatch h) (o2_ixT (tupI_at (hk k hk1)) ⟨rfl, rfl⟩)))
  · have e : ((ks.map fun (k : Nat) => (k : Int)).map PyData.int).map (fun d => PyData.int (ss.getD (intOf d).toNat 0)) = (ks.map fun k => ss.getD k 0).map PyData.int := by
      rw [List.map_map, List.map_map, List.map_map]
      exact List.map_congr_left fun k _ => rfl
    rw [e]
    exact q
end
end DL


namespace DL
open PySem L2

section
variable {K : PySem.W.Frag} {r : List Val} {m : Mm} {Q : Val → Mm → Prop} {ta tb tc te : TE} {tt : TT}
/-! a list that may change, so many times -/
theorem VRs.rep {G : Hp} {rs : List Val} {xs : List V} (h : VRs K G rs xs) : ∀ n : Nat, VRs K G (List.replicate n rs).flatten (List.replicate n xs).flatten
  | 0 => rfl
  | n + 1 => by
    rw [List.replicate_succ, List.replicate_succ, List.flatten_cons, List.flatten_cons]
    exact h.append (VRs.rep h n)
theorem o2_mulM {p : Addr} {rs : List Val} {n : Nat} (hm : m p = some (.lst rs)) (hl : rs.length ≤ 100) (hn : n ≤ 1000) (q : ∀ l, m l = none → Q (.v (.ref l)) (put m l (.lst (List.replicate n rs).flatten))) : Op2 K (rMul K) (.v (.ref p)) (.d (.int (n : Int))) m Q := fun H G v w S a b R k => by
  rw [int_of b, a.eq]
  obtain ⟨xs, g1, g2⟩ := S.mem p _ hm
  have hlen := g2.length
  have en : ((n : Int)).toNat = n := by omega
  refine Or.inr (Or.inr (Or.inr ⟨p, (n : Int), xs, rfl, rfl, g1, by omega, by omega, ?_, fun l hl => ?_⟩))
  · rw [en, hlen]
    exact Nat.le_trans (Nat.mul_le_mul hl hn) (by decide)
  · rw [en]
    exact k _ _ G _ _ (q l (S.freeM hl)) (S.new hl ⟨_, upd_same, g2.rep n⟩) (Le.refl G) .v
/-! parts -/
def EvO (K : PySem.W.Frag) (t : TO) (r : List Val) (m : Mm) (Q : Option Int → Mm → Prop) : Prop :=
  ∀ σ H G, Sta K m H G → Sl K G r σ → ∀ R : Option Int → Hp → Prop, (∀ H' G' x m', Q x m' → Sta K m' H' G' → Le G G' → R x H') → t σ H R
theorem evo_none {Q : Option Int → Mm → Prop} (q : Q none m) : EvO K tNoPart r m Q := fun σ H G S L R k => k H G none m q S (Le.refl G)
theorem evo_some {Q : Option Int → Mm → Prop} (h : Ev K te r m fun x m1 => ∃ i : Int, x = .d (.int i) ∧ Q (some i) m1) : EvO K (tPart te) r m Q := fun σ H G S L R k =>
  h σ H G S L _ fun v H1 G1 x m1 ⟨i, hx, q⟩ S1 e1 r1 => by
    subst hx
    exact ⟨i, int_of r1, k H1 G1 _ m1 q S1 e1⟩
def cutD (ds : List PyData) (lo hi : Option Int) : List PyData := (ds.drop (HT.sIx ds.length 0 lo)).take (HT.sIx ds.length ds.length hi - HT.sIx ds.length 0 lo)
theorem RpAll.drop {G : Hp} : ∀ {ds : List PyData} {xs : List V} (n : Nat), RpAll K G ds xs → RpAll K G (ds.drop n) (xs.drop n)
  | ds, xs, 0, h => h
  | [], xs, n + 1, h => by rw [rpa_nil.mp h]; exact rpa_nil.mpr rfl
  | d :: ds, xs, n + 1, h => by
    obtain ⟨x, r, rfl, h2, h3⟩ := rpa_cons.mp h
    exact RpAll.drop n h3
theorem RpAll.take {G : Hp} : ∀ {ds : List PyData} {xs : List V} (n : Nat), RpAll K G ds xs → RpAll K G (ds.take n) (xs.take n)
  | ds, xs, 0, h => rpa_nil.mpr rfl
  | [], xs, n + 1, h => by rw [rpa_nil.mp h]; exact rpa_nil.mpr rfl
  | d :: ds, xs, n + 1, h => by
    obtain ⟨x, r, rfl, h2, h3⟩ := rpa_cons.mp h
    exact rpa_cons.mpr ⟨x, r.take n, rfl, h2, RpAll.take n h3⟩
theorem RpAll.cut {G : Hp} {ds : List PyData} {xs : List V} (h : RpAll K G ds xs) (lo hi : Option Int) : RpAll K G (cutD ds lo hi) (cutV xs lo hi) := by
  unfold cutD cutV
  rw [h.length]
  exact RpAll.take _ (RpAll.drop _ h)
theorem ev_slL {tl th : TO} (h : Ev K te r m fun x m1 => ∃ ds, x = .d (.list ds) ∧ EvO K tl r m1 fun lo m2 => EvO K th r m2 fun hi m3 => Q (.d (.list (cutD ds lo hi))) m3) : Ev K (tSl (rSlL K) te tl th) r m Q := fun σ H G S L R k =>
  h σ H G S L _ fun v H1 G1 x m1 ⟨ds, hx, h1⟩ S1 e1 r1 => h1 σ H1 G1 S1 (L.mono e1) _ fun H2 G2 lo m2 h2 S2 e2 => h2 σ H2 G2 S2 (L.mono (e1.trans e2)) _ fun H3 G3 hi m3 q S3 e3 => by
    subst hx
    obtain ⟨p, xs, hv, g1, g2⟩ := rp_list.mp (Rp.mono (e2.trans e3) _ _ r1.rp)
    refine ⟨p, xs, hv, Or.inl (Le.rd S3.sub g1), fun l hl => ?_⟩
    have hg := S3.free hl
    exact k _ _ (upd G3 l _) _ m3 q (S3.fix hl) (e1.trans (e2.trans (e3.trans (Le.new hg)))) (.d (rp_list.mpr ⟨l, _, rfl, Rd.of upd_same, RpAll.mono (Le.new hg) _ _ (g2.cut lo hi)⟩))
theorem cut_whole {α : Type} (ds : List α) {a b : Nat} (h : a = 0 ∧ b = ds.length) : (ds.drop a).take (b - a) = ds := by
  rw [h.1, h.2, List.drop_zero, Nat.sub_zero, List.take_length]
theorem ev_slT {tl th : TO} (h : Ev K te r m fun x m1 => ∃ ds, x = .d (.tuple ds) ∧ EvO K tl r m1 fun lo m2 => EvO K th r m2 fun hi m3 => Q (.d (.tuple (cutD ds lo hi))) m3) : Ev K (tSl (rSlA K) te tl th) r m Q := fun σ H G S L R k =>
  h σ H G S L _ fun v H1 G1 x m1 ⟨ds, hx, h1⟩ S1 e1 r1 => h1 σ H1 G1 S1 (L.mono e1) _ fun H2 G2 lo m2 h2 S2 e2 => h2 σ H2 G2 S2 (L.mono (e1.trans e2)) _ fun H3 G3 hi m3 q S3 e3 => by
    subst hx
    obtain ⟨p, xs, hv, g1, g2⟩ := rp_tuple.mp (Rp.mono (e2.trans e3) _ _ r1.rp)
    refine ⟨p, xs, hv, S3.sqT g1, fun hw => ?_, fun _ l hl => ?_⟩
    · rw [g2.length] at hw
      have e : cutD ds lo hi = ds := cut_whole ds hw
      have q : Q (.d (.tuple (cutD ds lo hi))) m3 := q
      rw [e] at q
      exact k _ H3 G3 _ m3 q S3 (e1.trans (e2.trans e3)) (.d (rp_tuple.mpr ⟨p, xs, rfl, g1, g2⟩))
    · have hg := S3.free hl
      exact k _ _ (upd G3 l _) _ m3 q (S3.fix hl) (e1.trans (e2.trans (e3.trans (Le.new hg)))) (.d (rp_tuple.mpr ⟨l, _, rfl, SqT.of upd_same, RpAll.mono (Le.new hg) _ _ (g2.cut lo hi)⟩))
theorem cutD_mem {ds : List PyData} {lo hi : Option Int} {d : PyData} (h : d ∈ cutD ds lo hi) : d ∈ ds := List.mem_of_mem_drop (List.mem_of_mem_take h)
theorem cutD_len (ds : List PyData) (lo hi : Option Int) : (cutD ds lo hi).length ≤ ds.length := by
  unfold cutD
  rw [List.length_take, List.length_drop]; omega
/-! truth, and what is the very same -/
def rIsBl : R2 := fun x y H Q => ∃ a b, x = .bl a ∧ y = .bl b ∧ Q (.bl (decide (a = b))) H
def rIsNotBl : R2 := fun x y H Q => ∃ a b, x = .bl a ∧ y = .bl b ∧ Q (.bl (!decide (a = b))) H
theorem oIs {X : Cx} : OpR X (compareOp .Is) rIsBl := op_is_bl
theorem oIsNot {X : Cx} : OpR X (compareOp .IsNot) rIsNotBl := op_isnot_bl
theorem o2_isB {a b : Bool} (q : Q (.d (.bool (decide (a = b)))) m) : Op2 K rIsBl (.d (.bool a)) (.d (.bool b)) m Q := fun H G v w S x y R k => by
  rw [bool_of x, bool_of y]
  exact ⟨a, b, rfl, rfl, k _ H G _ m q S (Le.refl G) vr_bool⟩
theorem o2_isNotB {a b : Bool} (q : Q (.d (.bool (!decide (a = b)))) m) : Op2 K rIsNotBl (.d (.bool a)) (.d (.bool b)) m Q := fun H G v w S x y R k => by
  rw [bool_of x, bool_of y]
  exact ⟨a, b, rfl, rfl, k _ H G _ m q S (Le.refl G) vr_bool⟩
/-! in -/
theorem oInS {X : Cx} (K : PySem.W.Frag) (h : X.K = K := by rfl) : OpR X (compareOp .In) (rIn K false) := h ▸ op_in_seq
theorem oNotInS {X : Cx} (K : PySem.W.Frag) (h : X.K = K := by rfl) : OpR X (compareOp .NotIn) (rIn K true) := h ▸ op_notIn_seq
theorem inV_ints (i : Int) (ns : List Int) : inV (.int i) (ns.map V.int) = decide (i ∈ ns) := by
  unfold inV
  rw [List.any_map]
  induction ns with
  | nil => rfl
  | cons n ns ih =>
    rw [List.any_cons, ih]
    by_cases h : i = n
    · subst h; simp [eqV]
    · have h2 : ¬ n = i := fun e => h e.symm
      simp [eqV, h, h2]
theorem flat_ints (ns : List Int) : (ns.map V.int).all flatV = true := by
  rw [List.all_map, List.all_eq_true]; intro x _; rfl
theorem o2_inI {i : Int} {ns : List Int} {neg : Bool} (q : Q (.d (.bool (if neg then !decide (i ∈ ns) else decide (i ∈ ns)))) m) : Op2 K (rIn K neg) (.d (.int i)) (.d (.tuple (ns.map PyData.int))) m Q := fun H G v w S x y R k => by
  rw [int_of x]
  obtain ⟨p, xs, rfl, g1, g2⟩ := rp_tuple.mp y.rp
  rw [g2.ints] at g1
  refine ⟨p, _, rfl, Or.inr (S.sqT g1), rfl, flat_ints ns, ?_⟩
  rw [inV_ints]
  exact k _ H G _ m q S (Le.refl G) vr_bool
theorem mem_natI {k : Nat} {ks : List Nat} : ((k : Int) ∈ ks.map fun (k : Nat) => (k : Int)) ↔ k ∈ ks := by
  constructor
  · intro h
    obtain ⟨j, h1, h2⟩ := List.mem_map.mp h
    have : j = k := by omega
    rw [← this]; exact h1
  · intro h
    exact List.mem_map.mpr ⟨k, h, rfl⟩
theorem o2_inN {i : Nat} {ks : List Nat} (q : Q (.d (.bool (decide (i ∈ ks)))) m) : Op2 K (rIn K false) (.d (.int (i : Int))) (.d (tupN ks)) m Q := o2_inI (neg := false) (by
  have e : decide ((i : Int) ∈ ks.map fun (k : Nat) => (k : Int)) = decide (i ∈ ks) := decide_eq_decide.mpr mem_natI
  show Q (.d (.bool (decide ((i : Int) ∈ ks.map fun (k : Nat) => (k : Int))))) m
  rw [e]; exact q)
theorem o2_notInN {i : Nat} {ks : List Nat} (q : Q (.d (.bool (!decide (i ∈ ks)))) m) : Op2 K (rIn K true) (.d (.int (i : Int))) (.d (tupN ks)) m Q := o2_inI (neg := true) (by
  have e : decide ((i : Int) ∈ ks.map fun (k : Nat) => (k : Int)) = decide (i ∈ ks) := decide_eq_decide.mpr mem_natI
  show Q (.d (.bool (!decide ((i : Int) ∈ ks.map fun (k : Nat) => (k : Int))))) m
  rw [e]; exact q)
/-! xs[i] = e -/
variable {N : List Val → Mm → Prop} {E : Val → Mm → Prop} {t : TS}
theorem VRs.set {G : Hp} {y : Val} {v : V} (hv : VR K G y v) : ∀ {rs : List Val} {xs : List V} (i : Nat), VRs K G rs xs → VRs K G (rs.set i y) (xs.set i v)
  | [], xs, i, h => by
    have h : xs = [] := h
    subst h; exact rfl
  | r :: rs, xs, 0, h => by
    obtain ⟨x, t, rfl, h1, h2⟩ := h
    exact ⟨v, t, rfl, hv, h2⟩
  | r :: rs, xs, i + 1, h => by
    obtain ⟨x, t, rfl, h1, h2⟩ := h
    exact ⟨x, t.set i v, rfl, h1, VRs.set hv i h2⟩
theorem ixN_nat {n i : Nat} (h : i < n) : ixN n (i : Int) = some i := by
  unfold ixN
  rw [if_pos (Int.natCast_nonneg i), if_pos (by omega), show ((i : Int)).toNat = i by omega]
theorem w_setM {to ti : TE} {p : Addr} (h : Ev K te r m fun x m1 => Ev K to r m1 fun y m2 => y = .v (.ref p) ∧ Ev K ti r m2 fun z m3 => ∃ (i : Nat) (rs : List Val), z = .d (.int (i : Int)) ∧ m3 p = some (.lst rs) ∧ i < rs.length ∧ N r (put m3 p (.lst (rs.set i x)))) :
    Wp K (tAsg te (gSub to ti rSetL)) r m N E := fun σ H G D S L a b =>
  h σ H G S L _ fun v H1 G1 x m1 h1 S1 e1 r1 => h1 σ H1 G1 S1 (L.mono e1) _ fun w H2 G2 y m2 ⟨hy, h2⟩ S2 e2 r2 => h2 σ H2 G2 S2 (L.mono (e1.trans e2)) _ fun u H3 G3 z m3 ⟨i, rs, hz, hb, hi, q⟩ S3 e3 r3 => by
    subst hy hz
    have a2 := r2.eq
    have a3 := int_of r3
    subst a2 a3
    obtain ⟨xs, g1, g2⟩ := S3.mem p _ hb
    refine ⟨p, xs, (i : Int), i, rfl, rfl, g1, ixN_nat (by rw [g2.length]; exact hi), ?_⟩
    have S4 := S3.chg (u := .lst (rs.set i x)) (o := .lst (xs.set i v)) hb ⟨_, upd_same, VRs.set (r1.mono (e2.trans e3)) i g2⟩
    exact a σ _ G3 r _ q S4 (e1.trans (e2.trans e3)) (L.mono (e1.trans (e2.trans e3)))
/-- for a, b in a list of pairs -/
theorem w_forLA2 {tl : TE} {j1 j2 : Nat} (P : List PyData → Prop) (h : Ev K tl r m fun x m1 => m1 = m ∧ ∃ ds, x = .d (.list ds) ∧ P ds) (W : List PyData → Nat → List Val → Mm → Prop) (h0 : ∀ ds, P ds → W ds 0 r m)
    (hs : ∀ (ds : List PyData) (i : Nat) (d : PyData) r' m', P ds → ds[i]? = some d → W ds i r' m' → ∃ d1 d2, d = .tuple [d1, d2] ∧ Wp K t ((r'.set j1 (.d d1)).set j2 (.d d2)) m' (W ds (i + 1)) E) (hd : ∀ (ds : List PyData) r' m', P ds → W ds ds.length r' m' → N r' m') : Wp K (tFor (iList K tl) (gTup K 2 (gCons (gName j1) (gCons (gName j2) gNil))) t) r m N E := fun σ H G D S L a b =>
  h σ H G S L _ fun v H1 G1 x m1 ⟨hm, ds, hx, hP⟩ S1 e1 r1 => by
    subst hx hm
    obtain ⟨p, xs, hv, hs1, hA⟩ := rp_list.mp r1.rp
    have hs1 : SqL K G1 p xs := Or.inl hs1
    refine ⟨p, hv, ⟨xs, S1.sqL hs1⟩, for_list (xs := xs) (fun i σ' H' => ∃ G' r' m', W ds i r' m' ∧ Sta K m' H' G' ∧ Le G1 G' ∧ Sl K G' r' σ') ⟨G1, r, _, h0 ds hP, S1, Le.refl G1, L.mono e1⟩ ?_ ?_ ?_⟩
    · rintro i σ' H' hi ⟨G', r', m', _, S', e', _⟩
      exact S'.sqL (e'.sqL hs1)
    · rintro i y σ' H' hy ⟨G', r', m', hw, S', e', L'⟩
      obtain ⟨d, hd1, hd2⟩ := hA.get hy
      obtain ⟨d1, d2, rfl, hW⟩ := hs ds i d r' m' hP hd1 hw
      obtain ⟨q, ys, rfl, g1, g2⟩ := rp_tuple.mp (Rp.mono e' _ _ hd2)
      have hl := g2.length
      obtain ⟨x1, t1, rfl, a1, g2⟩ := rpa_cons.mp g2
      obtain ⟨x2, t2, rfl, a2, g2⟩ := rpa_cons.mp g2
      obtain rfl := rpa_nil.mp g2
      refine ⟨q, _, rfl, S'.sqT g1, rfl, x1, [x2], rfl, x2, [], rfl, rfl, ?_⟩
      exact hW _ H' G' _ S' ((L'.set (r := .d d1) (.d a1) j1).set (r := .d d2) (.d a2) j2) (fun σ3 H3 G3 r3 m3 h3 S3 e3 L3 => ⟨G3, r3, m3, h3, S3, e'.trans e3, L3⟩) (fun v H3 G3 x m3 n3 S3 e3 L3 => b v H3 G3 x m3 n3 S3 (e1.trans (e'.trans e3)) L3)
    · rintro σ' H' ⟨G', r', m', hw, S', e', L'⟩
      rw [hA.length] at hw
      exact a σ' H' G' r' m' (hd ds r' m' hP hw) S' (e1.trans e') L'
end
/-! lists of one kind of thing -/
theorem map_at {α : Type} {f : α → PyData} {xs : List α} {i : Nat} {d : PyData} (h : (xs.map f)[i]? = some d) : ∃ x, xs[i]? = some x ∧ d = f x := by
  rw [List.getElem?_map] at h
  cases hx : xs[i]? with
  | none => rw [hx] at h; cases h
  | some x => rw [hx] at h; cases h; exact ⟨x, rfl, rfl⟩
section
variable {K : PySem.W.Frag} {r : List Val} {m : Mm} {Q : Val → Mm → Prop} {te tl : TE} {tt : TT} {j : Nat} {α : Type} {xs : List α} {f : α → PyData} {N : List Val → Mm → Prop} {E : Val → Mm → Prop} {t : TS}
theorem ev_mapLf (h : Ev K tl r m fun x m1 => x = .d (.list (xs.map f)) ∧ m1 = m) (hn : xs.length ≤ 100000) (g : α → PyData)
    (hs : ∀ (x : α) m', x ∈ xs → Ext m m' → Ev K te (r.set j (.d (f x))) m' fun y m3 => y = .d (g x) ∧ m3 = m') (q : Q (.d (.list (xs.map g))) m) : Ev K (tLc (iList K tl) (gName j) tYes te [j]) r m Q :=
  ev_lcL h (by rw [List.length_map]; exact hn) (fun i acc => acc = (xs.take i).map g) (by simp) (fun i d m' acc hd hx hw => by
    obtain ⟨x, h1, rfl⟩ := map_at hd
    exact evt_yes ⟨rfl, fun _ => (hs x m' (List.mem_of_getElem? h1) hx).imp fun y m3 e => ⟨e.2, g x, e.1, by rw [hw, take_one h1, List.map_append]; rfl⟩, (fun g => nomatch g)⟩)
    (fun acc hw => by rw [hw, List.length_map, List.take_length]; exact q)
theorem ev_mapTf (h : Ev K tl r m fun x m1 => x = .d (.tuple (xs.map f)) ∧ m1 = m) (hn : xs.length ≤ 100000) (g : α → PyData)
    (hs : ∀ (x : α) m', x ∈ xs → Ext m m' → Ev K te (r.set j (.d (f x))) m' fun y m3 => y = .d (g x) ∧ m3 = m') (q : Q (.d (.list (xs.map g))) m) : Ev K (tLc (iTup K tl) (gName j) tYes te [j]) r m Q :=
  ev_lcT h (by rw [List.length_map]; exact hn) (fun i acc => acc = (xs.take i).map g) (by simp) (fun i d m' acc hd hx hw => by
    obtain ⟨x, h1, rfl⟩ := map_at hd
    exact evt_yes ⟨rfl, fun _ => (hs x m' (List.mem_of_getElem? h1) hx).imp fun y m3 e => ⟨e.2, g x, e.1, by rw [hw, take_one h1, List.map_append]; rfl⟩, (fun g => nomatch g)⟩)
    (fun acc hw => by rw [hw, List.length_map, List.take_length]; exact q)
theorem fil_step {p : α → Bool} {g : α → PyData} {i : Nat} {x : α} (h : xs[i]? = some x) : ((xs.take (i + 1)).filter p).map g = ((xs.take i).filter p).map g ++ (if p x then [g x] else []) := by
  rw [take_one h, List.filter_append, List.map_append]
  cases hp : p x with
  | true => rw [List.filter_cons, if_pos hp]; rfl
  | false => rw [List.filter_cons, if_neg (by rw [hp]; decide)]; rfl
theorem ev_filLf (h : Ev K tl r m fun x m1 => x = .d (.list (xs.map f)) ∧ m1 = m) (hn : xs.length ≤ 100000) (p : α → Bool) (g : α → PyData)
    (ht : ∀ (x : α) m', x ∈ xs → Ext m m' → EvT K tt (r.set j (.d (f x))) m' fun b m3 => b = p x ∧ m3 = m')
    (hs : ∀ (x : α) m', x ∈ xs → Ext m m' → p x = true → Ev K te (r.set j (.d (f x))) m' fun y m3 => y = .d (g x) ∧ m3 = m') (q : Q (.d (.list ((xs.filter p).map g))) m) : Ev K (tLc (iList K tl) (gName j) tt te [j]) r m Q :=
  ev_lcL h (by rw [List.length_map]; exact hn) (fun i acc => acc = ((xs.take i).filter p).map g) (by simp) (fun i d m' acc hd hx hw => by
    obtain ⟨x, h1, rfl⟩ := map_at hd
    have hm := List.mem_of_getElem? h1
    exact (ht x m' hm hx).imp fun b m2 e => ⟨e.2, fun hb => (hs x m' hm hx (e.1.symm.trans hb)).imp fun y m3 e2 => ⟨e2.2, g x, e2.1, by rw [hw, fil_step h1, if_pos (e.1.symm.trans hb)]⟩, fun hb => by rw [hw, fil_step h1, if_neg (by rw [← e.1, hb]; decide), List.append_nil]⟩)
    (fun acc hw => by rw [hw, List.length_map, List.take_length]; exact q)
theorem ev_filTf (h : Ev K tl r m fun x m1 => x = .d (.tuple (xs.map f)) ∧ m1 = m) (hn : xs.length ≤ 100000) (p : α → Bool) (g : α → PyData)
    (ht : ∀ (x : α) m', x ∈ xs → Ext m m' → EvT K tt (r.set j (.d (f x))) m' fun b m3 => b = p x ∧ m3 = m')
    (hs : ∀ (x : α) m', x ∈ xs → Ext m m' → p x = true → Ev K te (r.set j (.d (f x))) m' fun y m3 => y = .d (g x) ∧ m3 = m') (q : Q (.d (.list ((xs.filter p).map g))) m) : Ev K (tLc (iTup K tl) (gName j) tt te [j]) r m Q :=
  ev_lcT h (by rw [List.length_map]; exact hn) (fun i acc => acc = ((xs.take i).filter p).map g) (by simp) (fun i d m' acc hd hx hw => by
    obtain ⟨x, h1, rfl⟩ := map_at hd
    have hm := List.mem_of_getElem? h1
    exact (ht x m' hm hx).imp fun b m2 e => ⟨e.2, fun hb => (hs x m' hm hx (e.1.symm.trans hb)).imp fun y m3 e2 => ⟨e2.2, g x, e2.1, by rw [hw, fil_step h1, if_pos (e.1.symm.trans hb)]⟩, fun hb => by rw [hw, fil_step h1, if_neg (by rw [← e.1, hb]; decide), List.append_nil]⟩)
    (fun acc hw => by rw [hw, List.length_map, List.take_length]; exact q)
theorem ev_filR1 {ta : TA} {n : Nat} (h : EvA K ta r m fun xs m1 => xs = [.d (.int (n : Int))] ∧ m1 = m) (hn : n ≤ 100000) (p : Nat → Bool) (g : Nat → PyData)
    (ht : ∀ (i : Nat) m', i < n → Ext m m' → EvT K tt (r.set j (.d (.int (i : Int)))) m' fun b m3 => b = p i ∧ m3 = m')
    (hs : ∀ (i : Nat) m', i < n → Ext m m' → p i = true → Ev K te (r.set j (.d (.int (i : Int)))) m' fun y m3 => y = .d (g i) ∧ m3 = m') (q : Q (.d (.list (((List.range n).filter p).map g))) m) : Ev K (tLc (iRng1 ta) (gName j) tt te [j]) r m Q :=
  ev_lcR1 h hn (fun i acc => acc = ((List.range i).filter p).map g) (by simp) (fun i m' acc hi hx hw => (ht i m' hi hx).imp fun b m2 e => ⟨e.2, fun hb => (hs i m' hi hx (e.1.symm.trans hb)).imp fun y m3 e2 => ⟨e2.2, g i, e2.1, by
      rw [hw, range_one, List.filter_append, List.map_append, List.filter_cons, if_pos (e.1.symm.trans hb)]; rfl⟩, fun hb => by
      rw [hw, range_one, List.filter_append, List.map_append, List.filter_cons, if_neg (by rw [← e.1, hb]; decide)]; simp⟩)
    (fun acc hw => by rw [hw]; exact q)
theorem w_forLf (h : Ev K tl r m fun x m1 => x = .d (.list (xs.map f)) ∧ m1 = m) (W : Nat → List Val → Mm → Prop) (h0 : W 0 r m)
    (hs : ∀ (i : Nat) (x : α) r' m', xs[i]? = some x → W i r' m' → Wp K t (r'.set j (.d (f x))) m' (W (i + 1)) E) (hd : ∀ r' m', W xs.length r' m' → N r' m') : Wp K (tFor (iList K tl) (gName j) t) r m N E :=
  w_forL h W h0 (fun i d r' m' hd hw => by
    obtain ⟨x, h1, rfl⟩ := map_at hd
    exact hs i x r' m' h1 hw) (fun r' m' hw => hd r' m' (by rw [List.length_map] at hw; exact hw))
theorem w_forTf (h : Ev K tl r m fun x m1 => x = .d (.tuple (xs.map f)) ∧ m1 = m) (W : Nat → List Val → Mm → Prop) (h0 : W 0 r m)
    (hs : ∀ (i : Nat) (x : α) r' m', xs[i]? = some x → W i r' m' → Wp K t (r'.set j (.d (f x))) m' (W (i + 1)) E) (hd : ∀ r' m', W xs.length r' m' → N r' m') : Wp K (tFor (iTup K tl) (gName j) t) r m N E :=
  w_forT h W h0 (fun i d r' m' hd hw => by
    obtain ⟨x, h1, rfl⟩ := map_at hd
    exact hs i x r' m' h1 hw) (fun r' m' hw => hd r' m' (by rw [List.length_map] at hw; exact hw))
end
abbrev intN (k : Nat) : PyData := .int (k : Int)
theorem tupN_eq (ks : List Nat) : tupN ks = .tuple (ks.map intN) := by
  unfold tupN
  rw [List.map_map]; rfl
theorem tupI_eq (ns : List Int) : tupI ns = .tuple (ns.map PyData.int) := rfl
/-! less told of what may change -/
section
variable {K : PySem.W.Frag} {r : List Val} {m : Mm} {Q : Val → Mm → Prop} {te tb : TE} {N : List Val → Mm → Prop} {E : Val → Mm → Prop} {t : TS} {ta : TA}
theorem ev_forget (h : Ev K te r m fun x m1 => ∃ m2, (∀ a o, m2 a = some o → m1 a = some o) ∧ Q x m2) : Ev K te r m Q := fun σ H G S L R k =>
  h σ H G S L R fun v H1 G1 x m1 ⟨m2, hl, q⟩ S1 e1 r1 => k v H1 G1 x m2 q (S1.less hl) e1 r1
theorem del_put {l : Addr} {o : MO} (h : m l = none) : del (put m l o) l = m := by
  funext b
  unfold del put
  by_cases hb : b = l
  · rw [if_pos hb, hb, h]
  · rw [if_neg hb, if_neg hb]
theorem put_less {l : Addr} {o : MO} (h : m l = none) : ∀ a u, m a = some u → put m l o a = some u := fun a u e => by
  rw [put_ne (ne_of_get e h)]; exact e
/-- [e, ..] * n: a list that may change -/
theorem ev_lstMul (h : EvA K ta r m fun xs m1 => ∃ ds : List PyData, xs = ds.map Val.d ∧ ds.length ≤ 100 ∧ Ev K tb r m1 fun y m2 => ∃ n : Nat, y = .d (.int (n : Int)) ∧ n ≤ 1000 ∧ ∀ l, m2 l = none → Q (.v (.ref l)) (put m2 l (.lst ((List.replicate n ds).flatten.map Val.d)))) : Ev K (tOp (rMul K) (tLst ta) tb) r m Q := fun σ H G S L R k =>
  h σ H G S L _ fun vs H1 G1 xs m1 ⟨ds, hx, hl, h1⟩ S1 e1 r1 => by
    subst hx
    have hA := r1.toAll
    refine ⟨by rw [hA.length]; exact Nat.le_trans hl (by decide), fun p hp => ?_⟩
    have hg := S1.free hp
    refine h1 σ _ (upd G1 p (.lst vs)) (S1.fix hp) (L.mono (e1.trans (Le.new hg))) _ fun w H2 G2 y m2 ⟨n, hy, hn, q⟩ S2 e2 r2 => ?_
    subst hy
    have r2 := int_of r2
    subst r2
    have en : ((n : Int)).toNat = n := by omega
    refine Or.inr (Or.inr (Or.inr ⟨p, (n : Int), vs, rfl, rfl, S2.sub _ _ (e2 _ _ upd_same), by omega, by omega, ?_, fun l hl => ?_⟩))
    · rw [en, hA.length]
      exact Nat.le_trans (Nat.mul_le_mul hl hn) (by decide)
    · rw [en]
      have hB : RpAll K G2 ds vs := RpAll.mono ((Le.new hg).trans e2) ds vs hA
      exact k _ _ G2 _ _ (q l (S2.freeM hl)) (S2.new hl ⟨_, upd_same, VRs.ofAll (hB.rep n)⟩) (e1.trans ((Le.new hg).trans e2)) .v
/-- repr of a list that may change -/
theorem on_showM {p : Addr} {ds : List PyData} {k n : Nat} (hm : m p = some (.lst (ds.map Val.d))) (h : Sh (.list ds) k n) (h1 : k ≤ 64) (h2 : n ≤ 16777216) (q : Q (.d (.str (PyData.list ds).shown)) m) : OpN K (rRepr K) [.v (.ref p)] m Q := fun H G vs S a R kk => by
  obtain ⟨v, rfl, hv⟩ := vrs1 a
  have hv := hv.eq
  subst hv
  obtain ⟨xs, g1, g2⟩ := S.mem p _ hm
  refine ⟨_, _, rfl, rp_list.mpr ⟨p, xs, rfl, Or.inl g1, RpAll.mono S.sub _ _ g2.toAll⟩, h.nd, Nat.le_trans h.dp h1, h.sh, Nat.le_trans h.ln (by rw [sizeLine_eq]; exact h2), kk _ H G _ m q S (Le.refl G) vr_str⟩
end
end DL


namespace DL
open PySem L2

def f_needNumber : FSp := fun args m R => ∃ i lo hi : Int, args = [.d (.int i), .d (.int lo), .d (.int hi)] ∧ lo ≤ i ∧ i ≤ hi ∧ R (.d .none) m
def f_raised : FSp := fun args m R => ∃ (b : Int) (n : Nat), args = [.d (.int b), .d (.int (n : Int))] ∧ n ≤ 100 ∧ Bt b 60 ∧ R (.d (.int (b ^ n))) m
theorem Bt.pow {b : Int} {a : Nat} (h : Bt b a) : ∀ n : Nat, Bt (b ^ n) (a * n + 1)
  | 0 => by rw [Int.pow_zero]; exact bt_lit (n := 1) (by decide) (by omega)
  | n + 1 => by
    rw [Int.pow_succ]
    exact ((h.pow n).mul h).mono (by rw [Nat.mul_succ]; omega)
/-- so many of so many, as it is reckoned -/
def chT (n : Nat) : Nat → Nat
  | 0 => 1
  | t + 1 => chT n t * (n - t) / (t + 1)
def chP (n k : Nat) : Nat := if k ≤ n then chT n k else 0
theorem chT_le : ∀ n : Fin 6, ∀ t : Fin 6, chT n t ≤ 10 := by decide +kernel
theorem chT_le' {n t : Nat} (h : n ≤ 5) (g : t ≤ 5) : chT n t ≤ 10 := chT_le ⟨n, by omega⟩ ⟨t, by omega⟩
theorem chP_le {n k : Nat} (h : n ≤ 5) : chP n k ≤ 10 := by
  unfold chP
  split
  · exact chT_le' h (by omega)
  · omega
def f_choices : FSp := fun args m R => ∃ n k : Nat, args = [.d (.int (n : Int)), .d (.int (k : Int))] ∧ n ≤ 5 ∧ R (.d (.int ((chP n k : Nat) : Int))) m
/-- a pack's size fits -/
def Pk (m s : Nat) : Prop := 1 ≤ m ∧ m ≤ 5 ∧ 1 ≤ s ∧ s ≤ m ∧ s ≤ 3
def f_needPack : FSp := fun args m R => ∃ a s : Nat, args = [.d (.int (a : Int)), .d (.int (s : Int))] ∧ Pk a s ∧ R (.d .none) m
def f_packMany : FSp := fun args m R => ∃ a s : Nat, args = [.d (.int (a : Int)), .d (.int (s : Int))] ∧ Pk a s ∧ R (.d (.int ((chP a s : Nat) : Int))) m
def pcT (a s n : Nat) (out : Nat) : Int := (1 - 2 * ((out : Int) % 2)) * (chP a out : Nat) * ((chP (a - out) s : Nat) : Int) ^ n
def pcF (a s n : Nat) : Nat → Int
  | 0 => 0
  | i + 1 => pcF a s n i + pcT a s n i
def f_packCases : FSp := fun args m R => ∃ a s n : Nat, args = [.d (.int (a : Int)), .d (.int (s : Int)), .d (.int (n : Int))] ∧ Pk a s ∧ n ≤ 8 ∧ R (.d (.int (pcF a s n (a + 1)))) m
/-- all some of so many -/
def allS : Nat → List (List Nat)
  | 0 => [[]]
  | n + 1 => allS n ++ (allS n).map fun s => s ++ [n]
theorem allS_len : ∀ n, (allS n).length = 2 ^ n
  | 0 => rfl
  | n + 1 => by rw [allS, List.length_append, List.length_map, allS_len n, Nat.pow_succ]; omega
theorem allS_mem : ∀ n, ∀ s ∈ allS n, s.length ≤ n ∧ ∀ k ∈ s, k < n
  | 0, s, h => by
    have : s = [] := by simpa [allS] using h
    subst this
    exact ⟨Nat.le_refl _, fun k hk => nomatch hk⟩
  | n + 1, s, h => by
    rw [allS] at h
    rcases List.mem_append.mp h with h | h
    · obtain ⟨a, b⟩ := allS_mem n s h
      exact ⟨by omega, fun k hk => by have := b k hk; omega⟩
    · obtain ⟨t, ht, rfl⟩ := List.mem_map.mp h
      obtain ⟨a, b⟩ := allS_mem n t ht
      refine ⟨by rw [List.length_append]; show t.length + 1 ≤ n + 1; omega, fun k hk => ?_⟩
      rcases List.mem_append.mp hk with hk | hk
      · have := b k hk; omega
      · rw [List.mem_singleton.mp hk]; omega
theorem tupN_snoc (s : List Nat) (n : Nat) : PyData.tuple ((s.map fun (k : Nat) => (k : Int)).map PyData.int ++ [.int (n : Int)]) = tupN (s ++ [n]) := by
  unfold tupN
  rw [List.map_append, List.map_append]; rfl
theorem o2_addNi {K : PySem.W.Frag} {m : Mm} {Q : Val → Mm → Prop} {s : List Nat} {n : Nat} (h : s.length ≤ 1000) (q : Q (.d (tupN (s ++ [n]))) m) : Op2 K (rAdd K) (.d (tupN s)) (.d (.tuple [.int (n : Int)])) m Q :=
  o2_addT (by rw [List.length_map, List.length_map]; show s.length + 1 ≤ 100000; omega) (by rw [tupN_snoc]; exact q)
def f_lawAllSome : FSp := fun args m R => ∃ n : Nat, args = [.d (.int (n : Int))] ∧ n ≤ 8 ∧ R (.d (.list ((allS n).map tupN))) m
def setsF (a s : Nat) : List (List Nat) := (allS a).filter fun t => decide (t.length = s)
def f_lawSets : FSp := fun args m R => ∃ a s : Nat, args = [.d (.int (a : Int)), .d (.int (s : Int))] ∧ a ≤ 8 ∧ R (.d (.list ((setsF a s).map tupN))) m
theorem setsF_mem {a s : Nat} {t : List Nat} (h : t ∈ setsF a s) : t ∈ allS a ∧ t.length = s := by
  obtain ⟨h1, h2⟩ := List.mem_filter.mp h
  exact ⟨h1, of_decide_eq_true h2⟩
/-! rows by turns -/
def addAt (l : List Int) (i : Nat) (x : Int) : List Int := l.set i (l.getD i 0 + x)
theorem addAt_len (l : List Int) (i : Nat) (x : Int) : (addAt l i x).length = l.length := List.length_set ..
def thereF (come : Nat) (p : List Nat) : Nat := come + (p.filter fun k => decide (come ≤ k)).length
def rowIn (cs : List Int) (come : Nat) (ps : List (List Nat)) (l : List Int) : List Int := ps.foldl (fun l p => addAt l (thereF come p) (cs.getD come 0)) l
def rowOut (cs : List Int) (ps : List (List Nat)) (n : Nat) (l : List Int) : List Int := (List.range n).foldl (fun l come => rowIn cs come ps l) l
theorem rowIn_len (cs : List Int) (come : Nat) : ∀ (ps : List (List Nat)) (l : List Int), (rowIn cs come ps l).length = l.length
  | [], l => rfl
  | p :: ps, l => (rowIn_len cs come ps _).trans (addAt_len ..)
theorem rowOut_len (cs : List Int) (ps : List (List Nat)) : ∀ (n : Nat) (l : List Int), (rowOut cs ps n l).length = l.length
  | 0, l => rfl
  | n + 1, l => by
    unfold rowOut
    rw [range_one, List.foldl_append]
    exact (rowIn_len ..).trans (rowOut_len cs ps n l)
def rowT (a : Nat) (ps : List (List Nat)) (cs : List Int) : List Int := rowOut cs ps (a + 1) (List.replicate (a + 1) 0)
def rowsF (a s : Nat) : Nat → List Int
  | 0 => 1 :: List.replicate a 0
  | n + 1 => rowT a (setsF a s) (rowsF a s n)
theorem rowsF_len (a s : Nat) : ∀ n, (rowsF a s n).length = a + 1
  | 0 => by simp [rowsF]
  | n + 1 => by
    unfold rowsF rowT
    rw [rowOut_len, List.length_replicate]
theorem there_le : ∀ a : Fin 6, ∀ come : Fin 6, come ≤ a → ∀ p ∈ allS a, thereF come p ≤ a := by decide +kernel
theorem there_le' {a come : Nat} (h : a ≤ 5) (g : come ≤ a) {p : List Nat} (hp : p ∈ allS a) : thereF come p ≤ a := there_le ⟨a, by omega⟩ ⟨come, by omega⟩ g p hp
def f_lawRows : FSp := fun args m R => ∃ a s n : Nat, args = [.d (.int (a : Int)), .d (.int (s : Int)), .d (.int (n : Int))] ∧ Pk a s ∧ n ≤ 8 ∧ R (.d (.int ((rowsF a s n).getD a 0))) m
def pairsT : List (Nat × Nat) := [(1, 1), (2, 1), (2, 2), (3, 1), (3, 2), (3, 3), (4, 1), (4, 2), (4, 3), (5, 1), (5, 2), (5, 3)]
theorem pk_pairs : ∀ p ∈ pairsT, 1 ≤ p.1 ∧ p.1 ≤ 5 ∧ 1 ≤ p.2 ∧ p.2 ≤ p.1 ∧ p.2 ≤ 3 := by decide +kernel
theorem pairs_of {a s : Nat} (h : Pk a s) : (a, s) ∈ pairsT := by
  obtain ⟨h1, h2, h3, h4, h5⟩ := h
  have : a = 1 ∨ a = 2 ∨ a = 3 ∨ a = 4 ∨ a = 5 := by omega
  have : s = 1 ∨ s = 2 ∨ s = 3 := by omega
  rcases ‹a = 1 ∨ _› with rfl | rfl | rfl | rfl | rfl <;> rcases ‹s = 1 ∨ _› with rfl | rfl | rfl <;> first | (exfalso; omega) | simp [pairsT]
theorem many_all : ∀ p ∈ pairsT, chP p.1 p.2 = (setsF p.1 p.2).length ∧ (setsF p.1 p.2).length ≤ 10 := by decide +kernel
theorem cases_all : ∀ p ∈ pairsT, ∀ n : Fin 9, pcF p.1 p.2 n (p.1 + 1) = (rowsF p.1 p.2 n).getD p.1 0 ∧ (pcF p.1 p.2 n (p.1 + 1)).natAbs < 2 ^ 60 := by decide +kernel
def pairD (p : Nat × Nat) : PyData := .tuple [.int (p.1 : Int), .int (p.2 : Int)]
def pairsF : Nat → List (Nat × Nat)
  | 0 => []
  | i + 1 => pairsF i ++ (List.range (min (i + 1) 3)).map fun s => (i + 1, s + 1)
theorem pairsF_len : pairsF 5 = pairsT := by decide
end DL


namespace DL
open PySem L2

section
variable {K : PySem.W.Frag} {r : List Val} {m : Mm} {Q : Val → Mm → Prop} {ta tb tc te to tl : TE} {tt : TT} {N : List Val → Mm → Prop} {E : Val → Mm → Prop} {t : TS}
/-! texts cut and joined -/
def rJoin (K : PySem.W.Frag) : V → List V → Hp → VK → Prop := fun x xs H Q => ∃ a p, ∃ ys : List Str, x = .str a ∧ xs = [.ref p] ∧ (SqL K H p (ys.map V.str) ∨ SqT K H p (ys.map V.str)) ∧ (ys.map (·.length)).sum + ys.length * a.length ≤ 16777216 ∧ Q (.str (Txt.join a ys)) H
theorem kJoin {X : Cx} (K : PySem.W.Frag) {e : Expr} {to te : TE} (hp : PE X e (tM1 (rJoin X.K) to te)) (h : X.K = K := by rfl) : PE X e (tM1 (rJoin K) to te) := h ▸ hp
def rSplit : V → List V → Hp → VK → Prop := fun x xs H Q => ∃ a b, x = .str a ∧ xs = [.str b] ∧ (b.length == 0) = false ∧ a.length + 2 ≤ sizeLine ∧ rNewStrs (Txt.split a b) H Q
theorem kSplit {X : Cx} {e : Expr} {to te : TE} (hp : PE X e (tM1 rSplit to te)) : PE X e (tM1 rSplit to te) := hp
theorem kiE {X : Cx} (K : PySem.W.Frag) {tg e : Expr} {ta : TA} (hp : PI X tg e (iEnum X.K ta)) (h : X.K = K := by rfl) : PI X tg e (iEnum K ta) := h ▸ hp
theorem ev_join {a : Str} {ys : List Str} (h : Ev K to r m fun x m1 => x = .d (.str a) ∧ Ev K te r m1 fun y m2 => y = .d (.list (ys.map PyData.str)) ∧ (ys.map (·.length)).sum + ys.length * a.length ≤ 16777216 ∧ Q (.d (.str (Txt.join a ys))) m2) : Ev K (tM1 (rJoin K) to te) r m Q := fun σ H G S L R k =>
  h σ H G S L _ fun v H1 G1 x m1 ⟨hx, h1⟩ S1 e1 r1 => by
    subst hx
    have r1 := str_of r1
    subst r1
    refine ⟨⟨a, rfl⟩, ?_⟩
    refine h1 σ H1 G1 S1 (L.mono e1) _ fun w H2 G2 y m2 ⟨hy, hz, q⟩ S2 e2 r2 => ?_
    subst hy
    obtain ⟨p, xs, rfl, g1, g2⟩ := rp_list.mp r2.rp
    rw [g2.strs] at g1
    exact ⟨a, p, ys, rfl, rfl, Or.inl (Or.inl (Le.rd S2.sub g1)), hz, k _ H2 G2 _ m2 q S2 (e1.trans e2) vr_str⟩
theorem rpa_strs {G : Hp} : ∀ (ns : List Str), RpAll K G (ns.map PyData.str) (ns.map V.str)
  | [] => by rw [List.map_nil, RpAll]; rfl
  | n :: ns => by
    rw [List.map_cons, List.map_cons, RpAll]
    exact ⟨_, _, rfl, by rw [Rp], rpa_strs ns⟩
theorem ev_split (h : Ev K to r m fun x m1 => ∃ a, x = .d (.str a) ∧ Ev K te r m1 fun y m2 => ∃ b, y = .d (.str b) ∧ (b.length == 0) = false ∧ a.length ≤ 100000 ∧ Q (.d (.list ((Txt.split a b).map PyData.str))) m2) : Ev K (tM1 rSplit to te) r m Q := fun σ H G S L R k =>
  h σ H G S L _ fun v H1 G1 x m1 ⟨a, hx, h1⟩ S1 e1 r1 => by
    subst hx
    have r1 := str_of r1
    subst r1
    refine ⟨⟨a, rfl⟩, ?_⟩
    refine h1 σ H1 G1 S1 (L.mono e1) _ fun w H2 G2 y m2 ⟨b, hy, hb, hz, q⟩ S2 e2 r2 => ?_
    subst hy
    have r2 := str_of r2
    subst r2
    refine ⟨a, b, rfl, rfl, hb, ?_, fun l hl => ?_⟩
    · exact Nat.le_trans (show a.length + 2 ≤ 100002 by omega) (by decide)
    have hg := S2.free hl
    exact k _ _ (upd G2 l _) _ m2 q (S2.fix hl) (e1.trans (e2.trans (Le.new hg))) (.d (rp_list.mpr ⟨l, _, rfl, Rd.of upd_same, rpa_strs _⟩))
/-! str(i), int(x) -/
def rStrI : List V → Hp → VK → Prop := fun xs H Q => ∃ i : Int, xs = [.int i] ∧ i.natAbs.log2 < 1920 ∧ Q (.str (toString i)) H
theorem cStr {X : Cx} : CallR X (.type "str") rStrI := call_str_int
def rInt0 : List V → Hp → VK → Prop := fun xs H Q => (∃ i, xs = [.int i] ∧ Q (.int i) H) ∨ ∃ k, xs = [.bl k] ∧ Q (.int (if k then 1 else 0)) H
def rIntS : List V → Hp → VK → Prop := fun xs H Q => ∃ a n, xs = [.str a] ∧ PySem.intText? a = some n ∧ a.length ≤ 640 ∧ Q (.int n) H
def rIntA : List V → Hp → VK → Prop := fun xs H Q => rInt0 xs H Q ∨ rIntS xs H Q
theorem cInt {X : Cx} : CallR X (.type "int") rIntA := (call_int1).or call_int_str
theorem on_str {i : Int} {a : Nat} (hb : Bt i a) (h0 : 0 < a) (ha : a ≤ 1920) (q : Q (.d (.str (toString i))) m) : OpN K rStrI [.d (.int i)] m Q := fun H G vs S x R k => by
  obtain ⟨v, rfl, h⟩ := vrs1 x
  rw [int_of h]
  exact ⟨i, rfl, Nat.lt_of_lt_of_le (log2_of_bt hb h0) ha, k _ H G _ m q S (Le.refl G) vr_str⟩
theorem on_intS {x : Str} {n : Int} (h : PySem.intText? x = some n) (hz : x.length ≤ 640) (q : Q (.d (.int n)) m) : OpN K rIntA [.d (.str x)] m Q := fun H G vs S a R k => by
  obtain ⟨v, rfl, hv⟩ := vrs1 a
  rw [str_of hv]
  exact Or.inr ⟨x, n, rfl, h, hz, k _ H G _ m q S (Le.refl G) vr_int⟩
theorem on_intB {b : Bool} (q : Q (.d (.int (if b then 1 else 0))) m) : OpN K rIntA [.d (.bool b)] m Q := fun H G vs S a R k => by
  obtain ⟨v, rfl, hv⟩ := vrs1 a
  rw [bool_of hv]
  exact Or.inl (Or.inr ⟨b, rfl, k _ H G _ m q S (Le.refl G) vr_int⟩)
def rNotInStr : R2 := fun x y H Q => ∃ i j, x = .str i ∧ y = .str j ∧ Q (.bl (!(!(Builtin.Str.occurrences j i 0 j.length 1).isEmpty))) H
theorem oNotInStr {X : Cx} : OpR X (compareOp .NotIn) rNotInStr := op_notin_str
theorem o2_notInStr {x y : Str} (q : Q (.d (.bool (Builtin.Str.occurrences y x 0 y.length 1).isEmpty)) m) : Op2 K rNotInStr (.d (.str x)) (.d (.str y)) m Q := fun H G v w S a b R k => by
  rw [str_of a, str_of b]
  refine ⟨x, y, rfl, rfl, ?_⟩
  rw [Bool.not_not]
  exact k _ H G _ m q S (Le.refl G) vr_bool
/-- for i, x in enumerate(a list) -/
theorem w_forE {ta : TA} {j1 j2 : Nat} {α : Type} {xs : List α} {f : α → PyData} (h : EvA K ta r m fun ys m1 => ys = [.d (.list (xs.map f))] ∧ m1 = m) (W : Nat → List Val → Mm → Prop) (h0 : W 0 r m)
    (hs : ∀ (i : Nat) (x : α) r' m', xs[i]? = some x → W i r' m' → Wp K t ((r'.set j1 (.d (.int (i : Int)))).set j2 (.d (f x))) m' (W (i + 1)) E) (hd : ∀ r' m', W xs.length r' m' → N r' m') : Wp K (tFor (iEnum K ta) (gTup K 2 (gCons (gName j1) (gCons (gName j2) gNil))) t) r m N E := fun σ H G D S L a b =>
  h σ H G S L _ fun vs H1 G1 ys m1 ⟨hx, hm⟩ S1 e1 r1 => by
    subst hx hm
    obtain ⟨v, rfl, rv⟩ := vrs1 r1
    obtain ⟨p, zs, rfl, hs1, hA⟩ := rp_list.mp rv.rp
    have hs1 : SqL K G1 p zs := Or.inl hs1
    have hlen := hA.length
    rw [List.length_map] at hlen
    refine ⟨p, zs, rfl, S1.sqL hs1, for_it (walk_enum (xs := zs)) (fun i σ' H' => ∃ G' r' m', W i r' m' ∧ Sta K m' H' G' ∧ Le G1 G' ∧ Sl K G' r' σ') ⟨G1, r, _, h0, S1, Le.refl G1, L.mono e1⟩ ?_ ?_ ?_⟩
    · rintro i σ' H' hi ⟨G', r', m', _, S', e', _⟩
      exact S'.sqL (e'.sqL hs1)
    · rintro i x σ' H' H2 hi ⟨G', r', m', hw, S', e', L'⟩ ⟨T, x1, x2, rfl, hT, rfl, hx1, hx2⟩
      have hx1 : V.int (i : Int) = x1 := by simpa using hx1
      subst hx1
      obtain ⟨d, hd1, hd2⟩ := hA.get hx2
      obtain ⟨y, hy, rfl⟩ := map_at hd1
      have hg := S'.free hT
      have e2 : Le G' (upd G' T (.tup [.int (i : Int), x2])) := Le.new hg
      refine ⟨T, _, rfl, SqT.of upd_same, rfl, _, [x2], rfl, x2, [], rfl, rfl, ?_⟩
      exact hs i y r' m' hy hw _ _ (upd G' T (.tup [.int (i : Int), x2])) _ (S'.fix hT) (((L'.mono e2).set (r := .d (.int (i : Int))) vr_int j1).set (r := .d (f y)) (.d (Rp.mono (e'.trans e2) _ _ hd2)) j2)
        (fun σ3 H3 G3 r3 m3 h3 S3 e3 L3 => ⟨G3, r3, m3, h3, S3, e'.trans (e2.trans e3), L3⟩) (fun v H3 G3 x m3 n3 S3 e3 L3 => b v H3 G3 x m3 n3 S3 (e1.trans (e'.trans (e2.trans e3))) L3)
    · rintro σ' H' ⟨G', r', m', hw, S', e', L'⟩
      rw [hlen] at hw
      exact a σ' H' G' r' m' (hd r' m' hw) S' (e1.trans e') L'
end
/-! shares as a text -/
def dg (s : Int) : Str := toString s
theorem dg_all : ∀ s : Fin 10, 1 ≤ s.val → (dg (s.val : Int)).length = 1 ∧ (Builtin.Str.occurrences "123456789" (dg (s.val : Int)) 0 (Str.ofString "123456789").length 1).isEmpty = false ∧ PySem.intText? (dg (s.val : Int)) = some (s.val : Int) ∧ 32 ∉ TL.tl (dg (s.val : Int)) := by decide +kernel
def showS (ss : List Int) : Str := Txt.join " " (ss.map dg)
theorem dg_ok {s : Int} (h : 1 ≤ s ∧ s ≤ 9) : (dg s).length = 1 ∧ (Builtin.Str.occurrences "123456789" (dg s) 0 (Str.ofString "123456789").length 1).isEmpty = false ∧ PySem.intText? (dg s) = some s ∧ 32 ∉ TL.tl (dg s) := by
  have := dg_all ⟨s.toNat, by omega⟩ (by show 1 ≤ s.toNat; omega)
  have e : ((⟨s.toNat, by omega⟩ : Fin 10).val : Int) = s := by show ((s.toNat : Nat) : Int) = s; omega
  rw [e] at this
  exact this
theorem split_show {ss : List Int} (h : Shares ss) : Txt.split (showS ss) " " = ss.map dg := by
  refine TL.split_join (s := 32) (S := []) (by decide +kernel) (by decide +kernel) ?_ ?_
  · intro e
    have := h.pos
    have e := List.map_eq_nil_iff.mp e
    rw [e] at this
    exact absurd this (by decide)
  · intro p hp
    obtain ⟨s, hs, rfl⟩ := List.mem_map.mp hp
    exact (dg_ok (h.each s hs)).2.2.2
theorem dg_lens {ss : List Int} (h : ∀ s ∈ ss, 1 ≤ s ∧ s ≤ 9) : ((ss.map dg).map (·.length)).sum = ss.length := by
  induction ss with
  | nil => rfl
  | cons s ss ih =>
    rw [List.map_cons, List.map_cons, List.sum_cons, ih fun x hx => h x (List.mem_cons_of_mem _ hx), (dg_ok (h s (List.mem_cons_self ..))).1, List.length_cons]
    omega
theorem show_len {ss : List Int} (h : Shares ss) : (showS ss).length ≤ 1000 := by
  unfold showS Txt.join
  rw [StrLaws.glued_eq_join]
  refine Nat.le_trans (StrLaws.join_length_le _ _) ?_
  rw [dg_lens h.each, List.length_map]
  have := h.few
  have e : (Str.ofString " ").length = 1 := by decide +kernel
  rw [e]
  omega
def f_show : FSp := fun args m R => ∃ ss : List Int, args = [.d (tupI ss)] ∧ Shares ss ∧ R (.d (.str (showS ss))) m
def f_read : FSp := fun args m R => ∃ ss : List Int, args = [.d (.str (showS ss))] ∧ Shares ss ∧ R (.d (tupI ss)) m
end DL


namespace DL
open PySem L2

theorem Kinds.sub {n : Nat} {ks : List Nat} (h : Kinds n ks) : ks.Sublist (List.range n) := by
  have : ∀ (ks : List Nat) (m : Nat), ks.Pairwise (· < ·) → (∀ k ∈ ks, m ≤ k ∧ k < n) → ks.Sublist ((List.range n).drop m) := by
    intro ks
    induction ks with
    | nil => intro m _ _; exact List.nil_sublist _
    | cons k t ih =>
      intro m hp hl
      have hk := hl k (by simp)
      have hkn : k < (List.range n).length := by rw [List.length_range]; exact hk.2
      have hd : (List.range n).drop k = k :: (List.range n).drop (k + 1) := by
        rw [List.drop_eq_getElem_cons hkn, List.getElem_range]
      have h1 : (k :: t).Sublist ((List.range n).drop k) := by
        rw [hd]
        refine (ih (k + 1) (List.pairwise_cons.mp hp).2 fun x hx => ⟨?_, (hl x (by simp [hx])).2⟩).cons_cons k
        exact (List.pairwise_cons.mp hp).1 x hx
      refine h1.trans ?_
      have e : (List.range n).drop k = ((List.range n).drop m).drop (k - m) := by rw [List.drop_drop]; congr 1; omega
      rw [e]
      exact List.drop_sublist _ _
  exact this ks 0 h.up fun k hk => ⟨Nat.zero_le _, h.lt k hk⟩
theorem sub_filter {ks l : List Nat} (h : ks.Sublist l) : l.Nodup → (l.filter fun k => decide (k ∈ ks)) = ks := by
  induction h with
  | slnil => intro _; rfl
  | @cons l1 l2 a h ih =>
    intro nd
    have nd := List.nodup_cons.mp nd
    have ha : a ∉ l1 := fun hm => nd.1 (h.subset hm)
    rw [List.filter_cons, if_neg (by simp [ha])]
    exact ih nd.2
  | @cons_cons l1 l2 a h ih =>
    intro nd
    have nd := List.nodup_cons.mp nd
    rw [List.filter_cons, if_pos (by simp)]
    congr 1
    refine Eq.trans ?_ (ih nd.2)
    refine List.filter_congr fun x hx => ?_
    have hxa : x ≠ a := fun e => nd.1 (e ▸ hx)
    simp [hxa]
theorem Kinds.filter_eq {n : Nat} {ks : List Nat} (h : Kinds n ks) : (List.range n).filter (fun k => decide (k ∈ ks)) = ks := sub_filter h.sub List.nodup_range
theorem sumP_cons (ss : List Int) (k : Nat) (ks : List Nat) : sumP ss (k :: ks) = ss.getD k 0 + sumP ss ks := rfl
theorem sumP_split (ss : List Int) (p : Nat → Bool) : ∀ l : List Nat, sumP ss (l.filter p) + sumP ss (l.filter fun k => !p k) = sumP ss l
  | [] => rfl
  | a :: l => by
    have ih := sumP_split ss p l
    rw [sumP_cons]
    cases h : p a with
    | true =>
      rw [List.filter_cons, List.filter_cons, if_pos h, if_neg (by rw [h]; decide), sumP_cons]; omega
    | false =>
      rw [List.filter_cons, List.filter_cons, if_neg (by rw [h]; decide), if_pos (by rw [h]; rfl), sumP_cons]; omega
theorem sumP_range (ss : List Int) : sumP ss (List.range ss.length) = ss.sum := by
  unfold sumP
  congr 1
  refine List.ext_getElem (by simp) fun i h1 h2 => ?_
  rw [List.getElem_map, List.getElem_range, List.getD_eq_getElem?_getD, List.getElem?_eq_getElem h2]; rfl
def othersF (n : Nat) (ks : List Nat) : List Nat := (List.range n).filter fun k => !decide (k ∈ ks)
theorem othersF_kinds (n : Nat) (ks : List Nat) : Kinds n (othersF n ks) := ⟨List.pairwise_lt_range.filter _, fun k hk => List.mem_range.mp (List.mem_filter.mp hk).1⟩
theorem sumP_others {ss : List Int} {ks : List Nat} (h : Kinds ss.length ks) : sumP ss ks + sumP ss (othersF ss.length ks) = ss.sum := by
  have := sumP_split ss (fun k => decide (k ∈ ks)) (List.range ss.length)
  rw [h.filter_eq, sumP_range] at this
  exact this
theorem nat_ne {t : Nat} (ht : 0 < t) : ((t : Nat) : Rat) ≠ 0 := by
  intro e
  have e2 : (((t : Nat) : Int) : Rat) = ((0 : Int) : Rat) := by rw [Rat.intCast_natCast]; exact e
  have e3 : ((t : Nat) : Int) = 0 := Rat.intCast_inj.mp e2
  omega
theorem part_sum {a b : Int} {t : Nat} (ht : 0 < t) (h : a + b = (t : Int)) : mkRat a t + mkRat b t = 1 := by
  rw [Rat.mkRat_eq_div, Rat.mkRat_eq_div]
  have h1 := nat_ne ht
  have h2 : ((a : Int) : Rat) + ((b : Int) : Rat) = ((t : Nat) : Rat) := by rw [← Rat.intCast_add, h, Rat.intCast_natCast]
  generalize ((t : Nat) : Rat) = T at *
  generalize ((a : Int) : Rat) = A at *
  generalize ((b : Int) : Rat) = B at *
  grind
theorem part_mul {a : Int} {t : Nat} (ht : 0 < t) : mkRat a t * ((t : Int) : Rat) = (a : Rat) := by
  rw [Rat.mkRat_eq_div, Rat.intCast_natCast]
  have h1 := nat_ne ht
  generalize ((t : Nat) : Rat) = T at *
  generalize ((a : Int) : Rat) = A at *
  grind
theorem eqv_data {d : PyData} (h : SeqAt.shaped d = true) : PyData.eqv d d = true := by
  have h : (d.canLay0 && decide (d.depth ≤ 64)) = true := h
  rw [Bool.and_eq_true] at h
  exact SeqAt.eqv_refl d h.1
theorem canLay_ints (ns : List Int) : PyData.canLayAll0 (ns.map PyData.int) = true := by
  induction ns with
  | nil => simp [PyData.canLayAll0]
  | cons n ns ih => rw [List.map_cons]; simp [PyData.canLayAll0, PyData.canLay0, ih]
theorem depth_ints (ns : List Int) : PyData.depthAll (ns.map PyData.int) = 0 := by
  induction ns with
  | nil => simp [PyData.depthAll]
  | cons n ns ih => rw [List.map_cons]; simp [PyData.depthAll, PyData.depth, ih]
theorem shaped_tupI (ns : List Int) : SeqAt.shaped (tupI ns) = true := by
  simp [SeqAt.shaped, tupI, PyData.canLay0, canLay_ints, PyData.depth, depth_ints]
theorem frac_unit {d : Nat} (h : 0 < d) : frac (mkRat 1 d) = .tuple [.int 1, .int (d : Int)] := by
  rw [frac_mk 1 d (by omega)]
  simp
section
variable {K : PySem.W.Frag} {r : List Val} {m : Mm} {Q : Val → Mm → Prop} {te : TE} {N : List Val → Mm → Prop} {E : Val → Mm → Prop}
/-- != of what is the same -/
theorem o2_neSame {d : PyData} (h : SeqAt.shaped d = true) (q : Q (.d (.bool false)) m) : Op2 K (rNeA K) (.d d) (.d d) m Q := o2_ne h h (by rw [eqv_data h]; exact q)
theorem kgL {X : Cx} {n0 : Nat} (K : PySem.W.Frag) {tg : Expr} {t : TGs} (hp : PG X tg (gLst X.K n0 t)) (h : X.K = K := by rfl) : PG X tg (gLst K n0 t) := h ▸ hp
/-- a, b, c = a list of three -/
theorem w_asg3L {i j l : Nat} (h : Ev K te r m fun x m1 => ∃ d1 d2 d3, x = .d (.list [d1, d2, d3]) ∧ N (((r.set i (.d d1)).set j (.d d2)).set l (.d d3)) m1) : Wp K (tAsg te (gLst K 3 (gCons (gName i) (gCons (gName j) (gCons (gName l) gNil))))) r m N E := fun σ H G D S L a b =>
  h σ H G S L _ fun v H1 G1 x m1 ⟨d1, d2, d3, hx, q⟩ S1 e1 r1 => by
    subst hx
    obtain ⟨p, xs, hv, hs, hA⟩ := rp_list.mp r1.rp
    obtain ⟨x1, t1, rfl, a1, hA⟩ := rpa_cons.mp hA
    obtain ⟨x2, t2, rfl, a2, hA⟩ := rpa_cons.mp hA
    obtain ⟨x3, t3, rfl, a3, hA⟩ := rpa_cons.mp hA
    obtain rfl := rpa_nil.mp hA
    refine ⟨p, _, hv, Or.inl (Le.rd S1.sub hs), rfl, x1, _, rfl, x2, _, rfl, x3, [], rfl, rfl, ?_⟩
    exact a _ H1 G1 _ m1 q S1 e1 ((((L.mono e1).set (r := .d d1) (.d a1) i).set (r := .d d2) (.d a2) j).set (r := .d d3) (.d a3) l)
end
end DL


namespace DL
open PySem L2 PySem.W

/-- sorted(e, key=len), the items tuples of ints -/
def tSortLen (K : PySem.W.Frag) (ta : TA) : TE := fun σ H Q => ta σ H fun vs H1 => ∃ (a : Addr) (bs : List (V × List Int)), vs = [.ref a] ∧ SqL K H1 a (bs.map (·.1)) ∧ (∀ b ∈ bs, ∃ t, b.1 = .ref t ∧ SqT K H1 t (b.2.map V.int)) ∧
  ∀ p, H1 p = none → Q (.ref p) (upd H1 p (.lst ((bs.mergeSort fun a b => decide ((a.2.length : Int) ≤ (b.2.length : Int))).map (·.1))))
theorem each_of {bs : List (V × List Int)} : ∀ {us : List Value}, Vals (bs.map (·.1)) us → EachIs (fun (v : Value) (b : V × List Int) => RelV b.1 v) us bs := by
  induction bs with
  | nil => intro us r; rw [List.map_nil] at r; cases r; exact .nil
  | cons b bs ih =>
    intro us r
    rw [List.map_cons] at r
    cases r with
    | cons r1 r2 => exact .cons r1 (ih r2)
theorem vals_each {bs : List (V × List Int)} : ∀ {us : List Value}, EachIs (fun (v : Value) (b : V × List Int) => RelV b.1 v) us bs → Vals (bs.map (·.1)) us := by
  induction bs with
  | nil => intro us r; cases r; exact .nil
  | cons b bs ih =>
    intro us r
    cases r with
    | cons r1 r2 => rw [List.map_cons]; exact .cons r1 (ih r2)
theorem pe_sortLen {X : Cx} {e : Expr} {ta : TA} {p pos p2 kpos : Pos} {k : Nat} (hr : Room k X.A) (hg : Gl X "sorted") (hm : X.mg "sorted" = none) (hgl : Gl X "len") (hml : X.mg "len" = none) (hpa : PA X [e] ta)
    (he : backTo pos (starEach [e] X.env) = (false, eval e X.env) :: backTo pos (starEach [] X.env) := by rfl) (hpl : (backTo pos (starEach [e] X.env)).any (·.1) = false := by rfl)
    (hall : (backToKw pos (keywordEach [⟨some "key", .Name "len" p2, kpos⟩] X.env)).all (·.1.isSome) = true := by rfl) (hnone : (backToKw pos (keywordEach [⟨some "key", .Name "len" p2, kpos⟩] X.env)).any (·.1.isNone) = false := by rfl)
    (hks : (backToKw pos (keywordEach [⟨some "key", .Name "len" p2, kpos⟩] X.env)).filterMap (·.1) = [Str.ofString "key"] := by rfl) :
    PE X (.Call (.Name "sorted" p) [e] [⟨some "key", .Name "len" p2, kpos⟩] pos) (tSortLen X.K ta) := by
  refine ⟨fun pins s σ H Q I h => ?_⟩
  refine wpAny_Call_Name_kw (ld_blt I hg hm (u := .builtin "sorted") (by decide +kernel) ?_)
  refine PyProof.Rows.callWith_kw (thn (hpa.run pos pins s σ H _ I h) fun us s1 ⟨vs, H1, I1, r1, q1⟩ => ?_) he hpl hall hnone
  obtain ⟨a, bs, ev, hs, ht, q⟩ := q1
  subst ev
  obtain ⟨u, rfl, rx⟩ := vals1 r1
  cases rx
  show wpAny _ _ (evalAll ((do let v ← eval (.Name "len" p2) X.env; standAt pos; pure v) :: [])) _ _ s1
  refine wpAny_evalAll_cons (wpAny_bind (ld_blt I1 hgl hml (u := .builtin "len") (by decide +kernel) (wpAny_bind (wpAny_standAt (wpAny_pure ?_)))))
  refine wpAny_evalAll_nil ?_
  rw [hks]
  show wpAny _ _ (call (.builtin "sorted") [.ref a] [(Str.ofString "key", .builtin "len")]) _ _ s1
  obtain ⟨its, rv, hl, hz⟩ := I1.list hs
  have hlen := rv.length
  rw [List.length_map] at hlen
  have hun := hr.un
  refine sorted_key_data (k := fun b : V × List Int => PyData.int (b.2.length : Int)) hl.isList (each_of rv) ?_ ?_ ?_ ?_ (PyProof.Rows.ksk_s1 _ _) (fun x => PyProof.Rows.ksk_l1 _ _) (fun x => PyProof.Rows.ksk_t4 "len" x) ?_ ?_
  · intro d hd d' hd'
    obtain ⟨b, _, rfl⟩ := List.mem_map.mp hd
    obtain ⟨b', _, rfl⟩ := List.mem_map.mp hd'
    rfl
  · refine Or.inr fun d hd => ?_
    obtain ⟨b, _, rfl⟩ := List.mem_map.mp hd
    exact ⟨(fun z => nomatch z), fun xs z => nomatch z⟩
  · rw [List.length_map] at hz; exact hz
  · intro b _
    show X.A.units + 2 + (PyData.int _).depth < cLine
    simp only [PyData.depth]
    omega
  · intro v b hR hb h tk hk
    obtain ⟨t, e1, hq⟩ := ht b hb
    rw [e1] at hR
    obtain rfl : v = Value.ref t := hR
    obtain ⟨its2, rv2, ht2, hz2⟩ := I1.tuple hq
    have hl2 := rv2.length
    rw [List.length_map] at hl2 hz2
    have hn := line63
    obtain ⟨o, ho, hc, n, hd⟩ := ht2
    refine PyProof.Rows.len_tuple (s := { s1 with heap := h, toks := tk }) (items := its2.toArray) ⟨o, hk _ _ ho, hc, n, hd⟩ (by simp only [List.size_toArray] <;> omega) ?_
    refine ⟨h, _, rfl, fun _ _ q => q, ?_⟩
    rw [List.size_toArray, ← hl2]
    exact .int _ _
  · intro out c h' tk hk hn0 hg' hlen' hE
    rw [dataLe_int] at hE
    have hp := I1.hok.fresh (Nat.le_succ s1.heap.objs.size)
    refine ⟨.ref _, upd H1 (s1.heap.objs.size + 1) (.lst ((bs.mergeSort fun a b => decide ((a.2.length : Int) ≤ (b.2.length : Int))).map (·.1))), I1.laid (t' := tk) hk (Nat.le_succ _) ⟨?_, out, c, vals_each hE, hg'⟩, rfl, q _ hp⟩
    rw [List.length_map, List.length_mergeSort]
    rw [List.length_map] at hz; exact hz
theorem kSortLen {X : Cx} (K : PySem.W.Frag) {e : Expr} {ta : TA} (h : PE X e (tSortLen X.K ta)) (hK : X.K = K := by rfl) : PE X e (tSortLen K ta) := hK ▸ h
end DL


namespace DL
open PySem L2

/-! a display of one pair, its key a tuple -/
section
variable {prog : Program} {w : World} {A : Around} {E : Value → Shared → Prop} {s : Shared}
theorem wpAny_Dict_one {κ : Type} [DecidableEq κ] {knd : HeapKind prog w κ} {env : Env} {k v : Expr} {pos : Pos} {Q : Value → Shared → Prop} (hu : knd.room A)
    (h : wpAny (model prog w) A (evalPairs (pairTrees [some k] [v] env pos)) (fun vs s₁ => ∃ ps, CarriesH knd s₁.heap vs ps ∧ s₁.heap.DictOfH knd s.heap.objs.size [] ∧
      ∀ h' tk, h'.DictOfH knd s.heap.objs.size (storedAllH [] ps) → Heap.SameBut s.heap.objs.size s₁.heap h' → Q (.ref s.heap.objs.size) { s₁ with heap := h', toks := tk }) E
      { s with heap := s.heap.push { cls := .type "dict", data := .dict #[] } }) :
    wpAny (model prog w) A (eval (.Dict [some k] [v] pos) env) Q E s := by
  have hn := pairTrees_length [some k] [v] env pos rfl rfl
  rw [arm_eval_Dict, zip_pairTrees [some k] [v] env pos rfl rfl, dictDisplay_pairs _ (fun e => by rw [e] at hn; cases hn) (by rw [hn]; show 1 < 17; decide)]
  exact wpAny_bind (wpAny_standAt (wpAny_bind (wpAny_subDictH (knd := knd) (Q := fun d s' => wpAny (model prog w) A (pure (Value.ref d)) Q E s') hu (by rw [hn]; show 1 ≤ 15; decide)
    (wpAny_mono h (fun vs s₁ h₁ => by obtain ⟨ps, hc, hm, hq⟩ := h₁; exact ⟨ps, hc, hm, fun h' tk a b => wpAny_pure (hq h' tk a b)⟩) fun _ _ e => e))))
end
def tDisp1 (tk tv : TE) : TE := fun σ H Q => ∀ p, H p = none → tk σ (upd H p (.dT [])) fun x H1 => tv σ H1 fun y H2 => ∃ (b : Addr) (k : List Key), x = .ref b ∧ H2 b = some (.tup (k.map kV)) ∧ H2 p = some (.dT []) ∧ Q (.ref p) (upd H2 p (.dT [(k, y)]))
theorem pe_disp1 {X : Cx} {pos : Pos} {k v : Expr} {tk tv : TE} {j : Nat} (hr : Room j X.A) (hk : PE X k tk) (hv : PE X v tv) : PE X (.Dict [some k] [v] pos) (tDisp1 tk tv) := by
  refine ⟨fun pins s σ H Q I q => ?_⟩
  have hn := I.hok.fresh (Nat.le_refl s.heap.objs.size)
  have hun := hr.un
  have I1 := I.laid (a := s.heap.objs.size) (o := .dT []) (h' := s.heap.push { cls := .type "dict", data := .dict #[] }) (t' := s.toks) (fun _ _ q => Heap.get?_push_of_some _ q) (Nat.le_refl _) (dt_empty s.heap I.big)
  refine wpAny_Dict_one (knd := tupleKind (mixKind X.prog X.w)) (show X.A.units < cLine by omega) ?_
  refine pairTrees_cons_walk (thn (hk.run pins _ σ _ _ I1 (q _ hn)) fun u s1 ⟨x, H1, I2, rx, q1⟩ => thn (hv.run pins s1 σ H1 _ I2 q1) fun u2 s2 ⟨y, H2, I3, ry, q2⟩ => pairTrees_nil_walk ?_)
  obtain ⟨b, ks, rfl, hb, hp, q3⟩ := q2
  cases rx
  obtain ⟨z, hd, xs, rel, dd⟩ := dt_of I3.hok hp
  cases rel
  refine ⟨[(ks, b, u2)], ⟨rfl, rfl, key_of I3.hok hb, trivial⟩, dd, fun h' tk dd' hs => ⟨.ref s.heap.objs.size, _, ?_, rfl, q3⟩⟩
  obtain ⟨qo, es, ep, hq, h2, h3, h4, _, h5⟩ := dd'
  refine d_write (t' := tk) I3 (by rw [hp]; exact True.intro) hs ⟨qo, hq⟩ ⟨by show 1 ≤ sizeLine; decide, hd, _, ?_, qo, es, ep, hq, h2, h3, h4, h5⟩
  refine .cons ⟨rfl, ?_, ry⟩ .nil
  have hne : b ≠ s.heap.objs.size := fun e => by rw [e, hp] at hb; cases hb
  show upd H2 s.heap.objs.size (.dT [(ks, y)]) b = _
  rw [upd_ne hne]
  exact hb

/-! dicts at the level of data -/
def getV {κ : Type} [DecidableEq κ] (kvs : List (κ × Val)) (k : κ) : Option Val := (kvs.find? fun kv => decide (kv.1 = k)).map (·.2)
def putV {κ : Type} [DecidableEq κ] (kvs : List (κ × Val)) (k : κ) (v : Val) : List (κ × Val) :=
  if (kvs.any fun kv => decide (kv.1 = k)) then kvs.map (fun kv => if kv.1 = k then (kv.1, v) else kv) else kvs ++ [(k, v)]
section
variable {K : PySem.W.Frag} {G : Hp} {κ : Type} [DecidableEq κ]
theorem KVs.len : ∀ {kvs : List (κ × Val)} {es : List (κ × V)}, KVs K G kvs es → es.length = kvs.length
  | [], es, h => by
    have h : es = [] := h
    rw [h]; rfl
  | (k, r) :: t, es, h => by
    obtain ⟨v, u, rfl, _, h3⟩ := h
    rw [List.length_cons, List.length_cons, KVs.len h3]
theorem KVs.get (k : κ) : ∀ {kvs : List (κ × Val)} {es : List (κ × V)}, KVs K G kvs es → (∀ r, getV kvs k = some r → ∃ v, valV es k = some v ∧ VR K G r v) ∧ (getV kvs k = none → valV es k = none)
  | [], es, h => by
    have h : es = [] := h
    subst h
    exact ⟨(fun r e => nomatch e), fun _ => rfl⟩
  | (j, x) :: t, es, h => by
    obtain ⟨v, u, rfl, h2, h3⟩ := h
    obtain ⟨ih1, ih2⟩ := KVs.get k h3
    by_cases e : j = k
    · have e1 : getV ((j, x) :: t) k = some x := by simp [getV, List.find?_cons, e]
      rw [e1, valV_pos (p := (j, v)) e]
      exact ⟨fun r hr => ⟨v, rfl, by cases hr; exact h2⟩, fun z => nomatch z⟩
    · have e1 : getV ((j, x) :: t) k = getV t k := by simp [getV, List.find?_cons, e]
      rw [e1, valV_neg (p := (j, v)) e]
      exact ⟨ih1, ih2⟩
theorem KVs.any (k : κ) : ∀ {kvs : List (κ × Val)} {es : List (κ × V)}, KVs K G kvs es → (es.any fun kv => decide (kv.1 = k)) = (kvs.any fun kv => decide (kv.1 = k))
  | [], es, h => by
    have h : es = [] := h
    subst h; rfl
  | (j, x) :: t, es, h => by
    obtain ⟨v, u, rfl, h2, h3⟩ := h
    rw [List.any_cons, List.any_cons, KVs.any k h3]
theorem KVs.repl (k : κ) {y : Val} {v : V} (hv : VR K G y v) : ∀ {kvs : List (κ × Val)} {es : List (κ × V)}, KVs K G kvs es → KVs K G (kvs.map fun kv => if kv.1 = k then (kv.1, y) else kv) (es.map fun kv => if kv.1 = k then (kv.1, v) else kv)
  | [], es, h => by
    have h : es = [] := h
    subst h; exact rfl
  | (j, x) :: t, es, h => by
    obtain ⟨w, u, rfl, h2, h3⟩ := h
    rw [List.map_cons, List.map_cons]
    by_cases e : j = k
    · simp only [e, if_true]
      exact ⟨v, _, rfl, hv, by simpa [e] using KVs.repl k hv h3⟩
    · simp only [e, if_false]
      exact ⟨w, _, rfl, h2, by simpa [e] using KVs.repl k hv h3⟩
theorem KVs.snoc (k : κ) {y : Val} {v : V} (hv : VR K G y v) : ∀ {kvs : List (κ × Val)} {es : List (κ × V)}, KVs K G kvs es → KVs K G (kvs ++ [(k, y)]) (es ++ [(k, v)])
  | [], es, h => by
    have h : es = [] := h
    subst h; exact ⟨v, [], rfl, hv, rfl⟩
  | (j, x) :: t, es, h => by
    obtain ⟨w, u, rfl, h2, h3⟩ := h
    exact ⟨w, u ++ [(k, v)], rfl, h2, KVs.snoc k hv h3⟩
theorem KVs.put (k : κ) {y : Val} {v : V} {kvs : List (κ × Val)} {es : List (κ × V)} (h : KVs K G kvs es) (hv : VR K G y v) : KVs K G (putV kvs k y) (putK es k v) := by
  unfold putV putK
  rw [h.any k]
  split
  · exact h.repl k hv
  · exact h.snoc k hv
theorem getV_put (kvs : List (κ × Val)) (k j : κ) (y : Val) : getV (putV kvs k y) j = if j = k then some y else getV kvs j := by
  unfold putV
  by_cases h : (kvs.any fun kv => decide (kv.1 = k)) = true
  · rw [if_pos h]
    have aux : ∀ kvs : List (κ × Val), getV (kvs.map fun kv => if kv.1 = k then (kv.1, y) else kv) j = if j = k then (getV kvs k).map (fun _ => y) else getV kvs j := by
      intro kvs
      induction kvs with
      | nil => simp [getV]
      | cons p t ih =>
        obtain ⟨a, b⟩ := p
        rw [List.map_cons]
        by_cases e : a = k
        · subst e
          by_cases e2 : j = a
          · subst e2; simp [getV, List.find?_cons]
          · have : ¬ a = j := fun z => e2 z.symm
            simp only [if_true]
            have l1 : getV ((a, y) :: t.map fun kv => if kv.1 = a then (kv.1, y) else kv) j = getV (t.map fun kv => if kv.1 = a then (kv.1, y) else kv) j := by simp [getV, List.find?_cons, this]
            have l2 : getV ((a, b) :: t) j = getV t j := by simp [getV, List.find?_cons, this]
            rw [l1, ih, if_neg e2, if_neg e2, l2]
        · simp only [e, if_false]
          by_cases e2 : a = j
          · subst e2
            have l1 : ∀ t', getV ((a, b) :: t') a = some b := fun t' => by simp [getV, List.find?_cons]
            rw [l1, l1, if_neg e]
          · have l1 : ∀ t', getV ((a, b) :: t') j = getV t' j := fun t' => by simp [getV, List.find?_cons, e2]
            have l2 : getV ((a, b) :: t) k = getV t k := by simp [getV, List.find?_cons, e]
            rw [l1, l1, l2, ih]
    rw [aux]
    by_cases e : j = k
    · rw [if_pos e, if_pos e]
      have : ∃ r, getV kvs k = some r := by
        obtain ⟨p, hp1, hp2⟩ := List.any_eq_true.mp h
        unfold getV
        cases hf : kvs.find? fun kv => decide (kv.1 = k) with
        | none => exact absurd hp2 (by have := List.find?_eq_none.mp hf p hp1; simpa using this)
        | some q => exact ⟨_, rfl⟩
      obtain ⟨r, hr⟩ := this
      rw [hr]; rfl
    · rw [if_neg e, if_neg e]
  · rw [if_neg h]
    have hno : ∀ p ∈ kvs, ¬ p.1 = k := fun p hp e => h (List.any_eq_true.mpr ⟨p, hp, decide_eq_true e⟩)
    unfold getV
    rw [List.find?_append]
    by_cases e : j = k
    · subst e
      have : (kvs.find? fun kv => decide (kv.1 = j)) = none := List.find?_eq_none.mpr fun p hp => by simpa using hno p hp
      rw [this]
      simp
    · have : ¬ k = j := fun z => e z.symm
      rw [if_neg e]
      cases hf : kvs.find? fun kv => decide (kv.1 = j) with
      | none => simp [this]
      | some q => rfl
theorem putV_new {kvs : List (κ × Val)} {k : κ} (y : Val) (h : ∀ p ∈ kvs, p.1 ≠ k) : putV kvs k y = kvs ++ [(k, y)] := by
  unfold putV
  rw [if_neg]
  intro e
  obtain ⟨p, h1, h2⟩ := List.any_eq_true.mp e
  exact h p h1 (of_decide_eq_true h2)
theorem putV_len (kvs : List (κ × Val)) (k : κ) (y : Val) : (putV kvs k y).length ≤ kvs.length + 1 := by
  unfold putV
  split
  · rw [List.length_map]; omega
  · rw [List.length_append]; exact Nat.le_refl _
end
/-- a key of whole numbers -/
def kI (ns : List Int) : List Key := ns.map Sum.inl
theorem kI_kV (ns : List Int) : (kI ns).map kV = ns.map V.int := by
  unfold kI
  rw [List.map_map]; rfl
theorem kI_inj {a b : List Int} (h : kI a = kI b) : a = b := List.map_inj_right (fun _ _ e => Sum.inl.inj e) |>.mp h
section
variable {K : PySem.W.Frag} {r : List Val} {m : Mm} {Q : Val → Mm → Prop} {ta tb tc te td ty tv tx : TE} {tt : TT} {N : List Val → Mm → Prop} {E : Val → Mm → Prop} {t : TS}
/-- the dict at p, as it may be read -/
def Dat (m : Mm) (p : Addr) (kvs : List (List Key × Val)) : Prop := m p = some (.dT kvs) ∨ ∃ od es, m p = some (.lk od es kvs)
theorem Dat.rd {p : Addr} {kvs : List (List Key × Val)} {H G : Hp} (h : Dat m p kvs) (S : Sta K m H G) : ∃ es, Rd H p (.dT es) ∧ KVs K G kvs es := by
  rcases h with h | ⟨od, es, h⟩
  · obtain ⟨es, h1, h2⟩ := S.mem p _ h
    exact ⟨es, Or.inl h1, h2⟩
  · obtain ⟨h1, h2⟩ := S.mem p _ h
    exact ⟨es, Or.inr ⟨od, h1⟩, h2⟩
theorem t_of {G : Hp} {ns : List Int} {v : V} (h : VR K G (.t ns) v) : ∃ b, v = .ref b ∧ G b = some (.tup ((kI ns).map kV)) := by
  cases h with
  | t h => exact ⟨_, rfl, by rw [kI_kV]; exact h⟩
theorem t_d {G : Hp} {ns : List Int} {v : V} (h : VR K G (.t ns) v) : VR K G (.d (tupI ns)) v := by
  cases h with
  | t h => exact .d (rp_tuple.mpr ⟨_, _, rfl, SqT.of h, rpa_ints ns⟩)
theorem lt_d {G : Hp} {nss : List (List Int)} {v : V} (h : VR K G (.lt nss) v) : VR K G (.d (.list (nss.map tupI))) v := by
  cases h with
  | lt h h2 => exact .d (rp_list.mpr ⟨_, _, rfl, h, h2.all⟩)
theorem ev_t2d (h : Ev K te r m fun x m1 => ∃ ns, x = .t ns ∧ Q (.d (tupI ns)) m1) : Ev K te r m Q := fun σ H G S L R k =>
  h σ H G S L R fun v H1 G1 x m1 ⟨ns, hx, q⟩ S1 e1 r1 => by
    subst hx
    exact k v H1 G1 _ m1 q S1 e1 (t_d r1)
theorem ev_lt2d (h : Ev K te r m fun x m1 => ∃ nss, x = .lt nss ∧ Q (.d (.list (nss.map tupI))) m1) : Ev K te r m Q := fun σ H G S L R k =>
  h σ H G S L R fun v H1 G1 x m1 ⟨ns, hx, q⟩ S1 e1 r1 => by
    subst hx
    exact k v H1 G1 _ m1 q S1 e1 (lt_d r1)
theorem ev_varT {i : Nat} {ns : List Int} (h : r[i]? = some (.t ns)) (q : Q (.d (tupI ns)) m) : Ev K (tVar i) r m Q := ev_t2d (ev_var h (fun z => nomatch z) ⟨ns, rfl, q⟩)
theorem ev_varTN {i : Nat} {ks : List Nat} (h : r[i]? = some (.t (ks.map fun (k : Nat) => (k : Int)))) (q : Q (.d (tupN ks)) m) : Ev K (tVar i) r m Q := ev_varT h q
theorem ev_varL {i : Nat} {nss : List (List Int)} (h : r[i]? = some (.lt nss)) (q : Q (.d (.list (nss.map tupI))) m) : Ev K (tVar i) r m Q := ev_lt2d (ev_var h (fun z => nomatch z) ⟨nss, rfl, q⟩)
theorem ev_dget (h : Ev K td r m fun x m1 => ∃ p, x = .v (.ref p) ∧ Ev K ty r m1 fun y m2 => ∃ ns kvs z, y = .t ns ∧ Dat m2 p kvs ∧ getV kvs (kI ns) = some z ∧ Q z m2) : Ev K (tDGet td ty) r m Q := fun σ H G S L R k =>
  h σ H G S L _ fun v H1 G1 x m1 ⟨p, hx, h1⟩ S1 e1 r1 => h1 σ H1 G1 S1 (L.mono e1) _ fun w H2 G2 y m2 ⟨ns, kvs, z, hy, hd, hg, q⟩ S2 e2 r2 => by
    subst hx hy
    have r1 := r1.eq
    subst r1
    obtain ⟨b, rfl, hb⟩ := t_of r2
    obtain ⟨es, g1, g2⟩ := hd.rd S2
    obtain ⟨u, hu, ru⟩ := (g2.get (kI ns)).1 z hg
    exact ⟨p, u, rfl, Or.inr ⟨es, kI ns, b, g1, rfl, S2.sub _ _ hb, hu.symm⟩, k u H2 G2 z m2 q S2 (e1.trans e2) ru⟩
theorem ev_din (h : Ev K ty r m fun y m1 => ∃ ns, y = .t ns ∧ Ev K td r m1 fun x m2 => ∃ p kvs, x = .v (.ref p) ∧ Dat m2 p kvs ∧ Q (.d (.bool (getV kvs (kI ns)).isSome)) m2) : Ev K (tDIn ty td) r m Q := fun σ H G S L R k =>
  h σ H G S L _ fun v H1 G1 x m1 ⟨ns, hx, h1⟩ S1 e1 r1 => h1 σ H1 G1 S1 (L.mono e1) _ fun w H2 G2 y m2 ⟨p, kvs, hy, hd, q⟩ S2 e2 r2 => by
    subst hx hy
    have r2 := r2.eq
    subst r2
    obtain ⟨b, rfl, hb⟩ := t_of r1
    obtain ⟨es, g1, g2⟩ := hd.rd S2
    have e : (valV es (kI ns)).isSome = (getV kvs (kI ns)).isSome := by
      cases hg : getV kvs (kI ns) with
      | none => rw [(g2.get (kI ns)).2 hg]; rfl
      | some z => obtain ⟨u, hu, _⟩ := (g2.get (kI ns)).1 z hg; rw [hu]; rfl
    refine ⟨p, valV es (kI ns), rfl, Or.inr ⟨es, kI ns, b, g1, rfl, S2.sub _ _ (e2 _ _ hb), rfl⟩, ?_⟩
    rw [e]
    exact k _ H2 G2 _ m2 q S2 (e1.trans e2) vr_bool
theorem ev_dnotin (h : Ev K ty r m fun y m1 => ∃ ns, y = .t ns ∧ Ev K td r m1 fun x m2 => ∃ p kvs, x = .v (.ref p) ∧ Dat m2 p kvs ∧ Q (.d (.bool (!(getV kvs (kI ns)).isSome))) m2) : Ev K (tDNotIn ty td) r m Q := fun σ H G S L R k =>
  h σ H G S L _ fun v H1 G1 x m1 ⟨ns, hx, h1⟩ S1 e1 r1 => h1 σ H1 G1 S1 (L.mono e1) _ fun w H2 G2 y m2 ⟨p, kvs, hy, hd, q⟩ S2 e2 r2 => by
    subst hx hy
    have r2 := r2.eq
    subst r2
    obtain ⟨b, rfl, hb⟩ := t_of r1
    obtain ⟨es, g1, g2⟩ := hd.rd S2
    have e : (valV es (kI ns)).isSome = (getV kvs (kI ns)).isSome := by
      cases hg : getV kvs (kI ns) with
      | none => rw [(g2.get (kI ns)).2 hg]; rfl
      | some z => obtain ⟨u, hu, _⟩ := (g2.get (kI ns)).1 z hg; rw [hu]; rfl
    refine ⟨p, valV es (kI ns), rfl, Or.inr ⟨es, kI ns, b, g1, rfl, S2.sub _ _ (e2 _ _ hb), rfl⟩, ?_⟩
    rw [e]
    exact k _ H2 G2 _ m2 q S2 (e1.trans e2) vr_bool
theorem dat_isD {p : Addr} {kvs : List (List Key × Val)} {H G : Hp} (h : Dat m p kvs) (S : Sta K m H G) : IsD H p := by
  obtain ⟨es, h1, _⟩ := h.rd S
  exact Or.inr ⟨es, h1⟩
/-- d.get(k, e) -/
theorem ev_dget2 (h : Ev K td r m fun x m1 => ∃ p kvs, x = .v (.ref p) ∧ Dat m1 p kvs ∧ Ev K ty r m1 fun y m2 => ∃ ns, y = .t ns ∧ Ev K tx r m2 fun z m3 => ∃ kvs', Dat m3 p kvs' ∧ Q ((getV kvs' (kI ns)).getD z) m3) : Ev K (tDGet2 td ty tx) r m Q := fun σ H G S L R k =>
  h σ H G S L _ fun v H1 G1 x m1 ⟨p, kvs, hx, hd1, h1⟩ S1 e1 r1 => by
    subst hx
    have r1 := r1.eq
    subst r1
    refine ⟨p, rfl, dat_isD hd1 S1, ?_⟩
    refine h1 σ H1 G1 S1 (L.mono e1) _ fun w H2 G2 y m2 ⟨ns, hy, h2⟩ S2 e2 r2 => h2 σ H2 G2 S2 (L.mono (e1.trans e2)) _ fun u H3 G3 z m3 ⟨kvs', hd, q⟩ S3 e3 r3 => ?_
    subst hy
    obtain ⟨b, rfl, hb⟩ := t_of r2
    obtain ⟨es, g1, g2⟩ := hd.rd S3
    refine ⟨valV es (kI ns), Or.inr ⟨es, kI ns, b, g1, rfl, S3.sub _ _ (e3 _ _ hb), rfl⟩, ?_⟩
    have e0 := e1.trans (e2.trans e3)
    cases hg : getV kvs' (kI ns) with
    | none =>
      rw [hg] at q
      rw [(g2.get (kI ns)).2 hg]
      exact k _ H3 G3 _ m3 q S3 e0 r3
    | some y =>
      rw [hg] at q
      obtain ⟨u', hu, ru⟩ := (g2.get (kI ns)).1 y hg
      rw [hu]
      exact k _ H3 G3 _ m3 q S3 e0 ru
theorem ev_dnew (q : ∀ p, m p = none → Q (.v (.ref p)) (put m p (.dT []))) : Ev K tDNewT r m Q := fun σ H G S L R k p hp =>
  k (.ref p) _ G _ _ (q p (S.freeM hp)) (S.new hp ⟨[], upd_same, rfl⟩) (Le.refl G) .v
/-- {k: e} -/
theorem ev_disp1 (h : ∀ p, m p = none → Ev K ta r (put m p (.dT [])) fun x m1 => ∃ ns, x = .t ns ∧ Ev K tv r m1 fun y m2 => m2 p = some (.dT []) ∧ Q (.v (.ref p)) (put m2 p (.dT [(kI ns, y)]))) : Ev K (tDisp1 ta tv) r m Q := fun σ H G S L R k p hp =>
  h p (S.freeM hp) σ _ G (S.new hp ⟨[], upd_same, rfl⟩) L _ fun v H1 G1 x m1 ⟨ns, hx, h1⟩ S1 e1 r1 => h1 σ H1 G1 S1 (L.mono e1) _ fun w H2 G2 y m2 ⟨hm, q⟩ S2 e2 r2 => by
    subst hx
    obtain ⟨b, rfl, hb⟩ := t_of r1
    obtain ⟨es, g1, g2⟩ := S2.mem p _ hm
    have g2 : es = [] := g2
    subst g2
    exact ⟨b, kI ns, rfl, S2.sub _ _ (e2 _ _ hb), g1, k (.ref p) _ G2 _ _ q (S2.chg hm ⟨_, upd_same, w, [], rfl, r2, rfl⟩) (e1.trans e2) .v⟩
/-- d[k] = e -/
theorem w_dput (h : Ev K tv r m fun x m1 => Ev K td r m1 fun y m2 => ∃ p, y = .v (.ref p) ∧ Ev K ty r m2 fun z m3 => ∃ ns kvs, z = .t ns ∧ m3 p = some (.dT kvs) ∧ kvs.length < 100000 ∧ N r (put m3 p (.dT (putV kvs (kI ns) x)))) : Wp K (sDPut td ty tv) r m N E := fun σ H G D S L a b =>
  h σ H G S L _ fun v H1 G1 x m1 h1 S1 e1 r1 => h1 σ H1 G1 S1 (L.mono e1) _ fun w H2 G2 y m2 ⟨p, hy, h2⟩ S2 e2 r2 => h2 σ H2 G2 S2 (L.mono (e1.trans e2)) _ fun u H3 G3 z m3 ⟨ns, kvs, hz, hm, hl, q⟩ S3 e3 r3 => by
    subst hy hz
    have r2 := r2.eq
    subst r2
    obtain ⟨bk, rfl, hb⟩ := t_of r3
    obtain ⟨es, g1, g2⟩ := S3.mem p _ hm
    have hput : KVs K G3 (putV kvs (kI ns) x) (putK es (kI ns) v) := g2.put (kI ns) (r1.mono (e2.trans e3))
    refine ⟨p, upd H3 p (.dT (putK es (kI ns) v)), rfl, DPut.t g1 (S3.sub _ _ hb) (Nat.lt_of_lt_of_le (by rw [g2.len]; exact hl) (by decide)), ?_⟩
    exact a σ _ G3 r _ q (S3.chg hm ⟨_, upd_same, hput⟩) (e1.trans (e2.trans e3)) (L.mono (e1.trans (e2.trans e3)))
/-- a tuple that is there, taken as one that stays -/
theorem Sta.adopt {H G : Hp} {q : Addr} {xs : List V} (S : Sta K m H G) (h : H q = some (.tup xs)) : Sta K m H (upd G q (.tup xs)) ∧ Le G (upd G q (.tup xs)) := by
  have le : Le G (upd G q (.tup xs)) := fun a o e => by
    by_cases ha : a = q
    · subst ha
      have := S.sub _ _ e
      rw [h] at this
      cases this
      exact upd_same
    · rw [upd_ne ha]; exact e
  have hm : m q = none := by
    cases e : m q with
    | none => rfl
    | some o =>
      have hM := S.mem q o e
      cases o with
      | lst rs => obtain ⟨_, g, _⟩ := hM; rw [h] at g; cases g
      | dT rs => obtain ⟨_, g, _⟩ := hM; rw [h] at g; cases g
      | dK rs => obtain ⟨_, g, _⟩ := hM; rw [h] at g; cases g
      | lk a b c => obtain ⟨g, _⟩ := hM; rw [h] at g; cases g
      | box => obtain ⟨_, g⟩ := hM; rw [h] at g; cases g
      | g P => exact absurd h (hM.2.2.2 xs)
  refine ⟨⟨fun a o e => ?_, fun a o e => (S.mem a o e).mono le rfl, fun a o e => ?_⟩, le⟩
  · by_cases ha : a = q
    · subst ha; rw [upd_same] at e; cases e; exact h
    · rw [upd_ne ha] at e; exact S.sub a o e
  · rw [upd_ne (fun z => by rw [z, hm] at e; cases e)]; exact S.dis a o e
/-- for k in a dict -/
theorem w_forD {j : Nat} {p : Addr} {kvs : List (List Int × Val)} (hm : m p = some (.dT (kvs.map fun kv => (kI kv.1, kv.2))))
    (h : ∀ od es, Ev K td r (put m p (.lk od es (kvs.map fun kv => (kI kv.1, kv.2)))) fun x m1 => x = .v (.ref p) ∧ m1 = put m p (.lk od es (kvs.map fun kv => (kI kv.1, kv.2))))
    (W : Nat → List Val → Mm → Prop) (h0 : W 0 r m)
    (hs : ∀ (i : Nat) (k : List Int) (z : Val) r' m' od es, kvs[i]? = some (k, z) → W i r' m' → m' p = some (.dT (kvs.map fun kv => (kI kv.1, kv.2))) →
      Wp K t (r'.set j (.t k)) (put m' p (.lk od es (kvs.map fun kv => (kI kv.1, kv.2)))) (fun r2 m2 => m2 p = some (.lk od es (kvs.map fun kv => (kI kv.1, kv.2))) ∧ W (i + 1) r2 (put m2 p (.dT (kvs.map fun kv => (kI kv.1, kv.2))))) (fun x m2 => m2 p = some (.lk od es (kvs.map fun kv => (kI kv.1, kv.2))) ∧ E x (put m2 p (.dT (kvs.map fun kv => (kI kv.1, kv.2))))))
    (hd : ∀ r' m', W kvs.length r' m' → N r' m') : Wp K (tLock (tFor (iKeys td) (gName j) t)) r m N E := fun σ H G D S L a b => by
  generalize hkk : kvs.map (fun kv => (kI kv.1, kv.2)) = kk at *
  obtain ⟨es, g1, g2⟩ := S.mem p _ hm
  have hlen : es.length = kvs.length := by rw [g2.len, ← hkk, List.length_map]
  have keyAt : ∀ (i : Nat) (k : List Key) (v : V), es[i]? = some (k, v) → ∃ kz, kvs[i]? = some kz ∧ k = kI kz.1 := by
    have aux : ∀ (kk : List (List Key × Val)) (es : List (List Key × V)) (i : Nat) (k : List Key) (v : V), KVs K G kk es → es[i]? = some (k, v) → ∃ z, kk[i]? = some (k, z) := by
      intro kk
      induction kk with
      | nil => intro es i k v h e; have h : es = [] := h; subst h; simp at e
      | cons p t ih =>
        intro es i k v h e
        obtain ⟨k0, r0⟩ := p
        obtain ⟨v0, u, rfl, _, h3⟩ := h
        cases i with
        | zero => simp at e; exact ⟨r0, by simp [e.1]⟩
        | succ i => simpa using ih u i k v h3 (by simpa using e)
    intro i k v he
    obtain ⟨z, hz⟩ := aux kk es i k v g2 he
    rw [← hkk, List.getElem?_map] at hz
    cases hx : kvs[i]? with
    | none => rw [hx] at hz; cases hz
    | some kz => rw [hx] at hz; cases hz; exact ⟨kz, rfl, rfl⟩
  refine ⟨p, .dT es, g1, trivial, fun od => ?_⟩
  have S1 : Sta K (put m p (.lk od es kk)) (upd H p (.frz od (.dT es))) G := S.chg hm ⟨upd_same, g2⟩
  refine h od es σ _ G S1 L _ fun v H1 G1 x m1 ⟨hx, hm1⟩ S2 e1 r1 => ?_
  subst hx hm1
  have r1 := r1.eq
  subst r1
  obtain ⟨g3, g4⟩ := S2.mem p _ put_same
  have back : ∀ {m' : Mm} {H' G' : Hp}, Sta K m' H' G' → m' p = some (.lk od es kk) → Sta K (put m' p (.dT kk)) (upd H' p (.dT es)) G' := fun {m' H' G'} S' hm' => S'.chg hm' ⟨es, upd_same, (S'.mem p _ hm').2⟩
  refine ⟨p, od, rfl, Or.inr ⟨es, g3, for_it (walk_keysT (kvs := es)) (fun i σ' H' => ∃ G' r' m', W i r' (put m' p (.dT kk)) ∧ m' p = some (.lk od es kk) ∧ Sta K m' H' G' ∧ Le G G' ∧ Sl K G' r' σ') ⟨G1, r, _, ?_, put_same, S2, e1, L.mono e1⟩ ?_ ?_ ?_⟩⟩
  · rw [put_put]
    have e : put m p (.dT kk) = m := by
      funext c
      unfold put
      by_cases hc : c = p
      · rw [if_pos hc, hc, hm]
      · rw [if_neg hc]
    rw [e]; exact h0
  · rintro i σ' H' hi ⟨G', r', m', _, hm', S', _, _⟩
    exact (S'.mem p _ hm').1
  · rintro i y σ' H' H2 hi ⟨G', r', m', hw, hm', S', e', L'⟩ ⟨rfl, k, v, q, hk, rfl, hq⟩
    obtain ⟨⟨ki, z⟩, hkz, rfl⟩ := keyAt i k v hk
    rw [kI_kV] at hq
    obtain ⟨S3, e3⟩ := S'.adopt hq
    have hmm : put (put m' p (.dT kk)) p (.lk od es kk) = m' := by
      rw [put_put]
      funext c
      unfold put
      by_cases hc : c = p
      · rw [if_pos hc, hc, hm']
      · rw [if_neg hc]
    have hW := hs i ki z r' (put m' p (.dT kk)) od es hkz hw put_same
    rw [hmm] at hW
    refine hW (σ'.set j (some (.ref q))) _ _ _ S3 ((L'.mono e3).set (r := .t ki) (.t upd_same) j) (fun σ3 H3 G3 r3 m3 ⟨h3, hw3⟩ S3 e4 L3 => ⟨G3, r3, m3, hw3, h3, S3, e'.trans (e3.trans e4), L3⟩) (fun v H3 G3 x m3 ⟨h3, hE⟩ S3 e4 L3 => ?_)
    exact ⟨(S3.mem p _ h3).1, b v _ G3 x _ hE (back S3 h3) (e'.trans (e3.trans e4)) L3⟩
  · rintro σ' H' ⟨G', r', m', hw, hm', S', e', L'⟩
    rw [hlen] at hw
    exact ⟨(S'.mem p _ hm').1, a σ' _ G' r' _ (hd r' _ hw) (back S' hm') e' L'⟩
end
end DL


namespace DL
open PySem L2

section
variable {K : PySem.W.Frag} {r : List Val} {m : Mm} {Q : Val → Mm → Prop} {ta tb tc te tl : TE} {tt : TT} {N : List Val → Mm → Prop} {E : Val → Mm → Prop} {t : TS}
/-! tuples of ints that the code makes -/
theorem VRs.ints {G : Hp} : ∀ {ns : List Int} {xs : List V}, VRs K G (ns.map fun n => .d (.int n)) xs → xs = ns.map V.int
  | [], xs, h => h
  | n :: ns, xs, h => by
    obtain ⟨x, u, rfl, h1, h2⟩ := h
    rw [int_of h1, VRs.ints h2]; rfl
theorem ev_tupT {t : TA} (h : EvA K t r m fun xs m1 => ∃ ns : List Int, xs = ns.map (fun n => Val.d (.int n)) ∧ ns.length ≤ 100000 ∧ Q (.t ns) m1) : Ev K (tTup t) r m Q := fun σ H G S L R k =>
  h σ H G S L _ fun vs H1 G1 xs m1 ⟨ns, hx, hl, q⟩ S1 e1 r1 => by
    subst hx
    have hv := r1.ints
    subst hv
    refine ⟨by rw [List.length_map]; exact Nat.le_trans hl (by decide), fun p hp => ?_⟩
    have hg := S1.free hp
    exact k (.ref p) _ (upd G1 p _) _ m1 q (S1.fix hp) (e1.trans (Le.new hg)) (.t upd_same)
theorem on_tupLt {ns : List Int} (q : Q (.t ns) m) : OpN K (rTupO K) [.d (.list (ns.map PyData.int))] m Q := fun H G vs S a R k => by
  obtain ⟨v, rfl, h⟩ := vrs1 a
  obtain ⟨p, xs, hv, h2, h3⟩ := rp_list.mp h.rp
  have hx := h3.ints
  subst hx
  refine ⟨p, _, by rw [hv], Or.inl ⟨Or.inl (Le.rd S.sub h2), fun l hl => ?_⟩⟩
  have hg := S.free hl
  exact k _ _ (upd G l _) _ m q (S.fix hl) (Le.new hg) (.t upd_same)
theorem on_tupLtN {ks : List Nat} (q : Q (.t (ks.map fun (k : Nat) => (k : Int))) m) : OpN K (rTupO K) [.d (.list (ks.map intN))] m Q := by
  have e : ks.map intN = (ks.map fun (k : Nat) => (k : Int)).map PyData.int := by rw [List.map_map]; rfl
  rw [e]
  exact on_tupLt q
theorem ev_tupR1t {n : Nat} (hn : n ≤ 100000) (h : Ev K ta r m fun x m1 => x = .d (.int (n : Int)) ∧ Q (.t ((List.range n).map fun (k : Nat) => (k : Int))) m1) : Ev K (tTupRg (tRg1 ta)) r m Q := fun σ H G S L R k =>
  h σ H G S L _ fun v H1 G1 x m1 ⟨hx, q⟩ S1 e1 r1 => by
    subst hx
    rw [int_of r1]
    have e : (n : Int) = ((0 + n : Nat) : Int) := by omega
    refine ⟨(n : Int), rfl, by rw [e]; exact rgok (a := 0) (n := n) (by omega), fun p hp => ?_⟩
    have hg := S1.free hp
    have e2 : rgV 0 (n : Int) = ((List.range n).map fun (k : Nat) => (k : Int)).map V.int := by
      unfold rgV
      rw [show ((n : Int) - 0).toNat = n by omega, List.map_map]
      exact List.map_congr_left fun i _ => by show V.int (0 + (i : Int)) = V.int (i : Int); rw [Int.zero_add]
    rw [e2]
    exact k _ _ (upd G1 p _) _ m1 q (S1.fix hp) (e1.trans (Le.new hg)) (.t upd_same)
theorem o2_addTt {a b : List Int} (hz : a.length + b.length ≤ 100000) (q : Q (.t (a ++ b)) m) : Op2 K (rAdd K) (.t a) (.t b) m Q := fun H G v w S x y R k => by
  cases x with
  | @t _ p h1 =>
    cases y with
    | @t _ p' h2 =>
      refine Or.inr (Or.inl ⟨p, p', a.map V.int, b.map V.int, rfl, rfl, S.sqT (SqT.of h1), S.sqT (SqT.of h2), ?_, fun e => ?_, fun _ e => ?_, fun _ _ l hl => ?_⟩)
      · rw [List.length_map, List.length_map]; exact Nat.le_trans hz (by decide)
      · have e := List.map_eq_nil_iff.mp e
        subst e
        exact k _ H G _ m q S (Le.refl G) (.t h2)
      · have e := List.map_eq_nil_iff.mp e
        subst e
        rw [List.append_nil] at q
        exact k _ H G _ m q S (Le.refl G) (.t h1)
      · have hg := S.free hl
        exact k _ _ (upd G l _) _ m q (S.fix hl) (Le.new hg) (.t (by rw [List.map_append]; exact upd_same))
/-! lists of them -/
theorem VRs.toT {G : Hp} : ∀ {nss : List (List Int)} {xs : List V}, VRs K G (nss.map Val.t) xs → TAll G nss xs
  | [], xs, h => h
  | ns :: r, xs, h => by
    obtain ⟨x, u, rfl, h1, h2⟩ := h
    obtain ⟨b, rfl, hb⟩ := t_of h1
    rw [kI_kV] at hb
    exact ⟨b, u, rfl, hb, VRs.toT h2⟩
theorem TAll.len {G : Hp} : ∀ {nss : List (List Int)} {xs : List V}, TAll G nss xs → xs.length = nss.length
  | [], xs, h => by
    have h : xs = [] := h
    rw [h]; rfl
  | ns :: r, xs, h => by
    obtain ⟨b, t, rfl, _, h3⟩ := h
    rw [List.length_cons, List.length_cons, TAll.len h3]
theorem TAll.at {G : Hp} : ∀ {nss : List (List Int)} {xs : List V} {i : Nat} {x : V}, TAll G nss xs → xs[i]? = some x → ∃ ns b, nss[i]? = some ns ∧ x = .ref b ∧ G b = some (.tup (ns.map V.int))
  | [], xs, i, x, h, e => by
    have h : xs = [] := h
    subst h; simp at e
  | ns :: r, xs, 0, x, h, e => by
    obtain ⟨b, t, rfl, h2, h3⟩ := h
    have e : V.ref b = x := by simpa using e
    exact ⟨ns, b, rfl, e.symm, h2⟩
  | ns :: r, xs, i + 1, x, h, e => by
    obtain ⟨b, t, rfl, h2, h3⟩ := h
    obtain ⟨n2, b2, e1, e2, e3⟩ := TAll.at (i := i) (x := x) h3 (by simpa using e)
    exact ⟨n2, b2, by simpa using e1, e2, e3⟩
theorem TAll.append {G : Hp} : ∀ {a b : List (List Int)} {xs ys : List V}, TAll G a xs → TAll G b ys → TAll G (a ++ b) (xs ++ ys)
  | [], b, xs, ys, h, g => by
    have h : xs = [] := h
    subst h; exact g
  | ns :: r, b, xs, ys, h, g => by
    obtain ⟨c, t, rfl, h2, h3⟩ := h
    exact ⟨c, t ++ ys, rfl, h2, TAll.append h3 g⟩
theorem ev_lstT {t : TA} (h : EvA K t r m fun xs m1 => ∃ nss : List (List Int), xs = nss.map Val.t ∧ nss.length ≤ 100000 ∧ Q (.lt nss) m1) : Ev K (tLst t) r m Q := fun σ H G S L R k =>
  h σ H G S L _ fun vs H1 G1 xs m1 ⟨nss, hx, hl, q⟩ S1 e1 r1 => by
    subst hx
    have hv := r1.toT
    refine ⟨by rw [hv.len]; exact Nat.le_trans hl (by decide), fun p hp => ?_⟩
    have hg := S1.free hp
    exact k (.ref p) _ (upd G1 p _) _ m1 q (S1.fix hp) (e1.trans (Le.new hg)) (.lt (Rd.of upd_same) (hv.mono (Le.new hg)))
theorem o2_addLt {a b : List (List Int)} (hz : a.length + b.length ≤ 100000) (q : Q (.lt (a ++ b)) m) : Op2 K (rAdd K) (.lt a) (.lt b) m Q := fun H G v w S x y R k => by
  cases x with
  | @lt _ p xs h1 h1' =>
    cases y with
    | @lt _ p' ys h2 h2' =>
      refine Or.inr (Or.inr (Or.inl ⟨p, p', xs, ys, rfl, rfl, Le.rd S.sub h1, Le.rd S.sub h2, ?_, fun l hl => ?_⟩))
      · rw [h1'.len, h2'.len]; exact Nat.le_trans hz (by decide)
      · have hg := S.free hl
        exact k _ _ (upd G l (.lst (xs ++ ys))) _ m q (S.fix hl) (Le.new hg) (.lt (Rd.of upd_same) ((h1'.append h2').mono (Le.new hg)))
theorem w_forLt {j : Nat} {nss : List (List Int)} (h : Ev K tl r m fun x m1 => x = .lt nss ∧ m1 = m) (W : Nat → List Val → Mm → Prop) (h0 : W 0 r m)
    (hs : ∀ (i : Nat) (ns : List Int) r' m', nss[i]? = some ns → W i r' m' → Wp K t (r'.set j (.t ns)) m' (W (i + 1)) E) (hd : ∀ r' m', W nss.length r' m' → N r' m') : Wp K (tFor (iList K tl) (gName j) t) r m N E := fun σ H G D S L a b =>
  h σ H G S L _ fun v H1 G1 x m1 ⟨hx, hm⟩ S1 e1 r1 => by
    subst hx hm
    cases r1 with
    | @lt _ p xs hs1 hA =>
      have hs1 : SqL K G1 p xs := Or.inl hs1
      refine ⟨p, rfl, ⟨xs, S1.sqL hs1⟩, for_list (xs := xs) (fun i σ' H' => ∃ G' r' m', W i r' m' ∧ Sta K m' H' G' ∧ Le G1 G' ∧ Sl K G' r' σ') ⟨G1, r, _, h0, S1, Le.refl G1, L.mono e1⟩ ?_ ?_ ?_⟩
      · rintro i σ' H' hi ⟨G', r', m', _, S', e', _⟩
        exact S'.sqL (e'.sqL hs1)
      · rintro i y σ' H' hy ⟨G', r', m', hw, S', e', L'⟩
        obtain ⟨ns, c, hns, rfl, hc⟩ := hA.at hy
        refine hs i ns r' m' hns hw (σ'.set j (some (.ref c))) H' G' _ S' (L'.set (r := .t ns) (.t (e' _ _ hc)) j) (fun σ3 H3 G3 r3 m3 h3 S3 e3 L3 => ⟨G3, r3, m3, h3, S3, e'.trans e3, L3⟩) (fun v H3 G3 x m3 n3 S3 e3 L3 => b v H3 G3 x m3 n3 S3 (e1.trans (e'.trans e3)) L3)
      · rintro σ' H' ⟨G', r', m', hw, S', e', L'⟩
        rw [hA.len] at hw
        exact a σ' H' G' r' m' (hd r' m' hw) S' (e1.trans e') L'
/-! comprehensions whose items are any values -/
def LcV (K : PySem.W.Frag) (m : Mm) (G : Hp) (D : Addr) (W : Nat → List Val → Prop) (i : Nat) (H' : Hp) : Prop :=
  ∃ G' acc, W i acc ∧ acc.length ≤ i ∧ Sta K (put m D (.lst acc)) H' G' ∧ Le G G'
theorem lcv_turn {G : Hp} {D : Addr} {W : Nat → List Val → Prop} {i : Nat} {σ : L2.St} {H' : Hp} {r' : List Val} (hm : m D = none) (hi : i < 100000) (L : ∀ G', Le G G' → Sl K G' r' σ)
    (hs : ∀ m' acc, Ext m m' → W i acc → EvT K tt r' m' fun b m2 => m2 = m' ∧ (b = true → Ev K te r' m' fun x m3 => m3 = m' ∧ W (i + 1) (acc ++ [x])) ∧ (b = false → W (i + 1) acc))
    (h : LcV K m G D W i H') : tt σ H' fun b H3 => if b = true then te σ H3 fun y H4 => ∃ acc, H4 D = some (.lst acc) ∧ acc.length < sizeLine ∧ LcV K m G D W (i + 1) (upd H4 D (.lst (acc ++ [y]))) else LcV K m G D W (i + 1) H3 := by
  obtain ⟨G', acc, hw, hl, S, e⟩ := h
  have hx : Ext m (put m D (.lst acc)) := fun a o ha => by
    rw [put_ne (ne_of_get ha hm)]; exact ha
  refine hs _ acc hx hw σ H' G' S (L G' e) _ fun H3 G3 b m3 ⟨e3, h1, h2⟩ S3 l3 => ?_
  subst e3
  cases b with
  | true =>
    show te σ H3 _
    refine h1 rfl σ H3 G3 S3 (L G3 (e.trans l3)) _ fun v H4 G4 x m4 ⟨e4, hw'⟩ S4 l4 r4 => ?_
    subst e4
    obtain ⟨xs, g1, g2⟩ := S4.mem D _ put_same
    have hlen := g2.length
    refine ⟨xs, g1, Nat.lt_of_lt_of_le (show xs.length < 100000 by omega) (by decide), G4, acc ++ [x], hw', by rw [List.length_append]; show acc.length + 1 ≤ i + 1; omega, ?_, e.trans (l3.trans l4)⟩
    have S5 := S4.chg (u := .lst (acc ++ [x])) (o := .lst (xs ++ [v])) put_same ⟨_, upd_same, g2.append ⟨v, [], rfl, r4, rfl⟩⟩
    rw [put_put] at S5
    exact S5
  | false =>
    show LcV K m G D W (i + 1) H3
    exact ⟨G3, acc, h2 rfl, by omega, S3, e.trans l3⟩
theorem lcv_end {G : Hp} {D : Addr} {W : Nat → List Val → Prop} {n : Nat} {H' : Hp} {R : VK} (hm : m D = none) (h : LcV K m G D W n H') (hd : ∀ acc, W n acc → ∃ nss, acc = nss.map Val.t ∧ Q (.lt nss) m)
    (k : ∀ v H' G' x m', Q x m' → Sta K m' H' G' → Le G G' → VR K G' x v → R v H') : R (.ref D) H' := by
  obtain ⟨G', acc, hw, hl, S, e⟩ := h
  obtain ⟨nss, rfl, q⟩ := hd acc hw
  obtain ⟨xs, g1, g2⟩ := S.mem D _ put_same
  have hg := S.dis D _ put_same
  have S2 := S.freeze put_same g1
  rw [del_put hm] at S2
  exact k _ H' _ _ m q S2 (e.trans (Le.new hg)) (.lt (Rd.of upd_same) (g2.toT.mono (Le.new hg)))
theorem lcv_start {H G : Hp} {D : Addr} {W : Nat → List Val → Prop} (S : Sta K m H G) (hD : H D = none) (h0 : W 0 []) : LcV K m G D W 0 (upd H D (.lst [])) :=
  ⟨G, [], h0, Nat.le_refl _, S.new hD ⟨[], upd_same, rfl⟩, Le.refl G⟩
theorem ev_lcLt {j : Nat} {nss : List (List Int)} (h : Ev K tl r m fun x m1 => x = .lt nss ∧ m1 = m) (hn : nss.length ≤ 100000) (W : Nat → List Val → Prop) (h0 : W 0 [])
    (hs : ∀ (i : Nat) (ns : List Int) m' acc, nss[i]? = some ns → Ext m m' → W i acc → EvT K tt (r.set j (.t ns)) m' fun b m2 => m2 = m' ∧ (b = true → Ev K te (r.set j (.t ns)) m' fun x m3 => m3 = m' ∧ W (i + 1) (acc ++ [x])) ∧ (b = false → W (i + 1) acc))
    (hd : ∀ acc, W nss.length acc → ∃ out, acc = out.map Val.t ∧ Q (.lt out) m) : Ev K (tLc (iList K tl) (gName j) tt te [j]) r m Q := fun σ H G S L R k =>
  h σ H G S L _ fun v H1 G1 x m1 ⟨hx, hm⟩ S1 e1 r1 => by
    subst hx hm
    cases r1 with
    | @lt _ p xs hs1 hA =>
      have hs1 : SqL K G1 p xs := Or.inl hs1
      refine ⟨p, rfl, ⟨xs, S1.sqL hs1⟩, fun D hD => ?_⟩
      have hmD := S1.freeM hD
      refine lc_list (xs := xs) (LcV K m1 G1 D W) (lcv_start S1 hD h0) ?_ ?_ ?_
      · rintro i H' hi ⟨G', acc, _, _, S', e'⟩
        exact S'.sqL (e'.sqL hs1)
      · intro i y H' hy hP
        obtain ⟨ns, c, hns, rfl, hc⟩ := hA.at hy
        have hi : i < 100000 := by
          have := (List.getElem?_eq_some_iff.mp hy).1
          rw [hA.len] at this
          omega
        refine ⟨wipe1 σ j _, lcv_turn hmD hi (fun G' e' => ?_) (fun m' acc hx hw => hs i ns m' acc hns hx hw) hP⟩
        have := (L.mono (e1.trans e')).set (r := .t ns) (.t (e' _ _ hc)) j
        show Sl K G' (r.set j (.t ns)) ((σ.set j none).set j (some (.ref c)))
        rw [List.set_set]
        exact this
      · intro H' hP
        rw [hA.len] at hP
        exact lcv_end hmD hP hd fun v H' G' x m' q S' e' r' => k v H' G' x m' q S' (e1.trans e') r'
theorem ev_mapLt {j : Nat} {nss : List (List Int)} (h : Ev K tl r m fun x m1 => x = .lt nss ∧ m1 = m) (hn : nss.length ≤ 100000) (f : List Int → List Int)
    (hs : ∀ (ns : List Int) m', ns ∈ nss → Ext m m' → Ev K te (r.set j (.t ns)) m' fun x m3 => x = .t (f ns) ∧ m3 = m') (q : Q (.lt (nss.map f)) m) : Ev K (tLc (iList K tl) (gName j) tYes te [j]) r m Q :=
  ev_lcLt h hn (fun i acc => acc = ((nss.take i).map f).map Val.t) (by simp) (fun i ns m' acc hd hx hw => evt_yes ⟨rfl, fun _ => (hs ns m' (List.mem_of_getElem? hd) hx).imp fun x m3 e => ⟨e.2, by rw [hw, take_one hd, List.map_append, List.map_append, e.1]; rfl⟩, (fun g => nomatch g)⟩)
    (fun acc hw => ⟨_, hw.trans (by rw [List.take_length]), q⟩)
theorem ev_filLt {j : Nat} {nss : List (List Int)} (h : Ev K tl r m fun x m1 => x = .lt nss ∧ m1 = m) (hn : nss.length ≤ 100000) (p : List Int → Bool)
    (ht : ∀ (ns : List Int) m', ns ∈ nss → Ext m m' → EvT K tt (r.set j (.t ns)) m' fun b m3 => b = p ns ∧ m3 = m')
    (hs : ∀ (ns : List Int) m', ns ∈ nss → Ext m m' → Ev K te (r.set j (.t ns)) m' fun x m3 => x = .t ns ∧ m3 = m') (q : Q (.lt (nss.filter p)) m) : Ev K (tLc (iList K tl) (gName j) tt te [j]) r m Q :=
  ev_lcLt h hn (fun i acc => acc = ((nss.take i).filter p).map Val.t) (by simp) (fun i ns m' acc hd hx hw => by
    have hm := List.mem_of_getElem? hd
    exact (ht ns m' hm hx).imp fun b m2 e => ⟨e.2, fun hb => (hs ns m' hm hx).imp fun x m3 e2 => ⟨e2.2, by rw [hw, take_one hd, List.filter_append, List.filter_cons, if_pos (e.1.symm.trans hb), List.map_append, e2.1]; rfl⟩, fun hb => by rw [hw, take_one hd, List.filter_append, List.filter_cons, if_neg (by rw [← e.1, hb]; decide)]; simp⟩)
    (fun acc hw => ⟨_, hw.trans (by rw [List.take_length]), q⟩)
/-- sorted(.., key=len) -/
def byLen (nss : List (List Int)) : List (List Int) := nss.mergeSort fun a b => decide ((a.length : Int) ≤ (b.length : Int))
theorem TAll.zip {G : Hp} : ∀ {nss : List (List Int)} {xs : List V}, TAll G nss xs → ((xs.zip nss).map (·.1) = xs ∧ (xs.zip nss).map (·.2) = nss ∧ ∀ b ∈ xs.zip nss, ∃ t, b.1 = .ref t ∧ G t = some (.tup (b.2.map V.int)))
  | [], xs, h => by
    have h : xs = [] := h
    subst h
    exact ⟨rfl, rfl, fun b hb => nomatch hb⟩
  | ns :: r, xs, h => by
    obtain ⟨c, t, rfl, h2, h3⟩ := h
    obtain ⟨a1, a2, a3⟩ := TAll.zip h3
    refine ⟨by rw [List.zip_cons_cons, List.map_cons, a1], by rw [List.zip_cons_cons, List.map_cons, a2], fun b hb => ?_⟩
    rw [List.zip_cons_cons] at hb
    rcases List.mem_cons.mp hb with rfl | hb
    · exact ⟨c, rfl, h2⟩
    · exact a3 b hb
theorem tall_of {G : Hp} : ∀ (bs : List (V × List Int)), (∀ b ∈ bs, ∃ t, b.1 = .ref t ∧ G t = some (.tup (b.2.map V.int))) → TAll G (bs.map (·.2)) (bs.map (·.1))
  | [], _ => rfl
  | b :: bs, h => by
    obtain ⟨t, h1, h2⟩ := h b (List.mem_cons_self ..)
    exact ⟨t, bs.map (·.1), by rw [List.map_cons, h1], h2, tall_of bs fun c hc => h c (List.mem_cons_of_mem _ hc)⟩
theorem ev_sortLen {t : TA} (h : EvA K t r m fun xs m1 => ∃ nss, xs = [.lt nss] ∧ nss.length ≤ 100000 ∧ Q (.lt (byLen nss)) m1) : Ev K (tSortLen K t) r m Q := fun σ H G S L R k =>
  h σ H G S L _ fun vs H1 G1 xs m1 ⟨nss, hx, hl, q⟩ S1 e1 r1 => by
    subst hx
    obtain ⟨v, rfl, rv⟩ := vrs1 r1
    cases rv with
    | @lt _ p xs hs1 hA =>
      obtain ⟨z1, z2, z3⟩ := hA.zip
      refine ⟨p, xs.zip nss, rfl, by rw [z1]; exact S1.sqL (Or.inl hs1), fun b hb => ?_, fun l hl => ?_⟩
      · obtain ⟨t, e1, e2⟩ := z3 b hb
        exact ⟨t, e1, S1.sqT (SqT.of e2)⟩
      · have hg := S1.free hl
        have hperm : ∀ b ∈ (xs.zip nss).mergeSort fun a b => decide ((a.2.length : Int) ≤ (b.2.length : Int)), ∃ t, b.1 = .ref t ∧ G1 t = some (.tup (b.2.map V.int)) := fun b hb => z3 b ((List.mergeSort_perm _ _).mem_iff.mp hb)
        have hT := tall_of _ hperm
        have e2 : ((xs.zip nss).mergeSort fun a b => decide ((a.2.length : Int) ≤ (b.2.length : Int))).map (·.2) = byLen nss := by
          unfold byLen
          rw [List.map_mergeSort (s := fun a b : List Int => decide ((a.length : Int) ≤ (b.length : Int))) (fun a _ b _ => rfl), z2]
        rw [e2] at hT
        exact k _ _ (upd G1 l _) _ m1 q (S1.fix hl) (e1.trans (Le.new hg)) (.lt (Rd.of upd_same) (hT.mono (Le.new hg)))
/-! a key that a name holds -/
theorem ev_dgetV {td : TE} {i : Nat} {ns : List Int} (hk : r[i]? = some (.t ns)) (h : Ev K td r m fun x m1 => ∃ p kvs z, x = .v (.ref p) ∧ Dat m1 p kvs ∧ getV kvs (kI ns) = some z ∧ Q z m1) : Ev K (tDGet td (tVar i)) r m Q :=
  ev_dget (h.imp fun x m1 ⟨p, kvs, z, hx, hd, hg, q⟩ => ⟨p, hx, ev_var hk (fun h => nomatch h) ⟨ns, kvs, z, rfl, hd, hg, q⟩⟩)
theorem ev_dget2V {td tx : TE} {i : Nat} {ns : List Int} (hk : r[i]? = some (.t ns)) (h : Ev K td r m fun x m1 => ∃ p kvs, x = .v (.ref p) ∧ Dat m1 p kvs ∧ Ev K tx r m1 fun z m3 => ∃ kvs', Dat m3 p kvs' ∧ Q ((getV kvs' (kI ns)).getD z) m3) : Ev K (tDGet2 td (tVar i) tx) r m Q :=
  ev_dget2 (h.imp fun x m1 ⟨p, kvs, hx, hd, h2⟩ => ⟨p, kvs, hx, hd, ev_var hk (fun h => nomatch h) ⟨ns, rfl, h2⟩⟩)
theorem w_dputV {td tv : TE} {i : Nat} {ns : List Int} (hk : r[i]? = some (.t ns)) (h : Ev K tv r m fun x m1 => Ev K td r m1 fun y m2 => ∃ p kvs, y = .v (.ref p) ∧ m2 p = some (.dT kvs) ∧ kvs.length < 100000 ∧ N r (put m2 p (.dT (putV kvs (kI ns) x)))) : Wp K (sDPut td (tVar i) tv) r m N E :=
  w_dput (h.imp fun x m1 h1 => h1.imp fun y m2 ⟨p, kvs, hy, hm, hl, q⟩ => ⟨p, hy, ev_var hk (fun h => nomatch h) ⟨ns, kvs, rfl, hm, hl, q⟩⟩)
end
end DL


namespace DL
open PySem L2

abbrev kn (ks : List Nat) : List Int := ks.map fun (k : Nat) => (k : Int)
theorem kn_inj {a b : List Nat} (h : kn a = kn b) : a = b := List.map_inj_right (fun _ _ e => by omega) |>.mp h
/-! fractions from nought on, bounded -/
structure QB (q : Rat) (d v : Nat) : Prop where
  nn : 0 ≤ q
  le : q ≤ (v : Rat)
  den : q.den ≤ 2 ^ d
theorem QB.mono {q : Rat} {d v d' v' : Nat} (h : QB q d v) (hd : d ≤ d') (hv : v ≤ v') : QB q d' v' :=
  ⟨h.nn, Rat.le_trans h.le (Rat.natCast_le_natCast.mpr hv), Nat.le_trans h.den (Nat.pow_le_pow_right (by decide) hd)⟩
theorem QB.frB {q : Rat} {d v e : Nat} (h : QB q d v) (hv : v < 2 ^ e) : FrB q (d + e + 1) := by
  have hden := den_pos q
  refine ⟨?_, ?_⟩
  · have h0 : 0 ≤ q.num := Rat.num_nonneg.mpr h.nn
    have h1 : q.num ≤ (v : Int) * (q.den : Int) := by
      have := (Rat.le_iff q ((v : Nat) : Rat)).mp h.le
      have e1 : ((v : Nat) : Rat).den = 1 := rfl
      have e2 : ((v : Nat) : Rat).num = (v : Int) := rfl
      rw [e1, e2] at this
      simpa using this
    have h2 : q.num.natAbs ≤ v * q.den := by
      have : ((q.num.natAbs : Nat) : Int) ≤ ((v * q.den : Nat) : Int) := by rw [Int.natAbs_of_nonneg h0, Int.natCast_mul]; exact h1
      omega
    show q.num.natAbs < 2 ^ (d + e + 1)
    have h3 : v * q.den ≤ 2 ^ e * 2 ^ d := Nat.mul_le_mul (by omega) h.den
    rw [← Nat.pow_add] at h3
    refine Nat.lt_of_le_of_lt (Nat.le_trans h2 h3) ?_
    exact Nat.pow_lt_pow_right (by decide) (by omega)
  · show ((q.den : Nat) : Int).natAbs < 2 ^ (d + e + 1)
    rw [Int.natAbs_natCast]
    exact Nat.lt_of_le_of_lt h.den (Nat.pow_lt_pow_right (by decide) (by omega))
theorem den_mk_le (t : Int) (b : Nat) (hb : 0 < b) : (mkRat t b).den ≤ b := by
  rw [Rat.den_mkRat, if_neg (by omega)]
  exact Nat.div_le_self _ _
theorem QB.add {p q : Rat} {a b u v : Nat} (h : QB p a u) (g : QB q b v) : QB (p + q) (a + b) (u + v) := by
  refine ⟨Rat.add_nonneg h.nn g.nn, ?_, ?_⟩
  · have h1 := h.le
    have h2 := g.le
    rw [Rat.natCast_add]
    grind
  · rw [Rat.add_def']
    refine Nat.le_trans (den_mk_le _ _ (Nat.mul_pos (den_pos p) (den_pos q))) ?_
    rw [Nat.pow_add]
    exact Nat.mul_le_mul h.den g.den
theorem QB.mulN {q : Rat} {d v : Nat} (h : QB q d v) (n : Nat) : QB (((n : Int) : Rat) * q) d (n * v) := by
  have hn : (0 : Rat) ≤ ((n : Nat) : Rat) := Rat.natCast_nonneg
  refine ⟨?_, ?_, ?_⟩
  · rw [Rat.intCast_natCast]; exact Rat.mul_nonneg hn h.nn
  · rw [Rat.intCast_natCast, Rat.natCast_mul]
    exact Rat.mul_le_mul_of_nonneg_left h.le hn
  · rw [Rat.mul_def']
    have e : (((n : Int) : Rat)).den = 1 := rfl
    rw [e, Nat.one_mul]
    exact Nat.le_trans (den_mk_le _ _ (den_pos q)) h.den
theorem QB.over {q : Rat} {d v : Nat} (h : QB q d v) {n e w : Nat} (h0 : 0 < n) (he : n ≤ 2 ^ e) (hv : v ≤ w * n) : QB (q * mkRat 1 n) (d + e) w := by
  have hn : ((n : Nat) : Rat) ≠ 0 := nat_ne h0
  have hn0 : (0 : Rat) < ((n : Nat) : Rat) := Rat.natCast_pos.mpr h0
  have e1 : mkRat 1 n = 1 / ((n : Nat) : Rat) := by rw [Rat.mkRat_eq_div]; rfl
  have hinv : (0 : Rat) ≤ mkRat 1 n := Rat.num_nonneg.mp (by rw [Rat.num_mkRat, if_neg (by omega)]; exact Int.ediv_nonneg (by decide) (Int.natCast_nonneg _))
  refine ⟨Rat.mul_nonneg h.nn hinv, ?_, ?_⟩
  · have h1 : q ≤ ((w : Nat) : Rat) * ((n : Nat) : Rat) := by
      rw [← Rat.natCast_mul]
      exact Rat.le_trans h.le (Rat.natCast_le_natCast.mpr hv)
    rw [e1]
    generalize ((n : Nat) : Rat) = N at *
    generalize ((w : Nat) : Rat) = W at *
    have h2 : q * (1 / N) * N ≤ W * N := by
      have : q * (1 / N) * N = q := by grind
      rw [this]; exact h1
    exact Rat.le_of_mul_le_mul_right h2 hn0
  · rw [Rat.mul_def']
    refine Nat.le_trans (den_mk_le _ _ (Nat.mul_pos (den_pos q) (den_pos _))) ?_
    rw [Nat.pow_add]
    exact Nat.mul_le_mul h.den (Nat.le_trans (den_mk_le 1 n h0) he)
theorem QB.nat (n : Nat) : QB ((n : Int) : Rat) 0 n := by
  refine ⟨?_, ?_, ?_⟩
  · rw [Rat.intCast_natCast]; exact Rat.natCast_nonneg
  · rw [Rat.intCast_natCast]; exact Rat.le_refl
  · exact Nat.le_refl 1
/-! the time paper -/
def dueAcc (ss : List Int) (P : List Nat → Rat) (s : List Nat) (l : List Nat) : Rat := l.foldl (fun acc k => acc + ((ss.getD k 0 : Int) : Rat) * P (s.filter fun x => !decide (x = k))) ((ss.sum : Int) : Rat)
def dueT (ss : List Int) (P : List Nat → Rat) (s : List Nat) : Rat := dueAcc ss P s s * mkRat 1 (sumP ss s).toNat
def timeF (ss : List Int) : Nat → List Nat → Rat
  | 0, _ => 0
  | n + 1, s => dueT ss (timeF ss n) s
def timeT (ss : List Int) (s : List Nat) : Rat := timeF ss s.length s
theorem without_len {s : List Nat} (hs : s.Pairwise (· < ·)) {k : Nat} (hk : k ∈ s) : (s.filter fun x => !decide (x = k)).length + 1 = s.length := by
  induction s with
  | nil => cases hk
  | cons a t ih =>
    obtain ⟨h1, h2⟩ := List.pairwise_cons.mp hs
    rcases List.mem_cons.mp hk with rfl | hk
    · rw [List.filter_cons, if_neg (by simp)]
      have : (t.filter fun x => !decide (x = k)) = t := List.filter_eq_self.mpr fun x hx => by have := h1 x hx; simp; omega
      rw [this]; rfl
    · have : a ≠ k := by have := h1 k hk; omega
      rw [List.filter_cons, if_pos (by simp [this]), List.length_cons, List.length_cons, ih h2 hk]
theorem dueAcc_congr {ss : List Int} {P P' : List Nat → Rat} {s : List Nat} (h : ∀ k ∈ s, P (s.filter fun x => !decide (x = k)) = P' (s.filter fun x => !decide (x = k))) : ∀ l : List Nat, (∀ k ∈ l, k ∈ s) → dueAcc ss P s l = dueAcc ss P' s l := by
  intro l hl
  unfold dueAcc
  generalize ((ss.sum : Int) : Rat) = a
  induction l generalizing a with
  | nil => rfl
  | cons k t ih =>
    rw [List.foldl_cons, List.foldl_cons, h k (hl k (List.mem_cons_self ..))]
    exact ih (fun x hx => hl x (List.mem_cons_of_mem _ hx)) _
theorem timeT_step (ss : List Int) {s : List Nat} (hs : s.Pairwise (· < ·)) (h0 : s ≠ []) : timeT ss s = dueT ss (timeT ss) s := by
  unfold timeT
  cases hn : s.length with
  | zero => exact absurd (List.length_eq_zero_iff.mp hn) h0
  | succ n =>
    show dueT ss (timeF ss n) s = _
    unfold dueT
    rw [dueAcc_congr (P' := fun o => timeF ss o.length o) (fun k hk => ?_) s (fun _ h => h)]
    have := without_len hs hk
    have e : (s.filter fun x => !decide (x = k)).length = n := by omega
    show timeF ss n _ = timeF ss _ _
    rw [e]
theorem timeT_nil (ss : List Int) : timeT ss [] = 0 := rfl
/-- bits of the paper's bottoms -/
def dB : Nat → Nat
  | 0 => 0
  | n + 1 => (n + 1) * dB n + 6
theorem acc_bound {ss : List Int} (hs : Shares ss) {P : List Nat → Rat} {s : List Nat} {d n : Nat} (hP : ∀ k ∈ s, QB (P (s.filter fun x => !decide (x = k))) d (45 * n)) : ∀ l : List Nat, (∀ k ∈ l, k ∈ s) → QB (dueAcc ss P s l) (l.length * d) (45 + 45 * n * (sumP ss l).toNat) := by
  intro l
  have hsum := shares_sum hs
  have gen : ∀ (l : List Nat) (a : Rat) (c v : Nat), QB a c v → (∀ k ∈ l, k ∈ s) → QB (l.foldl (fun acc k => acc + ((ss.getD k 0 : Int) : Rat) * P (s.filter fun x => !decide (x = k))) a) (c + l.length * d) (v + 45 * n * (sumP ss l).toNat) := by
    intro l
    induction l with
    | nil =>
      intro a c v h _
      exact h.mono (by simp) (by simp)
    | cons k t ih =>
      intro a c v h hl
      rw [List.foldl_cons]
      have hb := getD_bounds hs k
      have e1 : ss.getD k 0 = (((ss.getD k 0).toNat : Nat) : Int) := by omega
      have h1 := (hP k (hl k (List.mem_cons_self ..))).mulN (ss.getD k 0).toNat
      rw [← e1] at h1
      have h2 := ih _ _ _ (h.add h1) fun x hx => hl x (List.mem_cons_of_mem _ hx)
      refine h2.mono ?_ ?_
      · rw [List.length_cons, Nat.succ_mul]; omega
      · have e2 : (sumP ss (k :: t)).toNat = (ss.getD k 0).toNat + (sumP ss t).toNat := by
          have := sumP_nonneg hs t
          rw [sumP_cons]; omega
        rw [e2, Nat.mul_add]
        have e3 : (ss.getD k 0).toNat * (45 * n) = 45 * n * (ss.getD k 0).toNat := Nat.mul_comm _ _
        omega
  intro hl
  have e : ss.sum = ((ss.sum.toNat : Nat) : Int) := by omega
  have h0 : QB ((ss.sum : Int) : Rat) 0 45 := by
    rw [e]
    exact (QB.nat _).mono (Nat.le_refl _) (by omega)
  exact (gen l _ 0 45 h0 hl).mono (by omega) (Nat.le_refl _)
theorem sumP_pos {ss : List Int} (hs : Shares ss) {s : List Nat} (h0 : s ≠ []) (hk : ∀ k ∈ s, k < ss.length) : 1 ≤ sumP ss s := by
  cases s with
  | nil => exact absurd rfl h0
  | cons k t =>
    have := sumP_nonneg hs t
    rw [sumP_cons]
    have : 1 ≤ ss.getD k 0 := by
      rw [List.getD_eq_getElem?_getD, List.getElem?_eq_getElem (hk k (by simp))]
      exact (hs.each _ (List.getElem_mem _)).1
    omega
theorem due_bound {ss : List Int} (hs : Shares ss) {P : List Nat → Rat} {s : List Nat} (hk : Kinds ss.length s) (h0 : s ≠ []) {d n : Nat} (hl : s.length = n + 1) (hP : ∀ k ∈ s, QB (P (s.filter fun x => !decide (x = k))) d (45 * n)) : QB (dueT ss P s) ((n + 1) * d + 6) (45 * (n + 1)) := by
  have h1 := acc_bound hs hP s (fun _ h => h)
  have hp := sumP_pos hs h0 hk.lt
  have hle := sumP_le hs hk
  unfold dueT
  refine (h1.over (n := (sumP ss s).toNat) (e := 6) (w := 45 * (n + 1)) (by omega) (by show _ ≤ 64; omega) ?_).mono (by rw [hl]; exact Nat.le_refl _) (Nat.le_refl _)
  generalize hS : (sumP ss s).toNat = S
  have : 1 ≤ S := by omega
  rw [Nat.mul_add, Nat.add_mul, Nat.mul_one]
  have : 45 ≤ 45 * S := by omega
  omega
theorem kinds_without {n : Nat} {s : List Nat} (h : Kinds n s) (k : Nat) : Kinds n (s.filter fun x => !decide (x = k)) := ⟨h.up.filter _, fun x hx => h.lt x (List.mem_filter.mp hx).1⟩
theorem time_bound {ss : List Int} (hs : Shares ss) : ∀ (n : Nat) (s : List Nat), s.length = n → Kinds ss.length s → QB (timeT ss s) (dB n) (45 * n)
  | 0, s, hl, hk => by
    have : s = [] := List.length_eq_zero_iff.mp hl
    subst this
    rw [timeT_nil]
    exact ⟨Rat.le_refl, Rat.le_refl, Nat.le_refl 1⟩
  | n + 1, s, hl, hk => by
    have h0 : s ≠ [] := fun e => by rw [e] at hl; cases hl
    rw [timeT_step ss hk.up h0]
    exact due_bound hs hk h0 hl fun k hks => time_bound hs n _ (by have := without_len hk.up hks; omega) (kinds_without hk k)
theorem dB_le {n : Nat} (h : n ≤ 5) : dB n ≤ 1236 := by
  have : n = 0 ∨ n = 1 ∨ n = 2 ∨ n = 3 ∨ n = 4 ∨ n = 5 := by omega
  rcases this with rfl | rfl | rfl | rfl | rfl | rfl <;> decide
theorem time_fr {ss : List Int} (hs : Shares ss) {s : List Nat} (hk : Kinds ss.length s) : FrB (timeT ss s) 1300 := by
  have h1 := hk.len
  have h2 := hs.few
  have h3 := dB_le (n := s.length) (by omega)
  exact ((time_bound hs s.length s rfl hk).frB (e := 10) (by show _ < 1024; omega)).mono (by omega)
theorem acc_fr {ss : List Int} (hs : Shares ss) {s : List Nat} (hk : Kinds ss.length s) (i : Nat) : FrB (dueAcc ss (timeT ss) s (s.take i)) 1300 := by
  have h1 := hk.len
  have h2 := hs.few
  cases hn : s.length with
  | zero =>
    have : s = [] := List.length_eq_zero_iff.mp hn
    subst this
    have := shares_sum hs
    have e : ss.sum = ((ss.sum.toNat : Nat) : Int) := by omega
    have : dueAcc ss (timeT ss) [] (List.take i []) = ((ss.sum : Int) : Rat) := by simp [dueAcc]
    rw [this, e]
    exact ((QB.nat ss.sum.toNat).frB (e := 10) (by show _ < 1024; omega)).mono (by decide)
  | succ n =>
    have hP : ∀ k ∈ s, QB (timeT ss (s.filter fun x => !decide (x = k))) (dB n) (45 * n) := fun k hks => time_bound hs n _ (by have := without_len hk.up hks; omega) (kinds_without hk k)
    have hb := acc_bound hs hP (s.take i) fun k hk => List.mem_of_mem_take hk
    have hl : (s.take i).length ≤ n + 1 := by rw [List.length_take]; omega
    have hsl : sumP ss (s.take i) ≤ 45 := by
      have := sumP_le9 hs (s.take i)
      omega
    have hd : (s.take i).length * dB n + 6 ≤ dB (n + 1) := by
      show _ ≤ (n + 1) * dB n + 6
      exact Nat.add_le_add_right (Nat.mul_le_mul_right _ hl) 6
    have hd2 := dB_le (n := n + 1) (by omega)
    have hv : 45 + 45 * n * (sumP ss (s.take i)).toNat ≤ 45 + 45 * 4 * 45 := by
      refine Nat.add_le_add_left (Nat.mul_le_mul (Nat.mul_le_mul_left _ (by omega)) (by omega)) _
    exact (hb.frB (e := 15) (by show _ < 32768; omega)).mono (by omega)
end DL


namespace DL
open PySem L2

def allSL (ks : List Nat) : List (List Nat) := ks.foldl (fun acc k => acc ++ acc.map fun s => s ++ [k]) [[]]
theorem allSL_snoc (ks : List Nat) (k : Nat) : allSL (ks ++ [k]) = allSL ks ++ (allSL ks).map fun s => s ++ [k] := by
  unfold allSL; rw [List.foldl_append]; rfl
theorem allSL_range : ∀ n, allSL (List.range n) = allS n
  | 0 => rfl
  | n + 1 => by rw [range_one, allSL_snoc, allSL_range n, allS]
theorem allSL_len (ks : List Nat) : (allSL ks).length = 2 ^ ks.length := by
  have gen : ∀ (ks : List Nat) (acc : List (List Nat)), (ks.foldl (fun acc k => acc ++ acc.map fun s => s ++ [k]) acc).length = acc.length * 2 ^ ks.length := by
    intro ks
    induction ks with
    | nil => intro acc; simp
    | cons k t ih => intro acc; rw [List.foldl_cons, ih, List.length_append, List.length_map, List.length_cons, Nat.pow_succ, ← Nat.mul_two, Nat.mul_assoc, Nat.mul_comm 2]
  have := gen ks [[]]
  simpa [allSL] using this
theorem allSL_mem_len {ks : List Nat} : ∀ s ∈ allSL ks, s.length ≤ ks.length := by
  have gen : ∀ (ks : List Nat) (acc : List (List Nat)) (c : Nat), (∀ a ∈ acc, a.length ≤ c) → ∀ s ∈ ks.foldl (fun acc k => acc ++ acc.map fun s => s ++ [k]) acc, s.length ≤ c + ks.length := by
    intro ks
    induction ks with
    | nil => intro acc c h s hs; exact h s hs
    | cons k t ih =>
      intro acc c h s hs
      rw [List.foldl_cons] at hs
      have := ih _ (c + 1) (fun a ha => by
        rcases List.mem_append.mp ha with ha | ha
        · have := h a ha; omega
        · obtain ⟨u, hu, rfl⟩ := List.mem_map.mp ha
          have := h u hu
          rw [List.length_append, List.length_singleton]; omega) s hs
      rw [List.length_cons]; omega
  intro s hs
  have := gen ks [[]] 0 (fun a ha => by rw [List.mem_singleton.mp ha]; exact Nat.le_refl _) s hs
  omega
theorem rngD_intN (n : Nat) : rngD 0 n = (List.range n).map intN := by
  unfold rngD
  exact List.map_congr_left fun i _ => by rw [Nat.zero_add]
def f_allSome : FSp := fun args m R => ∃ ks : List Nat, args = [.d (.list (ks.map intN))] ∧ ks.length ≤ 8 ∧ R (.lt ((allSL ks).map kn)) m
def f_lawAllSomeT : FSp := fun args m R => ∃ n : Nat, args = [.d (.int (n : Int))] ∧ n ≤ 8 ∧ R (.lt ((allS n).map kn)) m
def f_every : FSp := fun args m R => ∃ ss : List Int, args = [.d (tupI ss)] ∧ ss.length ≤ 1000 ∧ R (.t (kn (List.range ss.length))) m
/-- the same, by their lengths -/
def ordS (n : Nat) : List (List Nat) := (allS n).mergeSort fun a b => decide ((a.length : Int) ≤ (b.length : Int))
theorem byLen_kn (n : Nat) : byLen ((allS n).map kn) = (ordS n).map kn := by
  unfold byLen ordS
  rw [List.map_mergeSort (s := fun a b : List Int => decide ((a.length : Int) ≤ (b.length : Int))) (fun a _ b _ => by simp)]
theorem ordS_perm (n : Nat) : (ordS n).Perm (allS n) := List.mergeSort_perm _ _
theorem ordS_sorted (n : Nat) : (ordS n).Pairwise fun a b => a.length ≤ b.length := by
  have h := List.pairwise_mergeSort (le := fun a b : List Nat => decide ((a.length : Int) ≤ (b.length : Int))) (fun a b c h1 h2 => by simp at *; omega) (fun a b => by simp; omega) (allS n)
  exact h.imp fun h => by simpa using h
theorem ordS_ahead {n i : Nat} {s o : List Nat} (hs : (ordS n)[i]? = some s) (ho : o ∈ allS n) (hl : o.length < s.length) : o ∈ (ordS n).take i := by
  have ho := (ordS_perm n).mem_iff.mpr ho
  obtain ⟨j, hj⟩ := List.getElem?_of_mem ho
  obtain ⟨hi1, hi2⟩ := List.getElem?_eq_some_iff.mp hs
  obtain ⟨hj1, hj2⟩ := List.getElem?_eq_some_iff.mp hj
  have hji : j < i := by
    rcases Nat.lt_trichotomy j i with h | h | h
    · exact h
    · subst h
      rw [hi2] at hj2
      rw [hj2] at hl
      omega
    · have := List.pairwise_iff_getElem.mp (ordS_sorted n) i j hi1 hj1 h
      rw [hi2, hj2] at this
      omega
  refine List.mem_of_getElem? (i := j) ?_
  rw [List.getElem?_take, if_pos hji]; exact hj
theorem allS_nodup : ∀ n : Fin 6, (allS n).Nodup := by decide +kernel
theorem ordS_nodup {n : Nat} (h : n ≤ 5) : (ordS n).Nodup := (ordS_perm n).nodup_iff.mpr (allS_nodup ⟨n, by omega⟩)
theorem allS_without : ∀ n : Fin 6, ∀ s ∈ allS n, ∀ k ∈ s, (s.filter fun x => !decide (x = k)) ∈ allS n := by decide +kernel
theorem allS_kinds {n : Nat} {s : List Nat} (h : s ∈ allS n) : Kinds n s := ⟨allSup n s h, fun k hk => (allS_mem n s h).2 k hk⟩
  where allSup : ∀ n, ∀ s ∈ allS n, s.Pairwise (· < ·)
  | 0, s, h => by
    have : s = [] := by simpa [allS] using h
    subst this; exact List.Pairwise.nil
  | n + 1, s, h => by
    rw [allS] at h
    rcases List.mem_append.mp h with h | h
    · exact allSup n s h
    · obtain ⟨t, ht, rfl⟩ := List.mem_map.mp h
      exact List.pairwise_append.mpr ⟨allSup n t ht, List.pairwise_singleton .., fun x hx y hy => by rw [List.mem_singleton.mp hy]; exact (allS_mem n t ht).2 x hx⟩
theorem allS_range : ∀ n : Fin 6, List.range n ∈ allS n := by decide +kernel
theorem allS_nil : ∀ n, [] ∈ allS n
  | 0 => by simp [allS]
  | n + 1 => by rw [allS]; exact List.mem_append_left _ (allS_nil n)
/-! tables -/
def tabT (f : List Nat → Rat) (l : List (List Nat)) : List (List Key × Val) := l.map fun s => (kI (kn s), .d (frac (f s)))
theorem getV_tab {f : List Nat → Rat} {s : List Nat} : ∀ {l : List (List Nat)}, s ∈ l → getV (tabT f l) (kI (kn s)) = some (.d (frac (f s)))
  | [], h => nomatch h
  | a :: l, h => by
    unfold tabT
    rw [List.map_cons]
    by_cases e : a = s
    · subst e
      simp [getV, List.find?_cons]
    · have e2 : ¬ kI (kn a) = kI (kn s) := fun z => e (kn_inj (kI_inj z))
      have h2 : s ∈ l := by
        rcases List.mem_cons.mp h with h | h
        · exact absurd h.symm e
        · exact h
      have := getV_tab (f := f) h2
      unfold tabT at this
      simp only [getV, List.find?_cons, e2, decide_false] at this ⊢
      exact this
theorem putV_tab {f : List Nat → Rat} {s : List Nat} {l : List (List Nat)} (h : s ∉ l) : putV (tabT f l) (kI (kn s)) (.d (frac (f s))) = tabT f (l ++ [s]) := by
  rw [putV_new]
  · unfold tabT
    rw [List.map_append]; rfl
  · intro p hp e
    obtain ⟨a, ha, rfl⟩ := List.mem_map.mp hp
    exact h (kn_inj (kI_inj e) ▸ ha)
theorem tab_len (f : List Nat → Rat) (l : List (List Nat)) : (tabT f l).length = l.length := List.length_map ..
def noNil (s : List Nat) : Bool := !decide (s = [])
def doneL (L : List (List Nat)) (i : Nat) : List (List Nat) := [] :: (L.take i).filter noNil
theorem doneL_step {L : List (List Nat)} {i : Nat} {s : List Nat} (h : L[i]? = some s) : doneL L (i + 1) = if s = [] then doneL L i else doneL L i ++ [s] := by
  unfold doneL
  rw [take_one h, List.filter_append]
  by_cases e : s = []
  · rw [if_pos e, List.filter_cons, if_neg (by simp [noNil, e])]; simp
  · rw [if_neg e, List.filter_cons, if_pos (by simp [noNil, e])]; rfl
theorem doneL_fresh {L : List (List Nat)} (hn : L.Nodup) {i : Nat} {s : List Nat} (h : L[i]? = some s) (h0 : s ≠ []) : s ∉ doneL L i := by
  intro hm
  rcases List.mem_cons.mp hm with e | hm
  · exact h0 e
  · have hm := (List.mem_filter.mp hm).1
    obtain ⟨j, hj⟩ := List.getElem?_of_mem hm
    rw [List.getElem?_take] at hj
    split at hj
    · rename_i hji
      obtain ⟨a1, a2⟩ := List.getElem?_eq_some_iff.mp hj
      obtain ⟨b1, b2⟩ := List.getElem?_eq_some_iff.mp h
      have := List.pairwise_iff_getElem.mp hn j i a1 b1 hji
      exact this (a2.trans b2.symm)
    · cases hj
theorem doneL_mem {L : List (List Nat)} {i : Nat} {o : List Nat} (h : o ∈ L.take i) : o ∈ doneL L i := by
  by_cases e : o = []
  · rw [e]; exact List.mem_cons_self ..
  · exact List.mem_cons_of_mem _ (List.mem_filter.mpr ⟨h, by simp [noNil, e]⟩)
theorem doneL_len (L : List (List Nat)) (i : Nat) : (doneL L i).length ≤ L.length + 1 := by
  unfold doneL
  rw [List.length_cons]
  have h1 := List.length_filter_le noNil (L.take i)
  rw [List.length_take] at h1
  omega
theorem doneL_all {L : List (List Nat)} {o : List Nat} (h : o ∈ L) : o ∈ doneL L L.length := doneL_mem (by rw [List.take_length]; exact h)
def f_dueNumber : FSp := fun args m R => ∃ (ss : List Int) (s : List Nat) (p : Addr) (kvs : List (List Key × Val)), args = [.d (tupI ss), .v (.ref p), .d (tupN s)] ∧ Shares ss ∧ Kinds ss.length s ∧ s ≠ [] ∧ Dat m p kvs ∧
  (∀ k ∈ s, getV kvs (kI (kn (s.filter fun x => !decide (x = k)))) = some (.d (frac (timeT ss (s.filter fun x => !decide (x = k)))))) ∧ R (.d (frac (timeT ss s))) m
def f_paperT : FSp := fun args m R => ∃ ss : List Int, args = [.d (tupI ss)] ∧ Shares ss ∧ ∀ p, m p = none → R (.v (.ref p)) (put m p (.dT (tabT (timeT ss) (doneL (ordS ss.length) (ordS ss.length).length))))
def f_meanAll : FSp := fun args m R => ∃ ss : List Int, args = [.d (tupI ss)] ∧ Shares ss ∧ R (.d (frac (timeT ss (List.range ss.length)))) m
def f_lawPaper : FSp := fun args m R => ∃ ss : List Int, args = [.d (tupI ss)] ∧ Shares ss ∧ ∀ p, m p = none → R (.v (.ref p)) (put m p (.dT (tabT (timeT ss) (doneL (allS ss.length) (allS ss.length).length))))
theorem allS_ahead : ∀ n : Fin 6, ∀ i : Fin 32, ∀ s, (allS n)[i.val]? = some s → ∀ k ∈ s, (s.filter fun x => !decide (x = k)) ∈ (allS n).take i.val := by
  have h : ∀ n : Fin 6, ∀ i : Fin 32, ((allS n)[i.val]?).all (fun s => s.all fun k => decide ((s.filter fun x => !decide (x = k)) ∈ (allS n).take i.val)) = true := by decide +kernel
  intro n i s hs k hk
  have h1 := h n i
  rw [hs] at h1
  exact of_decide_eq_true (List.all_eq_true.mp h1 k hk)
theorem eqv_nilT (ns : List Int) : PyData.eqv (tupI ns) (.tuple []) = decide (ns = []) := by
  cases ns with
  | nil => rfl
  | cons a t => simp [tupI, PyData.eqv, PyData.eqvAll]
def f_plusG : FSp := fun args m R => ∃ (t1 : Int) (b1 : Nat) (t2 : Int) (b2 : Nat), args = [.d (.tuple [.int t1, .int (b1 : Int)]), .d (.tuple [.int t2, .int (b2 : Int)])] ∧ 0 < b1 ∧ 0 < b2 ∧ Bt t1 3900 ∧ Bt (b1 : Int) 3900 ∧ Bt t2 3900 ∧ Bt (b2 : Int) 3900 ∧ R (.d (frac (mkRat t1 b1 + mkRat t2 b2))) m
theorem mk_self (q : Rat) : mkRat q.num q.den = q := Rat.mkRat_self q
theorem mk_mul (q : Rat) (a : Int) : mkRat (q.num * a) q.den = (a : Rat) * q := by
  rw [Rat.mkRat_eq_div, Rat.intCast_mul, Rat.mul_comm]
  have h := Rat.mkRat_self q
  rw [Rat.mkRat_eq_div] at h
  have : (a : Rat) * q = (a : Rat) * ((q.num : Rat) / (q.den : Rat)) := by rw [h]
  rw [this]
  have hn := nat_ne (den_pos q)
  generalize ((q.den : Nat) : Rat) = D at *
  grind
theorem mk_over (q : Rat) {n : Nat} (h : 0 < n) : mkRat q.num (q.den * n) = q * mkRat 1 n := by
  have h1 := Rat.mkRat_self q
  rw [Rat.mkRat_eq_div] at h1 ⊢
  rw [Rat.mkRat_eq_div]
  have hn := nat_ne (den_pos q)
  have hm := nat_ne h
  have e : q * (((1 : Int) : Rat) / ((n : Nat) : Rat)) = ((q.num : Rat) / (q.den : Rat)) * (((1 : Int) : Rat) / ((n : Nat) : Rat)) := by rw [h1]
  rw [e, Rat.natCast_mul]
  have e1 : ((1 : Int) : Rat) = 1 := rfl
  rw [e1]
  generalize ((q.den : Nat) : Rat) = D at *
  generalize ((n : Nat) : Rat) = N at *
  grind
end DL


namespace DL
open PySem L2 PyProof.Rows

section
variable {prog : Program} {w : World} {A : Around} {E : Value → Shared → Prop} {s : Shared}
/-- sorted of a tuple: what was collected stands in a heap of its own, the new list is laid behind it -/
theorem sorted_of_tup {l : Addr} {vs : List Value} {ltv : Value → Value → Bool} {Q : Value → Shared → Prop} (O : SrtO.Swo ltv) (hl : IsTup s.heap l vs.toArray) (hz : vs.length ≤ sizeLine)
    (hS : 2 ≤ vs.length → ∀ (h₁ : Heap) (a : Addr), SrtO.SortableO prog w A.in1.in1 { s with heap := h₁ } a vs ltv)
    (h : ∀ (h1 h2 : Heap) (out : List Value) (e : Nat), (∀ b o, s.heap.get? b = some o → h1.get? b = some o) → (∀ b o, h1.get? b = some o → h2.get? b = some o) → h2.get? h1.objs.size = some (seqObj "list" out.toArray e) →
      SrtO.Srtd ltv out → SrtO.Stb ltv out vs → Q (.ref h1.objs.size) { s with heap := h2 }) : wpAny (model prog w) A (call (.builtin "sorted") [.ref l]) Q E s := by
  obtain ⟨o, ho, hc, n, hd⟩ := hl
  apply Calls.call_function_entry kind_sorted plain_sorted entry_sorted (args_sorted1 _)
  unfold Builtin.«sorted»
  refine wpAny_bind (m := checkCount "sorted" 1 1 _) (wpAny_pure (wpAny_bind ?_))
  refine wpAny_collect_seq (T := "tuple") l (Or.inr rfl) ho hc hd (fun h1 hk => wpAny_bind (wpAny_newList ?_ (by rw [List.toList_toArray]; exact hz))) (by rw [List.size_toArray]; exact hz)
  have atL : (h1.push (seqObj "list" vs.toArray 0)).get? h1.objs.size = some (seqObj "list" vs.toArray 0) := Heap.get?_push_size _ rfl
  have sort := SrtO.list_sort_ord (prog := prog) (w := w) (A := A.in1.in1) (E := E) (s := { s with heap := h1.push (seqObj "list" vs.toArray 0) }) (R := fun fin s' => ∃ v, fin = .done (.ret v) ∧ Q (.ref h1.objs.size) s') O atL hz (fun h2 => hS h2 _ _) fun out hs hb => by
    obtain ⟨e, he⟩ := sortedHeap_at (out := out.toArray) atL
    refine ⟨_, rfl, h h1 _ out e hk (fun b ob hb1 => ?_) he hs hb⟩
    have hlt : b < h1.objs.size := Heap.lt_size hb1
    exact (sortedHeap_old (Nat.ne_of_lt hlt) (by rw [size_push']; exact Nat.lt_succ_of_lt hlt)).trans (Heap.get?_push_of_some _ hb1)
  exact wpAny_bind (wpAny_holding (wpAny_call_entry slot_list_sort ⟨_, atL, rfl⟩ entry_list_sort (wpAny_mono sort (fun fin s' hq => by
    obtain ⟨v, e1, e2⟩ := hq
    exact ⟨v, e1, wpAny_pure ⟨_, rfl, e2⟩⟩) fun _ _ e => e) (args_list_sort _)))
end
def rSortTup (K : PySem.W.Frag) : List V → Hp → VK → Prop := fun vs H Q => ∃ (a : Addr) (ns : List Int), vs = [V.ref a] ∧ SqT K H a (ns.map V.int) ∧
  ∀ (ns' : List Int) (p : Addr), ns'.Perm ns → ns'.Pairwise (· ≤ ·) → H p = none → Q (.ref p) (upd H p (.lst (ns'.map V.int)))
theorem cr_sortTup {X : Cx} : CallR X (.builtin "sorted") (rSortTup X.K) := by
  rintro pins s σ H vs us Q I r ⟨a, ns, rfl, hs, q⟩
  obtain ⟨its, rv, hl, hz⟩ := I.tuple hs
  rw [Vals.ref1 r]
  have hi := rv.ints
  rw [List.length_map] at hz
  have hil := rv.length
  rw [List.length_map] at hil
  refine sorted_of_tup SrtO.swo_int hl (by omega) (fun h2 _ _ => SrtO.ints_sortable hi h2) fun h1 h2 out e keep1 keep2 he h3 h4 => ?_
  obtain ⟨k1, k2, k3⟩ := SrtO.ints_out hi h3 h4
  have I1 := I.kept (h' := h1) (t' := s.toks) keep1
  have hfr := I1.hok.fresh (Nat.le_refl h1.objs.size)
  refine ⟨.ref h1.objs.size, _, I1.laid (t' := s.toks) (o := .lst ((out.map SrtO.iv).map V.int)) keep2 (Nat.le_refl _) ⟨?_, out, e, vals_of_ints k1, he⟩, rfl, q _ _ k2 k3 hfr⟩
  rw [List.length_map, k2.length_eq]
  exact hz
def rSortA (K : PySem.W.Frag) : List V → Hp → VK → Prop := fun vs H Q => rSortedI K vs H Q ∨ rSortTup K vs H Q
theorem kSorted {X : Cx} (K : PySem.W.Frag) (h : X.K = K := by rfl) : CallR X (.builtin "sorted") (rSortA K) := h ▸ (cr_sortedI.or cr_sortTup)
section
variable {K : PySem.W.Frag} {r : List Val} {m : Mm} {Q : Val → Mm → Prop}
theorem on_sortT {ns ns' : List Int} (hp : ns'.Perm ns) (hs : ns'.Pairwise (· ≤ ·)) (q : Q (.d (.list (ns'.map PyData.int))) m) : OpN K (rSortA K) [.d (tupI ns)] m Q := fun H G vs S a R k => by
  obtain ⟨v, rfl, h⟩ := vrs1 a
  obtain ⟨p, xs, rfl, h2, h3⟩ := rp_tuple.mp h.rp
  have hx := h3.ints
  subst hx
  refine Or.inr ⟨p, ns, rfl, S.sqT h2, fun n2 l hp2 hs2 hl => ?_⟩
  have e : n2 = ns' := (hp2.trans hp.symm).eq_of_pairwise (fun a b _ _ h1 h2 => Int.le_antisymm h1 h2) hs2 hs
  subst e
  have hg := S.free hl
  exact k _ _ (upd G l _) _ m q (S.fix hl) (Le.new hg) (.d (rp_list.mpr ⟨l, _, rfl, Rd.of upd_same, rpa_ints _⟩))
end
end DL


namespace DL
open PySem L2

def sgn (d : Nat) : Int := 1 - 2 * ((d : Int) % 2)
theorem sgn_succ (d : Nat) : sgn (d + 1) = - sgn d := by
  unfold sgn
  omega
def casesO (ss : List Int) (t : List Nat) (a : Int) (n : Nat) : Int := ((allSL t).map fun few => sgn (t.length - few.length) * (a + sumP ss few) ^ n).sum
def casesJ (ss : List Int) (t : List Nat) (n : Nat) : Int := ((allSL t).map fun few => sgn (t.length - few.length) * (sumP ss few) ^ n).sum
theorem casesJ_eq (ss : List Int) (t : List Nat) (n : Nat) : casesJ ss t n = casesO ss t 0 n := by
  unfold casesJ casesO
  congr 1
  exact List.map_congr_left fun few _ => by rw [Int.zero_add]
theorem sumP_snoc (ss : List Int) (t : List Nat) (k : Nat) : sumP ss (t ++ [k]) = sumP ss t + ss.getD k 0 := by
  unfold sumP
  rw [List.map_append, List.sum_append]; simp
theorem sum_map_sub {α : Type} (f g : α → Int) : ∀ l : List α, (l.map fun x => f x - g x).sum = (l.map f).sum - (l.map g).sum
  | [] => rfl
  | a :: l => by simp only [List.map_cons, List.sum_cons]; rw [sum_map_sub f g l]; omega
theorem sum_map_neg {α : Type} (f : α → Int) : ∀ l : List α, (l.map fun x => - f x).sum = - (l.map f).sum
  | [] => rfl
  | a :: l => by simp only [List.map_cons, List.sum_cons]; rw [sum_map_neg f l]; omega
theorem casesO_snoc (ss : List Int) (t : List Nat) (k : Nat) (a : Int) (n : Nat) : casesO ss (t ++ [k]) a n = casesO ss t (a + ss.getD k 0) n - casesO ss t a n := by
  unfold casesO
  rw [allSL_snoc, List.map_append, List.sum_append, List.map_map]
  have e1 : (allSL t).map (fun few => sgn ((t ++ [k]).length - few.length) * (a + sumP ss few) ^ n) = (allSL t).map fun few => - (sgn (t.length - few.length) * (a + sumP ss few) ^ n) := List.map_congr_left fun few hf => by
    have := allSL_mem_len few hf
    rw [List.length_append, List.length_singleton, show t.length + 1 - few.length = (t.length - few.length) + 1 by omega, sgn_succ, Int.neg_mul]
  have e2 : (allSL t).map ((fun few => sgn ((t ++ [k]).length - few.length) * (a + sumP ss few) ^ n) ∘ fun s => s ++ [k]) = (allSL t).map fun few => sgn (t.length - few.length) * (a + ss.getD k 0 + sumP ss few) ^ n := List.map_congr_left fun few hf => by
    show sgn ((t ++ [k]).length - (few ++ [k]).length) * (a + sumP ss (few ++ [k])) ^ n = _
    rw [List.length_append, List.length_append, sumP_snoc, List.length_singleton, show t.length + 1 - (few.length + 1) = t.length - few.length by omega, show a + (sumP ss few + ss.getD k 0) = a + ss.getD k 0 + sumP ss few by omega]
  rw [e1, e2, sum_map_neg]
  omega
theorem casesO_nil (ss : List Int) (a : Int) (n : Nat) : casesO ss [] a n = a ^ n := by
  simp [casesO, allSL, sgn, sumP]
def wo (t : List Nat) (k : Nat) : List Nat := t.filter fun x => !decide (x = k)
theorem wo_snoc {t : List Nat} {j k : Nat} (h : k ≠ j) : wo (t ++ [k]) j = wo t j ++ [k] := by
  unfold wo
  rw [List.filter_append, List.filter_cons, if_pos (by simp [h])]; rfl
theorem wo_last {t : List Nat} {k : Nat} (h : k ∉ t) : wo (t ++ [k]) k = t := by
  unfold wo
  rw [List.filter_append, List.filter_cons, if_neg (by simp), List.filter_eq_self.mpr fun x hx => by
    have : x ≠ k := fun e => h (e ▸ hx)
    simp [this]]
  simp
theorem casesO_rec (ss : List Int) : ∀ (r : List Nat), r.Nodup → ∀ (a : Int) (n : Nat),
    casesO ss r.reverse a (n + 1) = (a + sumP ss r.reverse) * casesO ss r.reverse a n + (r.reverse.map fun k => ss.getD k 0 * casesO ss (wo r.reverse k) a n).sum
  | [], _, a, n => by
    simp [casesO_nil, sumP, Int.pow_succ]
    rw [Int.mul_comm]
  | k :: r, nd, a, n => by
    obtain ⟨hk, nd⟩ := List.nodup_cons.mp nd
    have ih := casesO_rec ss r nd
    rw [List.reverse_cons]
    have hk2 : k ∉ r.reverse := fun h => hk (List.mem_reverse.mp h)
    generalize r.reverse = t at *
    rw [casesO_snoc, casesO_snoc, ih (a + ss.getD k 0) n, ih a n, sumP_snoc, List.map_append, List.sum_append]
    have e1 : t.map (fun j => ss.getD j 0 * casesO ss (wo (t ++ [k]) j) a n) = t.map fun j => ss.getD j 0 * casesO ss (wo t j) (a + ss.getD k 0) n - ss.getD j 0 * casesO ss (wo t j) a n := List.map_congr_left fun j hj => by
      have : k ≠ j := fun e => hk2 (e ▸ hj)
      rw [wo_snoc this, casesO_snoc, Int.mul_sub]
    rw [e1, sum_map_sub]
    simp only [List.map_cons, List.map_nil, List.sum_cons, List.sum_nil, wo_last hk2]
    generalize (t.map fun j => ss.getD j 0 * casesO ss (wo t j) (a + ss.getD k 0) n).sum = X
    generalize (t.map fun j => ss.getD j 0 * casesO ss (wo t j) a n).sum = Y
    generalize casesO ss t (a + ss.getD k 0) n = P
    generalize casesO ss t a n = R
    generalize sumP ss t = S
    generalize ss.getD k 0 = w
    grind
theorem casesJ_rec (ss : List Int) {t : List Nat} (h : t.Nodup) (n : Nat) : casesJ ss t (n + 1) = sumP ss t * casesJ ss t n + (t.map fun k => ss.getD k 0 * casesJ ss (wo t k) n).sum := by
  have := casesO_rec ss t.reverse (List.pairwise_reverse.mpr (h.imp fun h e => h e.symm)) 0 n
  rw [List.reverse_reverse] at this
  simp only [casesJ_eq]
  rw [this, Int.zero_add]
theorem casesO_zero (ss : List Int) : ∀ (r : List Nat) (a : Int), casesO ss r.reverse a 0 = if r = [] then 1 else 0
  | [], a => by simp [casesO_nil]
  | k :: r, a => by
    have h0 : ¬ (k :: r = []) := by simp
    rw [List.reverse_cons, casesO_snoc, casesO_zero ss r, casesO_zero ss r, Int.sub_self, if_neg h0]
theorem casesJ_zero (ss : List Int) (t : List Nat) : casesJ ss t 0 = if t = [] then 1 else 0 := by
  have := casesO_zero ss t.reverse 0
  rw [List.reverse_reverse] at this
  rw [casesJ_eq, this]
  simp
/-! bounds -/
theorem allSL_sub {ks : List Nat} : ∀ s ∈ allSL ks, s.Sublist ks := by
  have gen : ∀ (ks : List Nat) (acc : List (List Nat)), ∀ s ∈ ks.foldl (fun acc k => acc ++ acc.map fun s => s ++ [k]) acc, ∃ a ∈ acc, ∃ u, s = a ++ u ∧ u.Sublist ks := by
    intro ks
    induction ks with
    | nil => intro acc s hs; exact ⟨s, hs, [], by simp, List.Sublist.refl _⟩
    | cons k t ih =>
      intro acc s hs
      rw [List.foldl_cons] at hs
      obtain ⟨a, ha, u, rfl, hu⟩ := ih _ s hs
      rcases List.mem_append.mp ha with ha | ha
      · exact ⟨a, ha, u, rfl, hu.cons k⟩
      · obtain ⟨b, hb, rfl⟩ := List.mem_map.mp ha
        exact ⟨b, hb, k :: u, by simp, hu.cons_cons k⟩
  intro s hs
  obtain ⟨a, ha, u, rfl, hu⟩ := gen ks [[]] s hs
  rw [List.mem_singleton.mp ha]
  exact hu
theorem kinds_sub {n : Nat} {s t : List Nat} (h : Kinds n t) (hs : s.Sublist t) : Kinds n s := ⟨h.up.sublist hs, fun k hk => h.lt k (hs.subset hk)⟩
theorem natAbs_sum_le {α : Type} (f : α → Int) (B : Nat) : ∀ l : List α, (∀ x ∈ l, (f x).natAbs ≤ B) → ((l.map f).sum).natAbs ≤ l.length * B
  | [], _ => by simp
  | a :: l, h => by
    have h1 := h a (List.mem_cons_self ..)
    have h2 := natAbs_sum_le f B l fun x hx => h x (List.mem_cons_of_mem _ hx)
    simp only [List.map_cons, List.sum_cons, List.length_cons]
    have := Int.natAbs_add_le (f a) ((l.map f).sum)
    rw [Nat.succ_mul]
    omega
theorem pow_bt {x : Int} (h0 : 0 ≤ x) (h1 : x ≤ 45) {n : Nat} (hn : n ≤ 12) : Bt (x ^ n) 73 := by
  have hb : Bt x 6 := bt_lit (n := 6) (by show _ < 64; omega) (by decide)
  exact (hb.pow n).mono (by omega)
theorem sgn_bt (d : Nat) : Bt (sgn d) 1 := by
  show (sgn d).natAbs < 2
  unfold sgn; omega
theorem casesJ_bt {ss : List Int} (hs : Shares ss) {t : List Nat} (hk : Kinds ss.length t) {n : Nat} (hn : n ≤ 12) : Bt (casesJ ss t n) 80 := by
  have hl : (allSL t).length ≤ 32 := by
    rw [allSL_len]
    have h1 := hk.len
    have h2 := hs.few
    exact Nat.le_trans (Nat.pow_le_pow_right (by decide) (show t.length ≤ 5 by omega)) (by decide)
  have h := natAbs_sum_le (fun few => sgn (t.length - few.length) * (sumP ss few) ^ n) (2 ^ 74) (allSL t) fun few hf => by
    have hkf := kinds_sub hk (allSL_sub few hf)
    exact Nat.le_of_lt (Bt.mono ((sgn_bt _).mul (pow_bt (sumP_nonneg hs few) (sumP_le hs hkf) hn)) (by decide))
  refine Nat.lt_of_le_of_lt h (Nat.lt_of_le_of_lt (Nat.mul_le_mul_right _ hl) ?_)
  decide
/-! the turns -/
def insS (s : List Nat) (k : Nat) : List Nat := if k ∈ s then s else (s.filter fun x => decide (x < k)) ++ k :: s.filter fun x => decide (k < x)
theorem ins_all : ∀ n : Fin 6, ∀ s ∈ allS n, ∀ k : Fin 5, k.val < n.val → insS s k.val ∈ allS n ∧ (k.val ∉ s → (insS s k.val).isPerm (s ++ [k.val]) = true ∧ (insS s k.val).Pairwise (· ≤ ·)) := by decide +kernel
theorem ins_from : ∀ n : Fin 6, ∀ t ∈ allS n, ∀ k : Fin 5, k.val < n.val → (allS n).filter (fun s => decide (insS s k.val = t)) = if k.val ∈ t then [wo t k.val, t] else [] := by decide +kernel
def addF (G : List Nat → Int) (p : List Nat × Int) : List Nat → Int := fun u => if u = p.1 then G u + p.2 else G u
theorem addF_sum (u : List Nat) : ∀ (ps : List (List Nat × Int)) (G : List Nat → Int), (ps.foldl addF G) u = G u + (ps.map fun p => if u = p.1 then p.2 else 0).sum
  | [], G => by simp
  | p :: ps, G => by
    rw [List.foldl_cons, addF_sum u ps, List.map_cons, List.sum_cons]
    unfold addF
    split <;> omega
def rowP (ss : List Int) (F : List Nat → Int) (n : Nat) (s : List Nat) : List (List Nat × Int) := (List.range n).map fun k => (insS s k, F s * ss.getD k 0)
def turnP (ss : List Int) (F : List Nat → Int) (n : Nat) (l : List (List Nat)) : List (List Nat × Int) := (l.map (rowP ss F n)).flatten
theorem sum_flat {α : Type} (f : α → Int) : ∀ ls : List (List α), (ls.flatten.map f).sum = (ls.map fun l => (l.map f).sum).sum
  | [] => rfl
  | l :: ls => by rw [List.flatten_cons, List.map_append, List.sum_append, List.map_cons, List.sum_cons, sum_flat f ls]
theorem sum_swap {α β : Type} (f : α → β → Int) : ∀ (l : List α) (l2 : List β), (l.map fun a => (l2.map fun b => f a b).sum).sum = (l2.map fun b => (l.map fun a => f a b).sum).sum
  | [], l2 => by
    simp only [List.map_nil, List.sum_nil]
    induction l2 with
    | nil => rfl
    | cons b t ih => simp only [List.map_cons, List.sum_cons]; rw [← ih]; rfl
  | a :: l, l2 => by
    simp only [List.map_cons, List.sum_cons]
    rw [sum_swap f l l2]
    have gen : ∀ (g h : β → Int) (l2 : List β), (l2.map g).sum + (l2.map h).sum = (l2.map fun b => g b + h b).sum := by
      intro g h l2
      induction l2 with
      | nil => rfl
      | cons b t ih => simp only [List.map_cons, List.sum_cons]; rw [← ih]; omega
    exact gen _ _ l2
theorem sum_perm {l l' : List Int} (h : l.Perm l') : l.sum = l'.sum := by
  induction h with
  | nil => rfl
  | cons x _ ih => simp only [List.sum_cons, ih]
  | swap x y l => simp only [List.sum_cons]; omega
  | trans _ _ a b => exact a.trans b
theorem sum_ite_filter {α : Type} (p : α → Bool) (f : α → Int) : ∀ l : List α, (l.map fun x => if p x = true then f x else 0).sum = ((l.filter p).map f).sum
  | [] => rfl
  | a :: l => by
    rw [List.map_cons, List.sum_cons, sum_ite_filter p f l, List.filter_cons]
    cases h : p a with
    | true => simp
    | false => simp
/-- sums over those that are there are sums over all -/
theorem sum_support {A l : List (List Nat)} (hA : A.Nodup) (hl : l.Nodup) (hsub : ∀ s ∈ l, s ∈ A) (f : List Nat → Int) (h0 : ∀ s, s ∉ l → f s = 0) : (l.map f).sum = (A.map f).sum := by
  have e1 : (A.map f).sum = ((A.filter fun s => decide (s ∈ l)).map f).sum := by
    rw [← sum_ite_filter (fun s => decide (s ∈ l))]
    congr 1
    exact List.map_congr_left fun s _ => by
      by_cases h : s ∈ l
      · simp [h]
      · simp [h, h0 s h]
  rw [e1]
  refine sum_perm (List.Perm.map f ?_)
  refine (List.perm_ext_iff_of_nodup hl (hA.filter _)).mpr fun s => ?_
  rw [List.mem_filter]
  constructor
  · intro h; exact ⟨hsub s h, decide_eq_true h⟩
  · intro h; exact of_decide_eq_true h.2
theorem turn_eq {ss : List Int} (hs : Shares ss) {F : List Nat → Int} {l : List (List Nat)} (hl : l.Nodup) (hsub : ∀ s ∈ l, s ∈ allS ss.length) (h0 : ∀ s, s ∉ l → F s = 0) {t : List Nat} (ht : t ∈ allS ss.length) :
    ((turnP ss F ss.length l).foldl addF fun _ => 0) t = sumP ss t * F t + (t.map fun k => ss.getD k 0 * F (wo t k)).sum := by
  have hfew := hs.few
  have hkt := allS_kinds ht
  rw [addF_sum, Int.zero_add]
  unfold turnP
  rw [sum_flat, List.map_map]
  have e1 : l.map ((fun l => (l.map fun p => if t = p.1 then p.2 else 0).sum) ∘ rowP ss F ss.length) = l.map fun s => ((List.range ss.length).map fun k => if t = insS s k then F s * ss.getD k 0 else 0).sum := List.map_congr_left fun s _ => by
    show ((rowP ss F ss.length s).map _).sum = _
    unfold rowP
    rw [List.map_map]; rfl
  rw [e1, sum_support (allS_nodup ⟨ss.length, by omega⟩) hl hsub _ (fun s hs => by
    have hz := h0 s hs
    simp only [hz, Int.zero_mul, ite_self]
    induction List.range ss.length with
    | nil => rfl
    | cons a t ih => simp only [List.map_cons, List.sum_cons, ih]; rfl), sum_swap]
  have e2 : (List.range ss.length).map (fun k => ((allS ss.length).map fun s => if t = insS s k then F s * ss.getD k 0 else 0).sum) = (List.range ss.length).map fun k => if decide (k ∈ t) = true then ss.getD k 0 * F t + ss.getD k 0 * F (wo t k) else 0 := List.map_congr_left fun k hk => by
    have hk := List.mem_range.mp hk
    have e3 : (allS ss.length).map (fun s => if t = insS s k then F s * ss.getD k 0 else 0) = (allS ss.length).map fun s => if decide (insS s k = t) = true then F s * ss.getD k 0 else 0 := List.map_congr_left fun s _ => by
      by_cases h : t = insS s k
      · simp [h]
      · have : ¬ insS s k = t := fun e => h e.symm
        simp [h, this]
    rw [e3, sum_ite_filter (fun s => decide (insS s k = t)), ins_from ⟨ss.length, by omega⟩ t ht ⟨k, by omega⟩ hk]
    by_cases h : k ∈ t
    · simp only [h, if_true, decide_true, List.map_cons, List.map_nil, List.sum_cons, List.sum_nil]
      rw [Int.mul_comm (F (wo t k)), Int.mul_comm (F t)]; omega
    · simp only [h, if_false, decide_false]; rfl
  rw [e2, sum_ite_filter (fun k => decide (k ∈ t)), hkt.filter_eq]
  have e4 : ∀ l : List Nat, (l.map fun k => ss.getD k 0 * F t + ss.getD k 0 * F (wo t k)).sum = sumP ss l * F t + (l.map fun k => ss.getD k 0 * F (wo t k)).sum := by
    intro l
    induction l with
    | nil => simp [sumP]
    | cons a l ih => simp only [List.map_cons, List.sum_cons]; rw [ih, sumP_cons, Int.add_mul]; omega
  exact e4 t
/-! tables of whole numbers -/
def tabI (G : List Nat → Int) (l : List (List Nat)) : List (List Int × Val) := l.map fun s => (kn s, .d (.int (G s)))
def insL (l : List (List Nat)) (t : List Nat) : List (List Nat) := if t ∈ l then l else l ++ [t]
abbrev dI (kvs : List (List Int × Val)) : List (List Key × Val) := kvs.map fun kv => (kI kv.1, kv.2)
theorem getV_tabI {G : List Nat → Int} {l : List (List Nat)} (h0 : ∀ s, s ∉ l → G s = 0) (t : List Nat) : (getV (dI (tabI G l)) (kI (kn t))).getD (.d (.int 0)) = .d (.int (G t)) := by
  induction l with
  | nil => rw [h0 t (by simp)]; rfl
  | cons a l ih =>
    by_cases e : a = t
    · subst e
      simp [dI, tabI, getV, List.find?_cons]
    · have e2 : ¬ kI (kn a) = kI (kn t) := fun z => e (kn_inj (kI_inj z))
      have : getV (dI (tabI G (a :: l))) (kI (kn t)) = getV (dI (tabI G l)) (kI (kn t)) := by simp [dI, tabI, getV, List.find?_cons, e2]
      rw [this]
      by_cases hG : ∀ s, s ∉ l → G s = 0
      · exact ih hG
      · -- t itself
        by_cases ht : t ∈ l
        · have : ∀ (l : List (List Nat)), t ∈ l → getV (dI (tabI G l)) (kI (kn t)) = some (.d (.int (G t))) := by
            intro l
            induction l with
            | nil => intro h; cases h
            | cons b l ih2 =>
              intro h
              by_cases e3 : b = t
              · subst e3; simp [dI, tabI, getV, List.find?_cons]
              · have e4 : ¬ kI (kn b) = kI (kn t) := fun z => e3 (kn_inj (kI_inj z))
                have h5 : t ∈ l := by
                  rcases List.mem_cons.mp h with h | h
                  · exact absurd h.symm e3
                  · exact h
                have : getV (dI (tabI G (b :: l))) (kI (kn t)) = getV (dI (tabI G l)) (kI (kn t)) := by simp [dI, tabI, getV, List.find?_cons, e4]
                rw [this]; exact ih2 h5
          rw [this l ht]; rfl
        · have hz : G t = 0 := h0 t (by
            intro h
            rcases List.mem_cons.mp h with h | h
            · exact e h.symm
            · exact ht h)
          have : ∀ (l : List (List Nat)), t ∉ l → getV (dI (tabI G l)) (kI (kn t)) = none := by
            intro l
            induction l with
            | nil => intro _; rfl
            | cons b l ih2 =>
              intro h
              have e3 : b ≠ t := fun z => h (z ▸ List.mem_cons_self ..)
              have e4 : ¬ kI (kn b) = kI (kn t) := fun z => e3 (kn_inj (kI_inj z))
              have : getV (dI (tabI G (b :: l))) (kI (kn t)) = getV (dI (tabI G l)) (kI (kn t)) := by simp [dI, tabI, getV, List.find?_cons, e4]
              rw [this]; exact ih2 fun hm => h (List.mem_cons_of_mem _ hm)
          rw [this l ht, hz]; rfl
theorem getV_tabI_mem {G : List Nat → Int} {t : List Nat} : ∀ {l : List (List Nat)}, t ∈ l → getV (dI (tabI G l)) (kI (kn t)) = some (.d (.int (G t)))
  | [], h => nomatch h
  | b :: l, h => by
    by_cases e3 : b = t
    · subst e3; simp [dI, tabI, getV, List.find?_cons]
    · have e4 : ¬ kI (kn b) = kI (kn t) := fun z => e3 (kn_inj (kI_inj z))
      have h5 : t ∈ l := by
        rcases List.mem_cons.mp h with h | h
        · exact absurd h.symm e3
        · exact h
      have : getV (dI (tabI G (b :: l))) (kI (kn t)) = getV (dI (tabI G l)) (kI (kn t)) := by simp [dI, tabI, getV, List.find?_cons, e4]
      rw [this]; exact getV_tabI_mem h5
theorem putV_tabI {G : List Nat → Int} {l : List (List Nat)} (t : List Nat) (x : Int) : putV (dI (tabI G l)) (kI (kn t)) (.d (.int (G t + x))) = dI (tabI (addF G (t, x)) (insL l t)) := by
  unfold insL
  by_cases h : t ∈ l
  · rw [if_pos h]
    unfold putV
    have hany : ((dI (tabI G l)).any fun kv => decide (kv.1 = kI (kn t))) = true := List.any_eq_true.mpr ⟨(kI (kn t), Val.d (.int (G t))), List.mem_map.mpr ⟨(kn t, Val.d (.int (G t))), List.mem_map.mpr ⟨t, h, rfl⟩, rfl⟩, by simp⟩
    rw [if_pos hany]
    unfold dI tabI
    rw [List.map_map, List.map_map, List.map_map]
    refine List.map_congr_left fun s _ => ?_
    show (if kI (kn s) = kI (kn t) then (kI (kn s), Val.d (.int (G t + x))) else (kI (kn s), Val.d (.int (G s)))) = (kI (kn s), Val.d (.int (addF G (t, x) s)))
    by_cases e : s = t
    · subst e; simp [addF]
    · have e2 : ¬ kI (kn s) = kI (kn t) := fun z => e (kn_inj (kI_inj z))
      simp [addF, e, e2]
  · rw [if_neg h, putV_new]
    · unfold dI tabI
      rw [List.map_append, List.map_append]
      have e1 : l.map (fun s => (kn s, Val.d (.int (addF G (t, x) s)))) = l.map fun s => (kn s, Val.d (.int (G s))) := List.map_congr_left fun s hs => by
        have : s ≠ t := fun e => h (e ▸ hs)
        simp [addF, this]
      rw [e1]
      simp [addF]
    · intro p hp e
      obtain ⟨q, hq, rfl⟩ := List.mem_map.mp hp
      obtain ⟨s, hs, rfl⟩ := List.mem_map.mp hq
      exact h (kn_inj (kI_inj e) ▸ hs)
structure TabOk (n : Nat) (G : List Nat → Int) (l : List (List Nat)) : Prop where
  nd : l.Nodup
  sub : ∀ s ∈ l, s ∈ allS n
  off : ∀ s, s ∉ l → G s = 0
theorem TabOk.add {n : Nat} {G : List Nat → Int} {l : List (List Nat)} (h : TabOk n G l) {t : List Nat} (ht : t ∈ allS n) (x : Int) : TabOk n (addF G (t, x)) (insL l t) := by
  unfold insL
  by_cases hm : t ∈ l
  · rw [if_pos hm]
    refine ⟨h.nd, h.sub, fun s hs => ?_⟩
    have : s ≠ t := fun e => hs (e ▸ hm)
    simp [addF, this, h.off s hs]
  · rw [if_neg hm]
    refine ⟨List.nodup_append.mpr ⟨h.nd, List.pairwise_singleton .., fun a ha b hb => by rw [List.mem_singleton.mp hb]; exact fun e => hm (e ▸ ha)⟩, fun s hs => ?_, fun s hs => ?_⟩
    · rcases List.mem_append.mp hs with hs | hs
      · exact h.sub s hs
      · rw [List.mem_singleton.mp hs]; exact ht
    · have h1 : s ∉ l := fun z => hs (List.mem_append_left _ z)
      have h2 : s ≠ t := fun e => hs (List.mem_append_right _ (by rw [e]; simp))
      simp [addF, h2, h.off s h1]
theorem TabOk.len {n : Nat} {G : List Nat → Int} {l : List (List Nat)} (h : TabOk n G l) (hn : n ≤ 5) : l.length ≤ 32 := by
  have h1 : l.Perm ((allS n).filter fun s => decide (s ∈ l)) := (List.perm_ext_iff_of_nodup h.nd ((allS_nodup ⟨n, by omega⟩).filter _)).mpr fun s => by
    rw [List.mem_filter]
    constructor
    · intro z; exact ⟨h.sub s z, decide_eq_true z⟩
    · intro z; exact of_decide_eq_true z.2
  have h2 := h1.length_eq
  have h3 := List.length_filter_le (fun s => decide (s ∈ l)) (allS n)
  have h4 := allS_len n
  have h5 : 2 ^ n ≤ 2 ^ 5 := Nat.pow_le_pow_right (by decide) hn
  omega
/-! words -/
def GJ (ss : List Int) (n : Nat) : List Nat → Int := fun s => if s ∈ allS ss.length then casesJ ss s n else 0
theorem GJ_next {ss : List Int} (hs : Shares ss) {n : Nat} {l : List (List Nat)} (h : TabOk ss.length (GJ ss n) l) {G : List Nat → Int} {l' : List (List Nat)} (h' : TabOk ss.length G l')
    (e : G = (turnP ss (GJ ss n) ss.length l).foldl addF fun _ => 0) : G = GJ ss (n + 1) := by
  have hfew := hs.few
  funext t
  by_cases ht : t ∈ allS ss.length
  · rw [e, turn_eq hs h.nd h.sub h.off ht]
    have hkt := allS_kinds ht
    unfold GJ
    rw [if_pos ht, if_pos ht, casesJ_rec ss (hkt.up.imp fun h => Nat.ne_of_lt h)]
    congr 2
    exact List.map_congr_left fun k hk => by
      have hw : wo t k ∈ allS ss.length := allS_without ⟨ss.length, by omega⟩ t ht k hk
      rw [if_pos hw]
  · have : t ∉ l' := fun z => ht (h'.sub t z)
    rw [h'.off t this]
    unfold GJ
    rw [if_neg ht]
theorem GJ_bt {ss : List Int} (hs : Shares ss) {n : Nat} (hn : n ≤ 12) (s : List Nat) : Bt (GJ ss n s) 80 := by
  unfold GJ
  split
  · rename_i h; exact casesJ_bt hs (allS_kinds h) hn
  · exact bt_lit (n := 1) (by decide) (by decide)
theorem GJ_zero (ss : List Int) : TabOk ss.length (GJ ss 0) [[]] := by
  refine ⟨List.pairwise_singleton .., fun s h => by rw [List.mem_singleton.mp h]; exact allS_nil _, fun s h => ?_⟩
  unfold GJ
  split
  · rw [casesJ_zero, if_neg (fun e => h (by rw [e]; simp))]
  · rfl
def f_allSomeU : FSp := fun args m R => ∃ ks : List Nat, args = [.d (tupN ks)] ∧ ks.length ≤ 8 ∧ R (.lt ((allSL ks).map kn)) m
def f_casesOf : FSp := fun args m R => ∃ (ss : List Int) (s : List Nat) (n : Nat) (x : Val), args = [.d (tupI ss), x, .d (.int (n : Int))] ∧ (x = .d (tupN s) ∨ x = .t (kn s)) ∧ Shares ss ∧ Kinds ss.length s ∧ n ≤ 12 ∧ R (.d (.int (casesJ ss s n))) m
def f_justCases : FSp := fun args m R => ∃ (ss : List Int) (s : List Nat) (n : Nat), args = [.d (tupI ss), .d (tupN s), .d (.int (n : Int))] ∧ Shares ss ∧ Kinds ss.length s ∧ n ≤ 12 ∧ R (.d (.int (casesJ ss s n))) m
def f_shareBy : FSp := fun args m R => ∃ (ss : List Int) (n : Nat), args = [.d (tupI ss), .d (.int (n : Int))] ∧ Shares ss ∧ n ≤ 12 ∧ R (.d (frac (mkRat (casesJ ss (List.range ss.length) n) (ss.sum.toNat ^ n)))) m
def f_lawCases : FSp := fun args m R => ∃ (ss : List Int) (n : Nat), args = [.d (tupI ss), .d (.int (n : Int))] ∧ Shares ss ∧ n ≤ 12 ∧ ∀ p l, m p = none → TabOk ss.length (GJ ss n) l → R (.v (.ref p)) (put m p (.dT (dI (tabI (GJ ss n) l))))
def f_lawAllCases : FSp := fun args m R => ∃ (ss : List Int) (n : Nat), args = [.d (tupI ss), .d (.int (n : Int))] ∧ Shares ss ∧ n ≤ 12 ∧ R (.d (.int (ss.sum ^ n))) m
section
variable {K : PySem.W.Frag} {r : List Val} {m : Mm} {N : List Val → Mm → Prop} {E : Val → Mm → Prop} {t : TS}
theorem w_t2d {i : Nat} {ns : List Int} (hi : r[i]? = some (.t ns)) (h : Wp K t (r.set i (.d (tupI ns))) m N E) : Wp K t r m N E := fun σ H G D S L a b => by
  obtain ⟨v, hv, hr⟩ := L.get hi (fun z => nomatch z)
  have L2 := L.set (r := .d (tupI ns)) (t_d hr) i
  have e : σ.set i (some v) = σ := by
    refine List.ext_getElem? fun k => ?_
    by_cases hk : k = i
    · subst hk
      rw [List.getElem?_set_self (List.getElem?_eq_some_iff.mp hv).1, hv]
    · rw [List.getElem?_set_ne (Ne.symm hk)]
  rw [e] at L2
  exact h σ H G D S L2 a b
/-- less told of what may change -/
theorem w_less {m' : Mm} (hl : ∀ a o, m' a = some o → m a = some o) (h : Wp K t r m' N E) : Wp K t r m N E := fun σ H G D S L a b => h σ H G D (S.less hl) L a b
end
theorem pow_pos' {b n : Nat} (h : 0 < b) : 0 < b ^ n := Nat.pow_pos h
theorem tot_pow {ss : List Int} (hs : Shares ss) (n : Nat) : ss.sum ^ n = ((ss.sum.toNat ^ n : Nat) : Int) := by
  have := shares_sum hs
  have e : ss.sum = ((ss.sum.toNat : Nat) : Int) := by omega
  rw [Int.natCast_pow, ← e]
end DL


namespace DL
open PySem L2

section
variable {K : PySem.W.Frag} {r : List Val} {m : Mm} {Q : Val → Mm → Prop} {te td : TE} {tt : TT}
/-- [e for k in a dict] -/
theorem ev_lcD {j : Nat} {p : Addr} {kvs : List (List Int × Val)} (hm : m p = some (.dT (dI kvs)))
    (htd : ∀ m', Ev K td r m' fun x m1 => x = .v (.ref p) ∧ m1 = m') (hn : kvs.length ≤ 100000) (g : List Int × Val → PyData)
    (hs : ∀ (kv : List Int × Val) m', kv ∈ kvs → Dat m' p (dI kvs) → (∀ a o, a ≠ p → m a = some o → m' a = some o) → Ev K te (r.set j (.t kv.1)) m' fun x m3 => x = .d (g kv) ∧ m3 = m')
    (q : Q (.d (.list (kvs.map g))) m) : Ev K (tLockE (tLc (iKeys td) (gName j) tYes te [j])) r m Q := fun σ H G S L R k => by
  obtain ⟨es, g1, g2⟩ := S.mem p _ hm
  have hlen : es.length = kvs.length := by rw [g2.len]; show (kvs.map _).length = _; rw [List.length_map]
  have keyAt : ∀ (i : Nat) (k : List Key) (v : V), es[i]? = some (k, v) → ∃ kz, kvs[i]? = some kz ∧ k = kI kz.1 := by
    have aux : ∀ (kk : List (List Key × Val)) (es : List (List Key × V)) (i : Nat) (k : List Key) (v : V), KVs K G kk es → es[i]? = some (k, v) → ∃ z, kk[i]? = some (k, z) := by
      intro kk
      induction kk with
      | nil => intro es i k v h e; have h : es = [] := h; subst h; simp at e
      | cons p t ih =>
        intro es i k v h e
        obtain ⟨k0, r0⟩ := p
        obtain ⟨v0, u, rfl, _, h3⟩ := h
        cases i with
        | zero => simp at e; exact ⟨r0, by simp [e.1]⟩
        | succ i => simpa using ih u i k v h3 (by simpa using e)
    intro i k v he
    obtain ⟨z, hz⟩ := aux (dI kvs) es i k v g2 he
    unfold dI at hz
    rw [List.getElem?_map] at hz
    cases hx : kvs[i]? with
    | none => rw [hx] at hz; cases hz
    | some kz => rw [hx] at hz; cases hz; exact ⟨kz, rfl, rfl⟩
  refine ⟨p, .dT es, g1, trivial, fun od => ?_⟩
  have S1 : Sta K (put m p (.lk od es (dI kvs))) (upd H p (.frz od (.dT es))) G := S.chg hm ⟨upd_same, g2⟩
  refine htd _ σ _ G S1 L _ fun v H1 G1 x m1 ⟨hx, hm1⟩ S2 e1 r1 => ?_
  subst hx hm1
  have r1 := r1.eq
  subst r1
  obtain ⟨g3, g4⟩ := S2.mem p _ put_same
  refine ⟨p, od, rfl, Or.inr ⟨es, g3, fun D hD => ?_⟩⟩
  have hmD := S2.freeM hD
  have hpD : p ≠ D := ne_of_get (m := put m p (.lk od es (dI kvs))) put_same hmD
  refine lc_it (walk_keysT (kvs := es)) (LcW K (put m p (.lk od es (dI kvs))) G1 D (fun i acc => acc = (kvs.take i).map g)) (lc_start S2 hD (by simp)) ?_ ?_ ?_
  · rintro i H' hi ⟨G', acc, _, _, S', e'⟩
    exact (S'.mem p (.lk od es (dI kvs)) (by rw [put_ne hpD]; exact put_same)).1
  · rintro i y H' H2 hi hP ⟨rfl, ky, v, qa, hk, rfl, hq⟩
    obtain ⟨kz, hkz, rfl⟩ := keyAt i ky v hk
    rw [kI_kV] at hq
    have hkm := List.mem_of_getElem? hkz
    obtain ⟨G', acc, hw, hl, S', e'⟩ := hP
    obtain ⟨S3, e3⟩ := S'.adopt hq
    refine ⟨wipe1 σ j _, ?_⟩
    show te _ H2 _
    have hsl : Sl K (upd G' qa (.tup (kz.1.map V.int))) (r.set j (.t kz.1)) ((wipe σ [j]).set j (some (.ref qa))) := by
      have := (L.mono (e1.trans (e'.trans e3))).set (r := .t kz.1) (.t upd_same) j
      show Sl K _ (r.set j (.t kz.1)) ((σ.set j none).set j (some (.ref qa)))
      rw [List.set_set]
      exact this
    have hmD0 : m D = none := by rw [put_ne hpD.symm] at hmD; exact hmD
    refine hs kz _ hkm (Or.inr ⟨od, es, by rw [put_ne hpD]; exact put_same⟩) (fun a o ha ho => by rw [put_ne (ne_of_get ho hmD0), put_ne ha]; exact ho) _ H2 _ S3 hsl _ fun v4 H4 G4 x m4 ⟨hx4, hm4⟩ S4 l4 r4 => ?_
    subst hx4 hm4
    obtain ⟨xs, b1, b2⟩ := S4.mem D _ put_same
    have hlen4 := b2.length
    rw [List.length_map] at hlen4
    refine ⟨xs, b1, Nat.lt_of_lt_of_le (show xs.length < 100000 by omega) (by decide), G4, acc ++ [g kz], by show acc ++ [g kz] = (kvs.take (i + 1)).map g; rw [hw, take_one hkz, List.map_append]; rfl, by rw [List.length_append]; show acc.length + 1 ≤ i + 1; omega, ?_, e'.trans (e3.trans l4)⟩
    have S5 := S4.chg (u := .lst ((acc ++ [g kz]).map Val.d)) (o := .lst (xs ++ [v4])) put_same ⟨_, upd_same, by
      rw [List.map_append]
      exact b2.append ⟨v4, [], rfl, r4, rfl⟩⟩
    rw [put_put] at S5
    exact S5
  · intro H' hP
    rw [hlen] at hP
    obtain ⟨G', acc, hw, hl, S', e'⟩ := hP
    obtain ⟨xs, b1, b2⟩ := S'.mem D _ put_same
    have hg := S'.dis D _ put_same
    have S3 := S'.freeze put_same b1
    rw [del_put hmD] at S3
    obtain ⟨b3, b4⟩ := S3.mem p _ put_same
    have S4 := S3.chg (u := .dT (dI kvs)) (o := .dT es) put_same ⟨es, upd_same, b4⟩
    have em : put (put m p (.lk od es (dI kvs))) p (.dT (dI kvs)) = m := by
      rw [put_put]
      funext c
      unfold put
      by_cases hc : c = p
      · rw [if_pos hc, hc, hm]
      · rw [if_neg hc]
    rw [em] at S4
    refine ⟨b3, k _ _ _ _ m ?_ S4 (e1.trans (e'.trans (Le.new hg))) (.d (rp_list.mpr ⟨D, xs, rfl, Rd.of upd_same, RpAll.mono (Le.new hg) acc xs b2.toAll⟩))⟩
    have hw : acc = (kvs.take kvs.length).map g := hw
    rw [hw, List.take_length]
    exact q
end
/-! all together -/
theorem cases_sum_rev (ss : List Int) (n : Nat) : ∀ (r : List Nat) (a : Int), ((allSL r.reverse).map fun s => casesO ss s a n).sum = (a + sumP ss r.reverse) ^ n
  | [], a => by simp [allSL, casesO_nil, sumP]
  | k :: r, a => by
    rw [List.reverse_cons, allSL_snoc, List.map_append, List.sum_append, List.map_map]
    have e : (allSL r.reverse).map ((fun s => casesO ss s a n) ∘ fun s => s ++ [k]) = (allSL r.reverse).map fun s => casesO ss s (a + ss.getD k 0) n - casesO ss s a n := List.map_congr_left fun s _ => casesO_snoc ss s k a n
    rw [e, sum_map_sub, cases_sum_rev ss n r (a + ss.getD k 0), sumP_snoc]
    rw [show a + (sumP ss r.reverse + ss.getD k 0) = a + ss.getD k 0 + sumP ss r.reverse by omega]
    omega
theorem cases_sum (ss : List Int) (A : List Nat) (n : Nat) : ((allSL A).map fun s => casesJ ss s n).sum = (sumP ss A) ^ n := by
  have := cases_sum_rev ss n A.reverse 0
  rw [List.reverse_reverse, Int.zero_add] at this
  rw [← this]
  congr 1
  exact List.map_congr_left fun s _ => casesJ_eq ss s n
theorem without_all : ∀ n : Fin 6, ∀ k : Fin 5, k.val < n.val → (allS n).filter (fun s => !decide (k.val ∈ s)) = allSL (wo (List.range n) k.val) := by decide +kernel
theorem sumP_wo {ss : List Int} {k : Nat} (hk : k < ss.length) : sumP ss (wo (List.range ss.length) k) = ss.sum - ss.getD k 0 := by
  have h := sumP_split ss (fun x => !decide (x = k)) (List.range ss.length)
  rw [sumP_range] at h
  have e : (List.range ss.length).filter (fun x => !!decide (x = k)) = [k] := by
    have h1 : Kinds ss.length [k] := ⟨List.pairwise_singleton .., fun x hx => by rw [List.mem_singleton.mp hx]; exact hk⟩
    have h2 := h1.filter_eq
    rw [← h2]
    exact List.filter_congr fun x _ => by simp
  rw [e] at h
  have e2 : sumP ss [k] = ss.getD k 0 := by simp [sumP]
  unfold wo
  omega
theorem lack_count {n : Nat} {s : List Nat} (h : Kinds n s) : (n : Int) - (s.length : Int) = ((List.range n).map fun k => if (!decide (k ∈ s)) = true then (1 : Int) else 0).sum := by
  rw [sum_ite_filter (fun k => !decide (k ∈ s))]
  have h1 : ∀ l : List Nat, (l.map fun _ => (1 : Int)).sum = (l.length : Int) := by
    intro l
    induction l with
    | nil => rfl
    | cons a l ih => simp only [List.map_cons, List.sum_cons, ih, List.length_cons]; omega
  rw [h1]
  have h2 : ∀ l : List Nat, (l.filter fun k => decide (k ∈ s)).length + (l.filter fun k => !decide (k ∈ s)).length = l.length := by
    intro l
    induction l with
    | nil => rfl
    | cons a l ih =>
      rw [List.filter_cons, List.filter_cons]
      by_cases h : a ∈ s
      · simp only [h, decide_true, if_true, Bool.not_true, List.length_cons]; simp; omega
      · simp only [h, decide_false, Bool.not_false, if_true, List.length_cons]; simp; omega
  have h3 := h2 (List.range n)
  rw [h.filter_eq, List.length_range] at h3
  omega
/-- the lacking, told by the sets -/
theorem lack_eq {ss : List Int} (hs : Shares ss) {n : Nat} {l : List (List Nat)} (hT : TabOk ss.length (GJ ss n) l) :
    (l.map fun s => GJ ss n s * ((ss.length : Int) - (s.length : Int))).sum = ((List.range ss.length).map fun k => (ss.sum - ss.getD k 0) ^ n).sum := by
  have hfew := hs.few
  rw [sum_support (allS_nodup ⟨ss.length, by omega⟩) hT.nd hT.sub (fun s => GJ ss n s * ((ss.length : Int) - (s.length : Int))) (fun s h => by rw [hT.off s h, Int.zero_mul])]
  have e1 : (allS ss.length).map (fun s => GJ ss n s * ((ss.length : Int) - (s.length : Int))) = (allS ss.length).map fun s => ((List.range ss.length).map fun k => if (!decide (k ∈ s)) = true then casesJ ss s n else 0).sum := List.map_congr_left fun s hsa => by
    have hg : GJ ss n s = casesJ ss s n := if_pos hsa
    rw [hg, lack_count (allS_kinds hsa)]
    have gen : ∀ (c : Int) (l : List Nat), c * (l.map fun k => if (!decide (k ∈ s)) = true then (1 : Int) else 0).sum = (l.map fun k => if (!decide (k ∈ s)) = true then c else 0).sum := by
      intro c l
      induction l with
      | nil => simp
      | cons a l ih =>
        simp only [List.map_cons, List.sum_cons]
        rw [Int.mul_add, ih]
        split <;> simp
    exact gen _ _
  rw [e1, sum_swap]
  congr 1
  refine List.map_congr_left fun k hk => ?_
  have hk := List.mem_range.mp hk
  rw [sum_ite_filter (fun s => !decide (k ∈ s)), without_all ⟨ss.length, by omega⟩ ⟨k, by omega⟩ hk, cases_sum, sumP_wo hk]
theorem last_eq {ss : List Int} (hs : Shares ss) (n : Nat) : casesJ ss (List.range ss.length) (n + 1) = ss.sum * casesJ ss (List.range ss.length) n + ((List.range ss.length).map fun k => casesJ ss (wo (List.range ss.length) k) n * ss.getD k 0).sum := by
  rw [casesJ_rec ss List.nodup_range, sumP_range]
  congr 2
  exact List.map_congr_left fun k _ => Int.mul_comm _ _
theorem last_frac {a b c : Int} {t n : Nat} (ht : 0 < t) (h : a = (t : Int) * b + c) : mkRat a (t ^ (n + 1)) + -(mkRat b (t ^ n)) = mkRat c (t ^ (n + 1)) := by
  rw [Rat.mkRat_eq_div, Rat.mkRat_eq_div, Rat.mkRat_eq_div, h, Rat.intCast_add, Rat.intCast_mul, Rat.intCast_natCast, Nat.pow_succ, Rat.natCast_mul]
  have h1 := nat_ne ht
  have h2 := nat_ne (Nat.pow_pos (n := n) ht)
  generalize ((t : Nat) : Rat) = T at *
  generalize ((t ^ n : Nat) : Rat) = P at *
  generalize ((b : Int) : Rat) = B at *
  generalize ((c : Int) : Rat) = C at *
  grind
def f_lastShare : FSp := fun args m R => ∃ (ss : List Int) (n : Nat), args = [.d (tupI ss), .d (.int (n : Int))] ∧ Shares ss ∧ n ≤ 12 ∧ R (.d (frac (if n = 0 then 0 else mkRat ((List.range ss.length).map fun k => casesJ ss (wo (List.range ss.length) k) (n - 1) * ss.getD k 0).sum (ss.sum.toNat ^ n)))) m
def f_lacking : FSp := fun args m R => ∃ (ss : List Int) (n : Nat), args = [.d (tupI ss), .d (.int (n : Int))] ∧ Shares ss ∧ n ≤ 12 ∧ R (.d (frac (mkRat ((List.range ss.length).map fun k => (ss.sum - ss.getD k 0) ^ n).sum (ss.sum.toNat ^ n)))) m
theorem mk_add {a b : Int} {t : Nat} (h : 0 < t) : mkRat a t + mkRat b t = mkRat (a + b) t := by
  rw [Rat.mkRat_eq_div, Rat.mkRat_eq_div, Rat.mkRat_eq_div, Rat.intCast_add]
  have h1 := nat_ne h
  generalize ((t : Nat) : Rat) = T at *
  grind
theorem getD_map_range (ss : List Int) : (List.range ss.length).map (fun k => ss.getD k 0) = ss := by
  refine List.ext_getElem (by simp) fun i h1 h2 => ?_
  rw [List.getElem_map, List.getElem_range, List.getD_eq_getElem?_getD, List.getElem?_eq_getElem h2]; rfl
end DL


namespace DL
open PySem L2

/-- what is walked is a list, or it is a tuple -/
def iSeq (K : PySem.W.Frag) (tl : TE) : TI := fun σ H R => iList K tl σ H R ∨ iTup K tl σ H R
theorem pi_either {X : Cx} {tg l : Expr} {w1 w2 : TI} (a : PI X tg l w1) (b : PI X tg l w2) : PI X tg l (fun σ H R => w1 σ H R ∨ w2 σ H R) :=
  ⟨fun pins s σ H R I h => h.elim (fun h => a.run pins s σ H R I h) (fun h => b.run pins s σ H R I h)⟩
theorem kiA {X : Cx} (K : PySem.W.Frag) {tg l : Expr} {tl : TE} (hl : PE X l tl) (h : X.K = K := by rfl) : PI X tg l (iSeq K tl) := h ▸ pi_either (pi_list hl) (pi_tup hl)
section
variable {K : PySem.W.Frag} {r : List Val} {m : Mm} {N : List Val → Mm → Prop} {E : Val → Mm → Prop} {t : TS} {tl : TE} {j : Nat} {α : Type} {xs : List α} {f : α → PyData}
theorem w_forS (h : Ev K tl r m (fun x m1 => x = .d (.list (xs.map f)) ∧ m1 = m) ∨ Ev K tl r m (fun x m1 => x = .d (.tuple (xs.map f)) ∧ m1 = m)) (W : Nat → List Val → Mm → Prop) (h0 : W 0 r m)
    (hs : ∀ (i : Nat) (x : α) r' m', xs[i]? = some x → W i r' m' → Wp K t (r'.set j (.d (f x))) m' (W (i + 1)) E) (hd : ∀ r' m', W xs.length r' m' → N r' m') : Wp K (tFor (iSeq K tl) (gName j) t) r m N E := fun σ H G D S L a b => by
  rcases h with h | h
  · exact Or.inl (w_forLf h W h0 hs hd σ H G D S L a b)
  · exact Or.inr (w_forTf h W h0 hs hd σ H G D S L a b)
end
def f_allSomeB : FSp := fun args m R => ∃ (ks : List Nat) (x : Val), args = [x] ∧ (x = .d (.list (ks.map intN)) ∨ x = .d (tupN ks)) ∧ ks.length ≤ 8 ∧ R (.lt ((allSL ks).map kn)) m
end DL


namespace DL
open PySem L2

def f_box2 : FSp := fun args m R => ∃ (ns : List Int) (k : Nat), args = [.scr ns, .d (.int (k : Int))] ∧ k ≤ 1000 ∧ ∀ p, m p = none → R (.v (.ref p)) (put m p .box)
def f_shares2 : FSp := fun args m R => ∃ (p : Addr) (a : Int), args = [.v (.ref p), .d (.int a)] ∧ m p = some .box ∧ 1 ≤ a ∧ a ≤ 5 ∧ ∀ ss : List Int, Shares ss → (ss.length : Int) ≤ a → R (.d (tupI ss)) m
def f_timesG : FSp := fun args m R => ∃ (q : Rat) (t : Int) (b : Nat), args = [.d (frac q), .d (.int t), .d (.int (b : Int))] ∧ 0 < b ∧ FrB q 3900 ∧ Bt t 3900 ∧ Bt (b : Int) 3900 ∧ R (.d (frac (q * mkRat t b))) m
theorem mk_times (q : Rat) (t : Int) {b : Nat} (hb : 0 < b) : mkRat (q.num * t) (q.den * b) = q * mkRat t b := by
  have h := Rat.mkRat_mul_mkRat q.num t q.den b
  rw [Rat.mkRat_self] at h
  exact h.symm
end DL

/-! enumerate over a tuple -/
namespace DL
open PySem L2

def etObj (i : Addr) : Obj := { cls := .type "enumerate", data := .fields #[.none, .bool false, .ref i, rawInt 0, .none, .none] }
def etIt (t : Addr) : Obj := { cls := .type "tuple_iterator", data := .fields #[.ref t, .int 0 0] }
theorem et_new (t : Addr) (its : Array Value) : Meets (Builtin.«enumerate.__new__» ⟨[.type "enumerate", .ref t], []⟩) (fun _ R s =>
    s.heap.IsTuple t its ∧ R (.ok (.ret (.ref (s.heap.push (etIt t)).objs.size))) { s with heap := (s.heap.push (etIt t)).push (etObj s.heap.objs.size) }) :=
  .of_wp fun prog w A R s hh => by
    obtain ⟨hT, fin⟩ := hh
    obtain ⟨h0, g0, d0, k0, o0⟩ := s
    have sub := sub_enumerate
    have step : ∀ {B : Around} {E : Value → Shared → Prop} {Q : Value → Shared → Prop}, Q (.ref h0.objs.size) ⟨h0.push (etIt t), g0, d0, k0, o0⟩ →
        wpAny (model prog w) B (pyIter (.ref t)) Q E ⟨h0, g0, d0, k0, o0⟩ := fun q => (begins_tuple t its).iter prog w _ _ ⟨h0, g0, d0, k0, o0⟩ _ hT q
    wp_walk using step
    refine wpAny_stack_any fun z => wpAny_pure ?_
    split
    next c _ _ _ _ _ => cases (c == Value.type "enumerate") <;> (wp_walk using step; exact ⟨_, rfl, fin⟩)
    next => wp_walk using step; exact ⟨_, rfl, fin⟩
theorem et_call {prog : Program} {w : World} {A : Around} {E : Value → Shared → Prop} {s : Shared} {t : Addr} {its : Array Value} {Q : Value → Shared → Prop} (hT : s.heap.IsTuple t its)
    (q : Q (.ref (s.heap.objs.size + 1)) { s with heap := (s.heap.push (etIt t)).push (etObj s.heap.objs.size) }) : wpAny (model prog w) A (call (.type "enumerate") [.ref t]) Q E s := by
  have hz : (s.heap.push (etIt t)).objs.size = s.heap.objs.size + 1 := Heap.size_push ..
  have hg : ((s.heap.push (etIt t)).push (etObj s.heap.objs.size)).get? (s.heap.push (etIt t)).objs.size = some (etObj s.heap.objs.size) := Heap.get?_push_size _ rfl
  rw [← hz] at q
  exact callType_new F.called_enumerate (by decide) (F.typeCall_enumerate_1 _) (F.newCall_enumerate_1 _) (fun o => F.args_object_init_2 o _) F.entry_enumerate_new (et_new t its) ⟨hT, ⟨_, hg, rfl⟩, q⟩

/-- pairs of place and item -/
def ItEt (K : PySem.W.Frag) (a : Addr) (xs : List V) : It where
  go := fun i H => SqT K H a xs ∧ i < xs.length
  yld := fun i H v H' => ∃ T x, v = .ref T ∧ H T = none ∧ H' = upd H T (.tup [.int (i : Nat), x]) ∧ xs[i]? = some x
  stop := fun i H => SqT K H a xs ∧ xs.length ≤ i
def etTn (a e it : Addr) (its : Array Value) (i : Nat) (h : Heap) : Prop := (∃ old, IsEnum h e it ((i : Nat) : Int) old) ∧ h.IsTupleIter it a i ∧ i ≤ its.size
theorem et_turn {P : Program} {w : World} {K : PySem.W.Frag} {elts : List Expr} {kk : Nat} {tpos : Pos} (a e it : Addr) (hne : e ≠ it) (hae : a ≠ e) (hai : a ≠ it) (xs : List V) :
    Turn P w K (.Tuple elts kk tpos) (ItEt K a xs) [e, it] e (fun i h => (∃ old, IsEnum h e it ((i : Nat) : Int) old) ∧ h.IsTupleIter it a i ∧ i ≤ xs.length) where
  mem := List.mem_cons_self
  obj := fun i h st b hb => by
    obtain ⟨⟨old, he⟩, ⟨o, ho, _, hd⟩, _⟩ := st
    rcases List.mem_cons.mp hb with rfl | hb
    · exact ⟨_, he, fun v q => nomatch q⟩
    · obtain rfl := List.mem_singleton.mp hb
      exact ⟨o, ho, fun v q => by rw [hd] at q; cases q⟩
  keep := fun i h h' st k => by
    obtain ⟨⟨old, he⟩, hi, hn⟩ := st
    exact ⟨⟨old, k e List.mem_cons_self _ he⟩, hi.at fun o q => k it (List.mem_cons_of_mem _ List.mem_cons_self) o q, hn⟩
  item := by
    rintro X rfl rfl rfl hc i pins s σ H E I hf ⟨⟨old, he⟩, hit, hn⟩ ⟨hq, hlt⟩
    obtain ⟨its, rv, p, _⟩ := I.tuple hq
    have hsz : its.toArray.size = xs.length := by have := rv.length; simpa using this.symm
    have D : Draws X.prog X.w X.A.in1 it [it, a] its.toArray.size (fun i v => its.toArray[i]? = some v) (fun i h => h.IsTupleIter it a i ∧ h.IsTuple a its.toArray) := .tuple (show X.A.in1.handled = none from I.ok.hd hc) it a hai its.toArray
    have hel : e < s.heap.objs.size := Heap.lt_size he
    have hil : it < s.heap.objs.size := by obtain ⟨_, q, _⟩ := hit; exact Heap.lt_size q
    refine wpAny_pyNext_enum_itemD D he ⟨hit, p⟩ (by rw [hsz]; exact hlt) hne (by simp [hne, Ne.symm hae]) fun u h' tk hu ho st' hT _ hk => ?_
    refine ⟨_, rfl, wpAny_letOwnedTupleGo_enum (s := { s with heap := h', toks := tk + 1 }) ho fun h2 he' sb => ?_⟩
    have hx : ∃ x, xs[i]? = some x := ⟨xs[i], by simp [hlt]⟩
    obtain ⟨x, hx⟩ := hx
    obtain ⟨u', hu', ru⟩ := rv.get hx
    have eu : u' = u := by
      have h1 : its[i]? = some u := by simpa using hu
      rw [h1] at hu'; exact (Option.some.inj hu').symm
    subst eu
    have hT2 := (sb.2 _ (Nat.ne_of_gt hel)).trans hT
    have new : ObjOk X.prog X.w (upd H s.heap.objs.size (.tup [.int (i : Nat), x])) h2 s.heap.objs.size (.tup [.int (i : Nat), x]) :=
      ⟨by show 2 ≤ sizeLine; decide, _, .cons ⟨tk, rfl⟩ (.cons ru .nil), ⟨_, hT2, rfl, _, rfl⟩⟩
    have I1 := I.turnedNew (t' := tk + 1) (h' := h2) (ch := [e, it]) (fun b ob hb q => (sb.2 b (fun z => hb (by simp [z]))).trans (hk b ob (fun z => hb (by simp [z])) (fun z => hb (by simp [z])) q)) hf (Nat.le_refl _) new
    refine ⟨.ref s.heap.objs.size, _, I1, rfl, ⟨_, x, rfl, I.hok.fresh (Nat.le_refl _), rfl, hx⟩, ⟨⟨u', ?_⟩, st'.1.at fun o q => (sb.2 it (Ne.symm hne)).trans q, hlt⟩, fun b hb => ?_⟩
    · rw [show ((i + 1 : Nat) : Int) = (i : Int) + 1 by omega]; exact he'
    · have hlt : b < s.heap.objs.size := by
        rcases List.mem_cons.mp hb with rfl | hb
        · exact hel
        · obtain rfl := List.mem_singleton.mp hb; exact hil
      rw [upd_ne (Nat.ne_of_lt hlt)]; exact (hf b hb).1
  done := by
    rintro X rfl rfl rfl hc i pins s σ H E I hf ⟨⟨old, he⟩, hit, hn⟩ ⟨hq, hge⟩
    obtain ⟨its, rv, p, _⟩ := I.tuple hq
    have hsz : its.toArray.size = xs.length := by have := rv.length; simpa using this.symm
    have D : Draws X.prog X.w X.A.in1 it [it, a] its.toArray.size (fun i v => its.toArray[i]? = some v) (fun i h => h.IsTupleIter it a i ∧ h.IsTuple a its.toArray) := .tuple (show X.A.in1.handled = none from I.ok.hd hc) it a hai its.toArray
    have ei : i = its.toArray.size := by rw [hsz]; omega
    obtain ⟨f0, f1, f2, f3, f4, f5⟩ := hf it (by simp)
    exact wpAny_pyNext_enum_endD D he (by rw [← ei]; exact ⟨hit, p⟩) fun h' eb => ⟨rfl, I.turned (t' := s.toks) (fun b o hb q => eb b o hb q) f0 f1 f3 f4 f5⟩
  self := fun A i s Q E st h => let ⟨⟨_, he⟩, _⟩ := st; wpAny_pyIter_enum he h
def iEnumT (K : PySem.W.Frag) (ta : TA) : TI := fun σ H R => ta σ H fun vs H1 => ∃ a xs, vs = [.ref a] ∧ SqT K H1 a xs ∧ R (ItEt K a xs) H1
theorem pi_enumT {X : Cx} {e : Expr} {ta : TA} {p pos tpos : Pos} {elts : List Expr} {kk : Nat} (K : PySem.W.Frag) (hg : Gl X "enumerate") (hm : X.mg "enumerate" = none) (ha : PA X [e] ta) (hK : X.K = K := by rfl) (hs : starEach [e] X.env = [(false, eval e X.env)] := by rfl) :
    PI X (.Tuple elts kk tpos) (.Call (.Name "enumerate" p) [e] [] pos) (iEnumT K ta) := by
  subst hK
  refine ⟨fun pins s σ H R I h => ?_⟩
  refine PyProof.Rows.Call_ (ld_blt I hg hm PyProof.Rows.boot_enumerate (PyProof.Rows.callWith_type1 (thn (ha.run pos pins s σ H _ I h) fun us s1 hh => ?_) hs rfl))
  obtain ⟨vs, H1, I1, r1, a, xs, rfl, hq, q⟩ := hh
  cases r1 with
  | cons r rr =>
    cases rr
    obtain rfl := (show _ = Value.ref a from r)
    obtain ⟨its, rv, pt, _⟩ := I1.tuple hq
    have hal : a < s1.heap.objs.size := by obtain ⟨_, z, _⟩ := pt; exact Heap.lt_size z
    have k2 : ∀ b o, s1.heap.get? b = some o → ((s1.heap.push (etIt a)).push (etObj s1.heap.objs.size)).get? b = some o := fun b o z => Heap.get?_push_of_some _ (Heap.get?_push_of_some _ z)
    have hz : (s1.heap.push (etIt a)).objs.size = s1.heap.objs.size + 1 := Heap.size_push ..
    have he : IsEnum ((s1.heap.push (etIt a)).push (etObj s1.heap.objs.size)) (s1.heap.objs.size + 1) s1.heap.objs.size 0 .none := by
      have z : ((s1.heap.push (etIt a)).push (etObj s1.heap.objs.size)).get? (s1.heap.push (etIt a)).objs.size = some (etObj s1.heap.objs.size) := Heap.get?_push_size _ rfl
      rw [hz] at z; exact z
    refine et_call pt (wpAny_pyIter_enum he ?_)
    refine ⟨s1.heap.objs.size + 1, [s1.heap.objs.size + 1, s1.heap.objs.size], _, _, H1, rfl, I1.kept (t' := s1.toks) k2, et_turn a (s1.heap.objs.size + 1) s1.heap.objs.size (Nat.succ_ne_self _) (Nat.ne_of_lt (Nat.lt_succ_of_lt hal)) (Nat.ne_of_lt hal) xs,
      ⟨⟨.none, he⟩, ⟨_, Heap.get?_push_of_some _ (Heap.get?_push_size _ rfl), rfl, rfl⟩, Nat.zero_le _⟩, fun b hb => ?_, q⟩
    have hle : s1.heap.objs.size ≤ b := by
      rcases List.mem_cons.mp hb with rfl | hb
      · omega
      · obtain rfl := List.mem_singleton.mp hb; exact Nat.le_refl _
    exact I1.fpOk hle (I1.hok.fresh hle)
theorem walk_enumT {K : PySem.W.Frag} {a : Addr} {xs : List V} : Walk (ItEt K a xs) xs.length (fun H => SqT K H a xs) (YPair (fun i => some (.int (i : Nat))) (fun i => xs[i]?)) :=
  ⟨fun _ _ hi q => ⟨q, hi⟩, fun _ q => ⟨q, Nat.le_refl _⟩, fun _ _ _ _ _ _ ⟨T, x, h1, h2, h3, h4⟩ => ⟨T, _, x, h1, h2, h3, rfl, h4⟩⟩
section
variable {K : PySem.W.Frag} {r : List Val} {m : Mm} {N : List Val → Mm → Prop} {E : Val → Mm → Prop} {t : TS}
theorem w_forEt {ta : TA} {j1 j2 : Nat} {α : Type} {xs : List α} {f : α → PyData} (h : EvA K ta r m fun ys m1 => ys = [.d (.tuple (xs.map f))] ∧ m1 = m) (W : Nat → List Val → Mm → Prop) (h0 : W 0 r m)
    (hs : ∀ (i : Nat) (x : α) r' m', xs[i]? = some x → W i r' m' → Wp K t ((r'.set j1 (.d (.int (i : Int)))).set j2 (.d (f x))) m' (W (i + 1)) E) (hd : ∀ r' m', W xs.length r' m' → N r' m') :
    Wp K (tFor (iEnumT K ta) (gTup K 2 (gCons (gName j1) (gCons (gName j2) gNil))) t) r m N E := fun σ H G D S L a b =>
  h σ H G S L _ fun vs H1 G1 ys m1 ⟨hx, hm⟩ S1 e1 r1 => by
    subst hx hm
    obtain ⟨v, rfl, rv⟩ := vrs1 r1
    obtain ⟨p, zs, rfl, hs1, hA⟩ := rp_tuple.mp rv.rp
    have hlen := hA.length
    rw [List.length_map] at hlen
    refine ⟨p, zs, rfl, S1.sqT hs1, for_it walk_enumT (fun i σ' H' => ∃ G' r' m', W i r' m' ∧ Sta K m' H' G' ∧ Le G1 G' ∧ Sl K G' r' σ') ⟨G1, r, _, h0, S1, Le.refl G1, L.mono e1⟩ ?_ ?_ ?_⟩
    · rintro i σ' H' hi ⟨G', r', m', _, S', e', _⟩
      exact S'.sqT (e'.sqT hs1)
    · rintro i x σ' H' H2 hi ⟨G', r', m', hw, S', e', L'⟩ ⟨T, x1, x2, rfl, hT, rfl, hx1, hx2⟩
      have hx1 : V.int (i : Int) = x1 := by simpa using hx1
      subst hx1
      obtain ⟨d, hd1, hd2⟩ := hA.get hx2
      obtain ⟨y, hy, rfl⟩ := map_at hd1
      have e2 : Le G' (upd G' T (.tup [.int (i : Int), x2])) := Le.new (S'.free hT)
      refine ⟨T, _, rfl, SqT.of upd_same, rfl, _, [x2], rfl, x2, [], rfl, rfl, ?_⟩
      exact hs i y r' m' hy hw _ _ (upd G' T (.tup [.int (i : Int), x2])) _ (S'.fix hT) (((L'.mono e2).set (r := .d (.int (i : Int))) vr_int j1).set (r := .d (f y)) (.d (Rp.mono (e'.trans e2) _ _ hd2)) j2)
        (fun σ3 H3 G3 r3 m3 h3 S3 e3 L3 => ⟨G3, r3, m3, h3, S3, e'.trans (e2.trans e3), L3⟩) (fun v H3 G3 x m3 n3 S3 e3 L3 => b v H3 G3 x m3 n3 S3 (e1.trans (e'.trans (e2.trans e3))) L3)
    · rintro σ' H' ⟨G', r', m', hw, S', e', L'⟩
      rw [hlen] at hw
      exact a σ' H' G' r' m' (hd r' m' hw) S' (e1.trans e') L'
end
end DL

/-! sum(d.values()) of a dict whose keys are tuples -/
namespace DL
open PySem L2

/-- the view of a dict's values -/
def valsO (p d : Addr) : HO := .ext fun h => h.IsValuesView p d
def rValsT : V → List V → Hp → VK → Prop := fun x xs H Q => ∃ (a : Addr) (kvs : List (List Key × V)), x = .ref a ∧ xs = [] ∧ H a = some (.dT kvs) ∧ ∀ p, H p = none → Q (.ref p) (upd H p (valsO p a))
theorem mt_valsT {X : Cx} : MtR X "dict.values" rValsT := by
  rintro pins s σ H x xs v us Q I rx rxs ⟨a, kvs, rfl, rfl, ha, q⟩
  cases rx
  cases rxs
  obtain ⟨_, lo, ys, _, D⟩ := dt_of I.hok ha
  obtain ⟨es, ep, raw, _⟩ := D.raw
  have ok : ObjOk X.prog X.w (upd H s.heap.objs.size (valsO s.heap.objs.size a)) (s.heap.push { cls := .type "dict_values", data := .fields #[.ref a] }) s.heap.objs.size (valsO s.heap.objs.size a) :=
    ⟨⟨_, Heap.get?_push_size _ rfl, rfl, rfl⟩, ⟨_, Heap.get?_push_size _ rfl⟩, fun h1 h2 z k => by obtain ⟨o, ho, w⟩ := z; exact ⟨o, k o ho, w⟩⟩
  refine call_meetsIn PySem.F.slot_dict_values raw.typeIs PySem.F.entry_dict_values (PySem.F.args_dict_values_1 _) (meets_dict_values_raw a lo) ⟨⟨es, ep, raw⟩, ?_⟩
  exact ⟨.ref s.heap.objs.size, _, I.laid (t' := s.toks) (fun b u e => Heap.get?_push_of_some _ e) (Nat.le_refl _) ok, rfl, q _ (I.hok.fresh (Nat.le_refl _))⟩
/-- sum of such a view -/
def rSumV : List V → Hp → VK → Prop := fun vs H Q => ∃ (p a : Addr) (kvs : List (List Key × V)) (ns : List Int), vs = [.ref p] ∧ H p = some (valsO p a) ∧ H a = some (.dT kvs) ∧ kvs.map (·.2) = ns.map V.int ∧ Q (.int ns.sum) H
theorem cr_sumV {X : Cx} (hc : X.calm = true) : CallR X (.builtin "sum") rSumV := by
  rintro pins s σ H vs us Q I r ⟨p, a, kvs, ns, rfl, hp, ha, hv, q⟩
  rw [Vals.ref1 r]
  obtain ⟨_, lo, ys, rel, D⟩ := dt_of I.hok ha
  obtain ⟨es, ep, raw, hsz, hes⟩ := D.raw
  have hx : ObjOk X.prog X.w H s.heap p (valsO p a) := I.hok p _ hp
  have view : s.heap.IsValuesView p a := hx.1
  have hal : a < s.heap.objs.size := by obtain ⟨o, ho, _⟩ := raw; exact Heap.lt_size ho
  have hlen : ns.length = kvs.length := by have := congrArg List.length hv; simpa using this.symm
  have hle2 : ∀ {l1 : List (List Key × V)} {l2 : List (List Key × Addr × Value)}, KT H l1 l2 → l1.length = l2.length := fun {l1 l2} z => by
    induction z with
    | nil => rfl
    | cons _ _ ih => rw [List.length_cons, List.length_cons, ih]
  have hly := hle2 rel
  refine call_sum_walkG (wpAny_pyIter_values_raw view raw ?_)
  refine ⟨s.heap.objs.size, [s.heap.objs.size, a], [s.heap.objs.size], es.size, _, _, fun i => ns.getD i 0, rfl, Walks.rawValues (A := X.A.in1) (I.ok.hd hc) s.heap.objs.size a (Nat.ne_of_lt hal) es ep, ⟨⟨_, Heap.get?_push_size _ rfl, rfl, rfl⟩, raw.at fun _ e => Heap.get?_push_of_some _ e⟩, ?_, ?_, ?_⟩
  · intro b hb
    have hz : (s.heap.push { cls := .type "dict_valueiterator", data := .fields #[.ref a, .int 0 0, .int es.size 0, .int ep 0] }).objs.size = s.heap.objs.size + 1 := Heap.size_push ..
    show b < (s.heap.push { cls := .type "dict_valueiterator", data := .fields #[.ref a, .int 0 0, .int es.size 0, .int ep 0] }).objs.size
    rw [hz]
    rcases List.mem_cons.mp hb with e | e
    · rw [e]; exact Nat.lt_succ_self _
    · rw [List.mem_singleton.mp e]; exact Nat.lt_succ_of_lt hal
  · rintro i v ⟨hi, rfl⟩
    obtain ⟨y, hy, _, hval, _⟩ := hes i hi
    have hkv : kvs[i]? = some kvs[i] := by simp [show i < kvs.length by omega]
    obtain ⟨y', hy', rv⟩ := paired_get rel hkv
    obtain rfl : y' = y := by rw [hy] at hy'; exact (Option.some.inj hy').symm
    generalize kvs[i] = kv at hkv rv
    have h1 : (kvs.map (·.2))[i]? = some kv.2 := by rw [List.getElem?_map, hkv]; rfl
    rw [hv, List.getElem?_map] at h1
    obtain ⟨n, hn, en⟩ := Option.map_eq_some_iff.mp h1
    have hg : ns.getD i 0 = n := by rw [List.getD_eq_getElem?_getD, hn]; rfl
    rw [hval]
    show ∃ t, _ = Value.int (ns.getD i 0) t
    rw [hg]
    have rr := rv.2.2
    rw [← en] at rr
    exact rr
  · intro h' tk t' hk
    have e : preSum (fun i => ns.getD i 0) es.size = ns.sum := by rw [presum_take, List.take_of_length_le (by omega)]
    rw [e]
    refine ⟨.int ns.sum, H, I.kept (fun b o e => hk b o (fun hb => ?_) (Heap.get?_push_of_some _ e)), ⟨_, rfl⟩, q⟩
    obtain rfl := List.mem_singleton.mp hb
    exact absurd (Heap.lt_size e) (Nat.lt_irrefl _)
section
variable {K : PySem.W.Frag} {r : List Val} {m : Mm} {Q : Val → Mm → Prop} {te : TE}
theorem KVs.ints {G : Hp} {α : Type} : ∀ {kvs : List (α × Val)} {es : List (α × V)} {ns : List Int}, KVs K G kvs es → kvs.map (·.2) = ns.map (fun n => Val.d (.int n)) → es.map (·.2) = ns.map V.int
  | [], es, ns, h, e => by
    have h : es = [] := h
    subst h
    cases ns with
    | nil => rfl
    | cons _ _ => simp at e
  | (k, x) :: t, es, ns, h, e => by
    obtain ⟨v, u, rfl, h2, h3⟩ := h
    cases ns with
    | nil => simp at e
    | cons n ns =>
      rw [List.map_cons, List.map_cons] at e
      injection e with e1 e2
      rw [List.map_cons, List.map_cons, KVs.ints h3 e2]
      have e1 : x = .d (.int n) := e1
      subst e1
      rw [show v = .int n from int_of h2]
theorem ev_sumVals (h : Ev K te r m fun x m1 => ∃ (p : Addr) (kvs : List (List Key × Val)) (ns : List Int), x = .v (.ref p) ∧ m1 p = some (.dT kvs) ∧ kvs.map (·.2) = ns.map (fun n => Val.d (.int n)) ∧ Q (.d (.int ns.sum)) m1) :
    Ev K (tCB rSumV (tCons (tBM0 K "dict" rValsT te) tNil)) r m Q := fun σ H G S L R k =>
  h σ H G S L _ fun v H1 G1 x m1 ⟨p, kvs, ns, hx, hm, hv, q⟩ S1 e1 r1 => by
    subst hx
    obtain rfl := r1.eq
    obtain ⟨es, hes, hk⟩ := S1.mem p _ hm
    refine ⟨.inr (.inr (.inl ⟨rfl, .inr ⟨es, hes⟩⟩)), p, es, rfl, rfl, hes, fun z hz => ?_⟩
    have hzp : p ≠ z := fun e => by rw [e, hz] at hes; cases hes
    exact ⟨z, p, es, ns, rfl, upd_same, by rw [upd_ne hzp]; exact hes, hk.ints hv, k _ _ _ _ m1 q (S1.fix hz) (e1.trans (Le.new (S1.free hz))) vr_int⟩
end
theorem pe_sumVals {X : Cx} {o : Expr} {to : TE} {apos cpos p pos : Pos} (K : PySem.W.Frag) (hg : Gl X "sum") (hm : X.mg "sum" = none) (ho : PE X o to) (hK : X.K = K := by rfl) (hc : X.calm = true := by rfl)
    (hbase : attributeBase o "values" X.env (eval o X.env) = eval o X.env := by rfl) (hline : (apos.endLine == cpos.line) = true := by rfl) 
    (hs : starEach [Expr.Call (.Attribute o "values" apos) [] [] cpos] X.env = [(false, eval (.Call (.Attribute o "values" apos) [] [] cpos) X.env)] := by rfl) :
    PE X (.Call (.Name "sum" p) [.Call (.Attribute o "values" apos) [] [] cpos] [] pos) (tCB rSumV (tCons (tBM0 K "dict" rValsT to) tNil)) := by
  subst hK
  exact pe_callB (cr_sumV hc) hg hm (by decide +kernel) (pa_cons (pe_bm0 PySem.F.plainAttrs_dict PySem.F.slot_dict_values PySem.F.type_dict_values mt_valsT ho hbase hline) pa_nil)
end DL

/-! no kind twice -/
namespace DL
open PySem L2

def prP (ss : List Int) : List Nat → Int
  | [] => 1
  | k :: ks => ss.getD k 0 * prP ss ks
theorem prP_snoc (ss : List Int) (k : Nat) : ∀ ks, prP ss (ks ++ [k]) = prP ss ks * ss.getD k 0
  | [] => by simp [prP]
  | x :: ks => by rw [List.cons_append, prP, prP_snoc ss k ks, prP, Int.mul_assoc]
theorem prP_perm (ss : List Int) {a b : List Nat} (h : a.Perm b) : prP ss a = prP ss b := by
  induction h with
  | nil => rfl
  | cons x _ ih => rw [prP, prP, ih]
  | swap x y l => rw [prP, prP, prP, prP, Int.mul_left_comm]
  | trans _ _ ih1 ih2 => exact ih1.trans ih2
theorem sum_permI {a b : List Int} (h : a.Perm b) : a.sum = b.sum := by
  induction h with
  | nil => rfl
  | cons x _ ih => rw [List.sum_cons, List.sum_cons, ih]
  | swap x y l => simp only [List.sum_cons]; omega
  | trans _ _ ih1 ih2 => exact ih1.trans ih2
def fac : Nat → Nat
  | 0 => 1
  | n + 1 => fac n * (n + 1)
def unl (ss : List Int) (n : Nat) : Int := (((allS ss.length).filter fun s => decide (s.length = n)).map fun s => prP ss s * (fac n : Int)).sum
/-- rows of unlike kinds -/
def seqs (n : Nat) : Nat → List (List Nat)
  | 0 => [[]]
  | t + 1 => (seqs n t).flatMap fun s => ((List.range n).filter fun k => !decide (k ∈ s)).map fun k => s ++ [k]
def insN (x : Nat) : List Nat → List Nat
  | [] => [x]
  | y :: l => if x ≤ y then x :: y :: l else y :: insN x l
def srtN : List Nat → List Nat
  | [] => []
  | x :: l => insN x (srtN l)
theorem insN_perm (x : Nat) : ∀ l, (insN x l).Perm (x :: l)
  | [] => .refl _
  | y :: l => by
    rw [insN]
    split
    · exact .refl _
    · exact ((insN_perm x l).cons y).trans (.swap x y l)
theorem srtN_perm : ∀ l, (srtN l).Perm l
  | [] => .refl _
  | x :: l => by rw [srtN]; exact (insN_perm x _).trans ((srtN_perm l).cons x)
theorem seqs_chk : ∀ n t : _root_.Fin 6, t ≤ n → ((seqs n.val t.val).map srtN).isPerm (((allS n.val).filter fun s => decide (s.length = t.val)).flatMap fun s => List.replicate (fac t.val) s) = true := by decide +kernel
theorem sum_rep (x : Int) : ∀ k : Nat, (List.replicate k x).sum = x * (k : Int)
  | 0 => by simp
  | k + 1 => by
    rw [List.replicate_succ, List.sum_cons, sum_rep x k]
    rw [show ((k + 1 : Nat) : Int) = (k : Int) + 1 by omega, Int.mul_add, Int.mul_one, Int.add_comm]
theorem sum_flatR (f : List Nat → Int) (k : Nat) : ∀ l : List (List Nat), ((l.flatMap fun s => List.replicate k s).map f).sum = (l.map fun s => f s * (k : Int)).sum
  | [] => rfl
  | s :: l => by
    rw [List.flatMap_cons, List.map_append, List.sum_append, sum_flatR f k l, List.map_replicate, sum_rep, List.map_cons, List.sum_cons]
theorem rows_eq (ss : List Int) (h : ss.length ≤ 5) {t : Nat} (ht : t ≤ ss.length) : ((seqs ss.length t).map (prP ss)).sum = unl ss t := by
  have c := seqs_chk ⟨ss.length, by omega⟩ ⟨t, by omega⟩ ht
  have c := (List.isPerm_iff.mp c)
  have e : (seqs ss.length t).map (prP ss) = ((seqs ss.length t).map srtN).map (prP ss) := by
    rw [List.map_map]
    exact List.map_congr_left fun s _ => (prP_perm ss (srtN_perm s)).symm
  rw [e, sum_permI (c.map (prP ss)), sum_flatR]
  rfl
theorem seqs_facts : ∀ n t : _root_.Fin 6, (seqs n.val t.val).length ≤ 120 ∧ (seqs n.val t.val).Nodup ∧ ∀ s ∈ seqs n.val t.val, s.length = t.val ∧ ∀ k ∈ s, k < n.val := by decide +kernel
theorem unl_big {ss : List Int} {n : Nat} (h : ss.length < n) : unl ss n = 0 := by
  unfold unl
  rw [List.filter_eq_nil_iff.mpr fun s hs => ?_]
  · rfl
  · have := (allS_mem _ s hs).1
    simp; omega
theorem prP_bt {ss : List Int} (hs : Shares ss) : ∀ ks : List Nat, 0 ≤ prP ss ks ∧ prP ss ks ≤ 9 ^ ks.length
  | [] => by simp [prP]
  | k :: ks => by
    obtain ⟨h1, h2⟩ := prP_bt hs ks
    obtain ⟨g1, g2⟩ := getD_bounds hs k
    rw [prP, List.length_cons, Int.pow_succ, Int.mul_comm]
    exact ⟨Int.mul_nonneg h1 g1, Int.mul_le_mul h2 g2 g1 (Int.le_trans h1 h2)⟩
theorem prP_le {ss : List Int} (hs : Shares ss) {ks : List Nat} (h : ks.length ≤ 5) : 0 ≤ prP ss ks ∧ prP ss ks ≤ 59049 := by
  obtain ⟨h1, h2⟩ := prP_bt hs ks
  refine ⟨h1, Int.le_trans h2 ?_⟩
  generalize ks.length = n at h
  match n, h with
  | 0, _ => decide
  | 1, _ => decide
  | 2, _ => decide
  | 3, _ => decide
  | 4, _ => decide
  | 5, _ => decide
theorem fac_le : ∀ {n : Nat}, n ≤ 5 → fac n ≤ 120
  | 0, _ | 1, _ | 2, _ | 3, _ | 4, _ | 5, _ => by decide
theorem sum_bound {α : Type} {f : α → Int} {c : Int} : ∀ {l : List α}, (∀ x ∈ l, 0 ≤ f x ∧ f x ≤ c) → 0 ≤ (l.map f).sum ∧ (l.map f).sum ≤ c * (l.length : Int)
  | [], _ => by simp
  | x :: l, h => by
    obtain ⟨h1, h2⟩ := h x List.mem_cons_self
    obtain ⟨g1, g2⟩ := sum_bound fun y hy => h y (List.mem_cons_of_mem _ hy)
    rw [List.map_cons, List.sum_cons, List.length_cons, show ((l.length + 1 : Nat) : Int) = (l.length : Int) + 1 by omega, Int.mul_add, Int.mul_one]
    omega
theorem term_le {ss : List Int} (hs : Shares ss) {s : List Nat} (h : s.length ≤ 5) : 0 ≤ prP ss s * (fac s.length : Int) ∧ prP ss s * (fac s.length : Int) ≤ 7085880 := by
  obtain ⟨h1, h2⟩ := prP_le hs h
  have h3 := fac_le h
  refine ⟨Int.mul_nonneg h1 (by omega), ?_⟩
  have := Int.mul_le_mul h2 (show (fac s.length : Int) ≤ 120 by omega) (by omega) (by decide)
  exact Int.le_trans this (by decide)
theorem unl_bt {ss : List Int} (hs : Shares ss) (n : Nat) : 0 ≤ unl ss n ∧ unl ss n ≤ 226748160 := by
  have hf := hs.few
  unfold unl
  have hl : ((allS ss.length).filter fun s => decide (s.length = n)).length ≤ 32 := by
    refine Nat.le_trans (List.length_filter_le _ _) ?_
    rw [allS_len]
    exact Nat.pow_le_pow_right (by decide) hf
  obtain ⟨h1, h2⟩ := sum_bound (f := fun s => prP ss s * (fac n : Int)) (c := 7085880) (l := (allS ss.length).filter fun s => decide (s.length = n)) fun s hs' => by
    obtain ⟨a1, a2⟩ := List.mem_filter.mp hs'
    have a2 : s.length = n := by simpa using a2
    have := (allS_mem _ s a1).1
    rw [← a2]
    exact term_le hs (by omega)
  refine ⟨h1, Int.le_trans h2 ?_⟩
  omega
def unlQ (ss : List Int) (n : Nat) : Rat := mkRat (unl ss n) (ss.sum.toNat ^ n)
theorem tot_powU {ss : List Int} (hs : Shares ss) (n : Nat) (hn : n ≤ 12) : 0 < ss.sum.toNat ^ n ∧ ((ss.sum.toNat ^ n : Nat) : Int) = ss.sum ^ n ∧ ss.sum.toNat ^ n < 2 ^ 72 := by
  obtain ⟨h1, h2⟩ := shares_sum hs
  have e : ((ss.sum.toNat : Nat) : Int) = ss.sum := by omega
  refine ⟨Nat.pow_pos (by omega), by rw [Int.natCast_pow, e], ?_⟩
  have h3 : ss.sum.toNat ^ n ≤ 45 ^ 12 := Nat.le_trans (Nat.pow_le_pow_left (by omega) n) (Nat.pow_le_pow_right (by decide) hn)
  exact Nat.lt_of_le_of_lt h3 (by decide)
theorem unlQ_fr {ss : List Int} (hs : Shares ss) {n : Nat} (hn : n ≤ 12) : FrB (unlQ ss n) 72 := by
  obtain ⟨h1, h2, h3⟩ := tot_powU hs n hn
  obtain ⟨g1, g2⟩ := unl_bt hs n
  exact frB_mk (bt_lit (n := 28) (by show _ < 268435456; omega) (by decide)) h3 h1
theorem unlQ_big {ss : List Int} {n : Nat} (h : ss.length < n) : unlQ ss n = 0 := by
  unfold unlQ
  rw [unl_big h, Rat.zero_mkRat]
def unlS (ss : List Int) (l : List Nat) : Rat := (l.map (unlQ ss)).foldl (· + ·) 0
theorem unlS_snoc (ss : List Int) (l : List Nat) (n : Nat) : unlS ss (l ++ [n]) = unlS ss l + unlQ ss n := by
  unfold unlS
  rw [List.map_append, List.foldl_append]; rfl
theorem unlS_fr {ss : List Int} (hs : Shares ss) : ∀ (r : List Nat), (∀ n ∈ r, n ≤ 12) → FrB (unlS ss r.reverse) (1 + 73 * r.length)
  | [], _ => ⟨by show Bt 0 _; exact bt_lit (n := 1) (by decide) (by omega), by show Bt 1 _; exact bt_lit (n := 1) (by decide) (by omega)⟩
  | n :: r, h => by
    rw [List.reverse_cons, unlS_snoc, List.length_cons]
    exact (unlS_fr hs r fun k hk => h k (List.mem_cons_of_mem _ hk)).add (unlQ_fr hs (h n List.mem_cons_self)) (by omega)
theorem unlS_fr' {ss : List Int} (hs : Shares ss) {l : List Nat} (h : ∀ n ∈ l, n ≤ 12) (hl : l.length ≤ 20) : FrB (unlS ss l) 1600 := by
  have := unlS_fr hs l.reverse fun n hn => h n (List.mem_reverse.mp hn)
  rw [List.reverse_reverse, List.length_reverse] at this
  exact this.mono (by omega)
theorem unlS_zero (ss : List Int) (l : List Nat) : ∀ (r : List Nat), (∀ n ∈ r, ss.length < n) → unlS ss (l ++ r) = unlS ss l
  | [], _ => by rw [List.append_nil]
  | n :: r, h => by
    rw [show l ++ n :: r = (l ++ [n]) ++ r by simp, unlS_zero ss (l ++ [n]) r fun k hk => h k (List.mem_cons_of_mem _ hk), unlS_snoc, unlQ_big (h n List.mem_cons_self), Rat.add_zero]
theorem unlS_law {ss : List Int} (h : ss.length ≤ 5) : unlS ss [0, 1, 2, 3, 4, 5, 6, 7, 12] = unlS ss (List.range (ss.length + 1)) := by
  have e : [0, 1, 2, 3, 4, 5, 6, 7, 12] = List.range (ss.length + 1) ++ [0, 1, 2, 3, 4, 5, 6, 7, 12].drop (ss.length + 1) := by
    generalize ss.length = n at h
    match n, h with
    | 0, _ | 1, _ | 2, _ | 3, _ | 4, _ | 5, _ => rfl
  rw [e]
  refine unlS_zero ss _ _ ?_
  generalize ss.length = n at h
  match n, h with
  | 0, _ | 1, _ | 2, _ | 3, _ | 4, _ | 5, _ => decide
def f_unlikeOf : FSp := fun args m R => ∃ (ss : List Int) (n : Nat), args = [.d (tupI ss), .d (.int (n : Int))] ∧ Shares ss ∧ n ≤ 12 ∧ R (.d (frac (unlQ ss n))) m
def f_twiceMean : FSp := fun args m R => ∃ (ss : List Int), args = [.d (tupI ss)] ∧ Shares ss ∧ R (.d (frac (unlS ss (List.range (ss.length + 1))))) m
def f_lawRowsU : FSp := fun args m R => ∃ (ss : List Int) (n : Nat), args = [.d (tupI ss), .d (.int (n : Int))] ∧ Shares ss ∧ n ≤ ss.length ∧ R (.d (.int (unl ss n))) m
section
variable {K : PySem.W.Frag} {m : Mm} {Q : Val → Mm → Prop}
theorem VRs.atI' {G : Hp} {rs : List Val} {xs : List V} {i : Int} {r : Val} (h : VRs K G rs xs) (e : L2.atI rs i = some r) : ∃ x, L2.atI xs i = some x ∧ VR K G r x := by
  unfold L2.atI at e ⊢
  rw [h.length]
  cases hj : ixN rs.length i with
  | none => rw [hj] at e; cases e
  | some j => rw [hj] at e; exact VRs.atI h e
/-- xs[i] of a list that may change -/
theorem o2_ixMI {p : Addr} {rs : List Val} {i : Int} {r : Val} (hm : m p = some (.lst rs)) (h : L2.atI rs i = some r) (q : Q r m) : Op2 K (rIx K) (.v (.ref p)) (.d (.int i)) m Q := fun H G v w S a b R k => by
  obtain rfl := a.eq
  obtain rfl := int_of b
  obtain ⟨xs, g1, g2⟩ := S.mem p _ hm
  obtain ⟨x, hx, rx⟩ := VRs.atI' g2 h
  exact Or.inl ⟨p, xs, i, x, rfl, rfl, Or.inl (Rd.of g1), hx, k x H G r m q S (Le.refl G) rx⟩
end
theorem atI_last {α : Type} (xs : List α) : L2.atI xs (-1) = xs.getLast? := by
  unfold L2.atI L2.ixN
  rw [if_neg (by decide), List.getLast?_eq_getElem?]
  cases xs with
  | nil => rfl
  | cons x xs =>
    rw [if_pos (by rw [List.length_cons]; omega), Option.bind_some, show (-1 + (((x :: xs).length : Nat) : Int)).toNat = (x :: xs).length - 1 by rw [List.length_cons]; omega]
theorem knI_inj {a b : List Nat} (h : kI (kn a) = kI (kn b)) : a = b := by
  have h := kI_inj h
  unfold kn at h
  exact (List.map_inj_right (fun x y e => by omega)).mp h
theorem putV_tabNew {G : List Nat → Int} {l : List (List Nat)} {t : List Nat} (h : t ∉ l) : putV (dI (tabI G l)) (kI (kn t)) (.d (.int (G t))) = dI (tabI G (l ++ [t])) := by
  rw [putV_new]
  · unfold dI tabI
    rw [List.map_append, List.map_append]; rfl
  · intro p hp e
    unfold dI tabI at hp
    rw [List.map_map] at hp
    obtain ⟨s, hs, rfl⟩ := List.mem_map.mp hp
    have := knI_inj e
    subst this
    exact h hs
theorem notin_take {α : Type} {l : List α} {j : Nat} {s : α} (hn : l.Nodup) (h : l[j]? = some s) : s ∉ l.take j := fun hm => by
  obtain ⟨i, hi, e⟩ := List.getElem_of_mem hm
  rw [List.length_take] at hi
  rw [List.getElem_take] at e
  obtain ⟨hj, ej⟩ := List.getElem?_eq_some_iff.mp h
  exact List.pairwise_iff_getElem.mp hn i j (by omega) hj (by omega) (e.trans ej.symm)
def extS (s : List Nat) (x : Nat) : List (List Nat) := ((List.range x).filter fun k => !decide (k ∈ s)).map fun k => s ++ [k]
theorem extS_in {s : List Nat} {x : Nat} (h : x ∉ s) : extS s (x + 1) = extS s x ++ [s ++ [x]] := by
  unfold extS
  rw [List.range_succ, List.filter_append, List.map_append]
  simp [h]
theorem extS_out {s : List Nat} {x : Nat} (h : x ∈ s) : extS s (x + 1) = extS s x := by
  unfold extS
  rw [List.range_succ, List.filter_append, List.map_append]
  simp [h]
theorem seqs_new {l : List (List Nat)} {n j : Nat} {s : List Nat} {x : Nat} (hn : l.Nodup) (h : l[j]? = some s) : s ++ [x] ∉ (l.take j).flatMap (fun s => extS s n) ++ extS s x := fun hm => by
  rcases List.mem_append.mp hm with hm | hm
  · obtain ⟨s', hs', hm⟩ := List.mem_flatMap.mp hm
    unfold extS at hm
    obtain ⟨k, _, e⟩ := List.mem_map.mp hm
    obtain ⟨e1, _⟩ := List.append_inj' e rfl
    subst e1
    exact notin_take hn h hs'
  · unfold extS at hm
    obtain ⟨k, hk, e⟩ := List.mem_map.mp hm
    obtain ⟨_, e2⟩ := List.append_inj' e rfl
    have := List.mem_range.mp (List.mem_filter.mp hk).1
    have : k = x := by simpa using e2
    omega
theorem seqs_next (n t : Nat) : seqs n (t + 1) = (seqs n t).flatMap fun s => extS s n := rfl
theorem tabI_len (G : List Nat → Int) (l : List (List Nat)) : (dI (tabI G l)).length = l.length := by
  unfold dI tabI
  rw [List.length_map, List.length_map]
theorem flat_len {l : List (List Nat)} {n c : Nat} (h : ∀ s ∈ l, True) : (l.flatMap fun s => extS s n).length ≤ l.length * n := by
  induction l with
  | nil => simp
  | cons s l ih =>
    rw [List.flatMap_cons, List.length_append, List.length_cons, Nat.succ_mul]
    have h1 : (extS s n).length ≤ n := by
      unfold extS
      rw [List.length_map]
      exact Nat.le_trans (List.length_filter_le _ _) (by rw [List.length_range]; exact Nat.le_refl _)
    have := ih fun _ _ => trivial
    omega
theorem extS_len (s : List Nat) (n : Nat) : (extS s n).length ≤ n := by
  unfold extS
  rw [List.length_map]
  exact Nat.le_trans (List.length_filter_le _ _) (by rw [List.length_range]; exact Nat.le_refl _)
end DL

/-! dict(list of pairs) with tuples as keys -/
namespace DL
open PySem L2

abbrev Pr := Addr × List Key × Addr × V
def rDictPT (K : PySem.W.Frag) : List V → Hp → VK → Prop := fun xs H Q => ∃ (a : Addr) (ps : List Pr), xs = [.ref a] ∧ SqL K H a (ps.map fun p => V.ref p.1) ∧
  (∀ p ∈ ps, SqT K H p.1 [.ref p.2.2.1, p.2.2.2] ∧ H p.2.2.1 = some (.tup (p.2.1.map kV))) ∧ (ps.map (·.2.1)).Nodup ∧
  ∀ d, H d = none → Q (.ref d) (upd H d (.dT (ps.map fun p => (p.2.1, p.2.2.2))))
theorem prs_of {X : Cx} {pins : List (Addr × Obj)} {σ : L2.St} {H : Hp} {s : Shared} (I : Inv X pins σ H s) : ∀ (ps : List Pr), (∀ p ∈ ps, SqT X.K H p.1 [.ref p.2.2.1, p.2.2.2] ∧ H p.2.2.1 = some (.tup (p.2.1.map kV))) →
    ∃ qs : List (List Key × Addr × Value), KT H (ps.map fun p => (p.2.1, p.2.2.2)) qs ∧ qs.length = ps.length ∧ qs.map (·.1) = ps.map (·.2.1) ∧ ∀ (j : Nat) (q : List Key × Addr × Value), qs[j]? = some q → ∃ p, ps[j]? = some p ∧ s.heap.IsTuple p.1 #[.ref q.2.1, q.2.2]
  | [], _ => ⟨[], .nil, rfl, rfl, fun j q e => by simp at e⟩
  | p :: ps, h => by
    obtain ⟨qs, r, hl, hm, hq⟩ := prs_of I ps fun x hx => h x (List.mem_cons_of_mem _ hx)
    obtain ⟨h1, h2⟩ := h p List.mem_cons_self
    obtain ⟨its, rv, ht, _⟩ := I.tuple h1
    obtain ⟨u, y, ei, ru, ry⟩ := vals2 rv
    subst ei
    obtain rfl : u = .ref p.2.2.1 := ru
    refine ⟨(p.2.1, p.2.2.1, y) :: qs, .cons ⟨rfl, h2, ry⟩ r, by rw [List.length_cons, List.length_cons, hl], by rw [List.map_cons, List.map_cons, hm], fun j q e => ?_⟩
    cases j with
    | zero =>
      obtain rfl : (p.2.1, p.2.2.1, y) = q := Option.some.inj e
      exact ⟨p, rfl, ht⟩
    | succ j =>
      obtain ⟨p', e1, e2⟩ := hq j q (by simpa using e)
      exact ⟨p', by simpa using e1, e2⟩
theorem refs_eq : ∀ {ps : List Pr} {us : List Value}, Vals (ps.map fun p => V.ref p.1) us → us = ps.map fun p => Value.ref p.1
  | [], us, r => by
    rw [List.map_nil] at r
    cases r; rfl
  | p :: ps, us, r => by
    rw [List.map_cons] at r
    cases r with
    | cons h t =>
      cases h
      rw [List.map_cons, ← refs_eq t]
theorem cr_dictPT {X : Cx} (hc : X.calm = true) (hu : X.A.units + 2 < cLine) : CallR X (.type "dict") (rDictPT X.K) := by
  rintro pins s σ H xs us Q I r ⟨a, ps, rfl, hq, hp, hn, q⟩
  rw [Vals.ref1 r]
  obtain ⟨its, rv, pl, hz⟩ := I.list hq
  have ei := refs_eq rv
  rw [List.length_map] at hz
  obtain ⟨qs, rel, hl, hm, hpr⟩ := prs_of I ps hp
  obtain ⟨o, n, ho, hcl, hd, hdat⟩ := pl
  have keys : ∀ x ∈ qs, (tupleKind (mixKind X.prog X.w)).is s.heap x.1 x.2.1 ∧ x.2.1 < s.heap.objs.size := fun x hx => by
    have aux : ∀ {l : List (List Key × V)} {l2 : List (List Key × Addr × Value)}, KT H l l2 → ∀ x ∈ l2, H x.2.1 = some (.tup (x.1.map kV)) := fun z => by
      induction z with
      | nil => exact fun x hx => nomatch hx
      | cons h _ ih =>
        intro x hx
        rcases List.mem_cons.mp hx with rfl | hx
        · rw [← h.1]; exact h.2.1
        · exact ih x hx
    have z := key_of I.hok (aux rel x hx)
    refine ⟨z, ?_⟩
    obtain ⟨_, _, _, w, _⟩ := z
    exact Heap.lt_size w
  have items : PairItems s.heap its.toArray (fun j => ((ps.map (·.1)).getD j 0)) (qs.map fun x => (Value.ref x.2.1, x.2.2)) := by
    refine ⟨by rw [ei]; simp [hl], fun j k v e => ?_⟩
    rw [List.getElem?_map] at e
    obtain ⟨x, hx, ex⟩ := Option.map_eq_some_iff.mp e
    obtain ⟨p, e1, e2⟩ := hpr j x hx
    have eg : (ps.map (·.1)).getD j 0 = p.1 := by rw [List.getD_eq_getElem?_getD, List.getElem?_map, e1]; rfl
    injection ex with ek ev
    subst ek ev
    show _ = some (Value.ref ((ps.map (·.1)).getD j 0)) ∧ PairAt s.heap ((ps.map (·.1)).getD j 0) _ _
    rw [eg]
    exact ⟨by rw [ei]; simp [e1], Or.inl e2⟩
  have big : (s.heap.objs.size == sysModules) = false := beq_eq_false_iff_ne.mpr (Nat.ne_of_gt I.big)
  refine call_dict_pairsH (knd := tupleKind (mixKind X.prog X.w)) (ps := qs) (PairArg.list a its.toArray _ _) (I.ok.hd hc) (show X.A.in1.in1.units < cLine from ?_) ⟨⟨o, n, ho, hcl, hd, hdat⟩, items⟩ ⟨by rw [List.length_map], fun i key v e => ?_⟩ (fun h' hk x hx => ?_) (by rw [List.length_map, hl]; exact hz) fun h' tk D hk => ?_
  · show X.A.units + 1 + 1 < cLine
    omega
  · have e : (qs.map fun x => (Value.ref x.2.1, x.2.2))[i]? = some (key, v) := e
    rw [List.getElem?_map] at e
    obtain ⟨x, hx, ex⟩ := Option.map_eq_some_iff.mp e
    injection ex with ek ev
    exact ⟨x.1, x.2.1, by rw [hx, ← ev], ek.symm⟩
  · obtain ⟨⟨o', its', n', w1, w2⟩, lt⟩ := keys x hx
    exact ⟨o', its', n', hk _ _ (Nat.ne_of_lt lt) (fun z => nomatch z) w1, w2⟩
  · rw [storedAllH_nil_of_nodup qs (by rw [hm]; exact hn)] at D
    have hf : H s.heap.objs.size = none := I.hok.fresh (Nat.le_refl _)
    have stay : ∀ {l : List (List Key × V)} {l2 : List (List Key × Addr × Value)}, KT H l l2 → KT (upd H s.heap.objs.size (.dT (ps.map fun p => (p.2.1, p.2.2.2)))) l l2 := fun z => by
      induction z with
      | nil => exact .nil
      | cons h _ ih => exact .cons ⟨h.1, by rw [upd_ne (ne_of_none h.2.1 hf)]; exact h.2.1, h.2.2⟩ ih
    have ok : ObjOk X.prog X.w (upd H s.heap.objs.size (.dT (ps.map fun p => (p.2.1, p.2.2.2)))) h' s.heap.objs.size (.dT (ps.map fun p => (p.2.1, p.2.2.2))) := by
      obtain ⟨o1, es, ep, q1, q2, q3, q4, q5, q6⟩ := D
      exact ⟨by rw [List.length_map]; exact hz, big, qs, stay rel, o1, es, ep, q1, q2, q3, q4, q6⟩
    exact ⟨.ref s.heap.objs.size, _, I.laid (t' := tk) (fun b u e => hk b u (fun z => nomatch z) e) (Nat.le_refl _) ok, rfl, q _ hf⟩
end DL

/-! some kinds, the fewer ahead: told number by number -/
namespace DL
open PySem L2

def ordX (n : Nat) : List (List Nat) := (List.range (n + 1)).flatMap fun k => (allS n).filter fun s => decide (s.length = k)
theorem flatMap_ext {α β : Type} {f g : α → List β} : ∀ {l : List α}, (∀ x ∈ l, f x = g x) → l.flatMap f = l.flatMap g
  | [], _ => rfl
  | a :: l, h => by rw [List.flatMap_cons, List.flatMap_cons, h a List.mem_cons_self, flatMap_ext fun x hx => h x (List.mem_cons_of_mem _ hx)]
theorem part_sorted {l : List (List Nat)} (h : l.Pairwise fun a b => a.length ≤ b.length) (c : Nat) : l = (l.filter fun s => decide (s.length < c)) ++ (l.filter fun s => !decide (s.length < c)) := by
  induction l with
  | nil => rfl
  | cons a t ih =>
    obtain ⟨h1, h2⟩ := List.pairwise_cons.mp h
    by_cases ha : a.length < c
    · rw [List.filter_cons, if_pos (by simp [ha]), List.filter_cons, if_neg (by simp [ha]), List.cons_append, ← ih h2]
    · have e1 : (t.filter fun s => decide (s.length < c)) = [] := List.filter_eq_nil_iff.mpr fun x hx => by have := h1 x hx; simp; omega
      have e2 : (t.filter fun s => !decide (s.length < c)) = t := List.filter_eq_self.mpr fun x hx => by have := h1 x hx; simp; omega
      rw [List.filter_cons, if_neg (by simp [ha]), List.filter_cons, if_pos (by simp [ha]), e1, e2, List.nil_append]
theorem flat_sorted : ∀ (n : Nat) (l : List (List Nat)), (l.Pairwise fun a b => a.length ≤ b.length) → (∀ s ∈ l, s.length < n) → l = (List.range n).flatMap fun k => l.filter fun s => decide (s.length = k)
  | 0, l, _, h => by
    cases l with
    | nil => rfl
    | cons a t => exact absurd (h a List.mem_cons_self) (Nat.not_lt_zero _)
  | n + 1, l, hs, h => by
    have ih := flat_sorted n (l.filter fun s => decide (s.length < n)) (hs.filter _) fun s hs' => by simpa using (List.mem_filter.mp hs').2
    have e := part_sorted hs n
    rw [List.range_succ, List.flatMap_append]
    have e1 : (l.filter fun s => !decide (s.length < n)) = l.filter fun s => decide (s.length = n) := List.filter_congr fun s hs' => by
      have := h s hs'
      by_cases hh : s.length = n
      · simp [hh]
      · have : s.length < n := by omega
        simp [hh, this]
    have e2 : ((List.range n).flatMap fun k => (l.filter fun s => decide (s.length < n)).filter fun s => decide (s.length = k)) = (List.range n).flatMap fun k => l.filter fun s => decide (s.length = k) := by
      refine flatMap_ext fun k hk => ?_
      have := List.mem_range.mp hk
      rw [List.filter_filter]
      exact List.filter_congr fun s _ => by simp; omega
    rw [e2] at ih
    rw [← ih]
    simp only [List.flatMap_cons, List.flatMap_nil, List.append_nil]
    rw [← e1]
    exact e
theorem ordS_filter (n k : Nat) : (ordS n).filter (fun s => decide (s.length = k)) = (allS n).filter fun s => decide (s.length = k) := by
  have h1 : ((allS n).filter fun s => decide (s.length = k)).Pairwise fun a b => (decide ((a.length : Int) ≤ (b.length : Int))) = true := by
    refine List.Pairwise.imp_of_mem (R := fun _ _ => True) (fun ha hb _ => ?_) (List.pairwise_of_forall fun _ _ => trivial)
    have := (List.mem_filter.mp ha).2
    have := (List.mem_filter.mp hb).2
    simp at *; omega
  have h2 : ((allS n).filter fun s => decide (s.length = k)).Sublist (ordS n) := List.sublist_mergeSort (fun a b c h1 h2 => by simp at h1 h2 ⊢; omega) (fun a b => by simp; omega) h1 List.filter_sublist
  have h3 := h2.filter fun s => decide (s.length = k)
  rw [List.filter_filter] at h3
  simp only [Bool.and_self] at h3
  exact (h3.eq_of_length ((ordS_perm n).filter _).length_eq.symm).symm
theorem ordS_eq (n : Nat) : ordS n = ordX n := by
  have h := flat_sorted (n + 1) (ordS n) ((ordS_sorted n).imp fun z => by first | exact z | (simp at z; omega)) fun s hs => by
    have := (allS_mem n s ((ordS_perm n).mem_iff.mp hs)).1
    omega
  rw [h]
  unfold ordX
  exact flatMap_ext fun k _ => ordS_filter n k
end DL

/-! in which share of the cases just some kinds are left at some time -/
namespace DL
open PySem L2

theorem sum_permQ {a b : List Rat} (h : a.Perm b) : a.sum = b.sum := by
  induction h with
  | nil => rfl
  | cons x _ ih => rw [List.sum_cons, List.sum_cons, ih]
  | swap x y l => simp only [List.sum_cons]; grind
  | trans _ _ ih1 ih2 => exact ih1.trans ih2
theorem sum_appQ : ∀ (a b : List Rat), (a ++ b).sum = a.sum + b.sum
  | [], b => by rw [List.nil_append, List.sum_nil, Rat.zero_add]
  | x :: a, b => by rw [List.cons_append, List.sum_cons, List.sum_cons, sum_appQ a b, Rat.add_assoc]
theorem sum_mulQ {α : Type} (f : α → Rat) (c : Rat) : ∀ l : List α, (l.map fun x => c * f x).sum = c * (l.map f).sum
  | [] => by simp [Rat.mul_zero]
  | x :: l => by rw [List.map_cons, List.sum_cons, sum_mulQ f c l, List.map_cons, List.sum_cons, Rat.mul_add]
theorem sum_addQ {α : Type} (f g : α → Rat) : ∀ l : List α, (l.map fun x => f x + g x).sum = (l.map f).sum + (l.map g).sum
  | [] => by simp [Rat.add_zero]
  | x :: l => by
    rw [List.map_cons, List.sum_cons, sum_addQ f g l, List.map_cons, List.sum_cons, List.map_cons, List.sum_cons]
    grind
theorem sum_flatQ {α β : Type} (f : β → Rat) (g : α → List β) : ∀ l : List α, ((l.flatMap g).map f).sum = (l.map fun x => ((g x).map f).sum).sum
  | [] => rfl
  | x :: l => by rw [List.flatMap_cons, List.map_append, sum_appQ, sum_flatQ f g l, List.map_cons, List.sum_cons]
theorem fold_sumQ {α : Type} (f : α → Rat) : ∀ (l : List α) (a : Rat), l.foldl (fun acc x => acc + f x) a = a + (l.map f).sum
  | [], a => by simp [Rat.add_zero]
  | x :: l, a => by rw [List.foldl_cons, fold_sumQ f l, List.map_cons, List.sum_cons, Rat.add_assoc]

def wQ (ss : List Int) (s : List Nat) (k : Nat) : Rat := mkRat (ss.getD k 0) (sumP ss s).toNat
def upK (n : Nat) (t : List Nat) : List Nat := (List.range n).filter fun k => !decide (k ∈ t)
def lfF (ss : List Int) : Nat → List Nat → Rat
  | 0, _ => 1
  | f + 1, t => ((upK ss.length t).map fun k => lfF ss f (insS t k) * wQ ss (insS t k) k).sum
def lfT (ss : List Int) (t : List Nat) : Rat := lfF ss (ss.length - t.length) t
/-- a step: some kinds, and one that comes -/
abbrev Stp := List Nat × Nat
def stpQ (ss : List Int) (p : Stp) : Rat := lfT ss p.1 * wQ ss p.1 p.2
def stps (l : List (List Nat)) : List Stp := l.flatMap fun s => s.map fun k => (s, k)
theorem up_facts : ∀ n : _root_.Fin 6, ∀ t ∈ allS n.val, ∀ k ∈ upK n.val t, insS t k ∈ allS n.val ∧ (insS t k).length = t.length + 1 ∧ wo (insS t k) k = t ∧ k ∈ insS t k := by decide +kernel
theorem full_facts : ∀ n : _root_.Fin 6, ∀ t ∈ allS n.val, t.length ≤ n.val ∧ (t.length = n.val → t = List.range n.val) := by decide +kernel
theorem lfT_step {ss : List Int} (h5 : ss.length ≤ 5) {t : List Nat} (ht : t ∈ allS ss.length) (hl : t.length < ss.length) : lfT ss t = ((upK ss.length t).map fun k => stpQ ss (insS t k, k)).sum := by
  unfold lfT
  obtain ⟨f, hf⟩ : ∃ f, ss.length - t.length = f + 1 := ⟨ss.length - t.length - 1, by omega⟩
  rw [hf, lfF]
  refine congrArg List.sum (List.map_congr_left fun k hk => ?_)
  obtain ⟨h1, h2, _⟩ := up_facts ⟨ss.length, by omega⟩ t ht k hk
  unfold stpQ lfT
  rw [show ss.length - (insS t k).length = f by omega]
theorem lfT_full (ss : List Int) : lfT ss (List.range ss.length) = 1 := by
  unfold lfT
  rw [List.length_range, Nat.sub_self]; rfl
/-- the numbers behind some steps -/
def FA (ss : List Int) (pre : List Stp) (t : List Nat) : Rat := (if t = List.range ss.length then 1 else 0) + ((pre.filter fun p => decide (wo p.1 p.2 = t)).map (stpQ ss)).sum
theorem fa_next (ss : List Int) (pre : List Stp) (p : Stp) (t : List Nat) : FA ss (pre ++ [p]) t = if t = wo p.1 p.2 then FA ss pre t + stpQ ss p else FA ss pre t := by
  unfold FA
  rw [List.filter_append, List.map_append, sum_appQ]
  by_cases h : t = wo p.1 p.2
  · have e : ([p].filter fun q => decide (wo q.1 q.2 = t)) = [p] := by simp [h]
    rw [if_pos h, e, List.map_cons, List.map_nil, List.sum_cons, List.sum_nil]
    generalize (if t = List.range ss.length then (1 : Rat) else 0) = x
    grind
  · have e : ([p].filter fun q => decide (wo q.1 q.2 = t)) = [] := by simp [Ne.symm h]
    rw [if_neg h, e, List.map_nil, List.sum_nil, Rat.add_zero]
theorem stp_chk : ∀ n : _root_.Fin 6, ∀ i : _root_.Fin 33, ∀ s, (ordX n.val).reverse[i.val]? = some s →
    ((stps ((ordX n.val).reverse.take i.val)).filter fun p => decide (wo p.1 p.2 = s)).isPerm ((upK n.val s).map fun k => (insS s k, k)) = true := by
  intro n i
  have h : ∀ n : _root_.Fin 6, ∀ i : _root_.Fin 33, (match (ordX n.val).reverse[i.val]? with
    | some s => ((stps ((ordX n.val).reverse.take i.val)).filter fun p => decide (wo p.1 p.2 = s)).isPerm ((upK n.val s).map fun k => (insS s k, k))
    | none => true) = true := by decide +kernel
  intro s hs
  have := h n i
  rw [hs] at this
  exact this
theorem stp_end : ∀ n : _root_.Fin 6, ∀ s ∈ allS n.val, ((stps (ordX n.val).reverse).filter fun p => decide (wo p.1 p.2 = s)).isPerm ((upK n.val s).map fun k => (insS s k, k)) = true := by decide +kernel
theorem ordX_facts : ∀ n : _root_.Fin 6, (ordX n.val).length ≤ 32 ∧ (∀ s ∈ ordX n.val, s ∈ allS n.val) ∧ (∀ s ∈ allS n.val, ∀ k ∈ s, wo s k ∈ allS n.val ∧ wo s k ≠ s ∧ (wo s k).length + 1 = s.length) := by decide +kernel
theorem up_full (n : Nat) : upK n (List.range n) = [] := by
  unfold upK
  exact List.filter_eq_nil_iff.mpr fun k hk => by simp [List.mem_range.mp hk]
theorem fa_of {ss : List Int} (h5 : ss.length ≤ 5) {pre : List Stp} {s : List Nat} (hs : s ∈ allS ss.length) (h : (pre.filter fun p => decide (wo p.1 p.2 = s)).isPerm ((upK ss.length s).map fun k => (insS s k, k)) = true) : FA ss pre s = lfT ss s := by
  have hp := List.isPerm_iff.mp h
  unfold FA
  rw [sum_permQ (hp.map (stpQ ss)), List.map_map]
  obtain ⟨f1, f2⟩ := full_facts ⟨ss.length, by omega⟩ s hs
  by_cases hl : s.length = ss.length
  · have e := f2 hl
    have e : s = List.range ss.length := e
    rw [if_pos e, e, up_full, lfT_full, List.map_nil, List.sum_nil, Rat.add_zero]
  · rw [if_neg (fun e => hl (by rw [e, List.length_range])), Rat.zero_add, lfT_step h5 hs (by have : s.length ≤ ss.length := f1; omega)]
    rfl
theorem fa_at {ss : List Int} (h5 : ss.length ≤ 5) {i : Nat} {s : List Nat} (hi : (ordX ss.length).reverse[i]? = some s) (j : Nat) : FA ss (stps ((ordX ss.length).reverse.take i) ++ (s.take j).map fun k => (s, k)) s = lfT ss s := by
  obtain ⟨o1, o2, o3⟩ := ordX_facts ⟨ss.length, by omega⟩
  have hs : s ∈ allS ss.length := o2 s (List.mem_reverse.mp (List.mem_of_getElem? hi))
  have hil : i < 33 := by
    have := (List.getElem?_eq_some_iff.mp hi).1
    rw [List.length_reverse] at this
    have o1 : (ordX ss.length).length ≤ 32 := o1
    omega
  refine fa_of h5 hs ?_
  rw [List.filter_append]
  have e : (((s.take j).map fun k => (s, k)).filter fun p => decide (wo p.1 p.2 = s)) = [] := List.filter_eq_nil_iff.mpr fun p hp => by
    obtain ⟨k, hk, rfl⟩ := List.mem_map.mp hp
    simpa using (o3 s hs k (List.mem_of_mem_take hk)).2.1
  rw [e, List.append_nil]
  exact stp_chk ⟨ss.length, by omega⟩ ⟨i, hil⟩ s hi
theorem fa_all {ss : List Int} (h5 : ss.length ≤ 5) {s : List Nat} (hs : s ∈ allS ss.length) : FA ss (stps (ordX ss.length).reverse) s = lfT ss s := fa_of h5 hs (stp_end ⟨ss.length, by omega⟩ s hs)

/-! bounds -/
def InD (q : Rat) (D : Nat) : Prop := ∃ z : Int, q * ((D : Nat) : Rat) = (z : Rat)
theorem InD.add {p q : Rat} {D : Nat} (h : InD p D) (g : InD q D) : InD (p + q) D := by
  obtain ⟨x, hx⟩ := h
  obtain ⟨y, hy⟩ := g
  exact ⟨x + y, by rw [Rat.add_mul, hx, hy, Rat.intCast_add]⟩
theorem InD.dvd {q : Rat} {D E : Nat} (h : InD q D) (d : D ∣ E) : InD q E := by
  obtain ⟨x, hx⟩ := h
  obtain ⟨c, rfl⟩ := d
  exact ⟨x * c, by rw [Rat.natCast_mul, ← Rat.mul_assoc, hx, Rat.intCast_mul, Rat.intCast_natCast]⟩
theorem InD.int (z : Int) (D : Nat) : InD (z : Rat) D := ⟨z * D, by rw [Rat.intCast_mul, Rat.intCast_natCast]⟩
theorem InD.frac {q : Rat} {D : Nat} (h : InD q D) (a : Int) {b : Nat} (hb : 0 < b) : InD (q * mkRat a b) (D * b) := by
  obtain ⟨x, hx⟩ := h
  refine ⟨x * a, ?_⟩
  have hn := nat_ne hb
  rw [Rat.mkRat_eq_div, Rat.natCast_mul, Rat.intCast_mul, ← hx]
  generalize ((b : Nat) : Rat) = B at *
  generalize ((D : Nat) : Rat) = E at *
  generalize (a : Rat) = A at *
  grind
theorem InD.sum {α : Type} {f : α → Rat} {D : Nat} : ∀ {l : List α}, (∀ x ∈ l, InD (f x) D) → InD (l.map f).sum D
  | [], _ => by have := InD.int 0 D; simpa using this
  | x :: l, h => by
    rw [List.map_cons, List.sum_cons]
    exact (h x List.mem_cons_self).add (InD.sum fun y hy => h y (List.mem_cons_of_mem _ hy))
theorem InD.den {q : Rat} {D : Nat} (h : InD q D) (h0 : 0 < D) : q.den ≤ D := by
  obtain ⟨z, hz⟩ := h
  have e : q = mkRat z D := by
    have hn := nat_ne h0
    rw [Rat.mkRat_eq_div, ← hz]
    generalize ((D : Nat) : Rat) = E at *
    grind
  rw [e]
  exact den_mk_le z D h0
def lvP (ss : List Int) (l : Nat) : Nat := ((allS ss.length).filter fun s => decide (s.length = l)).foldr (fun s a => (sumP ss s).toNat * a) 1
def upP (ss : List Int) : Nat → Nat
  | 0 => 1
  | f + 1 => upP ss f * lvP ss (ss.length - f)
theorem dvd_fold {α : Type} (f : α → Nat) : ∀ {l : List α} {x : α}, x ∈ l → f x ∣ l.foldr (fun s a => f s * a) 1
  | y :: l, x, h => by
    rw [List.foldr_cons]
    rcases List.mem_cons.mp h with rfl | h
    · exact Nat.dvd_mul_right _ _
    · exact Nat.dvd_trans (dvd_fold f h) (Nat.dvd_mul_left _ _)
theorem fold_le {α : Type} (f : α → Nat) : ∀ {l : List α}, (∀ x ∈ l, 0 < f x ∧ f x ≤ 64) → 0 < l.foldr (fun s a => f s * a) 1 ∧ l.foldr (fun s a => f s * a) 1 ≤ 2 ^ (6 * l.length)
  | [], _ => by simp
  | x :: l, h => by
    obtain ⟨h1, h2⟩ := fold_le f fun y hy => h y (List.mem_cons_of_mem _ hy)
    obtain ⟨g1, g2⟩ := h x List.mem_cons_self
    rw [List.foldr_cons, List.length_cons, Nat.mul_add, Nat.pow_add, Nat.mul_comm (2 ^ _)]
    exact ⟨Nat.mul_pos g1 h1, Nat.mul_le_mul g2 h2⟩
theorem sum_ok {ss : List Int} (hs : Shares ss) {s : List Nat} (h : s ∈ allS ss.length) (h0 : s ≠ []) : 0 < (sumP ss s).toNat ∧ (sumP ss s).toNat ≤ 64 ∧ ((sumP ss s).toNat : Int) = sumP ss s := by
  have hk := allS_kinds h
  have h1 := sumP_pos hs h0 hk.lt
  have h2 := sumP_le hs hk
  omega
theorem lvP_ok {ss : List Int} (hs : Shares ss) {l : Nat} (hl : 0 < l) : 0 < lvP ss l ∧ lvP ss l ≤ 2 ^ 192 := by
  have hf := hs.few
  obtain ⟨h1, h2⟩ := fold_le (fun s => (sumP ss s).toNat) (l := (allS ss.length).filter fun s => decide (s.length = l)) fun s hs' => by
    obtain ⟨a1, a2⟩ := List.mem_filter.mp hs'
    have a2 : s.length = l := by simpa using a2
    have := sum_ok hs a1 (fun e => by rw [e] at a2; simp at a2; omega)
    exact ⟨this.1, this.2.1⟩
  refine ⟨h1, Nat.le_trans h2 (Nat.pow_le_pow_right (by decide) ?_)⟩
  have : ((allS ss.length).filter fun s => decide (s.length = l)).length ≤ 32 := by
    refine Nat.le_trans (List.length_filter_le _ _) ?_
    rw [allS_len]
    exact Nat.pow_le_pow_right (by decide) hf
  omega
theorem upP_ok {ss : List Int} (hs : Shares ss) : ∀ f, f ≤ ss.length → 0 < upP ss f ∧ upP ss f ≤ 2 ^ (192 * f)
  | 0, _ => by simp [upP]
  | f + 1, h => by
    obtain ⟨h1, h2⟩ := upP_ok hs f (by omega)
    obtain ⟨g1, g2⟩ := lvP_ok hs (l := ss.length - f) (by omega)
    rw [upP, Nat.mul_add, Nat.pow_add]
    exact ⟨Nat.mul_pos h1 g1, Nat.mul_le_mul h2 g2⟩
theorem upP_dvd (ss : List Int) : ∀ {f g : Nat}, f ≤ g → upP ss f ∣ upP ss g
  | f, 0, h => by
    have : f = 0 := by omega
    subst this; exact Nat.dvd_refl _
  | f, g + 1, h => by
    by_cases e : f = g + 1
    · subst e; exact Nat.dvd_refl _
    · exact Nat.dvd_trans (upP_dvd ss (show f ≤ g by omega)) (Nat.dvd_mul_right _ _)
theorem lv_dvd {ss : List Int} {s : List Nat} (h : s ∈ allS ss.length) : (sumP ss s).toNat ∣ lvP ss s.length := dvd_fold (fun s => (sumP ss s).toNat) (List.mem_filter.mpr ⟨h, by simp⟩)
structure ChB (q : Rat) (D v : Nat) : Prop where
  nn : 0 ≤ q
  le : q ≤ (v : Rat)
  ind : InD q D
theorem wQ_b {ss : List Int} (hs : Shares ss) {s : List Nat} (h : s ∈ allS ss.length) (h0 : s ≠ []) (k : Nat) : 0 ≤ wQ ss s k ∧ wQ ss s k ≤ ((9 : Nat) : Rat) := by
  obtain ⟨h1, h2⟩ := getD_bounds hs k
  obtain ⟨g1, g2, _⟩ := sum_ok hs h h0
  have e : ss.getD k 0 = (((ss.getD k 0).toNat : Nat) : Int) := by omega
  have q := (QB.nat (ss.getD k 0).toNat).over (n := (sumP ss s).toNat) (e := 6) (w := 9) g1 g2 (by
    have : 9 * 1 ≤ 9 * (sumP ss s).toNat := Nat.mul_le_mul_left 9 g1
    omega)
  rw [← e] at q
  have e2 : ((ss.getD k 0 : Int) : Rat) * mkRat 1 (sumP ss s).toNat = wQ ss s k := by
    unfold wQ
    rw [Rat.mkRat_eq_div, Rat.mkRat_eq_div, Rat.div_def, Rat.div_def]
    grind
  rw [e2] at q
  exact ⟨q.nn, q.le⟩
theorem ch_mul {p q : Rat} {u v : Nat} (a : 0 ≤ p ∧ p ≤ (u : Rat)) (b : 0 ≤ q ∧ q ≤ (v : Rat)) : 0 ≤ p * q ∧ p * q ≤ ((u * v : Nat) : Rat) := by
  refine ⟨Rat.mul_nonneg a.1 b.1, ?_⟩
  rw [Rat.natCast_mul]
  exact Rat.le_trans (Rat.mul_le_mul_of_nonneg_right a.2 b.1) (Rat.mul_le_mul_of_nonneg_left b.2 (Rat.le_trans a.1 a.2))
theorem ch_sum {α : Type} {f : α → Rat} {v : Nat} : ∀ {l : List α}, (∀ x ∈ l, 0 ≤ f x ∧ f x ≤ (v : Rat)) → 0 ≤ (l.map f).sum ∧ (l.map f).sum ≤ ((l.length * v : Nat) : Rat)
  | [], _ => by simp [Rat.le_refl]
  | x :: l, h => by
    obtain ⟨h1, h2⟩ := ch_sum fun y hy => h y (List.mem_cons_of_mem _ hy)
    obtain ⟨g1, g2⟩ := h x List.mem_cons_self
    rw [List.map_cons, List.sum_cons, List.length_cons, Nat.succ_mul, Nat.add_comm, Rat.natCast_add]
    exact ⟨Rat.add_nonneg g1 h1, by grind⟩
theorem lfF_b {ss : List Int} (hs : Shares ss) : ∀ (f : Nat) (t : List Nat), t ∈ allS ss.length → t.length + f = ss.length → ChB (lfF ss f t) (upP ss f) (45 ^ f)
  | 0, t, ht, hl => ⟨by rw [lfF]; decide, by rw [lfF]; decide, by rw [lfF]; exact InD.int 1 _⟩
  | f + 1, t, ht, hl => by
    have h5 := hs.few
    have hup : (upK ss.length t).length ≤ 5 := by
      refine Nat.le_trans (List.length_filter_le _ _) ?_
      rw [List.length_range]; exact h5
    have each : ∀ k ∈ upK ss.length t, ChB (lfF ss f (insS t k)) (upP ss f) (45 ^ f) ∧ (0 ≤ wQ ss (insS t k) k ∧ wQ ss (insS t k) k ≤ ((9 : Nat) : Rat)) ∧ InD (lfF ss f (insS t k) * wQ ss (insS t k) k) (upP ss (f + 1)) := fun k hk => by
      obtain ⟨h1, h2, h3, h4⟩ := up_facts ⟨ss.length, by omega⟩ t ht k hk
      have h1 : insS t k ∈ allS ss.length := h1
      have hne : insS t k ≠ [] := fun e => by rw [e] at h2; simp at h2
      have c := lfF_b hs f (insS t k) h1 (by omega)
      refine ⟨c, wQ_b hs h1 hne k, ?_⟩
      have z := c.ind.frac (ss.getD k 0) (sum_ok hs h1 hne).1
      refine z.dvd ?_
      rw [upP]
      refine Nat.mul_dvd_mul (Nat.dvd_refl _) ?_
      have := lv_dvd h1
      rw [show (insS t k).length = ss.length - f by omega] at this
      exact this
    obtain ⟨b1, b2⟩ := ch_sum (f := fun k => lfF ss f (insS t k) * wQ ss (insS t k) k) (v := 45 ^ f * 9) (l := upK ss.length t) fun k hk => by
      obtain ⟨c, w, _⟩ := each k hk
      exact ch_mul ⟨c.nn, c.le⟩ w
    rw [lfF]
    refine ⟨b1, Rat.le_trans b2 (Rat.natCast_le_natCast.mpr ?_), InD.sum fun k hk => (each k hk).2.2⟩
    rw [Nat.pow_succ]
    have := Nat.mul_le_mul_right (45 ^ f * 9) hup
    omega
theorem ChB.frB {q : Rat} {D v d e : Nat} (h : ChB q D v) (h0 : 0 < D) (hD : D ≤ 2 ^ d) (hv : v < 2 ^ e) : FrB q (d + e + 1) :=
  QB.frB ⟨h.nn, h.le, Nat.le_trans (h.ind.den h0) hD⟩ hv
theorem lfT_b {ss : List Int} (hs : Shares ss) {t : List Nat} (ht : t ∈ allS ss.length) : ChB (lfT ss t) (upP ss (ss.length - t.length)) (45 ^ 5) := by
  have h1 := (allS_mem _ t ht).1
  have c := lfF_b hs (ss.length - t.length) t ht (by omega)
  exact ⟨c.nn, Rat.le_trans c.le (Rat.natCast_le_natCast.mpr (Nat.pow_le_pow_right (by decide) (by have := hs.few; omega))), c.ind⟩
theorem stp_b {ss : List Int} (hs : Shares ss) {s : List Nat} (h : s ∈ allS ss.length) {k : Nat} (hk : k ∈ s) : ChB (stpQ ss (s, k)) (upP ss (ss.length - s.length + 1)) (45 ^ 6) := by
  have hne : s ≠ [] := fun e => by rw [e] at hk; cases hk
  have hl := (allS_mem _ s h).1
  have hp := List.length_pos_iff.mpr hne
  have c := lfT_b hs h
  have w := wQ_b hs h hne k
  obtain ⟨b1, b2⟩ := ch_mul ⟨c.nn, c.le⟩ w
  refine ⟨b1, Rat.le_trans b2 (Rat.natCast_le_natCast.mpr (by decide)), ?_⟩
  refine (c.ind.frac (ss.getD k 0) (sum_ok hs h hne).1).dvd ?_
  rw [upP]
  refine Nat.mul_dvd_mul (Nat.dvd_refl _) ?_
  have := lv_dvd h
  rw [show s.length = ss.length - (ss.length - s.length) by omega] at this
  exact this
theorem stp_fr {ss : List Int} (hs : Shares ss) {s : List Nat} (h : s ∈ allS ss.length) {k : Nat} (hk : k ∈ s) : FrB (stpQ ss (s, k)) 1300 := by
  have hl := (allS_mem _ s h).1
  have hp := List.length_pos_iff.mpr (fun e : s = [] => by rw [e] at hk; cases hk)
  have h5 := hs.few
  obtain ⟨u1, u2⟩ := upP_ok hs (ss.length - s.length + 1) (by omega)
  exact ((stp_b hs h hk).frB u1 (Nat.le_trans u2 (Nat.pow_le_pow_right (by decide) (show _ ≤ 960 by omega))) (e := 36) (by decide)).mono (by decide)
theorem lfT_fr {ss : List Int} (hs : Shares ss) {t : List Nat} (ht : t ∈ allS ss.length) : FrB (lfT ss t) 1300 := by
  have h5 := hs.few
  obtain ⟨u1, u2⟩ := upP_ok hs (ss.length - t.length) (by omega)
  exact ((lfT_b hs ht).frB u1 (Nat.le_trans u2 (Nat.pow_le_pow_right (by decide) (show _ ≤ 960 by omega))) (e := 36) (by decide)).mono (by decide)
theorem fa_fr {ss : List Int} (hs : Shares ss) {pre : List Stp} (hp : ∀ p ∈ pre, p.1 ∈ allS ss.length ∧ p.2 ∈ p.1) (hl : pre.length ≤ 100) (t : List Nat) : FrB (FA ss pre t) 1300 := by
  have h5 := hs.few
  have each : ∀ p ∈ pre.filter (fun p => decide (wo p.1 p.2 = t)), ChB (stpQ ss p) (upP ss ss.length) (45 ^ 6) := fun p hm => by
    obtain ⟨a1, a2⟩ := hp p (List.mem_filter.mp hm).1
    have b := stp_b hs a1 a2
    have l1 := (allS_mem _ p.1 a1).1
    have l0 := List.length_pos_iff.mpr (fun e : p.1 = [] => by rw [e] at a2; cases a2)
    exact ⟨b.nn, b.le, b.ind.dvd (upP_dvd ss (by omega))⟩
  obtain ⟨b1, b2⟩ := ch_sum (f := stpQ ss) (v := 45 ^ 6) fun p hm => ⟨(each p hm).nn, (each p hm).le⟩
  have hlen : (pre.filter fun p => decide (wo p.1 p.2 = t)).length ≤ 100 := Nat.le_trans (List.length_filter_le _ _) hl
  have base : ChB (if t = List.range ss.length then (1 : Rat) else 0) (upP ss ss.length) 1 := by
    split
    · exact ⟨by decide, by decide, InD.int 1 _⟩
    · exact ⟨by decide, by decide, InD.int 0 _⟩
  have c : ChB (FA ss pre t) (upP ss ss.length) (1 + 100 * 45 ^ 6) := by
    refine ⟨Rat.add_nonneg base.nn b1, ?_, base.ind.add (InD.sum fun p hm => (each p hm).ind)⟩
    have b3 := Rat.le_trans b2 (Rat.natCast_le_natCast.mpr (Nat.mul_le_mul_right (45 ^ 6) hlen))
    have b4 := base.le
    unfold FA
    rw [Rat.natCast_add]
    grind
  obtain ⟨u1, u2⟩ := upP_ok hs ss.length (Nat.le_refl _)
  exact (c.frB u1 (Nat.le_trans u2 (Nat.pow_le_pow_right (by decide) (show _ ≤ 960 by omega))) (e := 43) (by decide)).mono (by decide)
end DL

/-! how long until so many kinds have come: by who is left, forth and back -/
namespace DL
open PySem L2

def mnF (ss : List Int) (num : Nat) : Nat → List Nat → Rat
  | 0, _ => 0
  | f + 1, s => if ss.length < num + (f + 1) then dueT ss (mnF ss num f) s else 0
def mnT (ss : List Int) (num : Nat) (s : List Nat) : Rat := mnF ss num s.length s
theorem mnT_nil (ss : List Int) (num : Nat) : mnT ss num [] = 0 := rfl
theorem mnT_step (ss : List Int) (num : Nat) {s : List Nat} (hs : s.Pairwise (· < ·)) (h0 : s ≠ []) : mnT ss num s = if ss.length < num + s.length then dueT ss (mnT ss num) s else 0 := by
  unfold mnT
  cases hn : s.length with
  | zero => exact absurd (List.length_eq_zero_iff.mp hn) h0
  | succ n =>
    rw [mnF]
    split
    · unfold dueT
      rw [dueAcc_congr (P' := fun o => mnF ss num o.length o) (fun k hk => ?_) s (fun _ h => h)]
      have := without_len hs hk
      show mnF ss num n _ = mnF ss num _ _
      rw [show (s.filter fun x => !decide (x = k)).length = n by omega]
    · rfl
theorem mn_bound {ss : List Int} (hs : Shares ss) (num : Nat) : ∀ (n : Nat) (s : List Nat), s.length = n → Kinds ss.length s → QB (mnT ss num s) (dB n) (45 * n)
  | 0, s, hl, hk => by
    obtain rfl : s = [] := List.length_eq_zero_iff.mp hl
    rw [mnT_nil]
    exact ⟨Rat.le_refl, Rat.le_refl, Nat.le_refl 1⟩
  | n + 1, s, hl, hk => by
    have h0 : s ≠ [] := fun e => by rw [e] at hl; cases hl
    rw [mnT_step ss num hk.up h0]
    split
    · exact due_bound hs hk h0 hl fun k hks => mn_bound hs num n _ (by have := without_len hk.up hks; omega) (kinds_without hk k)
    · refine ⟨Rat.le_refl, Rat.natCast_nonneg, ?_⟩
      show 1 ≤ 2 ^ dB (n + 1)
      exact Nat.one_le_two_pow
theorem mn_fr {ss : List Int} (hs : Shares ss) (num : Nat) {s : List Nat} (hk : Kinds ss.length s) : FrB (mnT ss num s) 1300 := by
  have h1 := hk.len
  have h2 := hs.few
  have h3 := dB_le (n := s.length) (by omega)
  exact ((mn_bound hs num s.length s rfl hk).frB (e := 8) (by show _ < 256; omega)).mono (by omega)
def lvl (n l : Nat) : List (List Nat) := (allS n).filter fun s => decide (s.length = l)
theorem lvl_mem {n l : Nat} {s : List Nat} (h : s ∈ lvl n l) : s ∈ allS n ∧ s.length = l := by
  obtain ⟨a, b⟩ := List.mem_filter.mp h
  exact ⟨a, by simpa using b⟩
def cT (ss : List Int) (s : List Nat) : Rat := lfT ss s * mkRat ss.sum (sumP ss s).toNat
def lvA (ss : List Int) (num l : Nat) : Rat := ((lvl ss.length l).map fun s => lfT ss s * mnT ss num s).sum
def lvC (ss : List Int) (l : Nat) : Rat := ((lvl ss.length l).map (cT ss)).sum
theorem due_sum (ss : List Int) (P : List Nat → Rat) (s : List Nat) : dueT ss P s = (((ss.sum : Int) : Rat) + (s.map fun k => ((ss.getD k 0 : Int) : Rat) * P (wo s k)).sum) * mkRat 1 (sumP ss s).toNat := by
  unfold dueT dueAcc
  rw [fold_sumQ]
  rfl
theorem mk_one (a : Int) (b : Nat) : mkRat a b = ((a : Int) : Rat) * mkRat 1 b := by
  rw [Rat.mkRat_eq_div, Rat.mkRat_eq_div, Rat.div_def, Rat.div_def]
  grind
theorem mk_int (a : Int) : mkRat a 1 = (a : Rat) := by rw [mk_one, show mkRat 1 1 = 1 from rfl, Rat.mul_one]
theorem term_split (ss : List Int) (P : List Nat → Rat) (s : List Nat) : lfT ss s * dueT ss P s = cT ss s + (s.map fun k => stpQ ss (s, k) * P (wo s k)).sum := by
  rw [due_sum]
  have e : (s.map fun k => stpQ ss (s, k) * P (wo s k)).sum = lfT ss s * mkRat 1 (sumP ss s).toNat * (s.map fun k => ((ss.getD k 0 : Int) : Rat) * P (wo s k)).sum := by
    rw [← sum_mulQ]
    refine congrArg List.sum (List.map_congr_left fun k _ => ?_)
    unfold stpQ wQ
    rw [mk_one (ss.getD k 0)]
    grind
  rw [e]
  unfold cT
  rw [mk_one ss.sum]
  generalize (s.map fun k => ((ss.getD k 0 : Int) : Rat) * P (wo s k)).sum = x
  grind
theorem swap_chk : ∀ n l : _root_.Fin 6, (stps (lvl n.val (l.val + 1))).isPerm ((lvl n.val l.val).flatMap fun t => (upK n.val t).map fun k => (insS t k, k)) = true := by decide +kernel
theorem lvA_step {ss : List Int} (h5 : ss.length ≤ 5) {num l : Nat} (hl : l < ss.length) (hc : ss.length < num + (l + 1)) : lvA ss num (l + 1) = lvC ss (l + 1) + lvA ss num l := by
  have e1 : lvA ss num (l + 1) = lvC ss (l + 1) + ((stps (lvl ss.length (l + 1))).map fun p => stpQ ss p * mnT ss num (wo p.1 p.2)).sum := by
    unfold lvA lvC stps
    rw [sum_flatQ, ← sum_addQ]
    refine congrArg List.sum (List.map_congr_left fun s hs => ?_)
    obtain ⟨a1, a2⟩ := lvl_mem hs
    rw [mnT_step ss num (allS_kinds a1).up (fun e => by rw [e] at a2; cases a2), if_pos (by rw [a2]; exact hc), term_split, List.map_map]
    rfl
  rw [e1]
  refine congrArg (lvC ss (l + 1) + ·) ?_
  have hp := List.isPerm_iff.mp (swap_chk ⟨ss.length, by omega⟩ ⟨l, by omega⟩)
  have hp : (stps (lvl ss.length (l + 1))).Perm ((lvl ss.length l).flatMap fun t => (upK ss.length t).map fun k => (insS t k, k)) := hp
  rw [sum_permQ (hp.map fun p => stpQ ss p * mnT ss num (wo p.1 p.2)), sum_flatQ]
  unfold lvA
  refine congrArg List.sum (List.map_congr_left fun t ht => ?_)
  obtain ⟨a1, a2⟩ := lvl_mem ht
  rw [List.map_map, lfT_step h5 a1 (by omega), Rat.mul_comm, ← sum_mulQ]
  refine congrArg List.sum (List.map_congr_left fun k hk => ?_)
  obtain ⟨_, _, e, _⟩ := up_facts ⟨ss.length, by omega⟩ t a1 k hk
  show stpQ ss (insS t k, k) * mnT ss num (wo (insS t k) k) = _
  rw [e, Rat.mul_comm]
theorem lvA_zero {ss : List Int} {num l : Nat} (h : num + l ≤ ss.length) : lvA ss num l = 0 := by
  unfold lvA
  have e : ((lvl ss.length l).map fun s => lfT ss s * mnT ss num s) = (lvl ss.length l).map fun _ => (0 : Rat) := List.map_congr_left fun s hs => by
    obtain ⟨a1, a2⟩ := lvl_mem hs
    have : mnT ss num s = 0 := by
      by_cases h0 : s = []
      · rw [h0, mnT_nil]
      · rw [mnT_step ss num (allS_kinds a1).up h0, if_neg (by omega)]
    rw [this, Rat.mul_zero]
  rw [e]
  induction (lvl ss.length l) with
  | nil => rfl
  | cons x t ih => rw [List.map_cons, List.sum_cons, ih, Rat.zero_add]
theorem lvl_full : ∀ n : _root_.Fin 6, lvl n.val n.val = [List.range n.val] := by decide +kernel
theorem lvA_tel {ss : List Int} (h5 : ss.length ≤ 5) {num : Nat} (hn : num ≤ ss.length) : ∀ j, j ≤ num → lvA ss num ss.length = ((List.range j).map fun i => lvC ss (ss.length - i)).sum + lvA ss num (ss.length - j)
  | 0, _ => by simp [Rat.zero_add]
  | j + 1, h => by
    rw [lvA_tel h5 hn j (by omega), List.range_succ, List.map_append, sum_appQ]
    have := lvA_step h5 (num := num) (l := ss.length - j - 1) (by omega) (by omega)
    rw [show ss.length - j - 1 + 1 = ss.length - j by omega] at this
    rw [this, show ss.length - (j + 1) = ss.length - j - 1 by omega]
    simp only [List.map_cons, List.map_nil, List.sum_cons, List.sum_nil, Rat.add_zero]
    grind
def inR (n num : Nat) (s : List Nat) : Bool := decide (n < num + s.length)
theorem lvl_all : ∀ n num : _root_.Fin 6, num ≤ n → ((allS n.val).filter (inR n.val num.val)).isPerm ((List.range num.val).flatMap fun i => lvl n.val (n.val - i)) = true := by decide +kernel
theorem mean_both {ss : List Int} (h5 : ss.length ≤ 5) {num : Nat} (hn : num ≤ ss.length) : (((allS ss.length).filter (inR ss.length num)).map (cT ss)).sum = mnT ss num (List.range ss.length) := by
  have hp := List.isPerm_iff.mp (lvl_all ⟨ss.length, by omega⟩ ⟨num, by omega⟩ hn)
  have hp : ((allS ss.length).filter (inR ss.length num)).Perm ((List.range num).flatMap fun i => lvl ss.length (ss.length - i)) := hp
  rw [sum_permQ (hp.map (cT ss)), sum_flatQ]
  have e := lvA_tel h5 hn num (Nat.le_refl _)
  rw [lvA_zero (l := ss.length - num) (by omega), Rat.add_zero] at e
  have f : lvA ss num ss.length = mnT ss num (List.range ss.length) := by
    unfold lvA
    rw [lvl_full ⟨ss.length, by omega⟩]
    simp only [List.map_cons, List.map_nil, List.sum_cons, List.sum_nil]
    rw [lfT_full, Rat.one_mul, Rat.add_zero]
  rw [← f, e]
  rfl
theorem cT_fr {ss : List Int} (hs : Shares ss) {num : Nat} {l : List (List Nat)} (hl : l.length ≤ 32) (h : ∀ s ∈ l, s ∈ allS ss.length ∧ s ≠ []) : FrB ((l.map (cT ss)).sum) 1300 := by
  have h5 := hs.few
  obtain ⟨t1, t2⟩ := shares_sum hs
  have each : ∀ s ∈ l, ChB (cT ss s) (upP ss ss.length) (45 ^ 6) := fun s hm => by
    obtain ⟨a1, a2⟩ := h s hm
    have c := lfT_b hs a1
    have l1 := (allS_mem _ s a1).1
    have l0 := List.length_pos_iff.mpr a2
    obtain ⟨g1, g2, _⟩ := sum_ok hs a1 a2
    have q := (QB.nat ss.sum.toNat).over (n := (sumP ss s).toNat) (e := 6) (w := 45) g1 g2 (by
      have : 45 * 1 ≤ 45 * (sumP ss s).toNat := Nat.mul_le_mul_left 45 g1
      omega)
    have e : ((ss.sum.toNat : Nat) : Int) = ss.sum := by omega
    rw [e, ← mk_one] at q
    obtain ⟨b1, b2⟩ := ch_mul ⟨c.nn, c.le⟩ ⟨q.nn, q.le⟩
    refine ⟨b1, Rat.le_trans b2 (Rat.natCast_le_natCast.mpr (by decide)), ?_⟩
    refine ((c.ind.frac ss.sum g1).dvd ?_).dvd (upP_dvd ss (show ss.length - s.length + 1 ≤ ss.length by omega))
    rw [upP]
    refine Nat.mul_dvd_mul (Nat.dvd_refl _) ?_
    have := lv_dvd a1
    rw [show s.length = ss.length - (ss.length - s.length) by omega] at this
    exact this
  obtain ⟨b1, b2⟩ := ch_sum (f := cT ss) (v := 45 ^ 6) fun s hm => ⟨(each s hm).nn, (each s hm).le⟩
  obtain ⟨u1, u2⟩ := upP_ok hs ss.length (Nat.le_refl _)
  have c : ChB ((l.map (cT ss)).sum) (upP ss ss.length) (32 * 45 ^ 6) := ⟨b1, Rat.le_trans b2 (Rat.natCast_le_natCast.mpr (Nat.mul_le_mul_right _ hl)), InD.sum fun s hm => (each s hm).ind⟩
  exact (c.frB u1 (Nat.le_trans u2 (Nat.pow_le_pow_right (by decide) (show _ ≤ 960 by omega))) (e := 43) (by decide)).mono (by decide)

theorem mnacc_fr {ss : List Int} (hs : Shares ss) (num : Nat) {s : List Nat} (hk : Kinds ss.length s) (i : Nat) : FrB (dueAcc ss (mnT ss num) s (s.take i)) 1300 := by
  have h5 := hs.few
  have hsl := hk.len
  by_cases h0 : s = []
  · subst h0
    have e : dueAcc ss (mnT ss num) [] (([] : List Nat).take i) = ((ss.sum : Int) : Rat) := by rw [List.take_nil]; rfl
    obtain ⟨t1, t2⟩ := shares_sum hs
    rw [e]
    exact ⟨bt_lit (i := ss.sum) (n := 7) (by show _ < 128; omega) (by decide), bt_lit (i := 1) (n := 1) (by decide) (by decide)⟩
  · obtain ⟨n, hn⟩ : ∃ n, s.length = n + 1 := ⟨s.length - 1, by have := List.length_pos_iff.mpr h0; omega⟩
    have h1 := acc_bound hs (n := n) (d := dB n) (fun k hks => mn_bound hs num n _ (by have := without_len hk.up hks; omega) (kinds_without hk k)) (s.take i) fun k hk' => List.mem_of_mem_take hk'
    have hle : sumP ss (s.take i) ≤ 45 := by
      have := sumP_le9 hs (s.take i)
      have hl : (s.take i).length ≤ 5 := by rw [List.length_take]; omega
      omega
    have hd := dB_le (n := n) (by omega)
    have hl : (s.take i).length ≤ n + 1 := by rw [List.length_take]; omega
    have hB : (n + 1) * dB n ≤ 1236 := by
      have := dB_le (n := n + 1) (by omega)
      rw [dB] at this
      omega
    have hm : (s.take i).length * dB n ≤ 1236 := Nat.le_trans (Nat.mul_le_mul_right _ hl) hB
    refine (h1.frB (e := 14) ?_).mono (by omega)
    have h4 : 45 * n * (sumP ss (s.take i)).toNat ≤ 45 * 5 * 45 := Nat.mul_le_mul (Nat.mul_le_mul_left 45 (by omega)) (by omega)
    show _ < 16384
    omega
def updQ (f : List Nat → Rat) (t : List Nat) (v : Rat) : List Nat → Rat := fun u => if u = t then v else f u
def tabQ (f : List Nat → Rat) (l : List (List Nat)) : List (List Int × Val) := l.map fun s => (kn s, Val.d (frac (f s)))
theorem tabT_dI (f : List Nat → Rat) (l : List (List Nat)) : tabT f l = dI (tabQ f l) := by
  unfold tabT dI tabQ
  rw [List.map_map]; rfl
theorem ordX_ahead : ∀ n : _root_.Fin 6, ∀ i : _root_.Fin 33, ∀ s, (ordX n.val)[i.val]? = some s → (∀ k ∈ s, wo s k ∈ (ordX n.val).take i.val) ∧ s ∉ (ordX n.val).take i.val := by
  intro n i s hs
  have h : ∀ n : _root_.Fin 6, ∀ i : _root_.Fin 33, (match (ordX n.val)[i.val]? with
    | some s => decide ((∀ k ∈ s, wo s k ∈ (ordX n.val).take i.val) ∧ s ∉ (ordX n.val).take i.val)
    | none => true) = true := by decide +kernel
  have := h n i
  rw [hs] at this
  exact of_decide_eq_true this
theorem ordX_range : ∀ n : _root_.Fin 6, List.range n.val ∈ ordX n.val := by decide +kernel
theorem tabT_new {f : List Nat → Rat} {t : List Nat} {v : Rat} {l : List (List Nat)} (h : t ∉ l) : putV (tabT f l) (kI (kn t)) (.d (frac v)) = tabT (updQ f t v) (l ++ [t]) := by
  rw [putV_new]
  · unfold tabT
    rw [List.map_append, List.map_cons, List.map_nil]
    have e : (l.map fun s => (kI (kn s), Val.d (frac (f s)))) = l.map fun s => (kI (kn s), Val.d (frac (updQ f t v s))) := List.map_congr_left fun s hs => by rw [show updQ f t v s = f s from if_neg (fun (e : s = t) => h (by rw [← e]; exact hs))]
    rw [e, show updQ f t v t = v from if_pos rfl]
  · intro p hp e
    unfold tabT at hp
    obtain ⟨s, hs, rfl⟩ := List.mem_map.mp hp
    obtain rfl := knI_inj e
    exact h hs

/-! words -/
def f_chancesOf : FSp := fun args m R => ∃ ss : List Int, args = [.d (tupI ss)] ∧ Shares ss ∧ ∀ p, m p = none → R (.v (.ref p)) (put m p (.dT (tabT (lfT ss) (allS ss.length))))
def f_meanKinds : FSp := fun args m R => ∃ (ss : List Int) (num : Nat), args = [.d (tupI ss), .d (.int (num : Int))] ∧ Shares ss ∧ num ≤ ss.length ∧ R (.d (frac (mnT ss num (List.range ss.length)))) m
def f_lawSetsX : FSp := fun args m R => ∃ n : Nat, args = [.d (.int (n : Int))] ∧ n ≤ 5 ∧ R (.lt ((ordX n).map kn)) m
theorem putV_tabT {f : List Nat → Rat} {t : List Nat} {v : Rat} {l : List (List Nat)} (h : t ∈ l) : putV (tabT f l) (kI (kn t)) (.d (frac v)) = tabT (updQ f t v) l := by
  unfold putV
  rw [if_pos ?_]
  · unfold tabT
    rw [List.map_map]
    refine List.map_congr_left fun s _ => ?_
    show (if kI (kn s) = kI (kn t) then (kI (kn s), Val.d (frac v)) else (kI (kn s), .d (frac (f s)))) = (kI (kn s), Val.d (frac (updQ f t v s)))
    by_cases e : s = t
    · subst e; rw [if_pos rfl]; unfold updQ; rw [if_pos rfl]
    · rw [if_neg (fun z => e (knI_inj z))]; unfold updQ; rw [if_neg e]
  · rw [List.any_eq_true]
    exact ⟨_, List.mem_map.mpr ⟨t, h, rfl⟩, by simp⟩
theorem tabT_congr {f g : List Nat → Rat} {l : List (List Nat)} (h : ∀ s ∈ l, f s = g s) : tabT f l = tabT g l := by
  unfold tabT
  exact List.map_congr_left fun s hs => by rw [h s hs]
section
variable {K : PySem.W.Frag} {r : List Val} {m : Mm} {Q : Val → Mm → Prop} {te tl ta tb : TE} {tt : TT}
theorem kRevL {X : Cx} (K : PySem.W.Frag) {e : Expr} {te : TE} (h : PE X e (tRevL X.K te)) (hK : X.K = K := by rfl) : PE X e (tRevL K te) := hK ▸ h
theorem TAll.rev {G : Hp} : ∀ {nss : List (List Int)} {xs : List V}, TAll G nss xs → TAll G nss.reverse xs.reverse
  | [], xs, h => by
    have h : xs = [] := h
    subst h; exact rfl
  | ns :: r, xs, h => by
    obtain ⟨b, t, rfl, h2, h3⟩ := h
    rw [List.reverse_cons, List.reverse_cons]
    exact (TAll.rev h3).append ⟨b, [], rfl, h2, rfl⟩
theorem ev_revLt (h : Ev K te r m fun x m1 => ∃ nss, x = .lt nss ∧ Q (.lt nss.reverse) m1) : Ev K (tRevL K te) r m Q := fun σ H G S L R k =>
  h σ H G S L _ fun v H1 G1 x m1 ⟨nss, hx, q⟩ S1 e1 r1 => by
    subst hx
    cases r1 with
    | lt h1 h2 =>
      refine ⟨_, _, rfl, Or.inl (Le.rd S1.sub h1), fun p hp => ?_⟩
      have hg := S1.free hp
      exact k _ _ _ _ m1 q (S1.fix hp) (e1.trans (Le.new hg)) (.lt (Rd.of upd_same) ((TAll.rev h2).mono (Le.new hg)))
theorem ev_pickT {a b j : Nat} {ss : List Int} {ks : List Nat} (ha : r[a]? = some (.t (kn ks))) (hb : r[b]? = some (.d (tupI ss))) (hj : j < r.length) (h2 : j ≠ b) (hz : ks.length ≤ 1000) (hk : ∀ k ∈ ks, k < ss.length) (q : Q (.d (.list ((ks.map fun k => ss.getD k 0).map PyData.int))) m) :
    Ev K (tLc (iTup K (tVar a)) (gName j) tYes (tOp (rIx K) (tVar b) (tVar j)) [j]) r m Q := by
  refine ev_mapTf (xs := ks) (f := intN) (ev_varTN ha ⟨by rw [tupN_eq], rfl⟩) (by omega) (fun k => .int (ss.getD k 0)) (fun k m' hk1 hx => ?_) (by rw [List.map_map] at q; exact q)
  exact ev_op (ev_var (x := .d (tupI ss)) (by rw [List.getElem?_set_ne h2]; exact hb) (fun h => nomatch h) (ev_var (x := .d (.int (k : Int))) (by rw [List.getElem?_set_self hj]) (fun h => nomatch h) (o2_ixT (tupI_at (hk k hk1)) ⟨rfl, rfl⟩)))
/-- (k, x): k a tuple that the code made -/
theorem ev_tupP (h : Ev K ta r m fun x m1 => ∃ ns, x = .t ns ∧ Ev K tb r m1 fun y m2 => ∃ d, y = .d d ∧ Q (.p ns d) m2) : Ev K (tTup (tCons ta (tCons tb tNil))) r m Q := fun σ H G S L R k =>
  h σ H G S L _ fun v H1 G1 x m1 ⟨ns, hx, h1⟩ S1 e1 r1 => h1 σ H1 G1 S1 (L.mono e1) _ fun w H2 G2 y m2 ⟨d, hy, q⟩ S2 e2 r2 => by
    subst hx hy
    have r1 := r1.mono e2
    cases r1 with
    | t ht =>
      rename_i a
      refine ⟨by show 2 ≤ sizeLine; decide, fun p hp => ?_⟩
      have hg := S2.free hp
      have l := Le.new (o := .tup [.ref a, w]) hg
      exact k _ _ _ _ m2 q (S2.fix hp) (e1.trans (e2.trans l)) (.p upd_same (l _ _ ht) (Rp.mono l _ _ r2.rp))
/-- [e for k in ..] whose items are no plain data: a list that may change -/
theorem ev_lcLtM {j : Nat} {nss : List (List Int)} (h : Ev K tl r m fun x m1 => x = .lt nss ∧ m1 = m) (hn : nss.length ≤ 100000) (f : List Int → Val)
    (hs : ∀ (ns : List Int) m', ns ∈ nss → Ext m m' → Ev K te (r.set j (.t ns)) m' fun x m3 => x = f ns ∧ m3 = m')
    (q : ∀ D, m D = none → Q (.v (.ref D)) (put m D (.lst (nss.map f)))) : Ev K (tLc (iList K tl) (gName j) tYes te [j]) r m Q := fun σ H G S L R k =>
  h σ H G S L _ fun v H1 G1 x m1 ⟨hx, hm⟩ S1 e1 r1 => by
    subst hx hm
    cases r1 with
    | lt h1 h2 =>
      rename_i a xs
      have hq : SqL K G1 a xs := Or.inl h1
      refine ⟨a, rfl, ⟨xs, S1.sqL hq⟩, fun D hD => ?_⟩
      have hmD := S1.freeM hD
      have hlen := h2.len
      refine lc_it (walk_list (xs := xs)) (LcV K m1 G1 D (fun i acc => acc = (nss.take i).map f)) (lcv_start S1 hD rfl) ?_ ?_ ?_
      · rintro i H' hi ⟨G', acc, _, _, S', e'⟩
        exact S'.sqL (e'.sqL hq)
      · rintro i y H' H2 hi hP ⟨rfl, hy⟩
        obtain ⟨ns, b, hns, rfl, hb⟩ := h2.at hy
        refine ⟨wipe1 σ j _, ?_⟩
        refine lcv_turn (r' := r.set j (.t ns)) hmD (by omega) (fun G' e' => ?_) (fun m' acc hx hw => ?_) hP
        · have := (L.mono (e1.trans e')).set (r := .t ns) (.t (e' _ _ hb)) j
          show Sl K _ (r.set j (.t ns)) ((σ.set j none).set j (some (.ref b)))
          rw [List.set_set]
          exact this
        · refine evt_yes ⟨rfl, fun _ => (hs ns m' (List.mem_of_getElem? hns) hx).imp fun x m3 ⟨hx3, hm3⟩ => ⟨hm3, ?_⟩, fun z => nomatch z⟩
          rw [hw, hx3, take_one hns, List.map_append]; rfl
      · intro H' hP
        rw [hlen] at hP
        obtain ⟨G', acc, hw, hl, S', e'⟩ := hP
        rw [List.take_length] at hw
        subst hw
        exact k _ H' G' _ _ (q D hmD) S' (e1.trans e') .v
theorem VRs.prs {G : Hp} : ∀ {kds : List (List Int × PyData)} {xs : List V}, VRs K G (kds.map fun kd => .p kd.1 kd.2) xs → ∃ ps : List Pr, xs = ps.map (fun p => V.ref p.1) ∧ ps.map (·.2.1) = kds.map (fun kd => kI kd.1) ∧
    (∀ p ∈ ps, G p.1 = some (.tup [.ref p.2.2.1, p.2.2.2]) ∧ G p.2.2.1 = some (.tup (p.2.1.map kV))) ∧ KVs K G (kds.map fun kd => (kI kd.1, Val.d kd.2)) (ps.map fun p => (p.2.1, p.2.2.2))
  | [], xs, h => by
    have h : xs = [] := h
    subst h
    exact ⟨[], rfl, rfl, fun _ hp => (nomatch hp), rfl⟩
  | kd :: t, xs, h => by
    obtain ⟨x, u, rfl, h1, h2⟩ := h
    obtain ⟨ps, rfl, e2, e3, e4⟩ := VRs.prs h2
    cases h1 with
    | p g1 g2 g3 =>
      rename_i a b w
      refine ⟨(a, kI kd.1, b, w) :: ps, rfl, by rw [List.map_cons, List.map_cons, e2], fun p hp => ?_, ⟨w, _, rfl, .d g3, e4⟩⟩
      rcases List.mem_cons.mp hp with rfl | hp
      · exact ⟨g1, by rw [kI_kV]; exact g2⟩
      · exact e3 p hp
theorem on_dictP {q : Addr} {kds : List (List Int × PyData)} (hm : m q = some (.lst (kds.map fun kd => .p kd.1 kd.2))) (hn : (kds.map (·.1)).Nodup)
    (k0 : ∀ d, m d = none → Q (.v (.ref d)) (put m d (.dT (kds.map fun kd => (kI kd.1, Val.d kd.2))))) : OpN K (rDictPT K) [.v (.ref q)] m Q := fun H G vs S a R k => by
  obtain ⟨v, rfl, rv⟩ := vrs1 a
  obtain rfl := rv.eq
  obtain ⟨xs, g1, g2⟩ := S.mem q _ hm
  obtain ⟨ps, rfl, e2, e3, e4⟩ := g2.prs
  refine ⟨q, ps, rfl, Or.inl (Rd.of g1), fun p hp => ?_, ?_, fun d hd => ?_⟩
  · obtain ⟨b1, b2⟩ := e3 p hp
    exact ⟨SqT.of (S.sub _ _ b1), S.sub _ _ b2⟩
  · rw [e2]
    have : (kds.map fun kd => kI kd.1) = (kds.map (·.1)).map kI := by rw [List.map_map]; rfl
    rw [this]
    exact hn.map _ fun x y ne e => ne (kI_inj e)
  · exact k _ _ G _ _ (k0 d (S.freeM hd)) (S.new hd ⟨_, upd_same, e4⟩) (Le.refl G) .v
end
theorem kDictP {X : Cx} {j : Nat} (K : PySem.W.Frag) (hr : Room j X.A) (hc : X.calm = true := by rfl) (h : X.K = K := by rfl) : CallR X (.type "dict") (rDictPT K) := h ▸ cr_dictPT hc (by have := hr.un; have := hr.dp; omega)
end DL

/-! code that runs while an exception is handled: comprehensions over a range, defs that are handed the exception -/
namespace DL
open PySem L2 PySem.Spec PyProof.Rows L2H

/-- a comprehension's own context, the handled exception still in sight -/
abbrev blkP (X : Cx) (s : Shared) (H : Hp) (scope : Scope) (env : Env) (fp : List Addr) : Cx := { X.blk s H scope env fp with pn := X.pn }
theorem Inv.sight {X : Cx} {s0 : Shared} {H0 : Hp} {scope : Scope} {env : Env} {fp : List Addr} {σ : L2.St} {H : Hp} {s : Shared} (I : Inv (X.blk s0 H0 scope env fp) [] σ H s)
    (hp : ∀ p ∈ X.pn, s.heap.get? p.1 = some p.2 ∧ H p.1 = none ∧ p.1 ≠ env.locals ∧ p.1 ∉ frs X.stack ∧ ∀ v, p.2.data ≠ .cell v) : Inv (blkP X s0 H0 scope env fp) [] σ H s :=
  ⟨⟨I.ok.mod, I.ok.kind, I.ok.glob, I.ok.blt, I.ok.above, I.ok.inj, I.ok.has, I.ok.cab, I.ok.hd, I.ok.frames, I.ok.stk, I.ok.exf, I.ok.bs, I.ok.bsz, I.ok.noex, I.ok.exfs, I.ok.funs, I.ok.frf⟩, I.os, I.bare, I.base, I.loc, I.cell, I.free, I.freeC,
    fun p z => hp p (by simpa using z), I.hok, I.len⟩
section
variable {X : Cx}
theorem pe_lcH {elt tg iter : Expr} {ifs : List Expr} {scope : Scope} {own : List (Str × Nat)} {pos : Pos} {wi : TI} {g : TG} {tt : TT} {te : TE} (hot : HotC X) (hN : X.N.Nodup) (hi : PIH X tg iter wi) (ok : BlkOk X.N X.env.scope scope own)
    (hg : ∀ (s : Shared) (H : Hp) (C : Addr) (cl : List (Str × Addr)) (fp : List Addr), PG (blkP X s H scope (compEnvC scope cl C X.env) fp) tg g)
    (ht : ∀ (s : Shared) (H : Hp) (C : Addr) (cl : List (Str × Addr)) (fp : List Addr), PTs (blkP X s H scope (compEnvC scope cl C X.env) fp) ifs tt)
    (he : ∀ (s : Shared) (H : Hp) (C : Addr) (cl : List (Str × Addr)) (fp : List Addr), PE (blkP X s H scope (compEnvC scope cl C X.env) fp) elt te) (hs : ∀ x, foldedSetIterable iter X.env x = pure x := by intro _; rfl) :
    PE X (.ListComp elt [⟨tg, iter, ifs, 0⟩] scope pos) (tLc wi g tt te (own.map (·.2))) := by
  refine ⟨fun pins s σ H Q I h => ?_⟩
  rw [eval_ListComp]
  have cells : ∀ y ∈ scope.names, y.2 = .free → ∃ c, X.env.cells.lookup y.1 = some c := fun y hy e => (ok.free y hy e).elim (fun k => I.ok.has _ (.inl k)) fun k => I.ok.has _ (.inr k)
  refine wpAny_comprehension_free (use := none) rfl hs (closure_ok cells) ok.kind (fun y hy e => by rw [ok.uniq y hy, e]) (thn (hi.run pins s σ H _ I h) fun _ _ hx => thn hx fun itv s2 h2 => ?_)
  obtain ⟨it, fp, tn, J, H2, rfl, I2, T, st2, f2, q⟩ := h2
  refine wpAny_newObj_type (newEnv_comp ?_) (by show 0 ≤ sizeLine; decide)
  -- the new list, at the next free place
  generalize eD : s2.heap.objs.size = D
  obtain ⟨W, ⟨m0, w0⟩, turn⟩ := q D (I2.hok.fresh (Nat.le_of_eq eD))
  generalize e3 : ({ s2 with heap := s2.heap.push { cls := .type "list", data := .seq ([] : List Value).toArray } } : Shared) = s3
  have hh3 : s3.heap = s2.heap.push { cls := .type "list", data := .seq ([] : List Value).toArray } := by rw [← e3]
  have hz3 : s3.heap.objs.size = s2.heap.objs.size + 1 := by rw [hh3]; exact Heap.size_push ..
  have old3 : ∀ b o, s2.heap.get? b = some o → s3.heap.get? b = some o := fun b o e => by rw [hh3]; exact Heap.get?_push_of_some _ e
  have I3 : Inv X pins σ (upd H2 D (.lst [])) s3 := by
    have new : ObjOk X.prog X.w (upd H2 D (.lst [])) (s2.heap.push { cls := .type "list", data := .seq ([] : List Value).toArray }) D (.lst []) := ⟨Nat.zero_le _, [], 0, .nil, by rw [← eD]; exact Heap.get?_push_size _ rfl⟩
    rw [← e3]
    exact I2.laid (t' := s2.toks) (fun b o e => Heap.get?_push_of_some _ e) (Nat.le_of_eq eD) new
  have low : ∀ b ∈ fp, b < s2.heap.objs.size := fun b hb => by
    obtain ⟨o, e, _⟩ := T.obj _ _ st2 b hb
    exact Heap.lt_size e
  have f3 : ∀ b ∈ fp, FpOk X pins (upd H2 D (.lst [])) b ∧ b < s3.heap.objs.size := fun b hb => by
    have hb2 := low b hb
    have hbD : b ≠ D := by rw [← eD]; exact Nat.ne_of_lt hb2
    exact ⟨⟨by rw [upd_ne hbD]; exact (f2 b hb).1, (f2 b hb).2⟩, by rw [hz3]; exact Nat.lt_succ_of_lt hb2⟩
  have st3 : tn 0 s3.heap := T.keep _ _ _ st2 fun b _ o e => old3 b o e
  -- the exception, seen from within
  have seen : ∀ p ∈ X.pn, s3.heap.get? p.1 = some p.2 ∧ (upd H2 D (.lst [])) p.1 = none ∧ p.1 ∉ frs X.stack ∧ (∀ v, p.2.data ≠ .cell v) ∧ p.1 < s3.heap.objs.size := fun p hp => by
    obtain ⟨a1, a2, a3, a4, a5⟩ := I3.pin p (List.mem_append_left _ hp)
    exact ⟨a1, a2, fun z => (List.mem_cons.mp (I3.stkSub p.1 z)).elim a3 a4, a5, Heap.lt_size a1⟩
  have I4 := block_start I3 ok hN f3
  show codeAny _ _ (.compStart (.ListComp elt [⟨tg, iter, ifs, 0⟩] scope pos) 0 (.ref it) (.ref D) (compEnvC scope (cellsFrom (s3.heap.objs.size + 1) scope.names (cloFrom X.env.cells scope.names [])) s3.heap.objs.size X.env)) (compPost (model X.prog X.w) X.A X.xe none (EP X pins σ Q) (.ref D) s3.heap.objs.size) _
  have I4 := Inv.sight I4 fun p hp => by
    obtain ⟨a1, a2, a3, a4, a5⟩ := seen p hp
    exact ⟨pushCells_keeps _ _ _ _ (Heap.get?_push_of_some _ a1), a2, Nat.ne_of_lt a5, a3, a4⟩
  have pg := hg s3 (upd H2 D (.lst [])) s3.heap.objs.size (cellsFrom (s3.heap.objs.size + 1) scope.names (cloFrom X.env.cells scope.names [])) fp
  have pt := ht s3 (upd H2 D (.lst [])) s3.heap.objs.size (cellsFrom (s3.heap.objs.size + 1) scope.names (cloFrom X.env.cells scope.names [])) fp
  have pe := he s3 (upd H2 D (.lst [])) s3.heap.objs.size (cellsFrom (s3.heap.objs.size + 1) scope.names (cloFrom X.env.cells scope.names [])) fp
  have away : ∀ b ∈ fp, (upd H2 D (.lst [])) b = none := fun b hb => (f3 b hb).1.1
  have apart : ∀ b ∈ fp, ∀ p ∈ X.pn, p.1 ≠ b := fun b hb p hp => (f3 b hb).1.2.2.2.2.2 p (List.mem_append_left _ hp)
  generalize ece : compEnvC scope (cellsFrom (s3.heap.objs.size + 1) scope.names (cloFrom X.env.cells scope.names [])) s3.heap.objs.size X.env = ce at I4 pg pt pe ⊢
  have cL : ce.locals = s3.heap.objs.size := by rw [← ece]; rfl
  generalize eH3 : upd H2 D (.lst []) = H3 at I3 I4 pg pt pe w0 away f3
  generalize e4 : ({ s3 with heap := pushCells (s3.heap.push { cls := .type "dict", data := .dict #[] }) scope.names } : Shared) = s4 at I4 ⊢
  have st4 : tn 0 s4.heap := T.keep _ _ _ st3 fun b _ o e => by rw [← e4]; exact pushCells_keeps _ _ _ _ (Heap.get?_push_of_some _ e)
  have hotB : HotC (blkP X s3 H3 scope ce fp) := by
    obtain ⟨p, h1, hp⟩ := hot
    exact ⟨p, h1, hp⟩
  have stat : ∀ {σ' : L2.St} {H' : Hp} {s' : Shared}, Inv (blkP X s3 H3 scope ce fp) [] σ' H' s' → (∀ b ∈ fp, H' b = none) → ∀ b ∈ fp, FpOk (blkP X s3 H3 scope ce fp) [] H' b := fun I' hn b hb =>
    ⟨hn b hb, (I'.ok.exf b hb).1, I'.ok.exfs b hb, .inl hb, fun y c e => (I'.ok.exf b hb).2 y c e, fun p hp => apart b hb p (by simpa using hp)⟩
  have loop : codeAny (model X.prog X.w) X.A (.compLoop (.ListComp elt [⟨tg, iter, ifs, 0⟩] scope pos) 0 (.ref it) (.ref D) ce) (compPost (model X.prog X.w) X.A X.xe none (EP X pins σ Q) (.ref D) s3.heap.objs.size) s4 := by
    refine compLoop_any (fun n s' => ∃ i H', Inv (blkP X s3 H3 scope ce fp) [] (wipe σ (own.map (·.2))) H' s' ∧ tn i s'.heap ∧ (∀ b ∈ fp, H' b = none) ∧ W i n H') ?_ m0 ⟨0, H3, I4, st4, away, w0⟩
    rintro n s5 ⟨i, H5, I5, st5, n5, w5⟩
    rcases turn i n H5 w5 with ⟨stop, qq⟩ | ⟨go, Nx, hNx, step⟩
    · refine thnF (T.done (blkP X s3 H3 scope ce fp) rfl rfl rfl hotB i [] s5 _ H5 (fun _ _ => False) I5 (stat I5 n5) st5 stop) fun r s6 hd => ?_
      obtain ⟨rfl, I6⟩ := hd
      have back : Inv X pins σ H5 s6 := I3.call' (ch := fp) I6.os I6.base I6.hok I6.bare fun b hb => ⟨(f3 b hb).1.2.2.2.1, (f3 b hb).1.2.1, (f3 b hb).1.2.2.2.2.1, (f3 b hb).1.2.2.2.2.2⟩
      have nC : H5 s3.heap.objs.size = none := by
        have z : H5 ce.locals = none := I6.free
        rwa [cL] at z
      obtain ⟨m, hn, _⟩ := I6.loc
      have hn : s6.heap.Ns ce.locals m := hn
      rw [cL] at hn
      obtain ⟨f0, f1, _, f3', f4, f5⟩ := I3.fpOk (Nat.le_refl _) nC
      exact ⟨m, hn, fun h'' sb => ⟨.ref D, H5, back.turned (t' := s6.toks) (fun b o hb e => (sb.2 b hb).trans e) f0 f1 f3' f4 f5, rfl, qq⟩⟩
    · refine thnF (T.item (blkP X s3 H3 scope ce fp) rfl rfl rfl hotB i [] s5 _ H5 (fun _ _ => False) I5 (stat I5 n5) st5 go) fun r s6 hi6 => ?_
      obtain ⟨u, rfl, h6⟩ := hi6
      refine thnF h6 fun _ s7 ⟨x, H7, I7, r7, y7, st7, n7⟩ => ?_
      have I7' := I7.pinned (stat I7 n7) (T.obj _ _ st7)
      refine thnF (pg.run _ s7 _ H7 x u _ I7' r7 (step x H7 y7)) fun _ s8 ⟨σ8, H8, I8, hw8, q8⟩ => thnF (pt.run _ s8 σ8 H8 _ I8 q8) fun b s9 ⟨H9, I9, q9⟩ => ?_
      have fin : ∀ {s' : Shared} {H' : Hp}, Inv (blkP X s3 H3 scope ce fp) ([] ++ pinsAt fp s7.heap) σ8 H' s' → Nx H' →
          ∃ m, m < n ∧ ∃ i H', Inv (blkP X s3 H3 scope ce fp) [] (wipe σ (own.map (·.2))) H' s' ∧ tn i s'.heap ∧ (∀ b ∈ fp, H' b = none) ∧ W i m H' := fun {s' H'} I' nx => by
        obtain ⟨m', hm, w'⟩ := hNx H' nx
        have kept : ∀ b ∈ fp, ∀ o, s7.heap.get? b = some o → s'.heap.get? b = some o ∧ H' b = none := fun b hb o e => by
          have z := I'.pin (b, o) (List.mem_append_right _ (List.mem_append_right _ (mem_pinsAt hb e)))
          exact ⟨z.1, z.2.1⟩
        have hl : (wipe σ (own.map (·.2))).length = σ8.length := by rw [← hw8, wipe_length]
        refine ⟨m', hm, i + 1, H', (I'.unpinned (pins := [])).weak hl (fun j v e => ?_), T.keep _ _ _ st7 fun b hb o e => (kept b hb o e).1, fun b hb => ?_, w'⟩
        · rw [← hw8] at e
          exact (wipe_some e).1
        · obtain ⟨o, e, _⟩ := T.obj _ _ st7 b hb
          exact (kept b hb o e).2
      cases b with
      | false =>
        simp only [Bool.false_eq_true, if_false] at q9 ⊢
        exact fin I9 q9
      | true =>
        simp only [if_true] at q9 ⊢
        refine thnF (pe.run _ s9 σ8 H9 _ I9 q9) fun z s10 ⟨yv, H10, I10, r10, acc, hD10, hz10, nx⟩ => ?_
        exact app_ok (X := blkP X s3 H3 scope ce fp) I10 hD10 hz10 r10 fun s11 I11 => fin I11 nx
  exact codeAny_compStart_list loop (T.self X.A 0 _ _ _ st4 loop)
end
end DL

/-! defs that are handed the exception that is handled; isinstance of it -/
namespace DL
open PySem L2 PySem.Spec PyProof.Rows L2H

structure FnP (P : Program) (w : World) (K : PySem.W.Frag) (mg : Str → Option Value) (base : Heap) (k : Nat) (f : Addr) (fd : FuncData) (ps : List Str) (sp : Addr → Value → Sp) : Prop where
  len : ∀ a c vs H Q E, sp a c vs H Q E → vs.length = ps.length
  run : ∀ (A : Around) (outer : List Env) (s : Shared) (H : Hp) (args : Args) (us : List Value) (vs : List V) (Q : VK) (E : XK) (p : Addr × Obj) (c : Value), RoomH k A → Hot1 A p → Zc c none p.2 → PinOk outer H s p →
    Env0 P w K mg base A outer s H → BindsTo s fd args (ps.zip us) → Vals vs us → sp p.1 c vs H Q E → codeAny (model P w) A (.call (.ref f) args) (CR CX0 outer P w H s Q E) s
section
variable {P : Program} {w : World} {K : PySem.W.Frag} {mg : Str → Option Value} {base : Heap}
theorem fnP_of {x qual : Str} {st : Stmt} {f : Addr} {fd : FuncData} {N ps : List Str} {k : Nat} {sp : Addr → Value → Sp} (F : Fun K x qual st f fd) (S : FnScope N ps (defScope st)) (len : ∀ a c vs H Q E, sp a c vs H Q E → vs.length = ps.length)
    (hbody : ∀ (cdv : Value) (A : Around) (outer : List Env) (s : Shared) (H : Hp) (vs : List V) (Q : VK) (E : XK) (p : Addr × Obj) (c : Value), Hot1 A p → Zc c none p.2 → RoomH k (A.deeper (envOfC qual (defScope st) s.heap.objs.size f cdv)) → sp p.1 c vs H Q E →
      ∃ t, PSs (cxH CX0 P w K mg base N qual (defScope st) f cdv A outer s H E p).nox (defBody st) t ∧ t { nx := fun _ H' => Q .non H', rt := Q } (L2.start N vs) H) : FnP P w K mg base (k + 1) f fd ps sp := by
  obtain ⟨oc, od, kV, doc, pm, an, cdv, ct, osl, rfl, lk, hcd⟩ := F.ex
  refine ⟨len, fun A outer s H args us vs Q E p c hr hot hz hpin e0 hb r hsp => ?_⟩
  have here : ∀ b o, base.get? b = some o → s.heap.get? b = some o := fun b o e => (e0.bs b o e).1
  have KX : K.In s.heap := e0.mod.kin.keeps here
  have par : ∀ y ∈ ps.zip us, (defScope st).names.lookup y.1 = some .local ∨ ((defScope st).names.lookup y.1 = some .cell ∧ ((cellsFrom (s.heap.objs.size + 1) (defScope st).names []).lookup y.1).isSome = true) := fun y hy =>
    (S.par y.1 (List.of_mem_zip (a := y.1) (b := y.2) hy).1).imp id fun q => ⟨q, PySem.W.cellsFrom_some _ _ _ (.inl q)⟩
  refine codeAny_call_function hr.depth (KX _ _ lk) rfl S.co S.gen rfl (PySem.W.codeRec_of KX hcd) (hb _ _ _ _ (wpAny_newFunctionEnv_cells S.kind par fun env he s1 x => ?_))
  subst he
  obtain ⟨t, ht, hq⟩ := hbody cdv A outer s H vs Q E p c hot hz (hr.deeper _) hsp
  have I : Inv (cxH CX0 P w K mg base N qual (defScope st) f cdv A outer s H E p) [] (L2.start N vs) H s1 := inv_startH S hpin e0 (len _ _ _ _ _ _ hsp) r x
  refine ⟨(e0.mod.nolimit.keeps here).keeps x.toInCall.keep, codeAny_func (wpAny_mono (ht.nox.run [] s1 (L2.start N vs) H _ I hq) (fun fl s' hs => ?_) fun e s' hs => hs)⟩
  cases fl with
  | ret u =>
    obtain ⟨v, σ', H', J, rv, q⟩ := hs
    exact ⟨v, H', J.os, J.bare, J.base, J.hok, rv, q⟩
  | next =>
    obtain ⟨σ', H', J, q⟩ := hs
    exact ⟨.non, H', J.os, J.bare, J.base, J.hok, rfl, q⟩
  | brk =>
    obtain ⟨_, _, _, q⟩ := hs
    exact q.elim
  | cont =>
    obtain ⟨_, _, _, q⟩ := hs
    exact q.elim
end
/-- the exception that is handled, seen in a context: where it stands and its class -/
def Sees (X : Cx) (a : Addr) (c : Value) : Prop := ∃ oe : Obj, (a, oe) ∈ X.pn ∧ Hot1 X.A (a, oe) ∧ Zc c none oe
theorem Sees.hot {X : Cx} {a : Addr} {c : Value} (h : Sees X a c) : HotC X := by
  obtain ⟨oe, h1, h2, _⟩ := h
  exact ⟨(a, oe), h2, h1⟩
section
variable {X : Cx} {k : Nat} {f : Addr} {fd : FuncData} {ps : List Str} {sp : Addr → Value → Sp} {x : Str} {q pos : Pos} {e : Expr} {es : List Expr} {t : TA} {a : Addr} {c : Value}
theorem pe_callP (F : FnP X.prog X.w X.K X.mg X.base k f fd ps sp) (hr : RoomH k X.A) (hc : Sees X a c) (hg : Gl X x) (hm : X.mg x = some (.ref f)) (hk : PySem.W.keepIn X.K (.ref f) = true) (hb : Binds X.K fd ps [])
    (ha : PA X (e :: es) t) (hdb : (x == ("__debug__" : Str)) = false := by decide) (he : starEach (e :: es) X.env = (false, eval e X.env) :: starEach es X.env := by rfl) (hpl : (backTo pos (starEach es X.env)).any (·.1) = false := by rfl) :
    PE X (.Call (.Name x q) (e :: es) [] pos) (tCall (sp a c) [] E0 t) := by
  refine ⟨fun pins s σ H Q I h => ?_⟩
  refine wpAny_Call_Name_kw (ld_glob I hg hm ?_ hdb)
  refine PySem.W.callWith_K (h₀ := X.base) I.ok.mod.kin hk (thn (ha.run pos pins s σ H _ I h) fun us s1 hh => ?_) he hpl
  obtain ⟨vs, H1, I1, r, hsp⟩ := hh
  refine ⟨I1.kIn, ?_⟩
  rw [List.append_nil] at hsp
  obtain ⟨oe, hp, hot, hz⟩ := hc
  have hl : us.length = ps.length := by rw [← r.length]; exact F.len _ _ _ _ _ _ hsp
  have b := hb s1 us I1.kIn (by rw [List.append_nil]; exact hl)
  rw [List.append_nil] at b
  obtain ⟨p1, p2, p3, p4, p5⟩ := I1.pin (a, oe) (List.mem_append_left _ hp)
  have pin : PinOk X.stack H1 s1 (a, oe) := ⟨p1, p2, fun z => (List.mem_cons.mp (I1.stkSub a z)).elim p3 p4, p5⟩
  refine wpAny_call (codeAny_mono (F.run X.A X.stack s1 H1 ⟨us, []⟩ us vs Q E0 (a, oe) c hr hot hz pin I1.env0 b r hsp) fun r s' hq => ?_)
  cases r with
  | error e => exact (pass0 pins σ H1 s1 e s' I1 hq)
  | ok fl =>
    cases fl with
    | ret u => exact I1.after hq
    | next => exact hq.elim
    | brk => exact hq.elim
    | cont => exact hq.elim
theorem call_isP {D : Addr} (hc : Sees X a (.ref D)) (C : ExcC X.K D) : CallR X (.builtin "isinstance") (rIsE X.K D a) := by
  rintro pins s σ H xs us Q I r ⟨y, cv, b, rfl, hcv, e, qq⟩
  obtain ⟨oe, hp, ⟨_, vs, hv, _⟩, hz⟩ := hc
  cases r with
  | cons rx rr =>
    cases rr with
    | cons rt rr =>
      cases rr
      cases rx
      obtain rfl := hcv _ rt
      have hget := (I.pin (a, oe) (List.mem_append_left _ hp)).1
      have J : PySem.W.InstAt s.heap a oe D none := by
        obtain ⟨oc, od, oda, osl⟩ := oe
        obtain ⟨h1, h2⟩ := hz
        dsimp only at h1 h2 hv
        subst h1 h2 hv
        exact ⟨hget, rfl, rfl, trivial⟩
      exact PySem.W.kia_one (PySem.W.handS_kitx_exc C.hg C.hk C.hs C.hd C.ha C.hn C.ht C.hm) I.kIn J e (fun z => nomatch z) fun tk => ⟨.bl b, H, I.kept (t' := tk) fun _ _ z => z, rfl, qq⟩
theorem kIsP (K : PySem.W.Frag) {D : Addr} (hc : Sees X a (.ref D)) (C : ExcC K D) (h : X.K = K := by rfl) : CallR X (.builtin "isinstance") (rIsE K D a) := by
  subst h; exact call_isP hc C
end
/-! at the level of data -/
def spP (K : PySem.W.Frag) (ok : Addr → Prop) (f : Addr → Addr → FSp) : Addr → Value → Sp := fun a c vs H Q E => ∃ D, c = .ref D ∧ ok D ∧ spD K (f a D) vs H Q E
section
variable {K : PySem.W.Frag} {m : Mm} {r : List Val} {Q : Val → Mm → Prop}
theorem on_isE {D a : Addr} {c : V} {cv : Value} {b : Bool} (hc : ∀ u, RelV c u → u = cv) (hk : PySem.W.kitOne K (.ref D) cv = some b) (q : Q (.d (.bool b)) m) : OpN K (rIsE K D a) [.v (.ref a), .v c] m Q := fun H G vs S x R k => by
  obtain ⟨v, w, rfl, h1, h2⟩ := vrs2 x
  obtain rfl := h1.eq
  obtain rfl := h2.eq
  exact ⟨_, cv, b, rfl, hc, hk, k _ H G _ m q S (Le.refl G) vr_bool⟩
theorem relV_ref {C : Addr} : ∀ u, RelV (.ref C) u → u = .ref C := fun u h => h
theorem relV_ty {T : String} : ∀ u, RelV (.ty T) u → u = .type T := fun u h => h
theorem ev_callP {ok : Addr → Prop} {f : Addr → Addr → FSp} {a D : Addr} {t : TA} {E : XK} (hD : ok D) (h : EvA K t r m fun xs m1 => f a D xs m1 Q) : Ev K (tCall (spP K ok f a (.ref D)) [] E t) r m Q := fun σ H G S L R k =>
  h σ H G S L _ fun vs H1 G1 xs m1 h1 S1 e1 r1 => by
    rw [List.append_nil]
    exact ⟨D, rfl, hD, m1, G1, xs, Q, S1, r1, h1, fun v' H3 G3 z m3 h3 S3 e3 r3 => k v' H3 G3 z m3 h3 S3 (e1.trans e3) r3⟩
end
section
variable {P : Program} {w : World} {K : PySem.W.Frag} {mg : Str → Option Value} {base : Heap}
structure ClP (P : Program) (w : World) (K : PySem.W.Frag) (mg : Str → Option Value) (base : Heap) (k : Nat) (x : Str) (ok : Addr → Prop) (sp : Addr → Addr → FSp) : Prop where
  ex : ∃ f fd ps, FnP P w K mg base k f fd ps (spP K ok sp) ∧ mg x = some (.ref f) ∧ PySem.W.keepIn K (.ref f) = true ∧ Binds K fd ps []
theorem pe_clP {X : Cx} {k j : Nat} {x : Str} {ok : Addr → Prop} {sp : Addr → Addr → FSp} {e : Expr} {es : List Expr} {t : TA} {p pos : Pos} {a : Addr} {c : Value} (cl : ClP P w K mg base k x ok sp) (hr : RoomH j X.A) (hk : k ≤ j) (hc : Sees X a c) (hg : Gl X x) (ha : PA X (e :: es) t)
    (hP : X.prog = P := by rfl) (hw : X.w = w := by rfl) (hK : X.K = K := by rfl) (hmg : X.mg = mg := by rfl) (hbs : X.base = base := by rfl) (hdb : (x == ("__debug__" : Str)) = false := by decide)
    (he : starEach (e :: es) X.env = (false, eval e X.env) :: starEach es X.env := by rfl) (hpl : (backTo pos (starEach es X.env)).any (·.1) = false := by rfl) :
    PE X (.Call (.Name x p) (e :: es) [] pos) (tCall (spP K ok sp a c) [] E0 t) := by
  subst hP hw hK hmg hbs
  obtain ⟨f, fd, ps, F, hm, hkp, hb⟩ := cl.ex
  exact pe_callP F (hr.mono hk) hc hg hm hkp hb ha hdb he hpl
theorem fnP_ok {x qual : Str} {st : Stmt} {f : Addr} {fd : FuncData} {N ps : List Str} {k : Nat} {ok : Addr → Prop} {sp : Addr → Addr → FSp} (F : Fun K x qual st f fd) (S : FnScope N ps (defScope st)) (hl : ∀ a D args m R, sp a D args m R → args.length = ps.length)
    (hb : ∀ (cdv : Value) (A : Around) (outer : List Env) (s : Shared) (H : Hp) (E : XK) (p : Addr × Obj) (D : Addr), ok D → Sees (cxH CX0 P w K mg base N qual (defScope st) f cdv A outer s H E p).nox p.1 (.ref D) → RoomH k (A.deeper (envOfC qual (defScope st) s.heap.objs.size f cdv)) →
      ∃ t, PSs (cxH CX0 P w K mg base N qual (defScope st) f cdv A outer s H E p).nox (defBody st) t ∧
        ∀ args m R, sp p.1 D args m R → Wp K t (args ++ List.replicate (N.length - args.length) .any) m (fun _ m' => R (.d .none) m') R) : FnP P w K mg base (k + 1) f fd ps (spP K ok sp) := by
  refine fnP_of F S (fun a c vs H Q E h => ?_) (fun cdv A outer s H vs Q E p c hot hz hr h => ?_)
  · obtain ⟨D, _, _, m, G, args, R, _, r1, h1, _⟩ := h
    rw [r1.length]; exact hl a D args m R h1
  · obtain ⟨D, rfl, hD, m, G, args, R, S1, r1, h1, k1⟩ := h
    have hs : Sees (cxH CX0 P w K mg base N qual (defScope st) f cdv A outer s H E p).nox p.1 (.ref D) := ⟨p.2, List.mem_singleton.mpr rfl, hot, hz⟩
    obtain ⟨t, ht, hw⟩ := hb cdv A outer s H E p D hD hs hr
    refine ⟨t, ht, hw args m R h1 _ H G _ S1 ?_ (fun σ' H' G' r' m' hn S' e' L' => k1 .non H' G' (.d .none) m' hn S' e' (.d (rp_none.mpr rfl))) (fun v H' G' x m' hn S' e' L' => k1 v H' G' x m' hn S' e' L')⟩
    unfold L2.start
    rw [r1.length]
    exact Sl.start _ r1
/-- hot forms of a few rules -/
theorem kEqH {X : Cx} {j : Nat} (K : PySem.W.Frag) (hr : RoomH j X.A) (h : X.K = K := by rfl) : OpR X (compareOp .Eq) (rEqA K) := by
  subst h
  exact op_eq.or (op_eqD (by have := hr.un; omega))
end
end DL

/-! try .. except C as n, n a name that a comprehension of the suite reads (a cell); all that is raised is of C -/
namespace DL
open PySem L2 PySem.Spec PyProof.Rows L2H

section
variable {X : Cx} {pins : List (Addr × Obj)} {σ : L2.St} {H : Hp} {s : Shared}
/-- a name's cell is emptied -/
theorem Inv.emptied {i : Nat} {n : Str} {c : Addr} {h' : Heap} (I : Inv X pins σ H s) (hN : X.N.Nodup) (hi : X.N[i]? = some n) (hk : X.env.kindOf n = some .cell) (hfn : X.fn n = true) (hc : X.env.cells.lookup n = some c) (he : h'.IsCell c none) (sb : Heap.SameBut c s.heap h') :
    Inv X pins (σ.set i none) H { s with heap := h' } := by
  obtain ⟨m, hn, hl⟩ := id I.loc
  have low : ∀ b o, X.s_0.heap.get? b = some o → b ≠ c := fun b o e => Nat.ne_of_lt (Nat.lt_of_lt_of_le (Heap.lt_size e) (I.ok.cab n c hfn hc))
  have hHc : H c = none := I.freeC n c hc
  refine ⟨I.ok, I.os, I.bare, ⟨fun b o e k hb hx => (sb.2 b (low b o e)).trans (I.base.keep b o e k hb hx), fun b o e k hb hx => ?_, I.base.free, fun b o e hx => ?_, I.base.tups, I.base.frzs, I.base.tbls⟩,
    ⟨m, hn.sameBut sb (Ne.symm (I.cne n c hc)), fun j y v e1 e2 e3 => ?_⟩, fun y d e => ?_, I.free, I.freeC, fun p hp => ?_, fun b ob e => ?_, by rw [List.length_set]; exact I.len⟩
  · obtain ⟨sl, e1⟩ := I.base.slot b o e k hb hx
    exact ⟨sl, (sb.2 b (low b o e)).trans e1⟩
  · obtain ⟨o', e1⟩ := I.base.there b o e hx
    exact ⟨o', (sb.2 b (low b o e)).trans e1⟩
  · have hj : j ≠ i := fun z => by
      subst z
      rw [List.getElem?_set] at e2
      split at e2
      · split at e2 <;> cases e2
      · rename_i q; exact q rfl
    rw [List.getElem?_set_ne (Ne.symm hj)] at e2
    obtain ⟨u, ru, look⟩ := hl j y v e1 e2 e3
    refine ⟨u, ru, ?_⟩
    rcases look with ⟨k, e⟩ | ⟨k, d, e, z⟩
    · exact .inl ⟨k, e⟩
    · refine .inr ⟨k, d, e, z.sameBut sb fun q => hj ?_⟩
      have : y = n := I.ok.inj y n c (q ▸ e) hc
      exact nodup_ix hN e1 (this ▸ hi)
  · by_cases q : d = c
    · exact ⟨none, q ▸ he⟩
    · obtain ⟨w, z⟩ := I.cell y d e
      exact ⟨w, z.sameBut sb q⟩
  · obtain ⟨e, k, ne, nf, nc⟩ := I.pin p hp
    obtain ⟨w, o, ho, hd⟩ := I.cell n c hc
    have : p.1 ≠ c := fun q => by
      rw [q, ho] at e
      injection e with e
      exact nc w (e ▸ hd)
    exact ⟨(sb.2 p.1 this).trans e, k, ne, nf, nc⟩
  · refine (I.hok b ob e).stay (fun d w hd q => (sb.2 d ?_).trans q) (fun _ q => q) fun _ _ q => q
    rintro rfl
    rcases hd with rfl | hd
    · rw [hHc] at e; cases e
    · rw [hHc] at hd; cases hd
theorem gone_cell {M : Model} {A : Around} {E : Value → Shared → Prop} {i : Nat} {n : Str} {pos : Pos} {Q : Unit → Shared → Prop} (I : Inv X pins σ H s) (hN : X.N.Nodup) (hi : X.N[i]? = some n) (hk : X.env.kindOf n = some .cell) (hfn : X.fn n = true)
    (h : ∀ s', Inv X pins (σ.set i none) H s' → Q () s') : wpAny M A (do bindName X.env n .none; unbindBehindTheSuite X.env n pos) Q E s := by
  refine wpAny_bind (wpAny_bindName (store_ok (v := .non) I hN hi (.inr hk) rfl (fun s1 I1 => ?_) (.inl hfn)))
  obtain ⟨m, _, hl⟩ := id I1.loc
  have hlt : i < σ.length := by rw [I.len]; exact (List.getElem?_eq_some_iff.mp hi).1
  obtain ⟨u, _, look⟩ := hl i n .non hi (by rw [List.getElem?_set_self hlt]) (.inr (.inl hk))
  obtain ⟨c, hc, z⟩ : ∃ c, X.env.cells.lookup n = some c ∧ s1.heap.IsCell c (some u) := by
    rcases look with ⟨k, _⟩ | ⟨_, c, e, z⟩
    · rw [hk] at k; cases k
    · exact ⟨c, e, z⟩
  unfold unbindBehindTheSuite
  refine wpAny_onRaise ?_
  unfold unbindName
  refine wpAny_bind (wpAny_point (wpAny_bind ?_))
  unfold deleteName
  simp only [hk]
  refine wpAny_bind (wpAny_cellOf hc (wpAny_bind (wpAny_cellGet z ?_)))
  simp only [Option.isSome_some, if_true]
  refine wpAny_cellSet z fun h' hc' sb => wpAny_point ?_
  have J := Inv.emptied I1 hN hi hk hfn hc hc' sb
  rw [List.set_set] at J
  exact h _ J
end
/-- what a try wishes of what its body raises: it is of the class c, and the suite does with it at a (in slot i) what is wanted -/
def wC (K : PySem.W.Frag) (c : Value) (i : Nat) (ts : Addr → Value → Option Addr → TS) (D : Ends) : L2.WX := fun cls d σ H => PySem.W.exmOne K cls c = some true ∧
  ∀ a, H a = none → ts a cls d ⟨fun σ' H' => D.nx (σ'.set i none) H', D.rt, fun σ' H' => D.bk (σ'.set i none) H', fun σ' H' => D.ct (σ'.set i none) H'⟩ (σ.set i (some (.ref a))) H
def tTryC (K : PySem.W.Frag) (c : Value) (i : Nat) (ts : Addr → Value → Option Addr → TS) (tb : L2.WX → TS) : TS := fun D σ H => tb (wC K c i ts D) D σ H
theorem ps_tryC0 {X : Cx} {x n : Str} {c : Value} {i : Nat} {body suite : List Stmt} {b₀ : Stmt} {np pos pos' : Pos} {tb : L2.WX → TS} {ts : Addr → Value → Option Addr → TS} (hs : X.stack = X.env :: X.outer) (hf : X.env.frame = some X.env.locals) (hN : X.N.Nodup) (hi : X.N[i]? = some n)
    (hk : X.env.kindOf n = some .cell) (hfn : X.fn n = true) (hc : Names X x c)
    (hb : ∀ (W : L2.WX) (pn : List (Addr × Obj)) (xe : Value → Shared → Prop), L2N.Takes (X.tr pn xe) W → PassesOwn (model X.prog X.w) X.A X.env xe → PSs (X.tr pn xe) body (tb W))
    (hsu : ∀ (a : Addr) (oe : Obj) (cls : Value) (d : Option Addr) (pn : List (Addr × Obj)), L2N.Zn cls d oe → (∃ vs, oe.data = .fields vs) → PSs (X.suite a ((a, oe) :: pn)) (b₀ :: suite) (ts a cls d)) :
    PS X (.Try body [.ExceptHandler (some (.Name x np)) (some n) (b₀ :: suite) pos'] [] [] pos) (fun D σ H => tb (wC X.K c i ts D) D σ H) := by
  refine ⟨fun pins s σ H D I h => ?_⟩
  have frs2 : X.A.frames = some (X.env :: X.outer) := by rw [I.ok.frames, hs]
  -- the body runs with this wish
  let xe' : Value → Shared → Prop := fun e s₁ => wpAny (model X.prog X.w) X.A (noteFrame e X.env) (fun _ s₂ => wpAny (model X.prog X.w) X.A (setFlight e none) (fun _ s₃ =>
    wpAny (model X.prog X.w) X.A (handleBy e X.env [.ExceptHandler (some (.Name x np)) (some n) (b₀ :: suite) pos']) (SP X pins D) X.xe s₃) X.xe s₂) X.xe s₁
  have caught : L2N.Takes (X.tr (X.pn ++ pins) xe') (wC X.K c i ts D) := fun u s' got => by
    obtain ⟨a, B, sI, pins', σ', H', cls, d, rfl, J', nb, up, sky, na, os, ag, isC, run⟩ := got
    have J : Inv X pins σ' H' sI := J'.ofTry I.ok
    have sky2 : Sky B (X.env :: X.outer) a (L2N.Zn cls d) X.env.locals s'.heap := by rw [← hs]; exact sky
    show wpAny (model X.prog X.w) X.A (noteFrame (.ref a) X.env) _ _ _
    refine L2N.Sky.land L2N.Zn.steady frs2 hf sky2 fun h3 fl3 up3 => ?_
    have J3 : Inv X pins σ' H' { s' with heap := h3 } := J.landed nb fl3.1 (up.trans up3) os ag
    obtain ⟨o3, v3, get3, z3, d3⟩ := fl3.there
    have off : a ∉ frs (X.env :: X.outer) := fun hm => by
      obtain ⟨_, o', e', hnf⟩ := fl3.2.2.1.mem hm
      rw [get3] at e'; cases e'
      exact hnf _ d3
    have nL : a ≠ X.env.locals := fun z => off (List.mem_filterMap.mpr ⟨X.env, List.mem_cons_self, by rw [hf, z]⟩)
    have nF : a ∉ X.fs := fun hm => by
      obtain ⟨e, he, q⟩ := List.mem_filterMap.mp hm
      exact off (List.mem_filterMap.mpr ⟨e, List.mem_cons_of_mem _ he, q⟩)
    have S3 := J3.suite get3 d3 na nL nF
    have LT : PySem.W.Looks (model X.prog X.w) h3 (typeOf (.ref a)) cls := fun A Q E s k q => wpAny_typeOf_ref (k _ _ get3) (by rw [z3.1]; exact q)
    refine wpAny_handleBy_cons (codeAny_handlers_test ?_) (by intro q; cases q)
    have named : ∀ {Q : Value → Shared → Prop} {E : Value → Shared → Prop}, Q c { s' with heap := h3 } → wpAny (model X.prog X.w) (X.A.mark (some (.ref a))) (eval (.Name x np) X.env) Q E { s' with heap := h3 } := fun {Q E} q => by
      obtain ⟨g1, g2, hm | ⟨hm, hv, hnn⟩⟩ := hc
      · exact ld_glob (X := X.suite a ((a, o3) :: (X.pn ++ pins))) S3 g1 hm q g2
      · exact ld_blt (X := X.suite a ((a, o3) :: (X.pn ++ pins))) S3 g1 hm hv q hnn g2
    refine named ((PySem.W.exm_one (M := model X.prog X.w) J3.kIn LT isC).here (codeAny_handlers_suite_as ?_))
    refine HandSPX.lands_againZ fl3 fun h4 fl4 up4 => ?_
    have J4 : Inv X pins σ' H' { s' with heap := h4 } := J.landed nb fl4.1 ((up.trans up3).trans up4) os ag
    obtain ⟨o4, v4, get4, z4, d4⟩ := fl4.there
    refine store_ok (X := X.suite a ((a, o4) :: (X.pn ++ pins))) (v := .ref a) (J4.suite get4 d4 na nL nF) hN hi (.inr hk) rfl (fun s5 S5 => ?_) (.inl hfn)
    refine wpAny_mono ((hsu a o4 cls d (X.pn ++ pins) z4 ⟨_, d4⟩).run [] s5 _ H' _ S5 (run a na)) (fun f s6 hsp => ?_) (fun _ _ z => z.elim)
    have over : ∀ {σ6 : L2.St} {H6 : Hp} {Q : Shared → Prop}, Inv (X.suite a ((a, o4) :: (X.pn ++ pins))) [] σ6 H6 s6 → (∀ s7, Inv X pins (σ6.set i none) H6 s7 → Q s7) →
        wpAny (model X.prog X.w) X.A (do bindName X.env n .none; unbindBehindTheSuite X.env n pos') (fun _ s7 => Q s7) X.xe s6 := fun S6 hq => gone_cell (S6.unsuite I.ok) hN hi hk hfn hq
    cases f with
    | ret u =>
      obtain ⟨v6, σ6, H6, S6, r6, q6⟩ := hsp
      exact over S6 fun s7 J7 => ⟨_, _, _, J7, r6, q6⟩
    | next =>
      obtain ⟨σ6, H6, S6, q6⟩ := hsp
      exact over S6 fun s7 J7 => ⟨_, _, J7, q6⟩
    | brk =>
      obtain ⟨σ6, H6, S6, q6⟩ := hsp
      exact over S6 fun s7 J7 => ⟨_, _, J7, q6⟩
    | cont =>
      obtain ⟨σ6, H6, S6, q6⟩ := hsp
      exact over S6 fun s7 J7 => ⟨_, _, J7, q6⟩
  refine wpAny_Try_except (wpAny_mono ((hb (wC X.K c i ts D) (X.pn ++ pins) xe' caught PassesOwn.looking).run [] s σ H D (I.toTry _) h) (fun f s1 hsp => ?_) (fun e s1 he => he))
  cases f with
  | next =>
    obtain ⟨σ', H', J', q⟩ := hsp
    exact wpAny_execs_nil ⟨σ', H', J'.ofTry I.ok, q⟩
  | ret u =>
    obtain ⟨v, σ', H', J', r, q⟩ := hsp
    exact ⟨v, σ', H', J'.ofTry I.ok, r, q⟩
  | brk =>
    obtain ⟨σ', H', J', q⟩ := hsp
    exact ⟨σ', H', J'.ofTry I.ok, q⟩
  | cont =>
    obtain ⟨σ', H', J', q⟩ := hsp
    exact ⟨σ', H', J'.ofTry I.ok, q⟩
theorem ps_tryC {X : Cx} {K : PySem.W.Frag} {x n : Str} {c : Value} {i : Nat} {body suite : List Stmt} {b₀ : Stmt} {np pos pos' : Pos} {tb : L2.WX → TS} {ts : Addr → Value → Option Addr → TS} (hs : X.stack = X.env :: X.outer) (hf : X.env.frame = some X.env.locals) (hN : X.N.Nodup) (hi : X.N[i]? = some n)
    (hk : X.env.kindOf n = some .cell) (hfn : X.fn n = true) (hc : Names X x c)
    (hb : ∀ (W : L2.WX) (pn : List (Addr × Obj)) (xe : Value → Shared → Prop), L2N.Takes (X.tr pn xe) W → PassesOwn (model X.prog X.w) X.A X.env xe → PSs (X.tr pn xe) body (tb W))
    (hsu : ∀ (a : Addr) (oe : Obj) (cls : Value) (d : Option Addr) (pn : List (Addr × Obj)), L2N.Zn cls d oe → (∃ vs, oe.data = .fields vs) → PSs (X.suite a ((a, oe) :: pn)) (b₀ :: suite) (ts a cls d)) (hK : X.K = K := by rfl) :
    PS X (.Try body [.ExceptHandler (some (.Name x np)) (some n) (b₀ :: suite) pos'] [] [] pos) (tTryC K c i ts tb) := by
  subst hK
  exact ps_tryC0 hs hf hN hi hk hfn hc hb hsu
end DL

/-! defs that may refuse, and the try that catches, at the level of data -/
namespace DL
open PySem L2 PySem.Spec PyProof.Rows L2H

abbrev FSpX := List Val → Mm → (Val → Mm → Prop) → (Addr → Mm → Prop) → Prop
def spX (K : PySem.W.Frag) (f : FSpX) : Sp := fun vs H Q E => ∃ m G args R X, Sta K m H G ∧ VRs K G args vs ∧ f args m R X ∧ (∀ v H' G' x m', R x m' → Sta K m' H' G' → Le G G' → VR K G' x v → Q v H') ∧
  (∀ C m' H' G', X C m' → Sta K m' H' G' → Le G G' → E (.ref C) none H')
def EvX (K : PySem.W.Frag) (G0 : Hp) (t : TE) (r : List Val) (m : Mm) (Q : Val → Mm → Prop) : Prop :=
  ∀ σ H G, Le G0 G → Sta K m H G → Sl K G r σ → ∀ R : VK, (∀ v H' G' x m', Q x m' → Sta K m' H' G' → Le G G' → VR K G' x v → R v H') → t σ H R
def Wx (K : PySem.W.Frag) (G0 : Hp) (t : TS) (r : List Val) (m : Mm) (N : List Val → Mm → Prop) (E : Val → Mm → Prop) : Prop :=
  ∀ σ H G (D : Ends), Le G0 G → Sta K m H G → Sl K G r σ → (∀ σ' H' G' r' m', N r' m' → Sta K m' H' G' → Le G G' → Sl K G' r' σ' → D.nx σ' H') →
    (∀ v H' G' x m', E x m' → Sta K m' H' G' → Le G G' → VR K G' x v → D.rt v H') → t D σ H
/-- what is refused here is taken -/
def TkX (K : PySem.W.Frag) (G0 : Hp) (r : List Val) (W : L2.WX) (X : Addr → Mm → Prop) : Prop := ∀ C m' H' G' σ, X C m' → Sta K m' H' G' → Le G0 G' → Sl K G' r σ → W (.ref C) none σ H'
section
variable {K : PySem.W.Frag} {G0 : Hp} {r : List Val} {m : Mm} {Q : Val → Mm → Prop} {N : List Val → Mm → Prop} {E : Val → Mm → Prop} {t u : TS} {te ta tb : TE} {tt : TT} {W : L2.WX} {X : Addr → Mm → Prop}
theorem EvX.of (h : Ev K te r m Q) : EvX K G0 te r m Q := fun σ H G _ S L R k => h σ H G S L R k
theorem Wx.of (h : Wp K t r m N E) : Wx K G0 t r m N E := fun σ H G D _ S L a b => h σ H G D S L a b
theorem wx_next (q : N r m) : Wx K G0 tNext r m N E := .of (w_next q)
theorem wx_seq (h : Wx K G0 t r m (fun r1 m1 => Wx K G0 u r1 m1 N E) E) : Wx K G0 (tSeq t u) r m N E := fun σ H G D g0 S L a b =>
  h σ H G { D with nx := u D } g0 S L (fun σ1 H1 G1 r1 m1 h1 S1 e1 L1 => h1 σ1 H1 G1 D (g0.trans e1) S1 L1 (fun σ2 H2 G2 r2 m2 n2 S2 e2 L2 => a σ2 H2 G2 r2 m2 n2 S2 (e1.trans e2) L2)
    (fun v H2 G2 x m2 n2 S2 e2 L2 => b v H2 G2 x m2 n2 S2 (e1.trans e2) L2)) b
theorem wx_if (h : EvT K tt r m fun c m1 => (c = true → Wx K G0 t r m1 N E) ∧ (c = false → Wx K G0 u r m1 N E)) : Wx K G0 (tIfS tt t u) r m N E := fun σ H G D g0 S L a b =>
  h σ H G S L _ fun H1 G1 c m1 h1 S1 e1 => by
    cases c with
    | true =>
      show t D σ H1
      exact h1.1 rfl σ H1 G1 D (g0.trans e1) S1 (L.mono e1) (fun σ2 H2 G2 r2 m2 n2 S2 e2 L2 => a σ2 H2 G2 r2 m2 n2 S2 (e1.trans e2) L2) (fun v H2 G2 x m2 n2 S2 e2 L2 => b v H2 G2 x m2 n2 S2 (e1.trans e2) L2)
    | false =>
      show u D σ H1
      exact h1.2 rfl σ H1 G1 D (g0.trans e1) S1 (L.mono e1) (fun σ2 H2 G2 r2 m2 n2 S2 e2 L2 => a σ2 H2 G2 r2 m2 n2 S2 (e1.trans e2) L2) (fun v H2 G2 x m2 n2 S2 e2 L2 => b v H2 G2 x m2 n2 S2 (e1.trans e2) L2)
theorem wx_asg {i : Nat} (h : EvX K G0 te r m fun x m1 => N (r.set i x) m1) : Wx K G0 (tAsg te (gName i)) r m N E := fun σ H G D g0 S L a b =>
  h σ H G g0 S L _ fun v H1 G1 x m1 q S1 e1 r1 => a (σ.set i (some v)) H1 G1 (r.set i x) m1 q S1 e1 ((L.mono e1).set r1 i)
theorem wx_drop (h : EvX K G0 te r m fun _ m1 => N r m1) : Wx K G0 (tDrop te) r m N E := fun σ H G D g0 S L a b =>
  h σ H G g0 S L _ fun v H1 G1 x m1 q S1 e1 r1 => a σ H1 G1 r m1 q S1 e1 (L.mono e1)
theorem wx_ret (h : EvX K G0 te r m E) : Wx K G0 (tRet te) r m N E := fun σ H G D g0 S L a b => h σ H G g0 S L _ b
/-- raise C(..) -/
def tRaise (C : Addr) (W : L2.WX) : TS := fun _ σ H => W (.ref C) none σ H
theorem wx_raise {C : Addr} (hW : TkX K G0 r W X) (q : X C m) : Wx K G0 (tRaise C W) r m N E := fun σ H G D g0 S L a b => hW C m H G σ q S g0 L
theorem evx_call {f : FSpX} {t : TA} (hW : TkX K G0 r W X) (h : EvA K t r m fun xs m1 => f xs m1 Q X) : EvX K G0 (tCallS (spX K f) (WE W) t) r m Q := fun σ H G g0 S L R k =>
  h σ H G S L _ fun vs H1 G1 xs m1 h1 S1 e1 r1 =>
    ⟨m1, G1, xs, Q, X, S1, r1, h1, fun v' H3 G3 z m3 h3 S3 e3 r3 => k v' H3 G3 z m3 h3 S3 (e1.trans e3) r3, fun C m' H' G' hx S' e' => hW C m' H' G' σ hx S' (g0.trans (e1.trans e')) (L.mono (e1.trans e'))⟩
theorem evx_if (h : EvT K tt r m fun b m1 => (b = true → EvX K G0 ta r m1 Q) ∧ (b = false → EvX K G0 tb r m1 Q)) : EvX K G0 (tIf tt ta tb) r m Q := fun σ H G g0 S L R k =>
  h σ H G S L _ fun H1 G1 b m1 h1 S1 e1 => by
    cases b with
    | true =>
      show ta σ H1 R
      exact h1.1 rfl σ H1 G1 (g0.trans e1) S1 (L.mono e1) R fun v' H3 G3 z m3 h3 S3 e3 r3 => k v' H3 G3 z m3 h3 S3 (e1.trans e3) r3
    | false =>
      show tb σ H1 R
      exact h1.2 rfl σ H1 G1 (g0.trans e1) S1 (L.mono e1) R fun v' H3 G3 z m3 h3 S3 e3 r3 => k v' H3 G3 z m3 h3 S3 (e1.trans e3) r3
/-- a suite that is told only of exceptions without fields of their own -/
def tNoD (d : Option Addr) (t : TS) : TS := fun D σ H => d = none ∧ t D σ H
theorem w_noD (h : Wp K t r m N E) : Wp K (tNoD none t) r m N E := fun σ H G D S L a b => ⟨rfl, h σ H G D S L a b⟩
theorem w_try {tb : L2.WX → TS} {c : Value} {i : Nat} {ts : Addr → Value → Option Addr → TS} (X : Addr → Mm → Prop) (hb : ∀ (W : L2.WX) (G0 : Hp), TkX K G0 r W X → Wx K G0 (tb W) r m N E)
    (hx : ∀ C m', X C m' → PySem.W.exmOne K (.ref C) c = some true ∧ ∀ a, Wp K (ts a (.ref C) none) (r.set i (.v (.ref a))) m' (fun r' m'' => N (r'.set i .any) m'') E) :
    Wp K (fun D σ H => tb (wAs K c i ts (fun _ _ _ _ => False) D) D σ H) r m N E := fun σ H G D S L a b => by
  refine hb (wAs K c i ts (fun _ _ _ _ => False) D) G (fun C m' H' G' σ' hC S' e' L' => ?_) σ H G D (Le.refl G) S L a b
  obtain ⟨h1, h2⟩ := hx C m' hC
  refine ⟨true, h1, fun _ x _ => ?_, fun z => nomatch z⟩
  exact h2 x (σ'.set i (some (.ref x))) H' G' _ S' (L'.set (r := .v (.ref x)) .v i) (fun σ2 H2 G2 r2 m2 hn S2 e2 L2 => a (σ2.set i none) H2 G2 (r2.set i .any) m2 hn S2 (e'.trans e2) (L2.forget i)) fun v H2 G2 y m2 hn S2 e2 L2 => b v H2 G2 y m2 hn S2 (e'.trans e2) L2
theorem w_tryC {tb : L2.WX → TS} {c : Value} {i : Nat} {ts : Addr → Value → Option Addr → TS} (X : Addr → Mm → Prop) (hb : ∀ (W : L2.WX) (G0 : Hp), TkX K G0 r W X → Wx K G0 (tb W) r m N E)
    (hx : ∀ C m', X C m' → PySem.W.exmOne K (.ref C) c = some true ∧ ∀ a, Wp K (ts a (.ref C) none) (r.set i (.v (.ref a))) m' (fun r' m'' => N (r'.set i .any) m'') E) :
    Wp K (tTryC K c i ts tb) r m N E := fun σ H G D S L a b => by
  refine hb (wC K c i ts D) G (fun C m' H' G' σ' hC S' e' L' => ?_) σ H G D (Le.refl G) S L a b
  obtain ⟨h1, h2⟩ := hx C m' hC
  refine ⟨h1, fun x _ => ?_⟩
  exact h2 x (σ'.set i (some (.ref x))) H' G' _ S' (L'.set (r := .v (.ref x)) .v i) (fun σ2 H2 G2 r2 m2 hn S2 e2 L2 => a (σ2.set i none) H2 G2 (r2.set i .any) m2 hn S2 (e'.trans e2) (L2.forget i)) fun v H2 G2 y m2 hn S2 e2 L2 => b v H2 G2 y m2 hn S2 (e'.trans e2) L2
end
theorem takesN0 {X : Cx} : L2N.Takes X (fun _ _ _ _ => False) := fun u s' ⟨_, _, _, _, _, _, _, _, _, _, _, _, _, _, _, _, w⟩ => w.elim
theorem pss_noD {X : Cx} {st : List Stmt} {t : TS} {d : Option Addr} (h : d = none → PSs X st t) : PSs X st (tNoD d t) := ⟨fun pins s σ H D I hw => (h hw.1).run pins s σ H D I hw.2⟩
theorem ps_raiseN {X : Cx} {W : L2.WX} {C : Addr} {x m : Str} {j : Nat} {p p2 pos pos' : Pos} {bmB : List Value} {B newId initId : String} (hc : X.calm = true) (tk : L2N.Takes X W) (F : ExcBaseFacts B newId initId bmB) (q : PySem.W.excIn X.K C bmB newId = true) (gC : X.mg x = some (.ref C))
    (kC : PySem.W.keepIn X.K (.ref C) = true) (r : Raises X (.ref C)) (hg : Gl X x) (hdb : (x == ("__debug__" : Str)) = false := by decide) :
    PS X (.Raise (some (.Call (.Name x p) [.Constant (.str m) j p2] [] pos)) none pos') (tRaise C W) := L2N.ps_raise hc tk (L2N.pmk_own F q gC kC r hg hdb)
/-- what the written part says of a class of refusals -/
structure RfT (K : PySem.W.Frag) (mg : Str → Option Value) (x : Str) (C : Addr) : Prop where
  g : mg x = some (.ref C)
  q : PySem.W.excIn K C [.type "ValueError", .type "Exception", .type "BaseException", .type "object"] "ValueError.__new__" = true
  kp : PySem.W.keepIn K (.ref C) = true
  bs : PySem.W.subIn K (.ref C) (.type "BaseException") = some true
  ty : PySem.W.typeIn K (.ref C) = some (.type "type")
theorem ps_rf {X : Cx} {K : PySem.W.Frag} {mg : Str → Option Value} {W : L2.WX} {C : Addr} {x m : Str} {j : Nat} {p p2 pos pos' : Pos} (T : RfT K mg x C) (tk : L2N.Takes X W) (hg : Gl X x) (hc : X.calm = true := by rfl) (hK : X.K = K := by rfl) (hmg : X.mg = mg := by rfl)
    (hdb : (x == ("__debug__" : Str)) = false := by decide) : PS X (.Raise (some (.Call (.Name x p) [.Constant (.str m) j p2] [] pos)) none pos') (tRaise C W) := by
  subst hK hmg
  exact ps_raiseN hc tk PySem.F.excBase_ValueError T.q T.g T.kp (raises_own T.bs T.ty) hg hdb
/-- the i-th of the classes cs, all of them under gat -/
structure XT (K : PySem.W.Frag) (cs : List Addr) (gat : Addr) (i : Nat) (C : Addr) : Prop where
  exc : ExcC K C
  one : ∀ j, j < 8 → PySem.W.kitOne K (.ref C) (.ref (cs.getD j 0)) = some (decide (j = i))
  gt : PySem.W.kitOne K (.ref C) (.ref gat) = some true
  val : PySem.W.kitOne K (.ref C) (.type "ValueError") = some true
  em : PySem.W.exmOne K (.ref C) (.ref gat) = some true
theorem xt_mk {K : PySem.W.Frag} {c0 c1 c2 c3 c4 c5 c6 c7 gat C : Addr} {i : Nat} (e : ExcC K C) (h0 : PySem.W.kitOne K (.ref C) (.ref c0) = some (decide (0 = i))) (h1 : PySem.W.kitOne K (.ref C) (.ref c1) = some (decide (1 = i))) (h2 : PySem.W.kitOne K (.ref C) (.ref c2) = some (decide (2 = i)))
    (h3 : PySem.W.kitOne K (.ref C) (.ref c3) = some (decide (3 = i))) (h4 : PySem.W.kitOne K (.ref C) (.ref c4) = some (decide (4 = i))) (h5 : PySem.W.kitOne K (.ref C) (.ref c5) = some (decide (5 = i))) (h6 : PySem.W.kitOne K (.ref C) (.ref c6) = some (decide (6 = i)))
    (h7 : PySem.W.kitOne K (.ref C) (.ref c7) = some (decide (7 = i))) (g : PySem.W.kitOne K (.ref C) (.ref gat) = some true) (v : PySem.W.kitOne K (.ref C) (.type "ValueError") = some true) (m : PySem.W.exmOne K (.ref C) (.ref gat) = some true) : XT K [c0, c1, c2, c3, c4, c5, c6, c7] gat i C where
  exc := e
  one := fun j hj => by
    match j, hj with
    | 0, _ => exact h0
    | 1, _ => exact h1
    | 2, _ => exact h2
    | 3, _ => exact h3
    | 4, _ => exact h4
    | 5, _ => exact h5
    | 6, _ => exact h6
    | 7, _ => exact h7
  gt := g
  val := v
  em := m
abbrev okE (K : PySem.W.Frag) (cs : List Addr) (gat : Addr) : Addr → Prop := fun D => ∃ i, XT K cs gat i D
def f_lawClasses (K : PySem.W.Frag) (cs : List Addr) (gat : Addr) : Addr → Addr → FSp := fun a D args m R => ∃ i, XT K cs gat i D ∧ args = [.v (.ref a)] ∧ R (.d (.list ((List.range 8).map fun j => .bool (decide (j = i))))) m
def f_lawOnly (K : PySem.W.Frag) (cs : List Addr) (gat : Addr) : Addr → Addr → FSp := fun a D args m R => ∃ (i n : Nat), XT K cs gat i D ∧ i < 8 ∧ n < 8 ∧ args = [.v (.ref a), .d (.int (n : Int))] ∧ R (.d (.bool (decide (n = i)))) m
theorem sees_suite {X : Cx} {a : Addr} {oe : Obj} {cls : Value} {d : Option Addr} {pn : List (Addr × Obj)} (hz : L2N.Zn cls d oe) (hf : ∃ vs, oe.data = .fields vs) (hd : d = none) : Sees (X.suite a ((a, oe) :: pn)) a cls := by
  obtain ⟨vs, hv⟩ := hf
  subst hd
  exact ⟨oe, List.mem_cons_self, ⟨rfl, vs, hv, hz.2.2 vs hv⟩, hz.1, hz.2.1⟩
section
variable {P : Program} {w : World} {K : PySem.W.Frag} {mg : Str → Option Value} {base : Heap}
structure ClX (P : Program) (w : World) (K : PySem.W.Frag) (mg : Str → Option Value) (base : Heap) (k : Nat) (x : Str) (sp : FSpX) : Prop where
  ex : ∃ f fd ps, FnOk P w K mg base (L2N.CX P w) k f fd ps (spX K sp) ∧ mg x = some (.ref f) ∧ PySem.W.keepIn K (.ref f) = true ∧ Binds K fd ps []
theorem pe_clX {X : Cx} {W : L2.WX} {k j : Nat} {x : Str} {sp : FSpX} {e : Expr} {es : List Expr} {t : TA} {p pos : Pos} (c : ClX P w K mg base k x sp) (hr : Room j X.A) (hk : k ≤ j) (hg : Gl X x) (tk : L2N.Takes X W) (ha : PA X (e :: es) t)
    (hP : X.prog = P := by rfl) (hw : X.w = w := by rfl) (hK : X.K = K := by rfl) (hmg : X.mg = mg := by rfl) (hbs : X.base = base := by rfl)
    (hdb : (x == ("__debug__" : Str)) = false := by decide)
    (he : starEach (e :: es) X.env = (false, eval e X.env) :: starEach es X.env := by rfl) (hpl : (backTo pos (starEach es X.env)).any (·.1) = false := by rfl) :
    PE X (.Call (.Name x p) (e :: es) [] pos) (tCallS (spX K sp) (WE W) t) := by
  subst hP hw hK hmg hbs
  obtain ⟨f, fd, ps, F, hm, hkp, hb⟩ := c.ex
  exact pe_callS F (hr.mono hk) hg hm hkp hb (fun σ => L2N.passAt tk σ) ha hdb he hpl
theorem fnX_ok {x qual : Str} {st : Stmt} {f : Addr} {fd : FuncData} {N ps : List Str} {k : Nat} {sp : FSpX} (F : Fun K x qual st f fd) (S : FnScope N ps (defScope st)) (hl : ∀ args m R X, sp args m R X → args.length = ps.length)
    (hb : ∀ (cdv : Value) (A : Around) (outer : List Env) (s : Shared) (H : Hp) (E : XK), Room k (A.deeper (envOfC qual (defScope st) s.heap.objs.size f cdv)) →
      ∃ t, PSs (cxOf (L2N.CX P w) P w K mg base N qual (defScope st) f cdv A outer s H E) (defBody st) t ∧
        ∀ args m R X, sp args m R X → ∀ G0, (∀ r, TkX K G0 r (fun cls d _ H => E cls d H) X) → Wx K G0 t (args ++ List.replicate (N.length - args.length) .any) m (fun _ m' => R (.d .none) m') R) :
    FnOk P w K mg base (L2N.CX P w) (k + 1) f fd ps (spX K sp) := by
  obtain ⟨oc, od, kV, doc, pm, an, cdv, ct, osl, rfl, lk, hcd⟩ := F.ex
  refine fn_of lk hcd S (fun vs H Q E h => ?_) fun A outer s H vs Q E hr h => ?_
  · obtain ⟨m, G, args, R, X, S1, r1, h1, _⟩ := h
    rw [r1.length]; exact hl args m R X h1
  · obtain ⟨m, G, args, R, X, S1, r1, h1, k1, k2⟩ := h
    obtain ⟨t, ht, hw⟩ := hb cdv A outer s H E hr
    refine ⟨t, ht, ?_⟩
    refine hw args m R X h1 G (fun r C m' H' G' σ hx S' e' _ => k2 C m' H' G' hx S' e') _ H G _ (Le.refl G) S1 ?_ (fun σ' H' G' r' m' hn S' e' L' => k1 .non H' G' (.d .none) m' hn S' e' (.d (rp_none.mpr rfl))) (fun v H' G' x m' hn S' e' L' => k1 v H' G' x m' hn S' e' L')
    unfold L2.start
    rw [r1.length]
    exact Sl.start _ r1
end
end DL

/-! what is refused: words -/
namespace DL
open PySem L2 PySem.Spec PyProof.Rows L2H

section
variable {K : PySem.W.Frag} {r : List Val} {m : Mm} {Q : Val → Mm → Prop}
/-- [place for place in range(8) if only(e, place)] -/
theorem ev_places {cs : List Addr} {gat a D : Addr} {i e j : Nat} (hX : XT K cs gat i D) (hi : i < 8) (he : r[e]? = some (.v (.ref a))) (hj : j < r.length) (hej : e ≠ j) (q : Q (.d (.list [.int (i : Int)])) m) :
    Ev K (tLc (iRng1 (tCons (tC (.int 8)) tNil)) (gName j) (tB (tCall (spP K (okE K cs gat) (f_lawOnly K cs gat) a (.ref D)) [] E0 (tCons (tVar e) (tCons (tVar j) tNil)))) (tVar j) [j]) r m Q := by
  refine ev_lcR1 (n := 8) (eva_cons (ev_cI (eva_nil ⟨rfl, rfl⟩))) (by decide) (fun n acc => acc = if i < n then [.int (i : Int)] else []) (by simp) (fun n m' acc hn hx hw => ?_) (fun acc hw => by rw [hw, if_pos hi]; exact q)
  refine evt_B (ev_callP ⟨i, hX⟩ (eva_cons (ev_var (x := .v (.ref a)) (by rw [List.getElem?_set_ne (Ne.symm hej)]; exact he) (fun z => nomatch z) (eva_cons (ev_var (x := .d (.int (n : Int))) (by rw [List.getElem?_set_self hj]) (fun z => nomatch z) (eva_nil ?_))))))
  refine ⟨i, n, hX, hi, hn, rfl, _, rfl, rfl, fun hc => ?_, fun hc => ?_⟩
  · have hc : n = i := by simpa using hc
    refine ev_var (x := .d (.int (n : Int))) (by rw [List.getElem?_set_self hj]) (fun z => nomatch z) ⟨rfl, _, rfl, ?_⟩
    rw [hw, if_neg (by omega), if_pos (by omega), hc]; rfl
  · have hc : n ≠ i := by simpa using hc
    rw [hw]
    by_cases h : i < n
    · rw [if_pos h, if_pos (by omega)]
    · rw [if_neg h, if_neg (by omega)]
theorem evt_not' {tt : TT} {Q : Bool → Mm → Prop} (h : EvT K tt r m fun b m1 => Q (!b) m1) : EvT K (tNot tt) r m Q := evt_not h
/-- list(..), a list that may change -/
theorem on_lstTM {ds : List PyData} (q : ∀ p, m p = none → Q (.v (.ref p)) (put m p (.lst (ds.map Val.d)))) : OpN K (rLstO K) [.d (.tuple ds)] m Q := fun H G vs S a R k => by
  obtain ⟨v, rfl, h⟩ := vrs1 a
  obtain ⟨p, xs, rfl, h2, h3⟩ := rp_tuple.mp h.rp
  refine ⟨p, xs, rfl, Or.inr (S.sqT h2), fun l hl => ?_⟩
  exact k _ _ G _ _ (q l (S.freeM hl)) (S.new hl ⟨xs, upd_same, VRs.ofAll h3⟩) (Le.refl G) .v
/-- a + b of lists, a list that may change -/
theorem o2_addLM {ds es : List PyData} (hz : ds.length + es.length ≤ 100000) (q : ∀ p, m p = none → Q (.v (.ref p)) (put m p (.lst ((ds ++ es).map Val.d)))) : Op2 K (rAdd K) (.d (.list ds)) (.d (.list es)) m Q := fun H G v w S a b R k => by
  obtain ⟨p, xs, rfl, h2, h3⟩ := rp_list.mp a.rp
  obtain ⟨p', ys, rfl, h4, h5⟩ := rp_list.mp b.rp
  refine Or.inr (Or.inr (Or.inl ⟨p, p', xs, ys, rfl, rfl, Le.rd S.sub h2, Le.rd S.sub h4, ?_, fun l hl => ?_⟩))
  · rw [h3.length, h5.length]; exact Nat.le_trans hz (by decide)
  · exact k _ _ G _ _ (q l (S.freeM hl)) (S.new hl ⟨_, upd_same, VRs.ofAll (h3.append h5)⟩) (Le.refl G) .v
/-- {}, data -/
theorem ev_dnewD (q : Q (.d (.dict [])) m) : Ev K tDNewT r m Q := fun σ H G S L R k p hp =>
  k _ _ _ _ m q (S.fix hp) (Le.new (S.free hp)) (.d (by rw [Rp]; exact ⟨p, rfl, Or.inl ⟨[], upd_same, by rw [RpT]⟩⟩))
end
theorem roomM {k : Nat} {A : Around} {h : Option Value} (r : Room k A) : RoomH k (A.mark h) := ⟨r.dp, r.un⟩
theorem sh_tupS {l : List Int} (h : ∀ i ∈ l, i.natAbs < 1024) (hl : l.length ≤ 8) : Sh (tupI l) 1 4000 := by
  have := sh_tuple (ds := l.map PyData.int) (k := 0) (n := 11) (c := 8) (fun d hd => by
    obtain ⟨i, hi, rfl⟩ := List.mem_map.mp hd
    exact sh_int (a := 10) (h i hi) (by decide) (by decide)) (by rw [List.length_map]; exact hl)
  exact this.mono (by decide) (by decide)
def joinF (ss : List Int) (a b : Nat) : List Int := ss.take (min a b) ++ [ss.getD a 0 + ss.getD b 0] ++ (ss.drop (min a b + 1)).take (max a b - (min a b + 1)) ++ ss.drop (max a b + 1)
def partF (ss : List Int) (a : Nat) (n : Int) : List Int := ss.take a ++ [n] ++ ss.drop (a + 1) ++ [ss.getD a 0 - n]
theorem mem_joinF {ss : List Int} {a b : Nat} {i : Int} (h : i ∈ joinF ss a b) : i ∈ ss ∨ i = ss.getD a 0 + ss.getD b 0 := by
  unfold joinF at h
  rcases List.mem_append.mp h with h | h
  · rcases List.mem_append.mp h with h | h
    · rcases List.mem_append.mp h with h | h
      · exact .inl (List.mem_of_mem_take h)
      · exact .inr (by simpa using h)
    · exact .inl (List.mem_of_mem_drop (List.mem_of_mem_take h))
  · exact .inl (List.mem_of_mem_drop h)
theorem mem_partF {ss : List Int} {a : Nat} {n i : Int} (h : i ∈ partF ss a n) : i ∈ ss ∨ i = n ∨ i = ss.getD a 0 - n := by
  unfold partF at h
  rcases List.mem_append.mp h with h | h
  · rcases List.mem_append.mp h with h | h
    · rcases List.mem_append.mp h with h | h
      · exact .inl (List.mem_of_mem_take h)
      · exact .inr (.inl (by simpa using h))
    · exact .inl (List.mem_of_mem_drop h)
  · exact .inr (.inr (by simpa using h))
def okNum : PyData → Int → Int → Bool
  | .int i, lo, hi => decide (lo ≤ i) && decide (i ≤ hi)
  | _, _, _ => false
def okKnd : PyData → Nat → Bool
  | .int i, n => decide (0 ≤ i) && decide (i < (n : Int))
  | _, _ => false
/-- a def over data that answers or refuses -/
def fnE (cs : List Addr) (n : Nat) (F : List PyData → Except Nat PyData) (pre : List PyData → Prop) : FSpX := fun args m R X => ∃ ds, args = ds.map Val.d ∧ ds.length = n ∧ pre ds ∧ (∀ d, F ds = .ok d → R (.d d) m) ∧ (∀ i, F ds = .error i → X (cs.getD i 0) m)
theorem fnE_len {cs : List Addr} {n : Nat} {F : List PyData → Except Nat PyData} {pre : List PyData → Prop} {args : List Val} {m : Mm} {R : Val → Mm → Prop} {X : Addr → Mm → Prop} (h : fnE cs n F pre args m R X) : args.length = n := by
  obtain ⟨ds, rfl, h, _⟩ := h
  rw [List.length_map]; exact h
def anyD : List PyData → Prop := fun _ => True
def eNeedShares : List PyData → Except Nat PyData
  | [x] => if isShares x = true then .ok .none else .error 0
  | _ => .error 9
def eNeedNumber : List PyData → Except Nat PyData
  | [x, .int lo, .int hi] => if okNum x lo hi = true then .ok .none else .error 2
  | _ => .error 9
def preNumber : List PyData → Prop
  | [_, .int _, .int _] => True
  | _ => False
def eNeedKind : List PyData → Except Nat PyData
  | [.tuple ds, x] => if okKnd x ds.length = true then .ok .none else .error 1
  | _ => .error 9
def preTup : List PyData → Prop
  | .tuple _ :: _ => True
  | _ => False
def unlk (x y : PyData) (n : Nat) : Bool := okKnd x n && (okKnd y n && !decide (intOf x = intOf y))
def eNeedUnlike : List PyData → Except Nat PyData
  | [.tuple ds, x, y] => if unlk x y ds.length = true then .ok .none else .error 1
  | _ => .error 9
def sAt (ss : List Int) (x : PyData) : Int := ss.getD (intOf x).toNat 0
def intsOf : PyData → List Int
  | .tuple ds => ds.map intOf
  | _ => []
theorem intsOf_tupI (ss : List Int) : intsOf (tupI ss) = ss := by
  show (ss.map PyData.int).map intOf = ss
  rw [List.map_map]
  exact (List.map_congr_left fun _ _ => rfl).trans (List.map_id ss)
def eJoined : List PyData → Except Nat PyData
  | [sh, x, y] => if isShares sh = true then (if unlk x y (intsOf sh).length = true then (if 9 < sAt (intsOf sh) x + sAt (intsOf sh) y then .error 4 else .ok (tupI (joinF (intsOf sh) (intOf x).toNat (intOf y).toNat))) else .error 1) else .error 0
  | _ => .error 9
def eParted : List PyData → Except Nat PyData
  | [sh, x, y] => if isShares sh = true then (if okKnd x (intsOf sh).length = true then (if okNum y 1 (sAt (intsOf sh) x - 1) = true then (if (intsOf sh).length = 5 then .error 4 else .ok (tupI (partF (intsOf sh) (intOf x).toNat (intOf y)))) else .error 2) else .error 1) else .error 0
  | _ => .error 9
def toldD : Except Nat PyData → PyData
  | .ok d => d
  | .error i => .list [.str "refused", .int (i : Int)]
theorem unlk_int {x y : PyData} {n : Nat} (h : unlk x y n = true) : ∃ a b : Nat, x = .int (a : Int) ∧ y = .int (b : Int) ∧ a < n ∧ b < n ∧ a ≠ b := by
  unfold unlk at h
  cases hx : okKnd x n with
  | false => rw [hx] at h; cases h
  | true =>
    cases hy : okKnd y n with
    | false => rw [hx, hy] at h; cases h
    | true =>
      have key : ∀ {z : PyData}, okKnd z n = true → ∃ k : Nat, z = .int (k : Int) ∧ k < n := fun {z} hz => by
        cases z with
        | int i =>
          simp only [okKnd, Bool.and_eq_true, decide_eq_true_eq] at hz
          exact ⟨i.toNat, by rw [show ((i.toNat : Nat) : Int) = i by omega], by omega⟩
        | _ => cases hz
      obtain ⟨a, rfl, ha⟩ := key hx
      obtain ⟨b, rfl, hb⟩ := key hy
      rw [hx, hy] at h
      refine ⟨a, b, rfl, rfl, ha, hb, fun e => ?_⟩
      subst e
      simp at h
theorem unlk_of {a b n : Nat} (ha : a < n) (hb : b < n) (h : a ≠ b) : unlk (.int (a : Int)) (.int (b : Int)) n = true := by
  have h1 : okKnd (.int (a : Int)) n = true := by simp only [okKnd, Bool.and_eq_true, decide_eq_true_eq]; omega
  have h2 : okKnd (.int (b : Int)) n = true := by simp only [okKnd, Bool.and_eq_true, decide_eq_true_eq]; omega
  unfold unlk
  rw [h1, h2, show decide (intOf (.int (a : Int)) = intOf (.int (b : Int))) = false from decide_eq_false (by show ¬ (a : Int) = (b : Int); omega)]
  rfl
theorem eqv_only : ∀ i n : _root_.Fin 8, PyData.eqv (.list ((List.range 8).map fun j => PyData.bool (decide (j = i.val)))) (.list ((List.range 8).map fun (j : Nat) => PyData.bool (decide ((j : Int) = ((n.val : Nat) : Int))))) = decide (n.val = i.val) := by decide +kernel
theorem okNum_int {x : PyData} {lo hi : Int} (h : okNum x lo hi = true) : ∃ i, x = .int i ∧ lo ≤ i ∧ i ≤ hi := by
  cases x with
  | int i =>
    simp only [okNum, Bool.and_eq_true, decide_eq_true_eq] at h
    exact ⟨i, rfl, h⟩
  | _ => cases h
theorem okKnd_int {x : PyData} {n : Nat} (h : okKnd x n = true) : ∃ k : Nat, x = .int (k : Int) ∧ k < n := by
  cases x with
  | int i =>
    simp only [okKnd, Bool.and_eq_true, decide_eq_true_eq] at h
    exact ⟨i.toNat, by rw [show ((i.toNat : Nat) : Int) = i by omega], by omega⟩
  | _ => cases h
theorem shares_of {x : PyData} (h : isShares x = true) : ∃ ss, x = tupI ss ∧ Shares ss := by
  cases x with
  | tuple ds =>
    have h : (decide (1 ≤ ds.length) && (decide (ds.length ≤ 5) && ds.all okS)) = true := h
    simp only [Bool.and_eq_true, decide_eq_true_eq] at h
    have each : ∀ d ∈ ds, ∃ i : Int, d = .int i ∧ 1 ≤ i ∧ i ≤ 9 := fun d hd => by
      have z := List.all_eq_true.mp h.2.2 d hd
      cases d with
      | int i =>
        simp only [okS, Bool.and_eq_true, decide_eq_true_eq] at z
        exact ⟨i, rfl, z⟩
      | _ => cases z
    have aux : ∀ l : List PyData, (∀ d ∈ l, ∃ i : Int, d = .int i ∧ 1 ≤ i ∧ i ≤ 9) → ∃ ns : List Int, l = ns.map PyData.int ∧ ∀ i ∈ ns, 1 ≤ i ∧ i ≤ 9 := fun l => by
      induction l with
      | nil => exact fun _ => ⟨[], rfl, fun _ z => nomatch z⟩
      | cons d l ih =>
        intro hl
        obtain ⟨i, rfl, hi⟩ := hl d List.mem_cons_self
        obtain ⟨ns, rfl, hn⟩ := ih fun d hd => hl d (List.mem_cons_of_mem _ hd)
        refine ⟨i :: ns, rfl, fun j hj => ?_⟩
        rcases List.mem_cons.mp hj with rfl | hj
        · exact hi
        · exact hn j hj
    obtain ⟨ns, rfl, hn⟩ := aux ds each
    rw [List.length_map] at h
    exact ⟨ns, rfl, by constructor <;> first | exact hn | exact h.1 | exact h.2.1 | (constructor <;> first | exact h.1 | exact h.2.1)⟩
  | _ => cases h
def refused (i : Nat) : PyData := .list [.str "refused", .int (i : Int)]
theorem sh_refused {i : Nat} (hi : i < 8) : Sh (refused i) 1 4000 := by
  have : i = 0 ∨ i = 1 ∨ i = 2 ∨ i = 3 ∨ i = 4 ∨ i = 5 ∨ i = 6 ∨ i = 7 := by omega
  rcases this with rfl | rfl | rfl | rfl | rfl | rfl | rfl | rfl <;> exact ⟨by decide +kernel, by decide +kernel, by decide +kernel, by decide +kernel⟩
/-! the cases of the small words -/
theorem nShares_ok {x d : PyData} (h : eNeedShares [x] = .ok d) : isShares x = true := by
  cases hx : isShares x with
  | true => rfl
  | false => simp only [eNeedShares, hx] at h; cases h
theorem nShares_no {x : PyData} {i : Nat} (h : eNeedShares [x] = .error i) : isShares x = false ∧ i = 0 := by
  cases hx : isShares x with
  | false => simp only [eNeedShares, hx] at h; injection h with h; exact ⟨rfl, h.symm⟩
  | true => simp only [eNeedShares, hx, if_true] at h; cases h
theorem nKind_ok {ds : List PyData} {x d : PyData} (h : eNeedKind [.tuple ds, x] = .ok d) : okKnd x ds.length = true := by
  cases hx : okKnd x ds.length with
  | true => rfl
  | false => simp only [eNeedKind, hx] at h; cases h
theorem nKind_no {ds : List PyData} {x : PyData} {i : Nat} (h : eNeedKind [.tuple ds, x] = .error i) : okKnd x ds.length = false ∧ i = 1 := by
  cases hx : okKnd x ds.length with
  | false => simp only [eNeedKind, hx] at h; injection h with h; exact ⟨rfl, h.symm⟩
  | true => simp only [eNeedKind, hx, if_true] at h; cases h
theorem nUnlike_ok {ds : List PyData} {x y d : PyData} (h : eNeedUnlike [.tuple ds, x, y] = .ok d) : unlk x y ds.length = true := by
  cases hx : unlk x y ds.length with
  | true => rfl
  | false => simp only [eNeedUnlike, hx] at h; cases h
theorem nUnlike_no {ds : List PyData} {x y : PyData} {i : Nat} (h : eNeedUnlike [.tuple ds, x, y] = .error i) : unlk x y ds.length = false ∧ i = 1 := by
  cases hx : unlk x y ds.length with
  | false => simp only [eNeedUnlike, hx] at h; injection h with h; exact ⟨rfl, h.symm⟩
  | true => simp only [eNeedUnlike, hx, if_true] at h; cases h
theorem nNumber_ok {x d : PyData} {lo hi : Int} (h : eNeedNumber [x, .int lo, .int hi] = .ok d) : okNum x lo hi = true := by
  cases hx : okNum x lo hi with
  | true => rfl
  | false => simp only [eNeedNumber, hx] at h; cases h
theorem nNumber_no {x : PyData} {lo hi : Int} {i : Nat} (h : eNeedNumber [x, .int lo, .int hi] = .error i) : okNum x lo hi = false ∧ i = 2 := by
  cases hx : okNum x lo hi with
  | false => simp only [eNeedNumber, hx] at h; injection h with h; exact ⟨rfl, h.symm⟩
  | true => simp only [eNeedNumber, hx, if_true] at h; cases h
/-! slices -/
theorem cut_take {α : Type} (f : α → PyData) (l : List α) (a : Nat) : cutD (l.map f) none (some (a : Int)) = (l.take a).map f := by
  unfold cutD
  rw [HT.sIx_none, HT.sIx_nat, List.drop_zero, Nat.sub_zero, List.length_map, List.map_take]
  by_cases h : a ≤ l.length
  · rw [Nat.min_eq_left h]
  · rw [Nat.min_eq_right (by omega), List.take_of_length_le (by rw [List.length_map]; exact Nat.le_refl _), List.take_of_length_le (by rw [List.length_map]; omega)]
theorem cut_drop {α : Type} (f : α → PyData) (l : List α) (a : Nat) : cutD (l.map f) (some (a : Int)) none = (l.drop a).map f := by
  unfold cutD
  rw [HT.sIx_none, HT.sIx_nat, List.length_map, List.map_drop]
  by_cases h : a ≤ l.length
  · rw [Nat.min_eq_left h, List.take_of_length_le (by rw [List.length_drop, List.length_map]; exact Nat.le_refl _)]
  · rw [Nat.min_eq_right (by omega), Nat.sub_self, List.take_zero, List.drop_of_length_le (by rw [List.length_map]; omega)]
theorem cut_mid {α : Type} (f : α → PyData) (l : List α) {a b : Nat} (h : a ≤ b) (hb : b ≤ l.length) : cutD (l.map f) (some (a : Int)) (some (b : Int)) = ((l.drop a).take (b - a)).map f := by
  unfold cutD
  rw [HT.sIx_nat, HT.sIx_nat, List.length_map, Nat.min_eq_left hb, Nat.min_eq_left (by omega), List.map_take, List.map_drop]
theorem join_eq : ∀ (ss : List Int) (v : Int) (lo hi : Nat), ss.length ≤ 5 → lo < hi → hi < ss.length → ss.take lo ++ [v] ++ (ss.drop (lo + 1)).take (hi - (lo + 1)) ++ ss.drop (hi + 1) = (ss.set lo v).take hi ++ (ss.set lo v).drop (hi + 1) := by
  intro ss v lo hi h5 h1 h2
  have hlo : lo < 4 := by omega
  have hhi : hi < 5 := by omega
  match ss, h5, h2 with
  | [a, b], _, h2 =>
    have : lo = 0 ∧ hi = 1 := by simp at h2; omega
    obtain ⟨rfl, rfl⟩ := this; rfl
  | [a, b, c], _, h2 =>
    have : (lo = 0 ∧ hi = 1) ∨ (lo = 0 ∧ hi = 2) ∨ (lo = 1 ∧ hi = 2) := by simp at h2; omega
    rcases this with ⟨rfl, rfl⟩ | ⟨rfl, rfl⟩ | ⟨rfl, rfl⟩ <;> rfl
  | [a, b, c, d], _, h2 =>
    have : (lo = 0 ∧ hi = 1) ∨ (lo = 0 ∧ hi = 2) ∨ (lo = 1 ∧ hi = 2) ∨ (lo = 0 ∧ hi = 3) ∨ (lo = 1 ∧ hi = 3) ∨ (lo = 2 ∧ hi = 3) := by simp at h2; omega
    rcases this with ⟨rfl, rfl⟩ | ⟨rfl, rfl⟩ | ⟨rfl, rfl⟩ | ⟨rfl, rfl⟩ | ⟨rfl, rfl⟩ | ⟨rfl, rfl⟩ <;> rfl
  | [a, b, c, d, e], _, h2 =>
    have : (lo = 0 ∧ hi = 1) ∨ (lo = 0 ∧ hi = 2) ∨ (lo = 1 ∧ hi = 2) ∨ (lo = 0 ∧ hi = 3) ∨ (lo = 1 ∧ hi = 3) ∨ (lo = 2 ∧ hi = 3) ∨ (lo = 0 ∧ hi = 4) ∨ (lo = 1 ∧ hi = 4) ∨ (lo = 2 ∧ hi = 4) ∨ (lo = 3 ∧ hi = 4) := by simp at h2; omega
    rcases this with ⟨rfl, rfl⟩ | ⟨rfl, rfl⟩ | ⟨rfl, rfl⟩ | ⟨rfl, rfl⟩ | ⟨rfl, rfl⟩ | ⟨rfl, rfl⟩ | ⟨rfl, rfl⟩ | ⟨rfl, rfl⟩ | ⟨rfl, rfl⟩ | ⟨rfl, rfl⟩ <;> rfl
  | [], _, h2 => simp at h2
  | [a], _, h2 => simp at h2; omega
theorem part_eq : ∀ (ss : List Int) (v w : Int) (a : Nat), a < ss.length → ss.take a ++ [v] ++ ss.drop (a + 1) ++ [w] = (ss ++ [w]).set a v
  | x :: ss, v, w, 0, _ => by simp
  | x :: ss, v, w, a + 1, h => by
    have := part_eq ss v w a (by simpa using h)
    simpa using this
theorem eJoined_eq {ss : List Int} (hs : Shares ss) (x y : PyData) : eJoined [tupI ss, x, y] = if unlk x y ss.length = true then (if 9 < sAt ss x + sAt ss y then .error 4 else .ok (tupI (joinF ss (intOf x).toNat (intOf y).toNat))) else .error 1 := by
  show (if isShares (tupI ss) = true then _ else _) = _
  rw [if_pos (isShares_of hs), intsOf_tupI]
theorem eParted_eq {ss : List Int} (hs : Shares ss) (x y : PyData) : eParted [tupI ss, x, y] = if okKnd x ss.length = true then (if okNum y 1 (sAt ss x - 1) = true then (if ss.length = 5 then .error 4 else .ok (tupI (partF ss (intOf x).toNat (intOf y)))) else .error 2) else .error 1 := by
  show (if isShares (tupI ss) = true then _ else _) = _
  rw [if_pos (isShares_of hs), intsOf_tupI]
theorem eJoined_bad {sh : PyData} (h : isShares sh = false) (x y : PyData) : eJoined [sh, x, y] = .error 0 := if_neg (by rw [h]; decide)
theorem eParted_bad {sh : PyData} (h : isShares sh = false) (x y : PyData) : eParted [sh, x, y] = .error 0 := if_neg (by rw [h]; decide)
def f_told71 : FSp := fun args m R => ∃ (k : Int) (ss : List Int) (x y : PyData), args = [.d (.int k), .d (tupI ss), .d x, .d y] ∧ Shares ss ∧ R (.d (toldD (if k = 0 then eJoined [tupI ss, x, y] else eParted [tupI ss, x, y]))) m
theorem minN (a b : Nat) : min (a : Int) (b : Int) = ((min a b : Nat) : Int) := by omega
theorem maxN (a b : Nat) : max (a : Int) (b : Int) = ((max a b : Nat) : Int) := by omega
end DL

/-! a def that refuses, called where it answers; a def that answers here and refuses there -/
namespace DL
open PySem L2 PySem.Spec PyProof.Rows L2H

def orX (f : FSp) (g : FSpX) : FSpX := fun args m R X => f args m R ∨ g args m R X
section
variable {P : Program} {w : World} {K : PySem.W.Frag} {mg : Str → Option Value} {base : Heap}
theorem ClX.cl {k : Nat} {x : Str} {sp : FSpX} {fs : FSp} (c : ClX P w K mg base k x sp) (h : ∀ args m R, fs args m R → sp args m R fun _ _ => False) : Cl P w K mg base k x fs := by
  obtain ⟨f, fd, ps, F, hm, hk, hb⟩ := c.ex
  have conv : ∀ vs H Q E, spD K fs vs H Q E → spX K sp vs H Q E0 := fun vs H Q E ⟨m, G, args, R, S, r, hf, k⟩ => ⟨m, G, args, R, fun _ _ => False, S, r, h _ _ _ hf, k, fun _ _ _ _ z => z.elim⟩
  refine ⟨f, fd, ps, ⟨fun vs H Q E q => F.len vs H Q E0 (conv _ _ _ _ q), fun A outer s H args us vs Q E hr he hB hv q => ?_⟩, hm, hk, hb⟩
  refine codeAny_mono (F.run A outer s H args us vs Q E0 hr he hB hv (conv _ _ _ _ q)) fun res s' g => ?_
  match res, g with
  | .ok (.ret u), g => exact g
  | .error e, g =>
    obtain ⟨_, _, _, _, _, _, _, _, _, _, _, _, z⟩ := g
    exact z.elim
theorem fnOk_or {k : Nat} {f : Addr} {fd : FuncData} {ps : List Str} {fs : FSp} {sp : FSpX} (o : FnOk P w K mg base CX0 k f fd ps (spD K fs)) (F : FnOk P w K mg base (L2N.CX P w) k f fd ps (spX K sp)) : FnOk P w K mg base (L2N.CX P w) k f fd ps (spX K (orX fs sp)) where
  len := fun vs H Q E ⟨m, G, args, R, X, S, r, hf, k1, k2⟩ => by
    rcases hf with hf | hf
    · exact o.len vs H Q E ⟨m, G, args, R, S, r, hf, k1⟩
    · exact F.len vs H Q E ⟨m, G, args, R, X, S, r, hf, k1, k2⟩
  run := fun A outer s H args us vs Q E hr he hB hv ⟨m, G, as, R, X, S, r, hf, k1, k2⟩ => by
    rcases hf with hf | hf
    · refine codeAny_mono (o.run A outer s H args us vs Q E hr he hB hv ⟨m, G, as, R, S, r, hf, k1⟩) fun res s' g => ?_
      match res, g with
      | .ok (.ret u), g => exact g
      | .error e, g => exact g.elim
    · exact F.run A outer s H args us vs Q E hr he hB hv ⟨m, G, as, R, X, S, r, hf, k1, k2⟩
end
/-- a def over data that refuses -/
def fnR (cs : List Addr) (n : Nat) (F : List PyData → Nat → Prop) : FSpX := fun args m R X => ∃ ds, args = ds.map Val.d ∧ ds.length = n ∧ ∃ i, F ds i ∧ X (cs.getD i 0) m
theorem fnR_len {cs : List Addr} {n : Nat} {F : List PyData → Nat → Prop} {args : List Val} {m : Mm} {R : Val → Mm → Prop} {X : Addr → Mm → Prop} (h : fnR cs n F args m R X) : args.length = n := by
  obtain ⟨ds, rfl, h, _⟩ := h
  rw [List.length_map]; exact h
end DL

/-! orders; what the laws on refusals ask -/
namespace DL
open PySem L2 PySem.Spec PyProof.Rows L2H

def rngI (n : Nat) : List Int := (List.range n).map fun (k : Nat) => (k : Int)
def isOrd : PyData → Nat → Bool
  | .tuple ds, n => decide (ds.length = n) && (ds.all isInt && (rngI n).isPerm (ds.map intOf))
  | _, _ => false
def f_isOrder : FSp := fun args m R => ∃ (x : PyData) (n : Nat), args = [.d x, .d (.int (n : Int))] ∧ n ≤ 5 ∧ R (.d (.bool (isOrd x n))) m
def eNeedOrder : List PyData → Except Nat PyData
  | [.tuple ds, x] => if isOrd x ds.length = true then .ok .none else .error 1
  | _ => .error 9
def preTup5 : List PyData → Prop
  | .tuple ds :: _ => ds.length ≤ 5
  | _ => False
theorem eqvAll_ints : ∀ a b : List Int, PyData.eqvAll (a.map PyData.int) (b.map PyData.int) = decide (a = b)
  | [], [] => by simp [PyData.eqvAll]
  | x :: a, [] => by simp [PyData.eqvAll]
  | [], y :: b => by simp [PyData.eqvAll]
  | x :: a, y :: b => by
    rw [List.map_cons, List.map_cons]
    simp only [PyData.eqvAll, PyData.eqv, eqvAll_ints a b]
    by_cases h : x = y <;> by_cases h2 : a = b <;> simp [h, h2]
theorem eqv_listI (a b : List Int) : PyData.eqv (.list (a.map PyData.int)) (.list (b.map PyData.int)) = decide (a = b) := by
  rw [← eqvAll_ints]; simp only [PyData.eqv]
theorem shaped_listI (ns : List Int) : SeqAt.shaped (.list (ns.map PyData.int)) = true := by
  simp [SeqAt.shaped, PyData.canLay0, canLay_ints, PyData.depth, depth_ints]
theorem ints_of {ds : List PyData} (h : ds.all isInt = true) : ds = (ds.map intOf).map PyData.int := by
  rw [List.map_map]
  refine (List.map_id ds).symm.trans (List.map_congr_left fun d hd => ?_)
  obtain ⟨i, rfl⟩ := int_shape (List.all_eq_true.mp h d hd)
  rfl
theorem rngI_sorted (n : Nat) : (rngI n).Pairwise (· ≤ ·) := by
  unfold rngI
  rw [List.pairwise_map]
  exact List.pairwise_lt_range.imp fun h => by omega
theorem rngD_int (n : Nat) : rngD 0 n = (rngI n).map PyData.int := by
  unfold rngD rngI
  rw [List.map_map]
  exact List.map_congr_left fun k _ => by show PyData.int ((0 + k : Nat) : Int) = .int (k : Int); rw [Nat.zero_add]
theorem sorted_ex (ns : List Int) : ∃ ns' : List Int, ns'.Perm ns ∧ ns'.Pairwise (· ≤ ·) := by
  refine ⟨ns.mergeSort (fun a b => decide (a ≤ b)), List.mergeSort_perm ns _, ?_⟩
  have := List.pairwise_mergeSort (le := fun a b : Int => decide (a ≤ b)) (fun a b c h1 h2 => by simp at *; omega) (fun a b => by simp; omega) ns
  exact this.imp fun h => by simpa using h
theorem ord_iff {ns ns' : List Int} {n : Nat} (hp : ns'.Perm ns) (hs : ns'.Pairwise (· ≤ ·)) : decide (ns' = rngI n) = (rngI n).isPerm ns := by
  by_cases h : ns' = rngI n
  · rw [decide_eq_true h]
    exact (List.isPerm_iff.mpr (h ▸ hp)).symm
  · rw [decide_eq_false h]
    cases hb : (rngI n).isPerm ns with
    | false => rfl
    | true =>
      have h2 := List.isPerm_iff.mp hb
      exact absurd (List.Perm.eq_of_pairwise (le := (· ≤ ·)) (fun a b _ _ h1 h2 => by omega) hs (rngI_sorted n) (hp.trans h2.symm)) h
/-- what a call does that is tried: none if it ends, else the place of what it refuses with -/
def fnA (cs : List Addr) (n : Nat) (F : List PyData → Option Nat → Prop) : FSpX := fun args m R X => ∃ ds, args = ds.map Val.d ∧ ds.length = n ∧ ((F ds none ∧ R (.d .none) m) ∨ ∃ i, F ds (some i) ∧ X (cs.getD i 0) m)
theorem fnA_len {cs : List Addr} {n : Nat} {F : List PyData → Option Nat → Prop} {args : List Val} {m : Mm} {R : Val → Mm → Prop} {X : Addr → Mm → Prop} (h : fnA cs n F args m R X) : args.length = n := by
  obtain ⟨ds, rfl, h, _⟩ := h
  rw [List.length_map]; exact h
def plcs : Option Nat → PyData
  | none => .list []
  | some i => .list [.int (i : Int)]
def f_told (n : Nat) (F : List PyData → Option Nat → Prop) (L : List Nat) : FSp := fun args m R => ∃ ds o, args = ds.map Val.d ∧ ds.length = n ∧ F ds o ∧ (∀ i, o = some i → i ∈ L) ∧ R (.d (plcs o)) m
def f_noShares : FSp := fun args m R => ∃ (p : Addr), args = [.v (.ref p)] ∧ m p = some .box ∧ ∀ d, isShares d = false → R (.d d) m
theorem of_needShares {cs : List Addr} : ∀ args m R, f_needShares args m R → fnE cs 1 eNeedShares anyD args m R fun _ _ => False := by
  rintro args m R ⟨x, rfl, hx, q⟩
  refine ⟨[x], rfl, rfl, trivial, fun d hd => ?_, fun i hi => ?_⟩
  · simp only [eNeedShares, hx, if_true] at hd; injection hd with hd; subst hd; exact q
  · simp only [eNeedShares, hx, if_true] at hi; cases hi
theorem of_needNumber {cs : List Addr} : ∀ args m R, f_needNumber args m R → fnE cs 3 eNeedNumber preNumber args m R fun _ _ => False := by
  rintro args m R ⟨i, lo, hi, rfl, h1, h2, q⟩
  have hx : okNum (.int i) lo hi = true := by simp only [okNum, Bool.and_eq_true, decide_eq_true_eq]; exact ⟨h1, h2⟩
  refine ⟨[.int i, .int lo, .int hi], rfl, rfl, trivial, fun d hd => ?_, fun i hi => ?_⟩
  · simp only [eNeedNumber, hx, if_true] at hd; injection hd with hd; subst hd; exact q
  · simp only [eNeedNumber, hx, if_true] at hi; cases hi
theorem nOrder_ok {ds : List PyData} {x d : PyData} (h : eNeedOrder [.tuple ds, x] = .ok d) : isOrd x ds.length = true := by
  cases hx : isOrd x ds.length with
  | true => rfl
  | false => simp only [eNeedOrder, hx] at h; cases h
theorem nOrder_no {ds : List PyData} {x : PyData} {i : Nat} (h : eNeedOrder [.tuple ds, x] = .error i) : isOrd x ds.length = false ∧ i = 1 := by
  cases hx : isOrd x ds.length with
  | false => simp only [eNeedOrder, hx] at h; injection h with h; exact ⟨rfl, h.symm⟩
  | true => simp only [eNeedOrder, hx, if_true] at h; cases h
/-- refused: no shares, or no two kinds -/
def rUnl : List PyData → Nat → Prop
  | [sh, x, y], i => (isShares sh = false ∧ i = 0) ∨ (∃ ss, sh = tupI ss ∧ Shares ss ∧ unlk x y ss.length = false ∧ i = 1)
  | _, _ => False
def rKnd : List PyData → Nat → Prop
  | [sh, x, y], i => (isShares sh = false ∧ i = 0) ∨ (∃ ss, sh = tupI ss ∧ Shares ss ∧ okKnd x ss.length = false ∧ i = 1)
  | _, _ => False
def rOrd : List PyData → Nat → Prop
  | [sh, x], i => (isShares sh = false ∧ i = 0) ∨ (∃ ss, sh = tupI ss ∧ Shares ss ∧ isOrd x ss.length = false ∧ i = 1)
  | _, _ => False
def rTwo : List PyData → Nat → Prop
  | [x, y], i => (isShares x && isShares y) = false ∧ i = 0
  | _, _ => False
def f_isQuicker : FSp := fun args m R => ∃ (ss tt : List Int), args = [.d (tupI ss), .d (tupI tt)] ∧ Shares ss ∧ Shares tt ∧ R (.d (.bool (decide (timeT ss (List.range ss.length) < timeT tt (List.range tt.length))))) m
theorem joined_unl {sh x y : PyData} {i : Nat} (h : rUnl [sh, x, y] i) : eJoined [sh, x, y] = .error i := by
  rcases h with ⟨h, rfl⟩ | ⟨ss, rfl, hs, h, rfl⟩
  · exact eJoined_bad h _ _
  · rw [eJoined_eq hs, if_neg (by rw [h]; decide)]
theorem parted_knd {sh x y : PyData} {i : Nat} (h : rKnd [sh, x, y] i) : eParted [sh, x, y] = .error i := by
  rcases h with ⟨h, rfl⟩ | ⟨ss, rfl, hs, h, rfl⟩
  · exact eParted_bad h _ _
  · rw [eParted_eq hs, if_neg (by rw [h]; decide)]
def rAsk73 : List PyData → Option Nat → Prop
  | [.int k, sh, x, y], o => ((k = 0 ∨ k = 1) ∧ ∃ i, o = some i ∧ rUnl [sh, x, y] i) ∨ (k = 2 ∧ ∃ i, o = some i ∧ rKnd [sh, x, y] i) ∨ (k = 3 ∧ ∃ i, o = some i ∧ rOrd [sh, x] i) ∨ (k = 4 ∧ ((∃ i, o = some i ∧ rTwo [sh, x] i) ∨ ∃ ss tt, sh = tupI ss ∧ x = tupI tt ∧ Shares ss ∧ Shares tt ∧ o = none))
  | _, _ => False
theorem ask73_bad {k : Int} {sh x y : PyData} (h0 : 0 ≤ k) (h5 : k < 5) (h : isShares sh = false) : rAsk73 [.int k, sh, x, y] (some 0) := by
  have : k = 0 ∨ k = 1 ∨ k = 2 ∨ k = 3 ∨ k = 4 := by omega
  rcases this with rfl | rfl | rfl | rfl | rfl
  · exact Or.inl ⟨Or.inl rfl, 0, rfl, Or.inl ⟨h, rfl⟩⟩
  · exact Or.inl ⟨Or.inr rfl, 0, rfl, Or.inl ⟨h, rfl⟩⟩
  · exact Or.inr (Or.inl ⟨rfl, 0, rfl, Or.inl ⟨h, rfl⟩⟩)
  · exact Or.inr (Or.inr (Or.inl ⟨rfl, 0, rfl, Or.inl ⟨h, rfl⟩⟩))
  · exact Or.inr (Or.inr (Or.inr ⟨rfl, Or.inl ⟨0, rfl, by rw [h]; rfl, rfl⟩⟩))
theorem ask73_knd {k : Int} {ss : List Int} {x y : PyData} (hs : Shares ss) (h0 : 0 ≤ k) (h3 : k < 3) (h : unlk x y ss.length = false) (h2 : k = 2 → okKnd x ss.length = false) : rAsk73 [.int k, tupI ss, x, y] (some 1) := by
  have : k = 0 ∨ k = 1 ∨ k = 2 := by omega
  rcases this with rfl | rfl | rfl
  · exact Or.inl ⟨Or.inl rfl, 1, rfl, Or.inr ⟨ss, rfl, hs, h, rfl⟩⟩
  · exact Or.inl ⟨Or.inr rfl, 1, rfl, Or.inr ⟨ss, rfl, hs, h, rfl⟩⟩
  · exact Or.inr (Or.inl ⟨rfl, 1, rfl, Or.inr ⟨ss, rfl, hs, h2 rfl, rfl⟩⟩)
theorem unlk_no1 {x y : PyData} {n : Nat} (h : okKnd x n = false) : unlk x y n = false := by unfold unlk; rw [h, Bool.false_and]
theorem unlk_no2 {x y : PyData} {n : Nat} (h : okKnd y n = false) : unlk x y n = false := by unfold unlk; rw [h, Bool.false_and, Bool.and_false]
theorem atI_ex {l : List PyData} {z : Int} (h0 : 0 ≤ z) (h1 : z < (l.length : Int)) : ∃ d ∈ l, atI l z = some d := by
  obtain ⟨k, rfl⟩ : ∃ k : Nat, z = (k : Int) := ⟨z.toNat, by omega⟩
  have hk : k < l.length := by omega
  exact ⟨l[k], List.getElem_mem hk, by rw [atI_nth, List.getElem?_eq_getElem hk]⟩
theorem canLay_rep {d : PyData} (h : PyData.canLay0 d = true) : ∀ n, PyData.canLayAll0 (List.replicate n d) = true
  | 0 => by simp [PyData.canLayAll0]
  | n + 1 => by rw [List.replicate_succ]; simp [PyData.canLayAll0, h, canLay_rep h n]
theorem depth_rep {d : PyData} {k : Nat} (h : PyData.depth d ≤ k) : ∀ n, PyData.depthAll (List.replicate n d) ≤ k
  | 0 => by simp [PyData.depthAll]
  | n + 1 => by rw [List.replicate_succ]; simp only [PyData.depthAll]; exact Nat.max_le.mpr ⟨h, depth_rep h n⟩
theorem shaped_plcs (o : Option Nat) : SeqAt.shaped (plcs o) = true := by
  cases o with
  | none => simp [plcs, SeqAt.shaped, PyData.canLay0, PyData.canLayAll0, PyData.depth, PyData.depthAll]
  | some i => exact shaped_listI [(i : Int)]
theorem shaped_rep (o : Option Nat) (n : Nat) : SeqAt.shaped (.list (List.replicate n (plcs o))) = true := by
  have hp := shaped_plcs o
  have h1 : PyData.canLay0 (plcs o) = true := by cases o <;> simp [plcs, PyData.canLay0, PyData.canLayAll0]
  have h2 : PyData.depth (plcs o) ≤ 1 := by cases o <;> simp [plcs, PyData.depth, PyData.depthAll]
  have h3 := depth_rep h2 n
  simp only [SeqAt.shaped, PyData.canLay0, canLay_rep h1 n, PyData.depth, Bool.true_and]
  exact decide_eq_true (by omega)
section
variable {K : PySem.W.Frag} {r : List Val} {m : Mm} {Q : Val → Mm → Prop} {ta : TA} {tb : TE}
/-- [..] * n, data -/
theorem ev_lstMulD (h : EvA K ta r m fun xs m1 => ∃ ds : List PyData, xs = ds.map Val.d ∧ ds.length ≤ 100 ∧ Ev K tb r m1 fun y m2 => ∃ n : Nat, y = .d (.int (n : Int)) ∧ n ≤ 1000 ∧ Q (.d (.list (List.replicate n ds).flatten)) m2) : Ev K (tOp (rMul K) (tLst ta) tb) r m Q := fun σ H G S L R k =>
  h σ H G S L _ fun vs H1 G1 xs m1 ⟨ds, hx, hl, h1⟩ S1 e1 r1 => by
    subst hx
    have hA := r1.toAll
    refine ⟨by rw [hA.length]; exact Nat.le_trans hl (by decide), fun p hp => ?_⟩
    have hg := S1.free hp
    refine h1 σ _ (upd G1 p (.lst vs)) (S1.fix hp) (L.mono (e1.trans (Le.new hg))) _ fun w H2 G2 y m2 ⟨n, hy, hn, q⟩ S2 e2 r2 => ?_
    subst hy
    have r2 := int_of r2
    subst r2
    have en : ((n : Int)).toNat = n := by omega
    refine Or.inr (Or.inr (Or.inr ⟨p, (n : Int), vs, rfl, rfl, S2.sub _ _ (e2 _ _ upd_same), by omega, by omega, ?_, fun l hl => ?_⟩))
    · rw [en, hA.length]
      exact Nat.le_trans (Nat.mul_le_mul hl hn) (by decide)
    · rw [en]
      have hB : RpAll K G2 ds vs := RpAll.mono ((Le.new hg).trans e2) ds vs hA
      have hg2 := S2.free hl
      exact k _ _ (upd G2 l _) _ m2 q (S2.fix hl) (e1.trans ((Le.new hg).trans (e2.trans (Le.new hg2)))) (.d (rp_list.mpr ⟨l, _, rfl, Rd.of upd_same, RpAll.mono (Le.new hg2) _ _ (hB.rep n)⟩))
theorem rep_flat (n : Nat) (d : PyData) : (List.replicate n [d]).flatten = List.replicate n d := by
  induction n with
  | zero => rfl
  | succ n ih => rw [List.replicate_succ, List.flatten_cons, ih]; rfl
/-- [[i]] * n -/
theorem ev_reps {i n : Nat} (hn : n ≤ 1000) (q : Q (.d (.list (List.replicate n (plcs (some i))))) m) : Ev K (tOp (rMul K) (tLst (tCons (tLst (tCons (tC (.int (i : Int))) tNil)) tNil)) (tC (.int (n : Int)))) r m Q := by
  refine ev_lstMulD (eva_cons (ev_lstD (eva_cons (ev_cI (eva_nil ⟨[.int (i : Int)], rfl, by show 1 ≤ 100000; decide, ?_⟩)))))
  refine eva_nil ⟨[.list [.int (i : Int)]], rfl, by show 1 ≤ 100; decide, ev_cI ⟨n, rfl, hn, ?_⟩⟩
  rw [rep_flat]; exact q
theorem ev_reps0 {n : Nat} (hn : n ≤ 1000) (q : Q (.d (.list (List.replicate n (plcs none)))) m) : Ev K (tOp (rMul K) (tLst (tCons (tLst tNil) tNil)) (tC (.int (n : Int)))) r m Q := by
  refine ev_lstMulD (eva_cons (ev_lstD (eva_nil ⟨[], rfl, by decide, ?_⟩)))
  refine eva_nil ⟨[.list []], rfl, by show 1 ≤ 100; decide, ev_cI ⟨n, rfl, hn, ?_⟩⟩
  rw [rep_flat]; exact q
theorem o2_neRep {o : Option Nat} {n : Nat} (q : Q (.d (.bool false)) m) : Op2 K (rNeA K) (.d (.list ((List.range n).map fun _ => plcs o))) (.d (.list (List.replicate n (plcs o)))) m Q := by
  have e : ((List.range n).map fun _ => plcs o) = List.replicate n (plcs o) := by rw [List.map_const', List.length_range]
  rw [e]
  exact o2_neSame (shaped_rep o n) q
/-- l[z], one of them -/
theorem o2_ixLx {l : List PyData} {z : Int} (h0 : 0 ≤ z) (h1 : z < (l.length : Int)) (q : ∀ d ∈ l, Q (.d d) m) : Op2 K (rIx K) (.d (.list l)) (.d (.int z)) m Q := by
  obtain ⟨d, hd, e⟩ := atI_ex h0 h1
  exact o2_ixL e (q d hd)
/-- != [i] -/
theorem o2_nePl {i : Nat} {Q : Val → Mm → Prop} (q : Q (.d (.bool false)) m) : Ev K (tLst (tCons (tC (.int (i : Int))) tNil)) r m fun y m1 => Op2 K (rNeA K) (.d (plcs (some i))) y m1 Q :=
  ev_lstD (eva_cons (ev_cI (eva_nil ⟨[.int (i : Int)], rfl, by show 1 ≤ 100000; decide, o2_neSame (shaped_plcs (some i)) q⟩)))
theorem o2_nePl0 {Q : Val → Mm → Prop} (q : Q (.d (.bool false)) m) : Ev K (tLst tNil) r m fun y m1 => Op2 K (rNeA K) (.d (plcs none)) y m1 Q :=
  ev_lstD (eva_nil ⟨[], rfl, by decide, o2_neSame (shaped_plcs none) q⟩)
end
theorem bad73 {n : Nat} {z w : Int} (h0 : 0 ≤ z) (hw : 10 ≤ w) (hn : n ≤ 5) : ∀ d ∈ [PyData.int (-1), .int (n : Int), .bool true, .none, .str "0", .tuple [.int 0, .int 0], .int ((n : Int) + z), .int w], okKnd d n = false ∧ isOrd d n = false := by
  intro d hd
  have key : ∀ i : Int, i < 0 ∨ (n : Int) ≤ i → okKnd (.int i) n = false ∧ isOrd (.int i) n = false := fun i hi => ⟨by
    cases h : okKnd (.int i) n with
    | false => rfl
    | true => simp only [okKnd, Bool.and_eq_true, decide_eq_true_eq] at h; omega, rfl⟩
  simp only [List.mem_cons, List.not_mem_nil, or_false] at hd
  rcases hd with rfl | rfl | rfl | rfl | rfl | rfl | rfl | rfl
  · exact key _ (by omega)
  · exact key _ (by omega)
  · exact ⟨rfl, rfl⟩
  · exact ⟨rfl, rfl⟩
  · exact ⟨rfl, rfl⟩
  · refine ⟨rfl, ?_⟩
    have h6 : ∀ n : _root_.Fin 6, isOrd (.tuple [.int 0, .int 0]) n.val = false := by decide +kernel
    exact h6 ⟨n, by omega⟩
  · exact key _ (by omega)
  · exact key _ (by omega)
end DL

/-! chances of orders; for a, b in a list of pairs -/
namespace DL
open PySem L2 PySem.Spec PyProof.Rows L2H

section
variable {K : PySem.W.Frag} {r : List Val} {m : Mm} {Q : Val → Mm → Prop} {t : TS} {N : List Val → Mm → Prop} {E : Val → Mm → Prop}
theorem w_forL2 {tl : TE} {j1 j2 : Nat} {xs : List (PyData × PyData)} (h : Ev K tl r m fun x m1 => x = .d (.list (xs.map fun p => .tuple [p.1, p.2])) ∧ m1 = m) (W : Nat → List Val → Mm → Prop) (h0 : W 0 r m)
    (hs : ∀ (i : Nat) (p : PyData × PyData) r' m', xs[i]? = some p → W i r' m' → Wp K t ((r'.set j1 (.d p.1)).set j2 (.d p.2)) m' (W (i + 1)) E) (hd : ∀ r' m', W xs.length r' m' → N r' m') :
    Wp K (tFor (iList K tl) (gTup K 2 (gCons (gName j1) (gCons (gName j2) gNil))) t) r m N E := fun σ H G D S L a b =>
  h σ H G S L _ fun v H1 G1 x m1 ⟨hx, hm⟩ S1 e1 r1 => by
    subst hx hm
    obtain ⟨p, zs, hv, hs1, hA⟩ := rp_list.mp r1.rp
    have hs1 : SqL K G1 p zs := Or.inl hs1
    have hlen := hA.length
    rw [List.length_map] at hlen
    refine ⟨p, hv, ⟨zs, S1.sqL hs1⟩, for_list (xs := zs) (fun i σ' H' => ∃ G' r' m', W i r' m' ∧ Sta K m' H' G' ∧ Le G1 G' ∧ Sl K G' r' σ') ⟨G1, r, _, h0, S1, Le.refl G1, L.mono e1⟩ ?_ ?_ ?_⟩
    · rintro i σ' H' hi ⟨G', r', m', _, S', e', _⟩
      exact S'.sqL (e'.sqL hs1)
    · rintro i y σ' H' hy ⟨G', r', m', hw, S', e', L'⟩
      obtain ⟨d, hd1, hd2⟩ := hA.get hy
      obtain ⟨pr, hpr, rfl⟩ := map_at hd1
      obtain ⟨T, us, hv2, hs2, hB⟩ := rp_tuple.mp (Rp.mono e' _ _ hd2)
      obtain ⟨x1, t1, rfl, a1, hB⟩ := rpa_cons.mp hB
      obtain ⟨x2, t2, rfl, a2, hB⟩ := rpa_cons.mp hB
      obtain rfl := rpa_nil.mp hB
      refine ⟨T, _, hv2, S'.sqT hs2, rfl, x1, [x2], rfl, x2, [], rfl, rfl, ?_⟩
      exact hs i pr r' m' hpr hw _ H' G' _ S' ((L'.set (r := .d pr.1) (.d a1) j1).set (r := .d pr.2) (.d a2) j2) (fun σ3 H3 G3 r3 m3 h3 S3 e3 L3 => ⟨G3, r3, m3, h3, S3, e'.trans e3, L3⟩) (fun v H3 G3 x m3 n3 S3 e3 L3 => b v H3 G3 x m3 n3 S3 (e1.trans (e'.trans e3)) L3)
    · rintro σ' H' ⟨G', r', m', hw, S', e', L'⟩
      rw [hlen] at hw
      exact a σ' H' G' r' m' (hd r' m' hw) S' (e1.trans e') L'
end
section
variable {P : Program} {w : World} {K : PySem.W.Frag} {mg : Str → Option Value} {base : Heap}
theorem Cl.imp {k : Nat} {x : Str} {f g : FSp} (c : Cl P w K mg base k x f) (h : ∀ args m R, g args m R → f args m R) : Cl P w K mg base k x g := by
  obtain ⟨a, fd, ps, F, hm, hk, hb⟩ := c.ex
  exact ⟨a, fd, ps, F.imp fun vs H Q E ⟨m, G, args, R, S, r, hf, k⟩ => ⟨m, G, args, R, S, r, h _ _ _ hf, k⟩, hm, hk, hb⟩
end
theorem allSomeB_L : ∀ args m R, f_allSome args m R → f_allSomeB args m R := fun args m R ⟨ks, e, hn, q⟩ => ⟨ks, _, e, Or.inl rfl, hn, q⟩
theorem allSomeB_U : ∀ args m R, f_allSomeU args m R → f_allSomeB args m R := fun args m R ⟨ks, e, hn, q⟩ => ⟨ks, _, e, Or.inr rfl, hn, q⟩
/-! what an order's kinds have -/
def osum (ss : List Int) (ns : List Nat) : Int := (ns.map fun k => ss.getD k 0).sum
def obot (ss : List Int) (ns : List Nat) : Nat → Int
  | 0 => 1
  | i + 1 => obot ss ns i * osum ss (ns.drop i)
def ordQ (ss : List Int) (ns : List Nat) : Rat := mkRat (prP ss ns) (obot ss ns ns.length).toNat
theorem osum_drop {ss : List Int} {ns : List Nat} {i k : Nat} (h : ns[i]? = some k) : osum ss (ns.drop i) = ss.getD k 0 + osum ss (ns.drop (i + 1)) := by
  obtain ⟨hi, rfl⟩ := List.getElem?_eq_some_iff.mp h
  unfold osum
  rw [List.drop_eq_getElem_cons hi, List.map_cons, List.sum_cons]
theorem osum_all {ss : List Int} {ns : List Nat} (h : ns.Perm (List.range ss.length)) : osum ss ns = ss.sum := by
  unfold osum
  rw [sum_perm (h.map _)]
  congr 1
  refine List.ext_getElem (by simp) fun i h1 h2 => ?_
  rw [List.getElem_map, List.getElem_range, List.getD_eq_getElem?_getD, List.getElem?_eq_getElem h2]; rfl
theorem osum_bounds {ss : List Int} (hs : Shares ss) : ∀ ns : List Nat, (∀ k ∈ ns, k < ss.length) → (ns.length : Int) ≤ osum ss ns ∧ osum ss ns ≤ 9 * ns.length
  | [], _ => by simp [osum]
  | k :: ns, h => by
    have ih := osum_bounds hs ns fun j hj => h j (List.mem_cons_of_mem _ hj)
    have hk := h k List.mem_cons_self
    have b := hs.each (ss.getD k 0) (by rw [List.getD_eq_getElem?_getD, List.getElem?_eq_getElem hk]; exact List.getElem_mem hk)
    have e : osum ss (k :: ns) = ss.getD k 0 + osum ss ns := by unfold osum; rw [List.map_cons, List.sum_cons]
    rw [e, List.length_cons]
    omega
theorem obot_bt {ss : List Int} (hs : Shares ss) {ns : List Nat} (hk : ∀ k ∈ ns, k < ss.length) (h5 : ns.length ≤ 5) : ∀ i, i ≤ ns.length → 0 < obot ss ns i ∧ Bt (obot ss ns i) (1 + 6 * i)
  | 0, _ => ⟨by show (0 : Int) < 1; decide, bt_lit (i := 1) (n := 1) (by decide) (by decide)⟩
  | i + 1, h => by
    obtain ⟨h1, h2⟩ := obot_bt hs hk h5 i (by omega)
    have b := osum_bounds hs (ns.drop i) fun k hk' => hk k (List.mem_of_mem_drop hk')
    rw [List.length_drop] at b
    have b3 : Bt (osum ss (ns.drop i)) 6 := by show _ < 64; omega
    refine ⟨Int.mul_pos h1 (by omega), ?_⟩
    exact (h2.mul b3).mono (by omega)
theorem perm_of_ord {ns : List Nat} {n : Nat} (h : isOrd (tupN ns) n = true) : ns.Perm (List.range n) := by
  have h : (decide ((((ns.map fun (k : Nat) => (k : Int)).map PyData.int)).length = n) && (_ && (rngI n).isPerm (((ns.map fun (k : Nat) => (k : Int)).map PyData.int).map intOf))) = true := h
  simp only [Bool.and_eq_true] at h
  have h2 := List.isPerm_iff.mp h.2.2
  have e : ((ns.map fun (k : Nat) => (k : Int)).map PyData.int).map intOf = ns.map fun (k : Nat) => (k : Int) := by
    rw [List.map_map]
    exact (List.map_congr_left fun _ _ => rfl).trans (List.map_id _)
  rw [e] at h2
  have h3 := h2.symm.map Int.toNat
  unfold rngI at h3
  rw [List.map_map, List.map_map] at h3
  have e2 : ∀ l : List Nat, l.map (Int.toNat ∘ fun (k : Nat) => (k : Int)) = l := fun l => (List.map_congr_left fun k _ => by show ((k : Int)).toNat = k; omega).trans (List.map_id l)
  rw [e2, e2] at h3
  exact h3
theorem ord_of_perm {ns : List Nat} {n : Nat} (h : ns.Perm (List.range n)) : isOrd (tupN ns) n = true := by
  show (decide ((((ns.map fun (k : Nat) => (k : Int)).map PyData.int)).length = n) && (((ns.map fun (k : Nat) => (k : Int)).map PyData.int).all isInt && (rngI n).isPerm (((ns.map fun (k : Nat) => (k : Int)).map PyData.int).map intOf))) = true
  have e : ((ns.map fun (k : Nat) => (k : Int)).map PyData.int).map intOf = ns.map fun (k : Nat) => (k : Int) := by
    rw [List.map_map]
    exact (List.map_congr_left fun _ _ => rfl).trans (List.map_id _)
  rw [e]
  simp only [Bool.and_eq_true, decide_eq_true_eq]
  refine ⟨by rw [List.length_map, List.length_map, h.length_eq, List.length_range], ?_, List.isPerm_iff.mpr (h.symm.map _)⟩
  rw [List.all_map, List.all_map]
  exact List.all_eq_true.mpr fun _ _ => rfl
def f_needOrder : FSp := fun args m R => ∃ ts x, args = [.d (.tuple ts), .d x] ∧ ts.length ≤ 5 ∧ isOrd x ts.length = true ∧ R (.d .none) m
theorem of_needOrder {cs : List Addr} : ∀ args m R, f_needOrder args m R → fnE cs 2 eNeedOrder preTup5 args m R fun _ _ => False := by
  rintro args m R ⟨ts, x, rfl, h5, hx, q⟩
  refine ⟨[.tuple ts, x], rfl, rfl, h5, fun d hd => ?_, fun i hi => ?_⟩
  · simp only [eNeedOrder, hx, if_true] at hd; injection hd with hd; subst hd; exact q
  · simp only [eNeedOrder, hx, if_true] at hi; cases hi
def f_needUnlike : FSp := fun args m R => ∃ ts x y, args = [.d (.tuple ts), .d x, .d y] ∧ unlk x y ts.length = true ∧ R (.d .none) m
theorem of_needUnlike {cs : List Addr} : ∀ args m R, f_needUnlike args m R → fnE cs 3 eNeedUnlike preTup args m R fun _ _ => False := by
  rintro args m R ⟨ts, x, y, rfl, hx, q⟩
  refine ⟨[.tuple ts, x, y], rfl, rfl, trivial, fun d hd => ?_, fun i hi => ?_⟩
  · simp only [eNeedUnlike, hx, if_true] at hd; injection hd with hd; subst hd; exact q
  · simp only [eNeedUnlike, hx, if_true] at hi; cases hi
def f_orderChance : FSp := fun args m R => ∃ (ss : List Int) (ns : List Nat), args = [.d (tupI ss), .d (tupN ns)] ∧ Shares ss ∧ ns.Perm (List.range ss.length) ∧ R (.d (frac (ordQ ss ns))) m
def f_ahead : FSp := fun args m R => ∃ (ss : List Int) (a b : Nat), args = [.d (tupI ss), .d (.int (a : Int)), .d (.int (b : Int))] ∧ Shares ss ∧ a < ss.length ∧ b < ss.length ∧ a ≠ b ∧ R (.d (frac (mkRat (ss.getD a 0) (ss.getD a 0 + ss.getD b 0).toNat))) m
def rNum (lo hi : Int) : List PyData → Nat → Prop
  | [sh, x], i => (isShares sh = false ∧ i = 0) ∨ (∃ ss, sh = tupI ss ∧ Shares ss ∧ okNum x lo hi = false ∧ i = 2)
  | _, _ => False
def rNumL : List PyData → Nat → Prop
  | [sh, x], i => (isShares sh = false ∧ i = 0) ∨ (∃ ss, sh = tupI ss ∧ Shares ss ∧ okNum x 0 (ss.length : Int) = false ∧ i = 2)
  | _, _ => False
def rOne : List PyData → Nat → Prop
  | [sh], i => isShares sh = false ∧ i = 0
  | _, _ => False
def rAsk45 : List PyData → Option Nat → Prop
  | [.int k, sh, x, y], o => (isShares sh = false ∧ 0 ≤ k ∧ k ≤ 5 ∧ o = some 0) ∨ ∃ ss, sh = tupI ss ∧ Shares ss ∧
     ((k = 0 ∧ unlk x y ss.length = false ∧ o = some 1) ∨ (k = 0 ∧ unlk x y ss.length = true ∧ o = none) ∨ (k = 1 ∧ isOrd x ss.length = false ∧ o = some 1) ∨ (k = 1 ∧ (∃ ns, x = tupN ns ∧ ns.Perm (List.range ss.length)) ∧ o = none) ∨
      (k = 2 ∧ okNum x 0 12 = false ∧ o = some 2) ∨ (k = 2 ∧ (∃ n : Nat, x = .int (n : Int) ∧ n ≤ 12) ∧ o = none) ∨ (k = 3 ∧ okNum x 0 (ss.length : Int) = false ∧ o = some 2) ∨ (k = 3 ∧ (∃ n : Nat, x = .int (n : Int) ∧ n ≤ ss.length) ∧ o = none))
  | _, _ => False
theorem okKnd_off {i : Int} {n : Nat} (h : i < 0 ∨ (n : Int) ≤ i) : okKnd (.int i) n = false := by
  cases hk : okKnd (.int i) n with
  | false => rfl
  | true => simp only [okKnd, Bool.and_eq_true, decide_eq_true_eq] at hk; omega
theorem okNum_off {i lo hi : Int} (h : i < lo ∨ hi < i) : okNum (.int i) lo hi = false := by
  cases hk : okNum (.int i) lo hi with
  | false => rfl
  | true => simp only [okNum, Bool.and_eq_true, decide_eq_true_eq] at hk; omega
theorem bad45 {n : Nat} {z w : Int} (h0 : 0 ≤ z) (hw : 10 ≤ w) (hn : n ≤ 5) : ∀ d ∈ [PyData.int (-1), .int (n : Int), .bool true, .none, .str "0", .tuple [.int 0], .list [.int 0], .int ((n : Int) + z), .int w], okKnd d n = false := by
  intro d hd
  simp only [List.mem_cons, List.not_mem_nil, or_false] at hd
  rcases hd with rfl | rfl | rfl | rfl | rfl | rfl | rfl | rfl | rfl <;> first | rfl | exact okKnd_off (by omega)
theorem num45 {n : Nat} {z w : Int} (h0 : 0 ≤ z) (hw : 13 ≤ w) (hn : n ≤ 5) : ∀ d ∈ [PyData.int (-1), .int 13, .bool true, .none, .str "1", .tuple [.int 1], .int w, .int (13 + z), .list [.int 1], .dict []], okNum d 0 12 = false ∧ okNum d 0 (n : Int) = false ∧ isOrd d n = false := by
  intro d hd
  simp only [List.mem_cons, List.not_mem_nil, or_false] at hd
  rcases hd with rfl | rfl | rfl | rfl | rfl | rfl | rfl | rfl | rfl | rfl <;> first | exact ⟨rfl, rfl, rfl⟩ | exact ⟨okNum_off (by omega), okNum_off (by omega), rfl⟩ | skip
  refine ⟨rfl, rfl, ?_⟩
  have h6 : ∀ n : _root_.Fin 6, isOrd (.tuple [.int 1]) n.val = false := by decide +kernel
  exact h6 ⟨n, by omega⟩
theorem shaped_three : SeqAt.shaped (.list [plcs none, plcs none, plcs none]) = true := shaped_rep none 3
end DL

/-! repr of data with dicts (and no lists) -/
namespace DL
open PySem L2 PySem.Spec PyProof.Rows L2H

mutual
def noL : PyData → Bool
  | .list _ => false
  | .tuple ds => noLAll ds
  | .dict kvs => noLV kvs
  | .none => true
  | .bool _ => true
  | .int _ => true
  | .str _ => true
def noLAll : List PyData → Bool
  | [] => true
  | d :: ds => noL d && noLAll ds
def noLV : List (PyData × PyData) → Bool
  | [] => true
  | (_, d) :: r => noL d && noLV r
end
section
variable {X : Cx} {pins : List (Addr × Obj)} {σ : L2.St} {H : Hp} {s : Shared}
theorem key_reads {h : Heap} : ∀ {k : Key} {u : Value}, RelV (kV k) u → Reads h u (keyD k) []
  | .inl i, u, r => by
    obtain ⟨t, rfl⟩ := r
    exact Reads.int i t
  | .inr x, u, r => by
    obtain ⟨t, rfl⟩ := r
    exact Reads.str x t
theorem keys_reads {h : Heap} : ∀ {ks : List Key} {us : List Value}, Vals (ks.map kV) us → ReadsAll h us (ks.map keyD) []
  | [], us, r => by cases r; exact ReadsAll.nil
  | k :: ks, us, r => by
    cases r with
    | cons r1 r2 => exact ReadsAll.cons (as := []) (bs := []) (key_reads r1) (keys_reads r2)
theorem tup_reads (I : Inv X pins σ H s) {b : Addr} {ks : List Key} (h : H b = some (.tup (ks.map kV))) : Reads s.heap (.ref b) (.tuple (ks.map keyD)) [] := by
  obtain ⟨its, rv, ⟨o, ho, hc, n, hd⟩, _⟩ := I.tuple (SqT.of h)
  exact Reads.tuple ho hc hd (keys_reads rv)
mutual
theorem rdD (I : Inv X pins σ H s) : ∀ (d : PyData) (v : V) (u : Value), noL d = true → Rp X.K H d v → RelV v u → ∃ as, Reads s.heap u d as ∧ sysModules ∉ as
  | .none, v, u, _, h, r => by
    rw [rp_none.mp h] at r; cases r
    exact ⟨[], Reads.none, fun z => nomatch z⟩
  | .bool b, v, u, _, h, r => by
    rw [rp_bool.mp h] at r; cases r
    exact ⟨[], Reads.bool b, fun z => nomatch z⟩
  | .int i, v, u, _, h, r => by
    rw [rp_int.mp h] at r
    obtain ⟨t, rfl⟩ := r
    exact ⟨[], Reads.int i t, fun z => nomatch z⟩
  | .str x, v, u, _, h, r => by
    rw [rp_str.mp h] at r
    obtain ⟨t, rfl⟩ := r
    exact ⟨[], Reads.str x t, fun z => nomatch z⟩
  | .list ds, v, u, n, _, _ => by simp [noL] at n
  | .tuple ds, v, u, n, h, r => by
    obtain ⟨a, xs, rfl, h2, h3⟩ := rp_tuple.mp h
    cases r
    obtain ⟨its, rv, ⟨o, ho, hc, n2, hd⟩, _⟩ := I.tuple h2
    obtain ⟨as, hr, hns⟩ := rdDAll I ds xs its (by simpa [noL] using n) h3 rv
    exact ⟨as, Reads.tuple ho hc hd hr, hns⟩
  | .dict kvs, v, u, n, h, r => by
    rw [Rp] at h
    obtain ⟨a, rfl, h⟩ := h
    cases r
    have n : noLV kvs = true := by simpa [noL] using n
    rcases h with ⟨es, h1, h2⟩ | ⟨es, h1, h2⟩
    · obtain ⟨_, hd, xs, rel, o, es2, ep, g1, g2, g3, g4, _⟩ := dt_rd I.hok (.inl h1)
      obtain ⟨as, bs, q1, q2, q3, q4⟩ := rdDT I kvs es xs n h2 rel
      refine ⟨a :: as ++ bs, Reads.dict g1 g2.1 g3 ?_ ?_, ?_⟩
      · rw [g4, List.map_map]; exact q1
      · rw [g4, List.map_map]; exact q2
      · intro z
        rcases List.mem_append.mp z with z | z
        · rcases List.mem_cons.mp z with z | z
          · rw [z] at hd; simp at hd
          · exact q3 z
        · exact q4 z
    · obtain ⟨_, hd, vs, rel, o, es2, ep, g1, g2, g3, _, g4, _⟩ := dk_rd I.hok (.inl h1)
      obtain ⟨as, bs, q1, q2, q3, q4⟩ := rdDK I kvs es vs es2.toList n h2 rel g4
      refine ⟨a :: as ++ bs, Reads.dict g1 g2.1 g3 q1 q2, ?_⟩
      intro z
      rcases List.mem_append.mp z with z | z
      · rcases List.mem_cons.mp z with z | z
        · rw [z] at hd; simp at hd
        · exact q3 z
      · exact q4 z
theorem rdDAll (I : Inv X pins σ H s) : ∀ (ds : List PyData) (vs : List V) (us : List Value), noLAll ds = true → RpAll X.K H ds vs → Vals vs us → ∃ as, ReadsAll s.heap us ds as ∧ sysModules ∉ as
  | [], vs, us, _, h, r => by
    rw [rpa_nil.mp h] at r; cases r
    exact ⟨[], ReadsAll.nil, fun z => nomatch z⟩
  | d :: ds, vs, us, n, h, r => by
    obtain ⟨x, t, rfl, h2, h3⟩ := rpa_cons.mp h
    have n : noL d = true ∧ noLAll ds = true := by simpa [noLAll] using n
    cases r with
    | cons r1 r2 =>
      obtain ⟨as, q1, q2⟩ := rdD I d x _ n.1 h2 r1
      obtain ⟨bs, q3, q4⟩ := rdDAll I ds t _ n.2 h3 r2
      exact ⟨as ++ bs, ReadsAll.cons q1 q3, fun z => (List.mem_append.mp z).elim q2 q4⟩
theorem rdDT (I : Inv X pins σ H s) : ∀ (kvs : List (PyData × PyData)) (es : List (List Key × V)) (xs : List (List Key × Addr × Value)), noLV kvs = true → RpT X.K H kvs es → KT H es xs →
    ∃ as bs, ReadsAll s.heap (xs.map fun x => Value.ref x.2.1) (kvs.map (·.1)) as ∧ ReadsAll s.heap (xs.map fun x => x.2.2) (kvs.map (·.2)) bs ∧ sysModules ∉ as ∧ sysModules ∉ bs
  | [], es, xs, _, h, r => by
    rw [RpT] at h
    subst h
    cases r
    exact ⟨[], [], ReadsAll.nil, ReadsAll.nil, (fun z => nomatch z), (fun z => nomatch z)⟩
  | (k, d) :: kvs, es, xs, n, h, r => by
    rw [RpT] at h
    obtain ⟨ks, v, t, rfl, rfl, h2, h3⟩ := h
    have n : noL d = true ∧ noLV kvs = true := by simpa [noLV] using n
    cases r with
    | @cons p q ps qs hq r2 =>
      obtain ⟨e1, e2, e3⟩ := hq
      obtain ⟨as, q1, q2⟩ := rdD I d v _ n.1 h2 e3
      obtain ⟨cs, bs, q3, q4, q5, q6⟩ := rdDT I kvs t qs n.2 h3 r2
      exact ⟨[] ++ cs, as ++ bs, ReadsAll.cons (tup_reads I e2) q3, ReadsAll.cons q1 q4, q5, fun z => (List.mem_append.mp z).elim q2 q6⟩
theorem rdDK (I : Inv X pins σ H s) : ∀ (kvs : List (PyData × PyData)) (es : List (Key × V)) (vs : List (Key × Value)) (en : List DictEntry), noLV kvs = true → RpK X.K H kvs es → KV es vs → Pairs (mixKind X.prog X.w) en vs →
    ∃ as bs, ReadsAll s.heap (en.map (·.key)) (kvs.map (·.1)) as ∧ ReadsAll s.heap (en.map (·.val)) (kvs.map (·.2)) bs ∧ sysModules ∉ as ∧ sysModules ∉ bs
  | [], es, vs, en, _, h, r, p => by
    rw [RpK] at h
    subst h
    cases r
    cases p
    exact ⟨[], [], ReadsAll.nil, ReadsAll.nil, (fun z => nomatch z), (fun z => nomatch z)⟩
  | (k, d) :: kvs, es, vs, en, n, h, r, p => by
    rw [RpK] at h
    obtain ⟨ks, v, t, rfl, rfl, h2, h3⟩ := h
    have n : noL d = true ∧ noLV kvs = true := by simpa [noLV] using n
    cases r with
    | @cons p1 q ps qs hq r2 =>
      obtain ⟨e1, e3⟩ := hq
      cases p with
      | @cons e kv es2 kvs2 g1 g2 g3 =>
        obtain ⟨as, q1, q2⟩ := rdD I d v _ n.1 h2 e3
        obtain ⟨cs, bs, q3, q4, q5, q6⟩ := rdDK I kvs t qs es2 n.2 h3 r2 g3
        have kr : Reads s.heap e.key (keyD ks) [] := by
          have e1 : ks = q.1 := e1
          rw [e1]
          rcases keyIs_shape g1 with ⟨i, tk, e5, e4⟩ | ⟨x, tk, e5, e4⟩
          · rw [e5, e4]; exact Reads.int i tk
          · rw [e5, e4]; exact Reads.str x tk
        rw [← g2] at q1
        exact ⟨[] ++ cs, as ++ bs, ReadsAll.cons kr q3, ReadsAll.cons q1 q4, q5, fun z => (List.mem_append.mp z).elim q2 q6⟩
end
end
def rReprD (K : PySem.W.Frag) : List V → Hp → VK → Prop := fun xs H Q => ∃ a d, xs = [V.ref a] ∧ Rp K H d (V.ref a) ∧ noL d = true ∧ d.depth ≤ 64 ∧ d.showable = true ∧ d.shown.length ≤ sizeLine ∧ Q (.str d.shown) H
theorem cReprD {X : Cx} {k : Nat} (hr : Room k X.A) (hg : X.A.guards = some []) : CallR X (.builtin "repr") (rReprD X.K) := by
  intro pins s σ H xs us Q I r h
  obtain ⟨a, d, rfl, hd, h0, h1, h2, h3, q⟩ := h
  obtain ⟨u, rfl, rx⟩ := vals1 r
  obtain ⟨as, rd, ns⟩ := rdD I d _ u h0 hd rx
  cases rx
  have := hr.un
  exact repr_of_reads' rd h2 (fun _ => ns) hg (by omega) (fun _ _ e => e) (fun h' u tk hk => ⟨.str _, H, I.kept hk, ⟨_, rfl⟩, q⟩) h3
def rReprX (K : PySem.W.Frag) : List V → Hp → VK → Prop := fun xs H Q => rRepr K xs H Q ∨ rReprD K xs H Q
theorem kReprX {X : Cx} {j : Nat} (K : PySem.W.Frag) (hr : Room j X.A) (hg : X.A.guards = some []) (h : X.K = K := by rfl) : CallR X (.builtin "repr") (rReprX K) := h ▸ ((cRepr hr hg).or (cReprD hr hg))
section
variable {K : PySem.W.Frag} {m : Mm} {Q : Val → Mm → Prop}
theorem on_showX {x : PyData} {k n : Nat} (h : Sh x k n) (h1 : k ≤ 64) (h2 : n ≤ 16777216) (q : Q (.d (.str x.shown)) m) : OpN K (rReprX K) [.d x] m Q := fun H G vs S a R kk => Or.inl (on_show h h1 h2 q H G vs S a R kk)
/-- repr of a tuple or dict with dicts -/
theorem on_showD {x : PyData} (hx : (∃ ds, x = .tuple ds) ∨ ∃ kvs, x = .dict kvs) (h0 : noL x = true) (h1 : x.depth ≤ 64) (h2 : x.showable = true) (h3 : x.shown.length ≤ 16777216) (q : Q (.d (.str x.shown)) m) : OpN K (rReprX K) [.d x] m Q := fun H G vs S a R kk => by
  obtain ⟨v, rfl, hv⟩ := vrs1 a
  have hr := Rp.mono S.sub _ _ hv.rp
  obtain ⟨p, rfl⟩ : ∃ p, v = V.ref p := by
    rcases hx with ⟨ds, rfl⟩ | ⟨kvs, rfl⟩
    · obtain ⟨p, _, e, _⟩ := rp_tuple.mp hr
      exact ⟨p, e⟩
    · rw [Rp] at hr
      obtain ⟨p, e, _⟩ := hr
      exact ⟨p, e⟩
  exact Or.inr ⟨p, x, rfl, hr, h0, h1, h2, by rw [sizeLine_eq]; exact h3, kk _ H G _ m q S (Le.refl G) vr_str⟩
end
end DL

/-! taking items out of a list; a list mixed up -/
namespace DL
open PySem L2 PySem.Spec PyProof.Rows L2H

theorem VRs.nth {K : PySem.W.Frag} {G : Hp} : ∀ {rs : List Val} {xs : List V} {i : Nat} {x : Val}, VRs K G rs xs → rs[i]? = some x → ∃ v, xs[i]? = some v ∧ VR K G x v
  | [], _, _, _, _, h => by simp at h
  | r :: rs, xs, 0, x, h, e => by
    obtain ⟨v, t, rfl, h1, h2⟩ := h
    have e : r = x := by simpa using e
    subst e
    exact ⟨v, rfl, h1⟩
  | r :: rs, xs, i + 1, x, h, e => by
    obtain ⟨v, t, rfl, h1, h2⟩ := h
    obtain ⟨u, h3, h4⟩ := VRs.nth h2 (by simpa using e)
    exact ⟨u, by simpa using h3, h4⟩
theorem VRs.erase {K : PySem.W.Frag} {G : Hp} : ∀ {rs : List Val} {xs : List V} (i : Nat), VRs K G rs xs → VRs K G (rs.eraseIdx i) (xs.eraseIdx i)
  | [], xs, i, h => by
    have h : xs = [] := h
    subst h
    exact rfl
  | r :: rs, xs, 0, h => by
    obtain ⟨v, t, rfl, h1, h2⟩ := h
    exact h2
  | r :: rs, xs, i + 1, h => by
    obtain ⟨v, t, rfl, h1, h2⟩ := h
    exact ⟨v, _, rfl, h1, VRs.erase i h2⟩
section
variable {K : PySem.W.Frag} {r : List Val} {m : Mm} {Q : Val → Mm → Prop} {te : TE}
/-- xs.pop(i) -/
theorem ev_popAt {to : TE} {p : Addr} (h : Ev K to r m fun x m1 => x = .v (.ref p) ∧ (∃ rs, m1 p = some (.lst rs)) ∧ Ev K te r m1 fun y m2 => ∃ (i : Nat) (rs : List Val) (x : Val), y = .d (.int (i : Int)) ∧ m2 p = some (.lst rs) ∧ i < 1000000 ∧ rs[i]? = some x ∧ Q x (put m2 p (.lst (rs.eraseIdx i)))) :
    Ev K (tBM K "list" rPopAt to (tCons te tNil)) r m Q := fun σ H G S L R k =>
  h σ H G S L _ fun v H1 G1 x m1 ⟨hx, ⟨rs0, hm⟩, h1⟩ S1 e1 r1 => by
    subst hx
    have r1 := r1.eq
    subst r1
    obtain ⟨xs, g1, g2⟩ := S1.mem p _ hm
    refine ⟨Or.inl ⟨rfl, xs, Or.inl (Or.inl g1)⟩, ?_⟩
    refine h1 σ H1 G1 S1 (L.mono e1) _ fun w H2 G2 y m2 ⟨i, rs, x, hy, hm2, hi, hx, q⟩ S2 e2 r2 => ?_
    subst hy
    have r2 := int_of r2
    subst r2
    obtain ⟨ys, g3, g4⟩ := S2.mem p _ hm2
    obtain ⟨u, hu, ru⟩ := VRs.nth g4 hx
    have hlt : i < ys.length := (List.getElem?_eq_some_iff.mp hu).1
    refine ⟨p, ys, (i : Int), i, u, rfl, rfl, g3, by omega, by omega, ?_, hu, ?_⟩
    · unfold seqIndex?
      simp only [show ¬ (i : Int) < 0 by omega, if_false]
      rw [if_pos (by simp; omega)]
      simp
    · exact k u _ G2 _ _ q (S2.chg hm2 ⟨_, upd_same, g4.erase i⟩) (e1.trans e2) ru
/-- list(xs), a list that may change -/
theorem on_lstLM {ds : List PyData} (q : ∀ p, m p = none → Q (.v (.ref p)) (put m p (.lst (ds.map Val.d)))) : OpN K (rLstO K) [.d (.list ds)] m Q := fun H G vs S a R k => by
  obtain ⟨v, rfl, h⟩ := vrs1 a
  obtain ⟨p, xs, rfl, h2, h3⟩ := rp_list.mp h.rp
  refine ⟨p, xs, rfl, Or.inl (S.sqL (Or.inl h2)), fun l hl => ?_⟩
  exact k _ _ G _ _ (q l (S.freeM hl)) (S.new hl ⟨xs, upd_same, VRs.ofAll h3⟩) (Le.refl G) .v
/-- != of a list that may change -/
theorem o2_neMD {ds es : List PyData} {p : Addr} (hm : m p = some (.lst (ds.map Val.d))) (hx : SeqAt.shaped (.list ds) = true) (hy : SeqAt.shaped (.list es) = true) (q : Q (.d (.bool (!PyData.eqv (.list ds) (.list es)))) m) : Op2 K (rNeA K) (.v (.ref p)) (.d (.list es)) m Q := fun H G v w S a b R k => by
  have a := a.eq
  subst a
  obtain ⟨xs, g1, g2⟩ := S.mem p _ hm
  have hx2 : ((PyData.list ds).canLay0 && decide ((PyData.list ds).depth ≤ 64)) = true := hx
  rw [Bool.and_eq_true] at hx2
  have hr : Rp K H (.list ds) (.ref p) := rp_list.mpr ⟨p, xs, rfl, Or.inl g1, RpAll.mono S.sub _ _ g2.toAll⟩
  exact Or.inr ⟨.list ds, .list es, rp_dp _ _ (PyData.hasDict_of_canLay _ hx2.1) hr, dp_of S hy b, hx, hy, k _ H G _ m q S (Le.refl G) vr_bool⟩
end
theorem erase_map {α β : Type} (f : α → β) : ∀ (l : List α) (i : Nat), (l.map f).eraseIdx i = (l.eraseIdx i).map f
  | [], _ => rfl
  | x :: l, 0 => rfl
  | x :: l, i + 1 => by
    show f x :: (l.map f).eraseIdx i = f x :: (l.eraseIdx i).map f
    rw [erase_map f l i]
/-- a list of whole numbers in another order -/
def f_mixedUp : FSp := fun args m R => ∃ (p : Addr) (ns : List Int), args = [.v (.ref p), .d (.list (ns.map PyData.int))] ∧ m p = some .box ∧ ns.length ≤ 100 ∧ ∀ es : List Int, es.Perm ns → R (.d (.list (es.map PyData.int))) m
theorem erase_perm0 : ∀ {rs : List Int} {i : Nat} {x : Int}, rs[i]? = some x → (x :: rs.eraseIdx i).Perm rs
  | [], _, _, h => by simp at h
  | r :: rs, 0, x, h => by
    have h : r = x := by simpa using h
    subst h
    exact List.Perm.refl _
  | r :: rs, i + 1, x, h => by
    have ih := erase_perm0 (rs := rs) (i := i) (x := x) (by simpa using h)
    exact (List.Perm.swap r x _).trans (List.Perm.cons r ih)
theorem erase_perm {es rs : List Int} {i : Nat} {x : Int} (h : rs[i]? = some x) : ((es ++ [x]) ++ rs.eraseIdx i).Perm (es ++ rs) := by
  rw [List.append_assoc]
  exact List.Perm.append_left es (erase_perm0 h)
end DL

/-! what are no orders; what may be shown -/
namespace DL
open PySem L2 PySem.Spec PyProof.Rows L2H

theorem isOrd_len {ds : List PyData} {n : Nat} (h : ds.length ≠ n) : isOrd (.tuple ds) n = false := by
  show (decide (ds.length = n) && _) = false
  rw [decide_eq_false h, Bool.false_and]
theorem isOrd_all {ds : List PyData} {n : Nat} (h : isOrd (.tuple ds) n = true) : (∀ d ∈ ds, ∃ k : Nat, k < n ∧ d = .int (k : Int)) ∧ ∀ k : Nat, k < n → PyData.int (k : Int) ∈ ds := by
  have h : (decide (ds.length = n) && (ds.all isInt && (rngI n).isPerm (ds.map intOf))) = true := h
  simp only [Bool.and_eq_true] at h
  obtain ⟨_, h1, h2⟩ := h
  have hp := List.isPerm_iff.mp h2
  have e : ∀ d ∈ ds, d = .int (intOf d) := fun d hd => by
    obtain ⟨i, rfl⟩ := int_shape (List.all_eq_true.mp h1 d hd)
    rfl
  refine ⟨fun d hd => ?_, fun k hk => ?_⟩
  · have hm : intOf d ∈ rngI n := hp.mem_iff.mpr (List.mem_map.mpr ⟨d, hd, rfl⟩)
    obtain ⟨k, hk, he⟩ := List.mem_map.mp hm
    exact ⟨k, List.mem_range.mp hk, by rw [he]; exact e d hd⟩
  · have hm : (k : Int) ∈ ds.map intOf := hp.mem_iff.mp (List.mem_map.mpr ⟨k, List.mem_range.mpr hk, rfl⟩)
    obtain ⟨d, hd, he⟩ := List.mem_map.mp hm
    rw [← he, ← e d hd]; exact hd
theorem isOrd_odd {ds : List PyData} {n : Nat} {d : PyData} (h : d ∈ ds) (ho : ∀ k : Nat, k < n → d ≠ .int (k : Int)) : isOrd (.tuple ds) n = false := by
  cases hb : isOrd (.tuple ds) n with
  | false => rfl
  | true =>
    obtain ⟨k, hk, e⟩ := (isOrd_all hb).1 d h
    exact absurd e (ho k hk)
theorem isOrd_lack {ds : List PyData} {n k : Nat} (hk : k < n) (h : PyData.int (k : Int) ∉ ds) : isOrd (.tuple ds) n = false := by
  cases hb : isOrd (.tuple ds) n with
  | false => rfl
  | true => exact absurd ((isOrd_all hb).2 k hk) h
theorem perm_nat {es : List Int} {n : Nat} (h : es.Perm (rngI n)) : ∃ ns : List Nat, es = ns.map (fun (k : Nat) => (k : Int)) ∧ ns.Perm (List.range n) := by
  refine ⟨es.map Int.toNat, ?_, ?_⟩
  · rw [List.map_map]
    refine (List.map_id es).symm.trans (List.map_congr_left fun i hi => ?_)
    obtain ⟨k, _, rfl⟩ := List.mem_map.mp (h.mem_iff.mp hi)
    show (k : Int) = (((k : Int).toNat : Nat) : Int)
    omega
  · have h3 := h.map Int.toNat
    unfold rngI at h3
    rw [List.map_map] at h3
    have e2 : ∀ l : List Nat, l.map (Int.toNat ∘ fun (k : Nat) => (k : Int)) = l := fun l => (List.map_congr_left fun k _ => by show ((k : Int)).toNat = k; omega).trans (List.map_id l)
    rw [e2] at h3
    exact h3
/-! shown, with or without dicts -/
def ShD (d : PyData) (k n : Nat) : Prop := noL d = true ∧ d.depth ≤ k ∧ d.showable = true ∧ d.shown.length ≤ n
def ShOk (x : PyData) : Prop := (∃ k n, Sh x k n ∧ k ≤ 64 ∧ n ≤ 16777216) ∨ ((∃ ds, x = .tuple ds) ∨ ∃ kvs, x = .dict kvs) ∧ ShD x 64 16777216
theorem on_showA {K : PySem.W.Frag} {m : Mm} {Q : Val → Mm → Prop} {x : PyData} (h : ShOk x) (q : Q (.d (.str x.shown)) m) : OpN K (rReprX K) [.d x] m Q := by
  rcases h with ⟨k, n, h, h1, h2⟩ | ⟨hx, h0, h1, h2, h3⟩
  · exact on_showX h h1 h2 q
  · exact on_showD hx h0 h1 h2 h3 q
theorem shdAll {k n : Nat} : ∀ {ds : List PyData}, (∀ d ∈ ds, ShD d k n) → noLAll ds = true ∧ PyData.depthAll ds ≤ k ∧ PyData.showableAll ds = true ∧ ((PyData.shownAll ds).map (·.length)).sum ≤ n * ds.length ∧ (PyData.shownAll ds).length = ds.length
  | [], _ => ⟨by simp only [noLAll], by simp only [PyData.depthAll]; exact Nat.zero_le _, by simp only [PyData.showableAll], by simp [PyData.shownAll], by simp [PyData.shownAll]⟩
  | d :: ds, h => by
    obtain ⟨p1, p2, p3, p4⟩ := h d (List.mem_cons_self ..)
    obtain ⟨a, b, c, e, f⟩ := shdAll (ds := ds) fun x hx => h x (List.mem_cons_of_mem _ hx)
    refine ⟨by simp only [noLAll, p1, a]; rfl, ?_, by simp only [PyData.showableAll, p3, c]; rfl, ?_, ?_⟩
    · simp only [PyData.depthAll]
      exact Nat.max_le.mpr ⟨p2, b⟩
    · simp only [PyData.shownAll, List.map_cons, List.sum_cons, List.length_cons]
      rw [Nat.mul_succ]
      omega
    · simp only [PyData.shownAll, List.length_cons, f]
theorem shd_tuple {ds : List PyData} {k n c : Nat} (h : ∀ d ∈ ds, ShD d k n) (hc : ds.length ≤ c) : ShD (.tuple ds) (k + 1) ((n + 2) * c + 3) := by
  obtain ⟨a, b, e, f, g⟩ := shdAll h
  refine ⟨by simp only [noL, a], by simp only [PyData.depth]; omega, by simp only [PyData.showable, e], ?_⟩
  simp only [PyData.shown]
  have := tupleText_len_le (PyData.shownAll ds)
  have h1 : n * ds.length ≤ n * c := Nat.mul_le_mul_left n hc
  have h2 : (n + 2) * c = n * c + 2 * c := Nat.add_mul n 2 c
  omega
theorem shd_small {i : Int} (h : i.natAbs < 1024) : ShD (.int i) 1 11 := by
  have s := sh_int (i := i) (a := 10) h (by decide) (by decide)
  exact ⟨by simp only [noL], Nat.le_trans s.dp (by decide), s.sh, s.ln⟩
theorem shd_dict0 : ShD (.dict []) 1 11 := ⟨by decide +kernel, by decide +kernel, by decide +kernel, by decide +kernel⟩
theorem sh_small {i : Int} (h : i.natAbs < 1024) : Sh (.int i) 1 11 := (sh_int (i := i) (a := 10) h (by decide) (by decide)).mono (by decide) (by decide)
theorem shOk_tup {ds : List PyData} (h : ∀ d ∈ ds, Sh d 1 11) (hl : ds.length ≤ 8) : ShOk (.tuple ds) := Or.inl ⟨_, _, sh_tuple h hl, by decide, by decide⟩
theorem shOk_tupD {ds : List PyData} (h : ∀ d ∈ ds, ShD d 1 11) (hl : ds.length ≤ 8) : ShOk (.tuple ds) := Or.inr ⟨Or.inl ⟨_, rfl⟩, by
  obtain ⟨h1, h2, h3, h4⟩ := shd_tuple h hl
  exact ⟨h1, Nat.le_trans h2 (by decide), h3, Nat.le_trans h4 (by decide)⟩⟩
theorem shOk_dict0 : ShOk (.dict []) := Or.inr ⟨Or.inr ⟨_, rfl⟩, by decide +kernel, by decide +kernel, by decide +kernel, by decide +kernel⟩
theorem cut_init {α : Type} (f : α → PyData) (l : List α) : cutD (l.map f) none (some (-1)) = (l.take (l.length - 1)).map f := by
  unfold cutD
  rw [HT.sIx_none, List.drop_zero, Nat.sub_zero, List.length_map, List.map_take]
  congr 1
  show (if (-1 : Int) < 0 then (-1 + (l.length : Int)).toNat else min (-1 : Int).toNat l.length) = l.length - 1
  rw [if_pos (by decide)]
  omega
/-- what the laws ask about things that are no orders -/
def NoOrd (x : PyData) (n : Nat) : Prop := isOrd x n = false ∧ ShOk x
def boolish (k : Nat) : PyData := if k = 0 then .bool false else if k = 1 then .bool true else .int (k : Int)
section
variable {ns : List Nat} {n a : Nat} (hp : ns.Perm (List.range n)) (h1 : 1 ≤ n) (h5 : n ≤ 5)
include hp h1 h5
theorem ord_len : ns.length = n := by rw [hp.length_eq, List.length_range]
theorem ord_lt {k : Nat} (h : k ∈ ns) : k < n := List.mem_range.mp (hp.mem_iff.mp h)
theorem sh_kinds {l : List Nat} (hl : ∀ k ∈ l, k ∈ ns) : ∀ d ∈ l.map intN, Sh d 1 11 := fun d hd => by
  obtain ⟨k, hk, rfl⟩ := List.mem_map.mp hd
  have := ord_lt hp h1 h5 (hl k hk)
  exact sh_small (by show (k : Int).natAbs < 1024; omega)
theorem shd_kinds {l : List Nat} (hl : ∀ k ∈ l, k ∈ ns) : ∀ d ∈ l.map intN, ShD d 1 11 := fun d hd => by
  obtain ⟨k, hk, rfl⟩ := List.mem_map.mp hd
  have := ord_lt hp h1 h5 (hl k hk)
  exact shd_small (by show (k : Int).natAbs < 1024; omega)
theorem no_tail : NoOrd (.tuple ((ns.drop 1).map intN)) n := by
  have hl := ord_len hp h1 h5
  exact ⟨isOrd_len (by rw [List.length_map, List.length_drop]; omega), shOk_tup (sh_kinds hp h1 h5 fun k hk => List.mem_of_mem_drop hk) (by rw [List.length_map, List.length_drop]; omega)⟩
theorem no_more {x : Nat} (hx : x ≤ 5) : NoOrd (.tuple (ns.map intN ++ [.int (x : Int)])) n := by
  have hl := ord_len hp h1 h5
  refine ⟨isOrd_len (by rw [List.length_append, List.length_map]; simp; omega), shOk_tup (fun d hd => ?_) (by rw [List.length_append, List.length_map]; simp; omega)⟩
  rcases List.mem_append.mp hd with h | h
  · exact sh_kinds hp h1 h5 (fun k hk => hk) d h
  · rw [List.mem_singleton.mp h]; exact sh_small (by omega)
theorem no_list : NoOrd (.list (ns.map intN)) n := by
  have hl := ord_len hp h1 h5
  exact ⟨rfl, Or.inl ⟨_, _, sh_list (c := 8) (sh_kinds hp h1 h5 fun k hk => hk) (by rw [List.length_map]; omega), by decide, by decide⟩⟩
/-- one in place of another one -/
theorem no_other {x : PyData} (ho : ∀ k : Nat, k < n → x ≠ .int (k : Int)) (hs : Sh x 1 11) (l1 l2 : List Nat) (m1 : ∀ k ∈ l1, k ∈ ns) (m2 : ∀ k ∈ l2, k ∈ ns) (hl : l1.length + l2.length ≤ 5) : NoOrd (.tuple (l1.map intN ++ [x] ++ l2.map intN)) n := by
  refine ⟨isOrd_odd (d := x) (by simp) ho, shOk_tup (fun d hd => ?_) (by simp; omega)⟩
  rcases List.mem_append.mp hd with h | h
  · rcases List.mem_append.mp h with h | h
    · exact sh_kinds hp h1 h5 m1 d h
    · rw [List.mem_singleton.mp h]; exact hs
  · exact sh_kinds hp h1 h5 m2 d h
theorem no_end {x : PyData} (ho : ∀ k : Nat, k < n → x ≠ .int (k : Int)) (hs : Sh x 1 11) (l1 : List Nat) (m1 : ∀ k ∈ l1, k ∈ ns) (hl : l1.length ≤ 5) : NoOrd (.tuple (l1.map intN ++ [x])) n := by
  have := no_other hp h1 h5 ho hs l1 [] m1 (fun _ z => nomatch z) (by simpa using hl)
  simpa using this
theorem no_dict (l1 : List Nat) (m1 : ∀ k ∈ l1, k ∈ ns) (hl : l1.length ≤ 5) : NoOrd (.tuple (l1.map intN ++ [.dict []])) n := by
  refine ⟨isOrd_odd (d := .dict []) (by simp) (fun k _ z => nomatch z), shOk_tupD (fun d hd => ?_) (by simp; omega)⟩
  rcases List.mem_append.mp hd with h | h
  · exact shd_kinds hp h1 h5 m1 d h
  · rw [List.mem_singleton.mp h]; exact shd_dict0
theorem no_twice : NoOrd (.tuple (ns.map intN ++ (ns.take 1).map intN)) n := by
  have hl := ord_len hp h1 h5
  refine ⟨isOrd_len (by rw [List.length_append, List.length_map, List.length_map, List.length_take]; omega), shOk_tup (fun d hd => ?_) (by rw [List.length_append, List.length_map, List.length_map, List.length_take]; omega)⟩
  rcases List.mem_append.mp hd with h | h
  · exact sh_kinds hp h1 h5 (fun k hk => hk) d h
  · exact sh_kinds hp h1 h5 (fun k hk => List.mem_of_mem_take hk) d h
theorem no_bool : NoOrd (.tuple (ns.map boolish)) n := by
  have hl := ord_len hp h1 h5
  have h0 : 0 ∈ ns := hp.mem_iff.mpr (List.mem_range.mpr (by omega))
  refine ⟨isOrd_odd (d := .bool false) (List.mem_map.mpr ⟨0, h0, rfl⟩) (fun k _ z => nomatch z), shOk_tup (fun d hd => ?_) (by rw [List.length_map]; omega)⟩
  obtain ⟨k, hk, rfl⟩ := List.mem_map.mp hd
  have := ord_lt hp h1 h5 hk
  unfold boolish
  split
  · exact (sh_bool false).mono (by decide) (by decide)
  · split
    · exact (sh_bool true).mono (by decide) (by decide)
    · exact sh_small (by omega)
theorem no_again {j : Nat} (ha : a < n) (hj : j < n) (hne : j ≠ a) : NoOrd (.tuple ((ns.take a).map intN ++ [.int ((ns.getD j 0 : Nat) : Int)] ++ (ns.drop (a + 1)).map intN)) n := by
  have hl := ord_len hp h1 h5
  have hnd : ns.Nodup := hp.nodup_iff.mpr List.nodup_range
  have ha' : a < ns.length := by omega
  have hj' : j < ns.length := by omega
  have ej : ns.getD j 0 = ns[j] := by rw [List.getD_eq_getElem?_getD, List.getElem?_eq_getElem hj']; rfl
  have hdec : ns = ns.take a ++ ns[a] :: ns.drop (a + 1) := by
    conv => lhs; rw [← List.take_append_drop a ns, List.drop_eq_getElem_cons ha']
  have hk : ns[a] < n := ord_lt hp h1 h5 (List.getElem_mem ha')
  have hmemj : ns[j] ∈ ns := List.getElem_mem hj'
  refine ⟨isOrd_lack (k := ns[a]) hk ?_, shOk_tup (fun d hd => ?_) ?_⟩
  · intro hm
    have hn2 : (ns.take a ++ ns[a] :: ns.drop (a + 1)).Nodup := hdec ▸ hnd
    have hn3 := List.nodup_append.mp hn2
    have key : ∀ l : List Nat, PyData.int ((ns[a] : Nat) : Int) ∈ l.map intN → ns[a] ∈ l := fun l h => by
      obtain ⟨k, hk, e⟩ := List.mem_map.mp h
      have e : PyData.int (k : Int) = PyData.int ((ns[a] : Nat) : Int) := e
      injection e with e
      have e : k = ns[a] := by omega
      rw [← e]; exact hk
    rcases List.mem_append.mp hm with h | h
    · rcases List.mem_append.mp h with h | h
      · exact hn3.2.2 _ (key _ h) _ List.mem_cons_self rfl
      · have h := List.mem_singleton.mp h
        injection h with h
        rw [ej] at h
        have h : ns[a] = ns[j] := by omega
        exact hne ((List.getElem_inj hnd).mp h).symm
    · exact (List.nodup_cons.mp hn3.2.1).1 (key _ h)
  · rcases List.mem_append.mp hd with h | h
    · rcases List.mem_append.mp h with h | h
      · exact sh_kinds hp h1 h5 (fun k hk => List.mem_of_mem_take hk) d h
      · rw [List.mem_singleton.mp h]
        have := ord_lt hp h1 h5 hmemj
        exact sh_small (by rw [ej]; omega)
    · exact sh_kinds hp h1 h5 (fun k hk => List.mem_of_mem_drop hk) d h
  · simp only [List.length_append, List.length_map, List.length_take, List.length_drop, List.length_cons, List.length_nil]; omega
end
theorem no_leaf {x : PyData} {n : Nat} (h : isOrd x n = false) (hs : Sh x 1 11) : NoOrd x n := ⟨h, Or.inl ⟨_, _, hs, by decide, by decide⟩⟩
def f_lawChance : FSp := fun args m R => ∃ (ss : List Int) (ns : List Nat), args = [.d (tupI ss), .d (tupN ns)] ∧ Shares ss ∧ ns.Perm (List.range ss.length) ∧ R (.d (frac (ordQ ss ns))) m
def f_told41 : FSp := fun args m R => ∃ (ss : List Int) (x : PyData), args = [.d (tupI ss), .d x] ∧ Shares ss ∧ ((∃ ns, x = tupN ns ∧ ns.Perm (List.range ss.length) ∧ R (.d (frac (ordQ ss ns))) m) ∨ (isOrd x ss.length = false ∧ R (.d (refused 1)) m))
theorem ord_fr {ss : List Int} (hs : Shares ss) {ns : List Nat} (hk : ∀ k ∈ ns, k < ss.length) (h5 : ns.length ≤ 5) (i : Nat) (hi : i ≤ ns.length) : FrB (mkRat (prP ss (ns.take i)) (obot ss ns i).toNat) 60 := by
  obtain ⟨b1, b2⟩ := prP_le hs (ks := ns.take i) (by rw [List.length_take]; omega)
  obtain ⟨c1, c2⟩ := obot_bt hs hk h5 i hi
  refine frB_mk (bt_lit (n := 20) (by show _ < 1048576; omega) (by decide)) ?_ (by omega)
  rw [show ((obot ss ns i).toNat : Int) = obot ss ns i by omega]
  exact c2.mono (by omega)
theorem ord_step {ss : List Int} (hs : Shares ss) {ns : List Nat} (hk : ∀ k ∈ ns, k < ss.length) (h5 : ns.length ≤ 5) {i k : Nat} (hi : ns[i]? = some k) : mkRat (prP ss (ns.take i)) (obot ss ns i).toNat * mkRat (ss.getD k 0) (osum ss (ns.drop i)).toNat = mkRat (prP ss (ns.take (i + 1))) (obot ss ns (i + 1)).toNat := by
  obtain ⟨hil, _⟩ := List.getElem?_eq_some_iff.mp hi
  obtain ⟨c1, c2⟩ := obot_bt hs hk h5 i (by omega)
  have b := osum_bounds hs (ns.drop i) fun k hk' => hk k (List.mem_of_mem_drop hk')
  rw [List.length_drop] at b
  rw [Rat.mkRat_mul_mkRat, take_one hi, prP_snoc]
  congr 1
  show _ = (obot ss ns i * osum ss (ns.drop i)).toNat
  have e1 : obot ss ns i = ((obot ss ns i).toNat : Int) := by omega
  have e2 : osum ss (ns.drop i) = ((osum ss (ns.drop i)).toNat : Int) := by omega
  generalize (obot ss ns i).toNat = x at *
  generalize (osum ss (ns.drop i)).toNat = y at *
  rw [e1, e2, ← Int.natCast_mul, Int.toNat_natCast]
theorem shaped_refused1 : SeqAt.shaped (.list [.str "refused", .int 1]) = true := by decide +kernel
theorem at_before {os : List Nat} {a : Nat} (ha : a < os.length) (h2 : 1 < os.length) : ∃ j, j < os.length ∧ j ≠ a ∧ atI (os.map intN) ((a : Int) - 1) = some (.int ((os.getD j 0 : Nat) : Int)) := by
  have key : ∀ j, j < os.length → (os.map intN)[j]? = some (.int ((os.getD j 0 : Nat) : Int)) := fun j hj => by
    rw [List.getElem?_map, List.getElem?_eq_getElem hj, List.getD_eq_getElem?_getD, List.getElem?_eq_getElem hj]; rfl
  by_cases h : a = 0
  · subst h
    refine ⟨os.length - 1, by omega, by omega, ?_⟩
    have e : ((0 : Nat) : Int) - 1 = -1 := by decide
    rw [e, DL.atI_last, List.getLast?_eq_getElem?, List.length_map]
    exact key _ (by omega)
  · refine ⟨a - 1, by omega, by omega, ?_⟩
    rw [show (a : Int) - 1 = ((a - 1 : Nat) : Int) by omega, atI_nth]
    exact key _ (by omega)
theorem boolish_at {k : Nat} : atI ([.bool (decide ((k : Int) = 1)), intN k] : List PyData) (if decide (1 < (k : Int)) = true then 1 else 0) = some (boolish k) := by
  unfold boolish
  by_cases g : 1 < k
  · rw [decide_eq_true (show (1 : Int) < (k : Int) by omega), if_pos rfl, if_neg (by omega), if_neg (by omega)]; rfl
  · rw [decide_eq_false (show ¬ (1 : Int) < (k : Int) by omega)]
    have : k = 0 ∨ k = 1 := by omega
    rcases this with rfl | rfl <;> rfl
theorem noOrd41 {os : List Nat} {n a : Nat} (hp : os.Perm (List.range n)) (h1 : 1 ≤ n) (h5 : n ≤ 5) (ha : a < n) : ∀ d ∈ [.tuple ((os.drop 1).map intN), .tuple (os.map intN ++ [.int (n : Int)]), .list (os.map intN), .tuple ((os.take a).map intN ++ [.int (n : Int)] ++ (os.drop (a + 1)).map intN), .none, .str "0", .int 0, .dict []] ++ [.tuple ((os.take a).map intN ++ [.none] ++ (os.drop (a + 1)).map intN), .tuple (os.map intN ++ (os.take 1).map intN), .tuple ((os.take a).map intN ++ [.int (-1)] ++ (os.drop (a + 1)).map intN)] ++
    [.tuple (os.map boolish), .tuple ((os.take (os.length - 1)).map intN ++ [.list [.int 0]]), .tuple ((os.take (os.length - 1)).map intN ++ [.dict []])], NoOrd d n := by
  have hol := ord_len hp h1 h5
  have mt : ∀ {i k}, k ∈ os.take i → k ∈ os := fun h => List.mem_of_mem_take h
  have md : ∀ {i k}, k ∈ os.drop i → k ∈ os := fun h => List.mem_of_mem_drop h
  have hl : (os.take a).length + (os.drop (a + 1)).length ≤ 5 := by rw [List.length_take, List.length_drop]; omega
  have hl2 : (os.take (os.length - 1)).length ≤ 5 := by rw [List.length_take]; omega
  intro d hd
  simp only [List.cons_append, List.nil_append, List.mem_cons, List.not_mem_nil, or_false] at hd
  rcases hd with rfl | rfl | rfl | rfl | rfl | rfl | rfl | rfl | rfl | rfl | rfl | rfl | rfl | rfl
  · exact no_tail hp h1 h5
  · exact no_more hp h1 h5 (x := n) (by omega)
  · exact no_list hp h1 h5
  · exact no_other hp h1 h5 (fun k hk z => by injection z with z; omega) (sh_small (by omega)) _ _ (fun k => mt) (fun k => md) hl
  · exact no_leaf rfl (sh_none.mono (by decide) (by decide))
  · exact no_leaf rfl ⟨by decide +kernel, by decide +kernel, by decide +kernel, by decide +kernel⟩
  · exact no_leaf rfl (sh_small (by decide))
  · exact ⟨rfl, shOk_dict0⟩
  · exact no_other hp h1 h5 (x := .none) (fun k hk z => nomatch z) (sh_none.mono (by decide) (by decide)) _ _ (fun k => mt) (fun k => md) hl
  · exact no_twice hp h1 h5
  · exact no_other hp h1 h5 (fun k hk z => by injection z with z; omega) (sh_small (by decide)) _ _ (fun k => mt) (fun k => md) hl
  · exact no_bool hp h1 h5
  · exact no_end hp h1 h5 (x := .list [.int 0]) (fun k hk z => nomatch z) ⟨by decide +kernel, by decide +kernel, by decide +kernel, by decide +kernel⟩ _ (fun k => mt) hl2
  · exact no_dict hp h1 h5 _ (fun k => mt) hl2
end DL

/-! k01: shares and fractions known among all sorts of things -/
namespace DL
open PySem L2 PySem.Spec PyProof.Rows

/-! == of lists of unlike length -/
def rEqLen (K : PySem.W.Frag) : R2 := fun x y H Q => ∃ (a b : Addr) (xs ys : List V), x = .ref a ∧ y = .ref b ∧ SqL K H a xs ∧ SqL K H b ys ∧ xs.length ≠ ys.length ∧ Q (.bl false) H
theorem op_eqLen {X : Cx} (hu : X.A.units + 64 < cLine) : OpR X (compareOp .Eq) (rEqLen X.K) := by
  intro pins s σ H x y v u Q I rx ry h
  obtain ⟨a, b, xs, ys, rfl, rfl, h1, h2, hn, q⟩ := h
  cases rx
  cases ry
  obtain ⟨i1, r1, l1, _⟩ := I.list h1
  obtain ⟨i2, r2, l2, _⟩ := I.list h2
  refine SeqAt.eq_list_lengthsAt l1.isList l2.isList ?_ (by omega) ⟨.bl false, H, I, rfl, q⟩
  have e1 := r1.length
  have e2 := r2.length
  simp only [List.size_toArray, bne_iff_ne]
  omega
def rEqL (K : PySem.W.Frag) : R2 := fun x y H Q => rEqA K x y H Q ∨ rEqLen K x y H Q
theorem kEqL (K : PySem.W.Frag) {X : Cx} {j : Nat} (hr : Room j X.A) (h : X.K = K := by rfl) : OpR X (compareOp .Eq) (rEqL K) := h ▸ ((oEq hr).or (op_eqLen hr.units))
section
variable {K : PySem.W.Frag} {r : List Val} {m : Mm} {Q : Val → Mm → Prop}
theorem o2_eqNilL {ds : List PyData} (q : Q (.d (.bool (decide (ds = [])))) m) : Op2 K (rEqL K) (.d (.list ds)) (.d (.list [])) m Q := by
  by_cases h : ds = []
  · subst h
    intro H G v w S a b R k
    exact Or.inl (o2_eq (by decide +kernel) (by decide +kernel) (by rw [show PyData.eqv (.list []) (.list []) = true by decide +kernel]; rw [decide_eq_true rfl] at q; exact q) H G v w S a b R k)
  · intro H G v w S a b R k
    rw [decide_eq_false h] at q
    obtain ⟨p, xs, rfl, h2, h3⟩ := rp_list.mp a.rp
    obtain ⟨p', ys, rfl, h4, h5⟩ := rp_list.mp b.rp
    refine Or.inr ⟨p, p', xs, ys, rfl, rfl, Or.inl (Le.rd S.sub h2), Or.inl (Le.rd S.sub h4), ?_, k _ H G _ m q S (Le.refl G) vr_bool⟩
    rw [h3.length, h5.length]
    intro e
    exact h (List.length_eq_zero_iff.mp e)
theorem o2_eqL {x y : Val} (h : Op2 K (rEqA K) x y m Q) : Op2 K (rEqL K) x y m Q := fun H G v w S a b R k => Or.inl (h H G v w S a b R k)
/-- {'a': 1} -/
theorem ev_dispS {k : Str} {i : Int} (q : Q (.d (.dict [(.str k, .int i)])) m) : Ev K (tDisp [(tC (.str k), tC (.int i))]) r m Q := fun σ H G S L R kk p hp => by
  have hg := S.free hp
  refine ⟨upd_same, [(.inr k, .int i)], rfl, by show 1 ≤ 15; decide, ?_⟩
  rw [upd_upd]
  refine kk _ _ (upd G p (.dK [(.inr k, .int i)])) _ m q (S.fix hp) (Le.new hg) (.d ?_)
  rw [Rp]
  refine ⟨p, rfl, Or.inr ⟨_, upd_same, ?_⟩⟩
  rw [RpK]
  refine ⟨.inr k, .int i, [], rfl, rfl, by rw [Rp], ?_⟩
  rw [RpK]
end
/-! what may be shown -/
theorem sh_strI {i : Int} (h : Bt i 110) : Sh (.str (toString i)) 0 1300 := by
  have hl := (sh_int (a := 110) h (by decide) (by decide)).ln
  simp only [PyData.shown] at hl
  refine ⟨by simp [PyData.hasDict], by simp [PyData.depth], by simp [PyData.showable], ?_⟩
  simp only [PyData.shown]
  refine Nat.le_trans (PySem.StrLaws.reprText_len _ fun c hc => ?_) (by omega)
  rw [Str.ofString_eq_toList] at hc
  have : c ∈ ((toString i).toList.map Char.toNat) := by simpa using hc
  obtain ⟨ch, _, rfl⟩ := List.mem_map.mp this
  have := ch.valid
  have : ch.toNat < 0x110000 := by
    have h := ch.valid
    simp only [UInt32.isValidChar, Nat.isValidChar] at h
    show ch.val.toNat < _
    omega
  exact Nat.lt_of_lt_of_le this (by decide)
theorem shd_strI {i : Int} (h : Bt i 110) : ShD (.str (toString i)) 0 1300 := by
  have := sh_strI h
  exact ⟨by simp [noL], this.dp, this.sh, this.ln⟩
def secSm' : List PyData → Bool
  | [.int _, .int b] => decide (b.natAbs < 2 ^ 110)
  | _ => true
def TOk (x : PyData) : Prop := ShOk x ∧ szFrac x
def BiOk (d : PyData) : Prop := Sh d 3 2000 ∧ ShD d 3 2000
theorem bi_int {i : Int} (h : Bt i 200) : BiOk (.int i) := by
  have s := (sh_int (a := 200) h (by decide) (by decide)).mono (show 0 ≤ 3 by decide) (show 200 + 1 ≤ 2000 by decide)
  exact ⟨s, by simp only [noL], s.dp, s.sh, s.ln⟩
theorem bi_strI {i : Int} (h : Bt i 110) : BiOk (.str (toString i)) := by
  have s := (sh_strI h).mono (show 0 ≤ 3 by decide) (show 1300 ≤ 2000 by decide)
  exact ⟨s, by simp only [noL], s.dp, s.sh, s.ln⟩
theorem bi_bool (b : Bool) : BiOk (.bool b) := by
  have s := (sh_bool b).mono (show 0 ≤ 3 by decide) (show 5 ≤ 2000 by decide)
  exact ⟨s, by simp only [noL], s.dp, s.sh, s.ln⟩
theorem bi_none : BiOk .none := by
  have s := sh_none.mono (show 0 ≤ 3 by decide) (show 4 ≤ 2000 by decide)
  exact ⟨s, by simp only [noL], s.dp, s.sh, s.ln⟩
theorem shOk_tupS {ds : List PyData} (h : ∀ d ∈ ds, Sh d 3 2000) (hl : ds.length ≤ 40) : ShOk (.tuple ds) := Or.inl ⟨_, _, sh_tuple h hl, by decide, by decide⟩
theorem shOk_lstS {ds : List PyData} (h : ∀ d ∈ ds, Sh d 3 2000) (hl : ds.length ≤ 40) : ShOk (.list ds) := Or.inl ⟨_, _, sh_list h hl, by decide, by decide⟩
theorem shOk_tupT {ds : List PyData} (h : ∀ d ∈ ds, ShD d 3 2000) (hl : ds.length ≤ 40) : ShOk (.tuple ds) := Or.inr ⟨Or.inl ⟨_, rfl⟩, by
  obtain ⟨h1, h2, h3, h4⟩ := shd_tuple h hl
  exact ⟨h1, Nat.le_trans h2 (by decide), h3, Nat.le_trans h4 (by decide)⟩⟩
theorem sz_tuple {ds : List PyData} (h : ∀ i : Int, PyData.int i ∈ ds → Bt i 8000) : szFrac (.tuple ds) := by
  match ds, h with
  | [.int _, .int b], h => exact h b (by simp)
  | [], _ => simp [szFrac]
  | [_], _ => simp [szFrac]
  | [.none, _], _ => simp [szFrac]
  | [.bool _, _], _ => simp [szFrac]
  | [.str _, _], _ => simp [szFrac]
  | [.list _, _], _ => simp [szFrac]
  | [.tuple _, _], _ => simp [szFrac]
  | [.dict _, _], _ => simp [szFrac]
  | [.int _, .none], _ => simp [szFrac]
  | [.int _, .bool _], _ => simp [szFrac]
  | [.int _, .str _], _ => simp [szFrac]
  | [.int _, .list _], _ => simp [szFrac]
  | [.int _, .tuple _], _ => simp [szFrac]
  | [.int _, .dict _], _ => simp [szFrac]
  | _ :: _ :: _ :: _, _ => simp [szFrac]
theorem sz_second {ds : List PyData} (h : secSm' ds = true) : szFrac (.tuple ds) := by
  match ds, h with
  | [.int _, .int b], h => exact Bt.mono (a := 110) (show b.natAbs < 2 ^ 110 from of_decide_eq_true h) (by decide)
  | [], _ => simp [szFrac]
  | [_], _ => simp [szFrac]
  | [.none, _], _ => simp [szFrac]
  | [.bool _, _], _ => simp [szFrac]
  | [.str _, _], _ => simp [szFrac]
  | [.list _, _], _ => simp [szFrac]
  | [.tuple _, _], _ => simp [szFrac]
  | [.dict _, _], _ => simp [szFrac]
  | [.int _, .none], _ => simp [szFrac]
  | [.int _, .bool _], _ => simp [szFrac]
  | [.int _, .str _], _ => simp [szFrac]
  | [.int _, .list _], _ => simp [szFrac]
  | [.int _, .tuple _], _ => simp [szFrac]
  | [.int _, .dict _], _ => simp [szFrac]
  | _ :: _ :: _ :: _, _ => simp [szFrac]
def oddA : List PyData := [.none, .bool true, .bool false, .int (-1), .int 0, .int 1, .str "", .str "1", .tuple [], .list [], .tuple [.int 0], .list [.int 1], .tuple [.int 0, .int 1], .dict [(.str "a", .int 1)], .dict [], .int ((10 : Int) ^ 29), .tuple [.int 1, .int 2], .tuple [.int 2, .int 4]]
def oddB : List PyData := [.tuple [.tuple [.int 1, .int 2]], .tuple [.int 1, .int 0], .tuple [.int 3, .int (-1)], .tuple [.bool true, .int 1], .tuple [.int 1, .int 2, .int 3], .tuple [.list [.int 1]]]
def oddL : List PyData := oddA ++ oddB
def tupDict : PyData → Bool
  | .tuple _ => true
  | .dict _ => true
  | _ => false
def intSm : PyData → Bool
  | .int i => decide (i.natAbs < 2 ^ 110)
  | _ => true
def secSm : PyData → Bool
  | .tuple ds => secSm' ds
  | _ => true
theorem odd_chk : ∀ o ∈ oddL, ((!o.hasDict || (noL o && tupDict o)) && (decide (o.depth ≤ 3) && (o.showable && (decide (o.shown.length ≤ 100) && (intSm o && secSm o))))) = true := by decide +kernel
theorem odd_facts {o : PyData} (h : o ∈ oddL) : (Sh o 3 2000 ∨ ShD o 3 2000) ∧ TOk o ∧ ∀ i, o = .int i → Bt i 110 := by
  have := odd_chk o h
  simp only [Bool.and_eq_true, Bool.or_eq_true, decide_eq_true_eq, Bool.not_eq_true'] at this
  obtain ⟨h1, h2, h3, h4, h5, h6⟩ := this
  have hsz : szFrac o := by
    match o, h6 with
    | .tuple ds, h6 =>
      refine sz_second ?_
      exact h6
    | .none, _ => simp [szFrac]
    | .bool _, _ => simp [szFrac]
    | .int _, _ => simp [szFrac]
    | .str _, _ => simp [szFrac]
    | .list _, _ => simp [szFrac]
    | .dict _, _ => simp [szFrac]
  refine ⟨?_, ⟨?_, hsz⟩, fun i e => ?_⟩
  · rcases h1 with h1 | ⟨h1, _⟩
    · exact Or.inl ⟨h1, h2, h3, Nat.le_trans h4 (by decide)⟩
    · exact Or.inr ⟨h1, h2, h3, Nat.le_trans h4 (by decide)⟩
  · rcases h1 with h1 | ⟨h1, h0⟩
    · exact Or.inl ⟨3, 100, ⟨h1, h2, h3, h4⟩, by decide, by decide⟩
    · refine Or.inr ⟨?_, h1, Nat.le_trans h2 (by decide), h3, Nat.le_trans h4 (by decide)⟩
      match o, h0 with
      | .tuple ds, _ => exact Or.inl ⟨ds, rfl⟩
      | .dict kvs, _ => exact Or.inr ⟨kvs, rfl⟩
  · subst e
    have h5 : i.natAbs < 2 ^ 110 := by simpa [intSm] using h5
    exact h5
def f_odd : FSp := fun args m R => ∃ p : Addr, args = [.v (.ref p)] ∧ m p = some .box ∧ ∀ o ∈ oddL, R (.d o) m
def f_bent01 : FSp := fun args m R => ∃ (p : Addr) (row : List Int) (o : PyData), args = [.v (.ref p), .d (tupI row), .d o] ∧ m p = some .box ∧ 0 < row.length ∧ row.length ≤ 5 ∧ (∀ i ∈ row, Bt i 108) ∧ o ∈ oddL ∧ ∀ x, TOk x → R (.d x) m
theorem filter_nil_all {ds : List PyData} : decide ((ds.filter fun d => !okS d) = []) = ds.all okS := by
  rw [Bool.eq_iff_iff, decide_eq_true_eq, List.filter_eq_nil_iff, List.all_eq_true]
  exact ⟨fun h d hd => by simpa using h d hd, fun h d hd => by simpa using h d hd⟩
theorem tok_ints {is : List Int} (h : ∀ i ∈ is, Bt i 200) (hl : is.length ≤ 40) : TOk (tupI is) := by
  refine ⟨shOk_tupS (fun d hd => ?_) (by rw [List.length_map]; exact hl), sz_tuple fun i hi => ?_⟩
  · obtain ⟨i, hi, rfl⟩ := List.mem_map.mp hd
    exact (bi_int (h i hi)).1
  · obtain ⟨j, hj, e⟩ := List.mem_map.mp hi
    have e : j = i := by injection e
    subst e
    exact (h j hj).mono (by decide)
theorem tok_lst {is : List Int} (h : ∀ i ∈ is, Bt i 200) (hl : is.length ≤ 40) : TOk (.list (is.map PyData.int)) := by
  refine ⟨shOk_lstS (fun d hd => ?_) (by rw [List.length_map]; exact hl), by simp [szFrac]⟩
  obtain ⟨i, hi, rfl⟩ := List.mem_map.mp hd
  exact (bi_int (h i hi)).1
/-- ints, something between -/
theorem tok_mid {a b : List Int} {ns : List PyData} (ha : ∀ i ∈ a, Bt i 200) (hb : ∀ i ∈ b, Bt i 200) (hn : (∀ d ∈ ns, Sh d 3 2000) ∨ ∀ d ∈ ns, ShD d 3 2000) (hi : ∀ i : Int, PyData.int i ∈ ns → Bt i 200) (hl : a.length + ns.length + b.length ≤ 40) :
    TOk (.tuple (a.map PyData.int ++ ns ++ b.map PyData.int)) := by
  have hlen : (a.map PyData.int ++ ns ++ b.map PyData.int).length ≤ 40 := by simp only [List.length_append, List.length_map]; omega
  refine ⟨?_, sz_tuple fun i hi' => ?_⟩
  · rcases hn with hn | hn
    · refine shOk_tupS (fun d hd => ?_) hlen
      rcases List.mem_append.mp hd with hd | hd
      · rcases List.mem_append.mp hd with hd | hd
        · obtain ⟨i, hi, rfl⟩ := List.mem_map.mp hd
          exact (bi_int (ha i hi)).1
        · exact hn d hd
      · obtain ⟨i, hi, rfl⟩ := List.mem_map.mp hd
        exact (bi_int (hb i hi)).1
    · refine shOk_tupT (fun d hd => ?_) hlen
      rcases List.mem_append.mp hd with hd | hd
      · rcases List.mem_append.mp hd with hd | hd
        · obtain ⟨i, hi, rfl⟩ := List.mem_map.mp hd
          exact (bi_int (ha i hi)).2
        · exact hn d hd
      · obtain ⟨i, hi, rfl⟩ := List.mem_map.mp hd
        exact (bi_int (hb i hi)).2
  · rcases List.mem_append.mp hi' with hd | hd
    · rcases List.mem_append.mp hd with hd | hd
      · obtain ⟨j, hj, e⟩ := List.mem_map.mp hd
        have e : j = i := by injection e
        subst e
        exact (ha j hj).mono (by decide)
      · exact (hi i hd).mono (by decide)
    · obtain ⟨j, hj, e⟩ := List.mem_map.mp hd
      have e : j = i := by injection e
      subst e
      exact (hb j hj).mono (by decide)
theorem sh_lst1 {i : Int} (h : Bt i 110) : Sh (.list [.int i]) 3 2000 := (sh_list (k := 0) (n := 111) (c := 1) (ds := [.int i]) (fun d hd => by rw [List.mem_singleton.mp hd]; exact sh_int (a := 110) h (by decide) (by decide)) (Nat.le_refl 1)).mono (by decide) (by decide)
def newsL (one : Int) (o : PyData) : List PyData := [.tuple [], .tuple [.int one, .int one], .tuple [.int 0], .tuple [.int 10], .tuple [.int (0 - one)], .tuple [.bool (decide (one = 1))], .tuple [.str (toString one)], .tuple [o], .tuple [.list [.int one]], .tuple [.int (one + 1)], .tuple [.none]]
theorem news_ok {one : Int} {o : PyData} (h : Bt one 108) (ho : o ∈ oddL) {x : PyData} (hx : x ∈ newsL one o) : ∃ ns, x = .tuple ns ∧ ns.length ≤ 2 ∧ ((∀ d ∈ ns, Sh d 3 2000) ∨ ∀ d ∈ ns, ShD d 3 2000) ∧ ∀ i : Int, PyData.int i ∈ ns → Bt i 200 := by
  obtain ⟨h1, _, h3⟩ := odd_facts ho
  have hone : Bt one 200 := h.mono (by decide)
  have hneg : Bt (0 - one) 200 := by
    have := h.neg
    rw [show -one = 0 - one by omega] at this
    exact this.mono (by decide)
  have hsuc : Bt (one + 1) 200 := (h.add (bt_lit (i := 1) (n := 1) (a := 108) (by decide) (by decide)) (Nat.le_refl _) (by decide)).mono (by decide)
  have one1 : ∀ {d : PyData}, (Sh d 3 2000 ∨ ShD d 3 2000) → (∀ i, d = .int i → Bt i 200) → ∃ ns, PyData.tuple [d] = .tuple ns ∧ ns.length ≤ 2 ∧ ((∀ d ∈ ns, Sh d 3 2000) ∨ ∀ d ∈ ns, ShD d 3 2000) ∧ ∀ i : Int, PyData.int i ∈ ns → Bt i 200 := fun {d} hd hi => by
    refine ⟨[d], rfl, by show 1 ≤ 2; decide, ?_, fun i hm => hi i (List.mem_singleton.mp hm).symm⟩
    rcases hd with hd | hd
    · exact Or.inl fun e he => by rw [List.mem_singleton.mp he]; exact hd
    · exact Or.inr fun e he => by rw [List.mem_singleton.mp he]; exact hd
  simp only [newsL, List.mem_cons, List.not_mem_nil, or_false] at hx
  rcases hx with rfl | rfl | rfl | rfl | rfl | rfl | rfl | rfl | rfl | rfl | rfl
  · exact ⟨[], rfl, by decide, Or.inl (fun _ z => by cases z), (fun _ z => by cases z)⟩
  · refine ⟨_, rfl, by show 2 ≤ 2; decide, Or.inl fun d hd => ?_, fun i hi => ?_⟩
    · simp only [List.mem_cons, List.not_mem_nil, or_false, or_self] at hd
      rw [hd]; exact (bi_int hone).1
    · simp only [List.mem_cons, List.not_mem_nil, or_false, or_self, PyData.int.injEq] at hi
      rw [hi]; exact hone
  · exact one1 (Or.inl (bi_int (bt_lit (n := 1) (by decide) (by decide))).1) fun i e => by cases e; exact bt_lit (n := 1) (by decide) (by decide)
  · exact one1 (Or.inl (bi_int (bt_lit (n := 4) (by decide) (by decide))).1) fun i e => by cases e; exact bt_lit (n := 4) (by decide) (by decide)
  · exact one1 (Or.inl (bi_int hneg).1) fun i e => by cases e; exact hneg
  · exact one1 (Or.inl (bi_bool _).1) fun i e => nomatch e
  · exact one1 (Or.inl (bi_strI (h.mono (by decide))).1) fun i e => nomatch e
  · exact one1 h1 fun i e => (h3 i e).mono (by decide)
  · exact one1 (Or.inl (sh_lst1 (h.mono (by decide)))) fun i e => nomatch e
  · exact one1 (Or.inl (bi_int hsuc).1) fun i e => by cases e; exact hsuc
  · exact one1 (Or.inl bi_none.1) fun i e => nomatch e
end DL


namespace DL
open PySem L2

instance (i : Int) (k : Nat) : Decidable (Bt i k) := by unfold Bt; infer_instance
instance (q : Rat) (a : Nat) : Decidable (FrB q a) := by unfold FrB; infer_instance
/-- the packs' paper, as the program reckons it -/
def dueF (a s : Nat) (found : List Rat) (left : Nat) : Nat → Rat
  | 0 => ((chP a s : Nat) : Int)
  | c + 1 => dueF a s found left c + (((chP left (1 + c) : Nat) : Int) * ((chP (a - left) (s - (1 + c)) : Nat) : Int) : Int) * found.getD (left - (1 + c)) 0
def paperF (a s : Nat) : Nat → List Rat
  | 0 => [0]
  | i + 1 => paperF a s i ++ [dueF a s (paperF a s i) (1 + i) (min (1 + i) s) * mkRat 1 (chP a s - chP (a - (1 + i)) s)]
theorem paperF_len (a s : Nat) : ∀ i, (paperF a s i).length = i + 1
  | 0 => rfl
  | i + 1 => by rw [paperF, List.length_append, paperF_len a s i]; rfl
/-- the same, pack by pack -/
def lstep (found : List Rat) (left : Nat) (st : Rat × Nat) (p : List Nat) : Rat × Nat :=
  if (p.filter fun k => decide (k < left)).length = 0 then (st.1, st.2 + 1) else (st.1 + found.getD (left - (p.filter fun k => decide (k < left)).length) 0, st.2)
def lnF (found : List Rat) (left : Nat) (n : Nat) (ps : List (List Nat)) : Rat × Nat := ps.foldl (lstep found left) (((n : Int) : Rat), 0)
def lpF (a s : Nat) : Nat → List Rat
  | 0 => [0]
  | i + 1 => lpF a s i ++ [mkRat (lnF (lpF a s i) (1 + i) (setsF a s).length (setsF a s)).1.num ((lnF (lpF a s i) (1 + i) (setsF a s).length (setsF a s)).1.den * ((setsF a s).length - (lnF (lpF a s i) (1 + i) (setsF a s).length (setsF a s)).2))]
theorem lpF_len (a s : Nat) : ∀ i, (lpF a s i).length = i + 1
  | 0 => rfl
  | i + 1 => by rw [lpF, List.length_append, lpF_len a s i]; rfl
theorem paper_ok : ∀ p ∈ pairsT, ∀ i : Fin 5, i.val < p.1 → chP (p.1 - (1 + i.val)) p.2 < chP p.1 p.2 ∧ ∀ c : Fin 4, FrB (dueF p.1 p.2 (paperF p.1 p.2 i) (1 + i) c) 60 := by decide +kernel
theorem paper_items : ∀ p ∈ pairsT, ∀ i : Fin 6, ∀ x ∈ paperF p.1 p.2 i, FrB x 60 := by decide +kernel
theorem lp_eq : ∀ p ∈ pairsT, ∀ i : Fin 6, i.val ≤ p.1 → lpF p.1 p.2 i = paperF p.1 p.2 i := by decide +kernel
theorem ln_ok : ∀ p ∈ pairsT, ∀ i : Fin 5, i.val < p.1 → (lnF (paperF p.1 p.2 i) (1 + i) (setsF p.1 p.2).length (setsF p.1 p.2)).2 < (setsF p.1 p.2).length ∧ ∀ k : Fin 11, FrB (lnF (paperF p.1 p.2 i) (1 + i) (setsF p.1 p.2).length ((setsF p.1 p.2).take k)).1 60 := by decide +kernel
def f_paperOf : FSp := fun args m R => ∃ a s : Nat, args = [.d (.int (a : Int)), .d (.int (s : Int))] ∧ Pk a s ∧ ∀ p, m p = none → R (.v (.ref p)) (put m p (.lst (((paperF a s a).map frac).map Val.d)))
def f_packMean : FSp := fun args m R => ∃ a s : Nat, args = [.d (.int (a : Int)), .d (.int (s : Int))] ∧ Pk a s ∧ R (.d (frac ((paperF a s a).getD a 0))) m
def f_lawPackPaper : FSp := fun args m R => ∃ a s : Nat, args = [.d (.int (a : Int)), .d (.int (s : Int))] ∧ Pk a s ∧ R (.d (.list ((paperF a s a).map frac))) m
theorem frac_over {d : Nat} (h : 0 < d) : frac (mkRat 1 d) = .tuple [.int 1, .int (d : Int)] := by
  rw [frac_mk 1 d (by omega)]
  simp
theorem frB_intN {n : Nat} (h : n < 16) : FrB ((n : Int) : Rat) 5 := ⟨bt_lit (n := 4) (by show _ < 16; exact h) (by decide), bt_lit (n := 1) (by show 1 < 2; decide) (by decide)⟩
theorem getD_frac {l : List Rat} {i : Nat} (h : i < l.length) : ((l.map frac).map Val.d)[i]? = some (.d (frac (l.getD i 0))) := by
  rw [List.getElem?_map, List.getElem?_map, List.getD_eq_getElem?_getD, List.getElem?_eq_getElem h]; rfl
theorem atI_frac {l : List Rat} {i : Nat} (h : i < l.length) : atI (l.map frac) (i : Int) = some (frac (l.getD i 0)) := by
  rw [atI_nth, List.getElem?_map, List.getD_eq_getElem?_getD, List.getElem?_eq_getElem h]; rfl
theorem getD_mem {l : List Rat} {i : Nat} (h : i < l.length) : l.getD i 0 ∈ l := by
  rw [List.getD_eq_getElem?_getD, List.getElem?_eq_getElem h]; exact List.getElem_mem h
theorem allS_up : ∀ n, ∀ s ∈ allS n, s.Pairwise (· < ·)
  | 0, s, h => by
    have : s = [] := by simpa [allS] using h
    subst this; exact List.Pairwise.nil
  | n + 1, s, h => by
    rw [allS] at h
    rcases List.mem_append.mp h with h | h
    · exact allS_up n s h
    · obtain ⟨t, ht, rfl⟩ := List.mem_map.mp h
      exact List.pairwise_append.mpr ⟨allS_up n t ht, List.pairwise_singleton .., fun x hx y hy => by rw [List.mem_singleton.mp hy]; exact (allS_mem n t ht).2 x hx⟩
theorem few_below {a : Nat} {p : List Nat} (h : p ∈ allS a) (n : Nat) : (p.filter fun k => decide (k < n)).length ≤ n := by
  have h1 := allS_up a p h
  have : Kinds n (p.filter fun k => decide (k < n)) := ⟨h1.filter _, fun k hk => of_decide_eq_true (List.mem_filter.mp hk).2⟩
  exact this.len
end DL

/-! repr of any data; the end of a law that knows that sys.modules stands ahead of it -/
namespace DL
open PySem L2 PySem.Spec PyProof.Rows L2H
def SysAt (base : Heap) : Prop := ∃ mm, base.Ns sysModules mm
section
variable {X : Cx} {pins : List (Addr × Obj)} {σ : L2.St} {H : Hp} {s : Shared}
theorem sys_ne (I : Inv X pins σ H s) (hs : SysAt X.base) {a : Addr} (h : ∃ o, H a = some o) : a ≠ sysModules := fun e => by
  obtain ⟨mm, o, _, _, ho, _⟩ := hs
  have := (I.bs _ _ ho).2
  obtain ⟨u, hu⟩ := h
  rw [e, this] at hu
  cases hu
mutual
theorem rdA (I : Inv X pins σ H s) (hs : SysAt X.base) : ∀ (d : PyData) (v : V) (u : Value), Rp X.K H d v → RelV v u → ∃ as, Reads s.heap u d as ∧ sysModules ∉ as
  | .none, v, u, h, r => by
    rw [rp_none.mp h] at r; cases r
    exact ⟨[], Reads.none, fun z => nomatch z⟩
  | .bool b, v, u, h, r => by
    rw [rp_bool.mp h] at r; cases r
    exact ⟨[], Reads.bool b, fun z => nomatch z⟩
  | .int i, v, u, h, r => by
    rw [rp_int.mp h] at r
    obtain ⟨t, rfl⟩ := r
    exact ⟨[], Reads.int i t, fun z => nomatch z⟩
  | .str x, v, u, h, r => by
    rw [rp_str.mp h] at r
    obtain ⟨t, rfl⟩ := r
    exact ⟨[], Reads.str x t, fun z => nomatch z⟩
  | .list ds, v, u, h, r => by
    obtain ⟨a, xs, rfl, h2, h3⟩ := rp_list.mp h
    cases r
    obtain ⟨z, its, n, rv, hl, e⟩ := rd_list I h2
    obtain ⟨as, hr, hns⟩ := rdAAll I hs ds xs its h3 rv
    refine ⟨a :: as, Reads.list e rfl rfl (by rw [List.toList_toArray]; exact hr), fun z => ?_⟩
    rcases List.mem_cons.mp z with z | z
    · exact sys_ne I hs (by rcases h2 with h2 | ⟨_, h2⟩ <;> exact ⟨_, h2⟩) z.symm
    · exact hns z
  | .tuple ds, v, u, h, r => by
    obtain ⟨a, xs, rfl, h2, h3⟩ := rp_tuple.mp h
    cases r
    obtain ⟨its, rv, ⟨o, ho, hc, n2, hd⟩, _⟩ := I.tuple h2
    obtain ⟨as, hr, hns⟩ := rdAAll I hs ds xs its h3 rv
    exact ⟨as, Reads.tuple ho hc hd hr, hns⟩
  | .dict kvs, v, u, h, r => by
    rw [Rp] at h
    obtain ⟨a, rfl, h⟩ := h
    cases r
    rcases h with ⟨es, h1, h2⟩ | ⟨es, h1, h2⟩
    · obtain ⟨_, hd, xs, rel, o, es2, ep, g1, g2, g3, g4, _⟩ := dt_rd I.hok (.inl h1)
      obtain ⟨as, bs, q1, q2, q3, q4⟩ := rdAT I hs kvs es xs h2 rel
      refine ⟨a :: as ++ bs, Reads.dict g1 g2.1 g3 ?_ ?_, ?_⟩
      · rw [g4, List.map_map]; exact q1
      · rw [g4, List.map_map]; exact q2
      · intro z
        rcases List.mem_append.mp z with z | z
        · rcases List.mem_cons.mp z with z | z
          · rw [z] at hd; simp at hd
          · exact q3 z
        · exact q4 z
    · obtain ⟨_, hd, vs, rel, o, es2, ep, g1, g2, g3, _, g4, _⟩ := dk_rd I.hok (.inl h1)
      obtain ⟨as, bs, q1, q2, q3, q4⟩ := rdAK I hs kvs es vs es2.toList h2 rel g4
      refine ⟨a :: as ++ bs, Reads.dict g1 g2.1 g3 q1 q2, ?_⟩
      intro z
      rcases List.mem_append.mp z with z | z
      · rcases List.mem_cons.mp z with z | z
        · rw [z] at hd; simp at hd
        · exact q3 z
      · exact q4 z
theorem rdAAll (I : Inv X pins σ H s) (hs : SysAt X.base) : ∀ (ds : List PyData) (vs : List V) (us : List Value), RpAll X.K H ds vs → Vals vs us → ∃ as, ReadsAll s.heap us ds as ∧ sysModules ∉ as
  | [], vs, us, h, r => by
    rw [rpa_nil.mp h] at r; cases r
    exact ⟨[], ReadsAll.nil, fun z => nomatch z⟩
  | d :: ds, vs, us, h, r => by
    obtain ⟨x, t, rfl, h2, h3⟩ := rpa_cons.mp h
    cases r with
    | cons r1 r2 =>
      obtain ⟨as, q1, q2⟩ := rdA I hs d x _ h2 r1
      obtain ⟨bs, q3, q4⟩ := rdAAll I hs ds t _ h3 r2
      exact ⟨as ++ bs, ReadsAll.cons q1 q3, fun z => (List.mem_append.mp z).elim q2 q4⟩
theorem rdAT (I : Inv X pins σ H s) (hs : SysAt X.base) : ∀ (kvs : List (PyData × PyData)) (es : List (List Key × V)) (xs : List (List Key × Addr × Value)), RpT X.K H kvs es → KT H es xs →
    ∃ as bs, ReadsAll s.heap (xs.map fun x => Value.ref x.2.1) (kvs.map (·.1)) as ∧ ReadsAll s.heap (xs.map fun x => x.2.2) (kvs.map (·.2)) bs ∧ sysModules ∉ as ∧ sysModules ∉ bs
  | [], es, xs, h, r => by
    rw [RpT] at h
    subst h
    cases r
    exact ⟨[], [], ReadsAll.nil, ReadsAll.nil, (fun z => nomatch z), (fun z => nomatch z)⟩
  | (k, d) :: kvs, es, xs, h, r => by
    rw [RpT] at h
    obtain ⟨ks, v, t, rfl, rfl, h2, h3⟩ := h
    cases r with
    | @cons p q ps qs hq r2 =>
      obtain ⟨e1, e2, e3⟩ := hq
      obtain ⟨as, q1, q2⟩ := rdA I hs d v _ h2 e3
      obtain ⟨cs, bs, q3, q4, q5, q6⟩ := rdAT I hs kvs t qs h3 r2
      exact ⟨[] ++ cs, as ++ bs, ReadsAll.cons (tup_reads I e2) q3, ReadsAll.cons q1 q4, q5, fun z => (List.mem_append.mp z).elim q2 q6⟩
theorem rdAK (I : Inv X pins σ H s) (hs : SysAt X.base) : ∀ (kvs : List (PyData × PyData)) (es : List (Key × V)) (vs : List (Key × Value)) (en : List DictEntry), RpK X.K H kvs es → KV es vs → Pairs (mixKind X.prog X.w) en vs →
    ∃ as bs, ReadsAll s.heap (en.map (·.key)) (kvs.map (·.1)) as ∧ ReadsAll s.heap (en.map (·.val)) (kvs.map (·.2)) bs ∧ sysModules ∉ as ∧ sysModules ∉ bs
  | [], es, vs, en, h, r, p => by
    rw [RpK] at h
    subst h
    cases r
    cases p
    exact ⟨[], [], ReadsAll.nil, ReadsAll.nil, (fun z => nomatch z), (fun z => nomatch z)⟩
  | (k, d) :: kvs, es, vs, en, h, r, p => by
    rw [RpK] at h
    obtain ⟨ks, v, t, rfl, rfl, h2, h3⟩ := h
    cases r with
    | @cons p1 q ps qs hq r2 =>
      obtain ⟨e1, e3⟩ := hq
      cases p with
      | @cons e kv es2 kvs2 g1 g2 g3 =>
        obtain ⟨as, q1, q2⟩ := rdA I hs d v _ h2 e3
        obtain ⟨cs, bs, q3, q4, q5, q6⟩ := rdAK I hs kvs t qs es2 h3 r2 g3
        have kr : Reads s.heap e.key (keyD ks) [] := by
          have e1 : ks = q.1 := e1
          rw [e1]
          rcases keyIs_shape g1 with ⟨i, tk, e5, e4⟩ | ⟨x, tk, e5, e4⟩
          · rw [e5, e4]; exact Reads.int i tk
          · rw [e5, e4]; exact Reads.str x tk
        rw [← g2] at q1
        exact ⟨[] ++ cs, as ++ bs, ReadsAll.cons kr q3, ReadsAll.cons q1 q4, q5, fun z => (List.mem_append.mp z).elim q2 q6⟩
end
end
def rReprA (K : PySem.W.Frag) : List V → Hp → VK → Prop := fun xs H Q => ∃ v d, xs = [v] ∧ Rp K H d v ∧ d.depth ≤ 64 ∧ d.showable = true ∧ d.shown.length ≤ sizeLine ∧ Q (.str d.shown) H
theorem cReprA {X : Cx} {k : Nat} (hr : Room k X.A) (hg : X.A.guards = some []) (hs : SysAt X.base) : CallR X (.builtin "repr") (rReprA X.K) := by
  intro pins s σ H xs us Q I r h
  obtain ⟨v, d, rfl, hd, h1, h2, h3, q⟩ := h
  by_cases hdd : d.hasDict = true
  · obtain ⟨u, rfl, rx⟩ := vals1 r
    obtain ⟨as, rd, ns⟩ := rdA I hs d _ u hd rx
    have := hr.un
    have hv : ∃ a, v = V.ref a := by
      cases d with
      | list ds => obtain ⟨a, _, e, _⟩ := rp_list.mp hd; exact ⟨a, e⟩
      | tuple ds => obtain ⟨a, _, e, _⟩ := rp_tuple.mp hd; exact ⟨a, e⟩
      | dict kvs => rw [Rp] at hd; obtain ⟨a, e, _⟩ := hd; exact ⟨a, e⟩
      | _ => simp [PyData.hasDict] at hdd
    obtain ⟨a, rfl⟩ := hv
    cases rx
    exact repr_of_reads' rd h2 (fun _ => ns) hg (by omega) (fun _ _ e => e) (fun h' u tk hk => ⟨.str _, H, I.kept hk, ⟨_, rfl⟩, q⟩) h3
  · exact cRepr hr hg pins s σ H [v] us Q I r ⟨v, d, rfl, hd, by simpa using hdd, h1, h2, h3, q⟩
theorem kReprA {X : Cx} {j : Nat} (K : PySem.W.Frag) (hr : Room j X.A) (hg : X.A.guards = some []) (hs : SysAt X.base) (h : X.K = K := by rfl) : CallR X (.builtin "repr") (rReprA K) := h ▸ cReprA hr hg hs
structure ShA (x : PyData) : Prop where
  dp : x.depth ≤ 64
  sh : x.showable = true
  ln : x.shown.length ≤ 16777216
section
variable {K : PySem.W.Frag} {m : Mm} {Q : Val → Mm → Prop}
theorem on_showN {x : PyData} (h : ShA x) (q : Q (.d (.str x.shown)) m) : OpN K (rReprA K) [.d x] m Q := fun H G vs S a R kk => by
  obtain ⟨v, rfl, hv⟩ := vrs1 a
  exact ⟨v, x, rfl, Rp.mono S.sub _ _ hv.rp, h.dp, h.sh, by rw [sizeLine_eq]; exact h.ln, kk _ H G _ m q S (Le.refl G) vr_str⟩
end
theorem Sh.toA {x : PyData} {k n : Nat} (h : Sh x k n) (h1 : k ≤ 64) (h2 : n ≤ 16777216) : ShA x := ⟨Nat.le_trans h.dp h1, h.sh, Nat.le_trans h.ln h2⟩
section
variable {P : Program} {w : World} {K : PySem.W.Frag} {mg mb : Str → Option Value} {k : Nat} {fa a : Addr} {fd : FuncData} {x : Str} {sp : FSp} {s1 : Shared} {vs : List Value} {ns : List Int}
/-- what the law's def is asked at the heap behind the top: the script alone is known -/
theorem law_coreS (KX : K.In s1.heap) (hns : s1.heap.Ns mainGlobals mg) (hb : s1.heap.Ns builtinsNs mb) (hbb : ∀ x : Str, x ≠ "__name__" → mb x = bootBuiltins x) (hlim : s1.heap.NoLimit) (hgs : s1.gens = #[])
    (ha : s1.heap.get? a = some { cls := .type "list", data := .seq vs.toArray }) (hr : Room k callerA)
    (hsy : SysAt s1.heap) (F : ∀ base : Heap, K.In base → base.Ns mainGlobals mg → SysAt base → FnG P w K mg base k fa fd [x] (spD K sp)) (hbind : ∀ (s : Shared) (u : Value), BindsTo s fd ⟨[u], []⟩ [(x, u)])
    (hsp : sp [.scr ns] (fun _ => none) fun y _ => y = .d (.bool true))
    (H : Hp) (hO : Only H) (hS : SqL K H a (ns.map V.int)) (hok : HOk P w H s1.heap) (hA : ∀ b, H b ≠ none → b = a) (hK : H a ≠ none → K.lookup a = none) :
    codeAny (model P w) callerA (.call (.ref fa) ⟨[.ref a], []⟩) (fun r s' => r = .ok (.ret (.bool true)) ∧ OldK s1.heap s'.heap ∧ s'.os = s1.os ∧ PyProof.Rows.AllBare s'.gens) s1 := by
  have baseOf : ∀ {b : Addr} {o : Obj}, s1.heap.get? b = some o → H b = none → (hidT s1.heap H).get? b = some o := hidT_get
  have free : ∀ {b : Addr} {o : Obj} {es : Array DictEntry} {ep : Nat}, s1.heap.get? b = some o → o.data = .dict es ep → H b = none := fun {b o es ep} e d => by
    cases q : H b with
    | none => rfl
    | some u =>
      obtain rfl : b = a := hA b fun z => by rw [q] at z; cases z
      rw [ha] at e
      cases e
      exact absurd d fun z => nomatch z
  have nsK : ∀ {b : Addr} {m : Str → Option Value}, s1.heap.Ns b m → (hidT s1.heap H).Ns b m := fun ⟨o, es, ep, e, d, z⟩ => ⟨o, es, ep, baseOf e (free e d), d, z⟩
  have kB : K.In (hidT s1.heap H) := fun b o e => baseOf (KX b o e) (by
    cases q : H b with
    | none => rfl
    | some u =>
      obtain rfl : b = a := hA b fun z => by rw [q] at z; cases z
      rw [hK fun z => by rw [q] at z; cases z] at e
      cases e)
  have e0 : Env0 P w K mg (hidT s1.heap H) callerA [] s1 H := by
    refine ⟨rfl, ⟨kB, nsK hns, ⟨mb, nsK hb, hbb⟩, ?_⟩, fun b o e => of_hidT e, Nat.le_of_eq (hidT_size _ _), trivial, fun b z => ?_, hok, .of_eq hgs⟩
    · obtain ⟨mc, z1, z2⟩ := hlim
      exact ⟨mc, nsK z1, z2⟩
    · exact nomatch (show b ∈ ([] : List Addr) from z)
  have hs : spD K sp [.ref a] H (fun v _ => v = .bl true) fun _ _ _ => False := by
    refine ⟨fun _ => none, H, [.scr ns], fun y _ => y = .d (.bool true), ⟨fun _ _ e => e, (fun _ _ e => nomatch e), (fun _ _ e => nomatch e)⟩, ⟨_, [], rfl, .scr hS, rfl⟩, hsp, ?_⟩
    intro v H' G' y m' hy _ _ hv
    subst hy
    exact rp_bool.mp hv.rp
  refine codeAny_mono ((F _ kB (nsK hns) (let ⟨mm, z⟩ := hsy; ⟨mm, nsK z⟩)).run callerA [] s1 H ⟨[.ref a], []⟩ [.ref a] [.ref a] _ _ rfl hr e0 (hbind s1 (.ref a)) (.cons rfl .nil) hs) fun r s' h => ?_
  cases r with
  | error e => exact False.elim h
  | ok fl =>
    cases fl with
    | next => exact False.elim h
    | brk => exact False.elim h
    | cont => exact False.elim h
    | ret u =>
      obtain ⟨v, H', os, bare, un, hok', rv, q⟩ := h
      have q : v = .bl true := q
      subst q
      obtain rfl : u = Value.bool true := rv
      refine ⟨rfl, OldK.of_keep fun b o e => ?_, os, bare⟩
      cases q : H b with
      | none => exact un.keep b o e q (fun z => nomatch (show b ∈ ([] : List Addr) from z)) (fun z => nomatch z)
      | some y =>
        rcases hO b with z | ⟨ob, xs, z⟩
        · rw [q] at z; cases z
        · obtain ⟨e1, _⟩ := hok b _ z
          obtain ⟨e2, _⟩ := hok' b _ (un.frzs b ob _ z)
          rw [e] at e1
          cases e1
          exact e2
theorem law_runS (KX : K.In s1.heap) (hns : s1.heap.Ns mainGlobals mg) (hb : s1.heap.Ns builtinsNs mb) (hbb : ∀ x : Str, x ≠ "__name__" → mb x = bootBuiltins x) (hlim : s1.heap.NoLimit) (hgs : s1.gens = #[])
    (ha : s1.heap.get? a = some { cls := .type "list", data := .seq vs.toArray }) (hi : PyProof.Rows.IntsAre vs ns) (hl : ns.length ≤ sizeLine) (hr : Room k callerA)
    (hsy : SysAt s1.heap) (F : ∀ base : Heap, K.In base → base.Ns mainGlobals mg → SysAt base → FnG P w K mg base k fa fd [x] (spD K sp)) (hbind : ∀ (s : Shared) (u : Value), BindsTo s fd ⟨[u], []⟩ [(x, u)])
    (hsp : sp [.scr ns] (fun _ => none) fun y _ => y = .d (.bool true)) :
    codeAny (model P w) callerA (.call (.ref fa) ⟨[.ref a], []⟩) (fun r s' => r = .ok (.ret (.bool true)) ∧ OldK s1.heap s'.heap ∧ s'.os = s1.os ∧ PyProof.Rows.AllBare s'.gens) s1 := by
  have rv := vals_ints hi
  have hlen := hi.length
  cases hk : K.lookup a with
  | some o =>
    have e := KX a o hk
    rw [ha] at e
    cases e
    refine law_coreS KX hns hb hbb hlim hgs ha hr hsy F hbind hsp (fun _ => none) (fun _ => Or.inl rfl) (Or.inr ⟨_, vs.toArray, _, hk, rfl, rfl, rfl, ?_, ?_⟩) (fun b u z => nomatch (show (none : Option HO) = some u from z)) (fun b z => absurd rfl z) fun z => absurd rfl z
    · rw [List.size_toArray, hlen]; exact hl
    · simpa using rv
  | none =>
    refine law_coreS KX hns hb hbb hlim hgs ha hr hsy F hbind hsp (fun b => if b = a then some (.frz { cls := .type "list", data := .seq vs.toArray } (.lst (ns.map V.int))) else none) (fun b => ?_) (Or.inl (Or.inr ⟨{ cls := .type "list", data := .seq vs.toArray }, if_pos rfl⟩)) (fun b u z => ?_) (fun b z => ?_) fun _ => hk
    · by_cases h : b = a
      · exact Or.inr ⟨_, _, if_pos h⟩
      · exact Or.inl (if_neg h)
    · by_cases h : b = a
      · have z := (if_pos h).symm.trans z
        cases z
        subst h
        exact ⟨ha, by rw [List.length_map]; exact hl, vs, _, rv, ha⟩
      · exact nomatch (if_neg h).symm.trans z
    · by_cases h : b = a
      · exact h
      · exact absurd (if_neg h) z
end
/-- from the law's def to the row -/
theorem walkS {l : PySem.W.OpenLaw} {n k : Nat} {q : Program} {loose : List Str} {XP : (Str → Option Value) → Heap → Prop} {YP : World → Heap → Prop} {d : DefRec} {K : Params → PySem.W.Frag} {sp : FSp} {x : Str}
    (hn : l.most = some n) (hn2 : n ≤ sizeLine) (hi : importsNone q = true) (hdf : d.params.defaults = []) (hr : Room k callerA) (hY : ∀ (w : World) (h : Heap), YP w h → (K w.params).In h)
    (F : ∀ (w : World) (mg : Str → Option Value) (fa : Addr) (h : Heap), (K w.params).In h → h.Ns mainGlobals mg → mg d.name = some (.ref fa) →
      ∃ fd : FuncData, (∀ (s : Shared) (u : Value), BindsTo s fd ⟨[u], []⟩ [(x, u)]) ∧
        ∀ base : Heap, (K w.params).In base → base.Ns mainGlobals mg → SysAt base → FnG l.prog w (K w.params) mg base k fa fd [x] (spD (K w.params) sp))
    (hsp : ∀ ns : List Int, ns.length ≤ n → (∀ z ∈ ns, Builtin.Int.intBits z ≤ 1048576) → sp [.scr ns] (fun _ => none) fun y _ => y = .d (.bool true)) :
    PySem.W.WalkO q loose XP YP l.row.toRowW d [] (fun f vs => PySem.call f vs) := by
  refine Att.attach_callB hn hdf fun w s0 s1 mg mb fa o pm cd doc a vs ns G Y ho hd hcd hmg hobj hints hlen hbits hg => ?_
  have KX := hY w _ Y
  obtain ⟨fd, hb, hF⟩ := F w mg fa _ KX G.T.g hmg
  exact law_runS KX G.T.g G.T.b G.T.builtins G.T.nolimit hg hobj hints (Nat.le_trans hlen hn2) hr (let ⟨mm, z, _⟩ := (G.T.seer hi).mods; ⟨mm, z⟩) hF hb (hsp ns hlen hbits)
/-! how long it is shown -/
structure ShB (d : PyData) (k n : Nat) : Prop where
  dp : d.depth ≤ k
  sh : d.showable = true
  ln : d.shown.length ≤ n
theorem ShB.mono {d : PyData} {k n k' n' : Nat} (h : ShB d k n) (h1 : k ≤ k') (h2 : n ≤ n') : ShB d k' n' := ⟨Nat.le_trans h.dp h1, h.sh, Nat.le_trans h.ln h2⟩
theorem Sh.toB {d : PyData} {k n : Nat} (h : Sh d k n) : ShB d k n := ⟨h.dp, h.sh, h.ln⟩
theorem ShB.toA {x : PyData} {k n : Nat} (h : ShB x k n) (h1 : k ≤ 64) (h2 : n ≤ 16777216) : ShA x := ⟨Nat.le_trans h.dp h1, h.sh, Nat.le_trans h.ln h2⟩
theorem shbAll {k n : Nat} : ∀ {ds : List PyData}, (∀ d ∈ ds, ShB d k n) → PyData.depthAll ds ≤ k ∧ PyData.showableAll ds = true ∧ ((PyData.shownAll ds).map (·.length)).sum ≤ n * ds.length ∧ (PyData.shownAll ds).length = ds.length
  | [], _ => ⟨by simp only [PyData.depthAll]; exact Nat.zero_le _, by simp only [PyData.showableAll], by simp [PyData.shownAll], by simp [PyData.shownAll]⟩
  | d :: ds, h => by
    have h1 := h d (List.mem_cons_self ..)
    obtain ⟨b, c, e, f⟩ := shbAll (ds := ds) fun x hx => h x (List.mem_cons_of_mem _ hx)
    refine ⟨?_, by simp only [PyData.showableAll, h1.sh, c]; rfl, ?_, ?_⟩
    · simp only [PyData.depthAll]
      exact Nat.max_le.mpr ⟨h1.dp, b⟩
    · have := h1.ln
      simp only [PyData.shownAll, List.map_cons, List.sum_cons, List.length_cons]
      rw [Nat.mul_succ]
      omega
    · simp only [PyData.shownAll, List.length_cons, f]
theorem shb_tuple {ds : List PyData} {k n c : Nat} (h : ∀ d ∈ ds, ShB d k n) (hc : ds.length ≤ c) : ShB (.tuple ds) (k + 1) ((n + 2) * c + 3) := by
  obtain ⟨b, e, f, g⟩ := shbAll h
  refine ⟨by simp only [PyData.depth]; omega, by simp only [PyData.showable, e], ?_⟩
  simp only [PyData.shown]
  have := tupleText_len_le (PyData.shownAll ds)
  have h1 : n * ds.length ≤ n * c := Nat.mul_le_mul_left n hc
  have h2 : (n + 2) * c = n * c + 2 * c := Nat.add_mul n 2 c
  omega
theorem shb_list {ds : List PyData} {k n c : Nat} (h : ∀ d ∈ ds, ShB d k n) (hc : ds.length ≤ c) : ShB (.list ds) (k + 1) ((n + 2) * c + 3) := by
  obtain ⟨b, e, f, g⟩ := shbAll h
  refine ⟨by simp only [PyData.depth]; omega, by simp only [PyData.showable, e], ?_⟩
  simp only [PyData.shown]
  have := listText_len_le (PyData.shownAll ds)
  have h1 : n * ds.length ≤ n * c := Nat.mul_le_mul_left n hc
  have h2 : (n + 2) * c = n * c + 2 * c := Nat.add_mul n 2 c
  omega
end DL

/-! unlike things are shown unlike, where one of them is made of ints, tuples, lists -/
namespace DL
open PySem
def sL (x : PyData) : List Nat := x.shown.cps.toList
theorem cps_app (a b : Str) : (a ++ b).cps.toList = a.cps.toList ++ b.cps.toList := by
  show (a.cps ++ b.cps).toList = _
  exact Array.toList_append
theorem sL_int (i : Int) : sL (.int i) = (toString i).toList.map Char.toNat := by
  unfold sL
  simp only [PyData.shown]
  rw [Str.ofString_eq_toList]
def bdT (c : Nat) : List PyData → List Nat
  | [] => [c]
  | x :: t => 44 :: 32 :: (sL x ++ bdT c t)
theorem join_bd (c : Nat) : ∀ (t : List PyData) (x : PyData), (Str.join ", " (PyData.shownAll (x :: t))).cps.toList ++ [c] = sL x ++ bdT c t
  | [], x => by
    simp only [PyData.shownAll, Str.join]
    rfl
  | y :: t, x => by
    have ih := join_bd c t y
    simp only [PyData.shownAll] at ih ⊢
    rw [Str.join]
    · rw [cps_app, cps_app, List.append_assoc, List.append_assoc, ih]
      rfl
    · exact fun h => nomatch h
theorem sL_nil : sL (.list []) = [91, 93] := by decide +kernel
theorem sL_list (x : PyData) (t : List PyData) : sL (.list (x :: t)) = 91 :: (sL x ++ bdT 93 t) := by
  have h : (PyData.list (x :: t)).shown = ("[" : Str) ++ Str.join ", " (PyData.shownAll (x :: t)) ++ "]" := by
    simp only [PyData.shown, PyData.shownAll]
    unfold PySem.listText
    rw [show textFrom 0 "[" (PyData.shown x :: PyData.shownAll t) = textFrom 1 (("[" : Str) ++ PyData.shown x) (PyData.shownAll t) by rfl]
    rw [textFrom_pos _ _ _ _ (by decide)]
  unfold sL
  rw [h, cps_app, cps_app, List.append_assoc]
  rw [show ("]" : Str).cps.toList = [93] by decide +kernel, show ("[" : Str).cps.toList = [91] by decide +kernel, join_bd 93 t x]
  rfl
theorem sL_tnil : sL (.tuple []) = [40, 41] := by decide +kernel
theorem sL_tone (x : PyData) : sL (.tuple [x]) = 40 :: (sL x ++ [44, 41]) := by
  unfold sL
  simp only [PyData.shown, PyData.shownAll]
  unfold PySem.tupleText
  rw [cps_app, cps_app]
  rw [show ("(" : Str).cps.toList = [40] by decide +kernel]
  rfl
theorem sL_tup (x y : PyData) (t : List PyData) : sL (.tuple (x :: y :: t)) = 40 :: (sL x ++ bdT 41 (y :: t)) := by
  have h : (PyData.tuple (x :: y :: t)).shown = ("(" : Str) ++ Str.join ", " (PyData.shownAll (x :: y :: t)) ++ ")" := by
    simp only [PyData.shown]
    unfold PySem.tupleText
    have hl : ((PyData.shownAll (x :: y :: t)).length == 1) = false := by simp [PyData.shownAll]
    rw [hl]
    rfl
  unfold sL
  rw [h, cps_app, cps_app, List.append_assoc]
  rw [show (")" : Str).cps.toList = [41] by decide +kernel, show ("(" : Str).cps.toList = [40] by decide +kernel, join_bd 41 (y :: t) x]
  rfl
/-! the first sign -/
def hc : PyData → Nat → Prop
  | .none, c => c = 78
  | .bool _, c => c = 84 ∨ c = 70
  | .int _, c => (48 ≤ c ∧ c ≤ 57) ∨ c = 45
  | .str _, c => c = 39 ∨ c = 34
  | .list _, c => c = 91
  | .tuple _, c => c = 40
  | .dict _, c => c = 123
def dgS (c : Nat) : Prop := (48 ≤ c ∧ c ≤ 57) ∨ c = 45
theorem int_dgS (i : Int) : ∀ c ∈ sL (.int i), dgS c := fun c hc => by
  rw [sL_int] at hc
  obtain ⟨ch, h1, rfl⟩ := List.mem_map.mp hc
  rcases PyProof.Rows.int_sign i ch h1 with h | h
  · have h : (48 : UInt32) ≤ ch.val ∧ ch.val ≤ 57 := by simpa [Char.isDigit] using h
    exact Or.inl ⟨UInt32.le_iff_toNat_le.mp h.1, UInt32.le_iff_toNat_le.mp h.2⟩
  · exact Or.inr (by rw [h]; rfl)
theorem int_ne (i : Int) : sL (.int i) ≠ [] := fun h => by
  rw [sL_int] at h
  have h : (toString i).toList = [] := List.map_eq_nil_iff.mp h
  cases i with
  | ofNat n =>
    have h : (Nat.repr n).toList = [] := h
    rw [Nat.toList_repr] at h
    exact Nat.toDigits_ne_nil h
  | negSucc n =>
    have h : ("-" ++ Nat.repr (n + 1)).toList = [] := h
    simp at h
theorem fold_head (f : Nat → List Nat) : ∀ (l : List Nat) (acc : Array Nat), ∃ t, (l.foldl (fun out c => out ++ (f c).toArray) acc).toList = acc.toList ++ t
  | [], acc => ⟨[], by simp⟩
  | c :: l, acc => by
    obtain ⟨t, ht⟩ := fold_head f l (acc ++ (f c).toArray)
    exact ⟨f c ++ t, by rw [List.foldl_cons, ht]; simp⟩
theorem sL_head : ∀ x : PyData, ∃ c l, sL x = c :: l ∧ hc x c
  | .none => ⟨78, [111, 110, 101], by decide +kernel, rfl⟩
  | .bool true => ⟨84, [114, 117, 101], by decide +kernel, Or.inl rfl⟩
  | .bool false => ⟨70, [97, 108, 115, 101], by decide +kernel, Or.inr rfl⟩
  | .int i => by
    cases h : sL (.int i) with
    | nil => exact absurd h (int_ne i)
    | cons c l => exact ⟨c, l, rfl, int_dgS i c (by rw [h]; exact List.mem_cons_self)⟩
  | .str x => by
    have hq : reprQuote x = 39 ∨ reprQuote x = 34 := by
      unfold reprQuote
      split <;> simp
    obtain ⟨t, ht⟩ := fold_head (PySem.Builtin.Str.reprChar (reprQuote x)) x.cps.toList #[reprQuote x]
    refine ⟨reprQuote x, t ++ [reprQuote x], ?_, hq⟩
    unfold sL
    simp only [PyData.shown]
    unfold reprText
    show ((x.cps.foldl (fun out c => out ++ (PySem.Builtin.Str.reprChar (reprQuote x) c).toArray) #[reprQuote x]).push (reprQuote x)).toList = _
    rw [Array.toList_push, ← Array.foldl_toList, ht]
    rfl
  | .list [] => ⟨91, [93], sL_nil, rfl⟩
  | .list (x :: t) => ⟨91, _, sL_list x t, rfl⟩
  | .tuple [] => ⟨40, [41], sL_tnil, rfl⟩
  | .tuple [x] => ⟨40, _, sL_tone x, rfl⟩
  | .tuple (x :: y :: t) => ⟨40, _, sL_tup x y t, rfl⟩
  | .dict kvs => by
    refine ⟨123, (Str.join ", " (PyData.shownKv kvs)).cps.toList ++ ("}" : Str).cps.toList, ?_, rfl⟩
    unfold sL
    simp only [PyData.shown]
    unfold PySem.dictText
    rw [cps_app, cps_app, show ("{" : Str).cps.toList = [123] by decide +kernel]
    rfl
/-- what may stand behind an item -/
def sep (r : List Nat) : Prop := ∀ c l, r = c :: l → c = 44 ∨ c = 41 ∨ c = 93
theorem dgS_cut : ∀ {l1 l2 r1 r2 : List Nat}, (∀ c ∈ l1, dgS c) → (∀ c ∈ l2, dgS c) → sep r1 → sep r2 → l1 ++ r1 = l2 ++ r2 → l1 = l2 ∧ r1 = r2
  | [], [], r1, r2, _, _, _, _, h => ⟨rfl, h⟩
  | [], c :: l2, r1, r2, _, h2, s1, _, h => by
    have := s1 c _ h
    have := h2 c List.mem_cons_self
    unfold dgS at this
    omega
  | c :: l1, [], r1, r2, h1, _, _, s2, h => by
    have := s2 c _ h.symm
    have := h1 c List.mem_cons_self
    unfold dgS at this
    omega
  | c :: l1, d :: l2, r1, r2, h1, h2, s1, s2, h => by
    rw [List.cons_append, List.cons_append] at h
    injection h with e h
    obtain ⟨h3, h4⟩ := dgS_cut (fun c hc => h1 c (List.mem_cons_of_mem _ hc)) (fun c hc => h2 c (List.mem_cons_of_mem _ hc)) s1 s2 h
    exact ⟨by rw [e, h3], h4⟩
theorem int_text_inj {i j : Int} (h : sL (.int i) = sL (.int j)) : i = j := by
  rw [sL_int, sL_int] at h
  have hc : ∀ {a b : Char}, a.toNat = b.toNat → a = b := fun {a b} e => Char.ext (UInt32.toNat_inj.mp e)
  have h2 : (toString i).toList = (toString j).toList := (List.map_inj_right (fun _ _ e => hc e)).mp h
  exact Int.repr_injective (String.toList_inj.mp h2)
mutual
def itl : PyData → Bool
  | .int _ => true
  | .list ys => itlAll ys
  | .tuple ys => itlAll ys
  | .none => false
  | .bool _ => false
  | .str _ => false
  | .dict _ => false
def itlAll : List PyData → Bool
  | [] => true
  | y :: t => itl y && itlAll t
end
theorem bd_head (c : Nat) (hc : c = 41 ∨ c = 93) (t : List PyData) (r : List Nat) : sep (bdT c t ++ r) := fun d l h => by
  cases t with
  | nil =>
    have h : c :: r = d :: l := h
    injection h with h _
    omega
  | cons x t =>
    have h : 44 :: (32 :: (sL x ++ bdT c t) ++ r) = d :: l := h
    injection h with h _
    omega
theorem same_head {x y : PyData} {r1 r2 : List Nat} (h : sL x ++ r1 = sL y ++ r2) : ∃ c, hc x c ∧ hc y c := by
  obtain ⟨c, l, e1, h1⟩ := sL_head x
  obtain ⟨d, k, e2, h2⟩ := sL_head y
  rw [e1, e2, List.cons_append, List.cons_append] at h
  injection h with e _
  exact ⟨c, h1, e ▸ h2⟩
theorem not_close {y : PyData} (hy : itl y = true) {r1 r2 : List Nat} {c : Nat} (hc' : c = 41 ∨ c = 93) : c :: r1 ≠ sL y ++ r2 := fun h => by
  obtain ⟨d, k, e2, h2⟩ := sL_head y
  rw [e2, List.cons_append] at h
  injection h with e _
  subst e
  cases y <;> simp [itl] at hy <;> simp only [hc] at h2 <;> omega
mutual
theorem cut : ∀ (y x : PyData) (r1 r2 : List Nat), itl y = true → sep r1 → sep r2 → sL x ++ r1 = sL y ++ r2 → x = y ∧ r1 = r2
  | .int i, x, r1, r2, _, s1, s2, h => by
    obtain ⟨c, h1, h2⟩ := same_head h
    cases x with
    | int j =>
      obtain ⟨h3, h4⟩ := dgS_cut (int_dgS j) (int_dgS i) s1 s2 h
      exact ⟨by rw [int_text_inj h3], h4⟩
    | _ => simp only [hc] at h1 h2; omega
  | .list ys, x, r1, r2, hy, s1, s2, h => by
    obtain ⟨c, h1, h2⟩ := same_head h
    cases x with
    | list xs =>
      cases ys with
      | nil =>
        cases xs with
        | nil => exact ⟨rfl, List.append_cancel_left h⟩
        | cons a t =>
          rw [sL_nil, sL_list] at h
          injection h with _ h
          obtain ⟨d, k, e2, h2⟩ := sL_head a
          rw [e2] at h
          injection h with h _
          subst h
          cases a <;> simp only [hc] at h2 <;> omega
      | cons b u =>
        have hy : itl b = true ∧ itlAll u = true := by simpa [itl, itlAll] using hy
        cases xs with
        | nil =>
          rw [sL_nil, sL_list] at h
          injection h with _ h
          have h : 93 :: ([] ++ r1) = (sL b ++ bdT 93 u) ++ r2 := h
          rw [List.append_assoc] at h
          exact absurd h (not_close hy.1 (Or.inr rfl))
        | cons a t =>
          rw [sL_list, sL_list] at h
          injection h with _ h
          have h : (sL a ++ bdT 93 t) ++ r1 = (sL b ++ bdT 93 u) ++ r2 := h
          rw [List.append_assoc, List.append_assoc] at h
          obtain ⟨h3, h4⟩ := cut b a _ _ hy.1 (bd_head 93 (Or.inr rfl) t r1) (bd_head 93 (Or.inr rfl) u r2) h
          obtain ⟨h5, h6⟩ := cutT u t 93 r1 r2 hy.2 (Or.inr rfl) h4
          exact ⟨by rw [h3, h5], h6⟩
    | _ => simp only [hc] at h1 h2; omega
  | .tuple ys, x, r1, r2, hy, s1, s2, h => by
    obtain ⟨c, h1, h2⟩ := same_head h
    cases x with
    | tuple xs =>
      have s41 : ∀ r : List Nat, sep (44 :: r) := fun r d l e => by injection e with e _; omega
      cases ys with
      | nil =>
        cases xs with
        | nil => exact ⟨rfl, List.append_cancel_left h⟩
        | cons a t =>
          obtain ⟨d, k, e2, h2⟩ := sL_head a
          have h3 : d = 41 := by
            cases t with
            | nil =>
              rw [sL_tnil, sL_tone, e2] at h
              injection h with _ h
              injection h with h _
            | cons b t =>
              rw [sL_tnil, sL_tup, e2] at h
              injection h with _ h
              injection h with h _
          subst h3
          cases a <;> simp only [hc] at h2 <;> omega
      | cons b u =>
        have hy : itl b = true ∧ itlAll u = true := by simpa [itl, itlAll] using hy
        cases xs with
        | nil =>
          rw [sL_tnil] at h
          cases u with
          | nil =>
            rw [sL_tone] at h
            injection h with _ h
            have h : 41 :: ([] ++ r1) = (sL b ++ [44, 41]) ++ r2 := h
            rw [List.append_assoc] at h
            exact absurd h (not_close hy.1 (Or.inl rfl))
          | cons b2 u =>
            rw [sL_tup] at h
            injection h with _ h
            have h : 41 :: ([] ++ r1) = (sL b ++ bdT 41 (b2 :: u)) ++ r2 := h
            rw [List.append_assoc] at h
            exact absurd h (not_close hy.1 (Or.inl rfl))
        | cons a t =>
          cases t with
          | nil =>
            cases u with
            | nil =>
              rw [sL_tone, sL_tone] at h
              injection h with _ h
              have h : (sL a ++ [44, 41]) ++ r1 = (sL b ++ [44, 41]) ++ r2 := h
              rw [List.append_assoc, List.append_assoc] at h
              obtain ⟨h3, h4⟩ := cut b a _ _ hy.1 (s41 _) (s41 _) h
              exact ⟨by rw [h3], by injection h4 with _ h4; injection h4 with _ h4⟩
            | cons b2 u =>
              rw [sL_tone, sL_tup] at h
              injection h with _ h
              have h : (sL a ++ [44, 41]) ++ r1 = (sL b ++ bdT 41 (b2 :: u)) ++ r2 := h
              rw [List.append_assoc, List.append_assoc] at h
              obtain ⟨h3, h4⟩ := cut b a _ _ hy.1 (s41 _) (s41 _) h
              have h4 : 44 :: (41 :: r1) = 44 :: (32 :: (sL b2 ++ bdT 41 u) ++ r2) := h4
              injection h4 with _ h4
              injection h4 with h4 _
              omega
          | cons a2 t =>
            cases u with
            | nil =>
              rw [sL_tup, sL_tone] at h
              injection h with _ h
              have h : (sL a ++ bdT 41 (a2 :: t)) ++ r1 = (sL b ++ [44, 41]) ++ r2 := h
              rw [List.append_assoc, List.append_assoc] at h
              obtain ⟨h3, h4⟩ := cut b a _ _ hy.1 (s41 _) (s41 _) h
              have h4 : 44 :: (32 :: (sL a2 ++ bdT 41 t) ++ r1) = 44 :: (41 :: r2) := h4
              injection h4 with _ h4
              injection h4 with h4 _
              omega
            | cons b2 u =>
              rw [sL_tup, sL_tup] at h
              injection h with _ h
              have h : (sL a ++ bdT 41 (a2 :: t)) ++ r1 = (sL b ++ bdT 41 (b2 :: u)) ++ r2 := h
              rw [List.append_assoc, List.append_assoc] at h
              obtain ⟨h3, h4⟩ := cut b a _ _ hy.1 (s41 _) (s41 _) h
              obtain ⟨h5, h6⟩ := cutT (b2 :: u) (a2 :: t) 41 r1 r2 hy.2 (Or.inl rfl) h4
              exact ⟨by rw [h3, h5], h6⟩
    | _ => simp only [hc] at h1 h2; omega
  | .none, _, _, _, hy, _, _, _ => by simp [itl] at hy
  | .bool _, _, _, _, hy, _, _, _ => by simp [itl] at hy
  | .str _, _, _, _, hy, _, _, _ => by simp [itl] at hy
  | .dict _, _, _, _, hy, _, _, _ => by simp [itl] at hy
theorem cutT : ∀ (ys xs : List PyData) (c : Nat) (r1 r2 : List Nat), itlAll ys = true → (c = 41 ∨ c = 93) → bdT c xs ++ r1 = bdT c ys ++ r2 → xs = ys ∧ r1 = r2
  | [], xs, c, r1, r2, _, hc', h => by
    cases xs with
    | nil => exact ⟨rfl, List.append_cancel_left h⟩
    | cons a t =>
      have h : 44 :: (32 :: (sL a ++ bdT c t) ++ r1) = c :: r2 := h
      injection h with h _
      omega
  | b :: u, xs, c, r1, r2, hy, hc', h => by
    have hy : itl b = true ∧ itlAll u = true := by simpa [itlAll] using hy
    cases xs with
    | nil =>
      have h : c :: r1 = 44 :: (32 :: (sL b ++ bdT c u) ++ r2) := h
      injection h with h _
      omega
    | cons a t =>
      have h : 44 :: (32 :: ((sL a ++ bdT c t) ++ r1)) = 44 :: (32 :: ((sL b ++ bdT c u) ++ r2)) := h
      injection h with _ h
      injection h with _ h
      rw [List.append_assoc, List.append_assoc] at h
      obtain ⟨h3, h4⟩ := cut b a _ _ hy.1 (bd_head c hc' t r1) (bd_head c hc' u r2) h
      obtain ⟨h5, h6⟩ := cutT u t c r1 r2 hy.2 hc' h4
      exact ⟨by rw [h3, h5], h6⟩
end
/-- shown alike: alike -/
theorem shown_inj {x y : PyData} (hy : itl y = true) (h : x.shown = y.shown) : x = y := by
  have h2 : sL x ++ [] = sL y ++ [] := by unfold sL; rw [h]
  exact (cut y x [] [] hy (fun _ _ e => nomatch e) (fun _ _ e => nomatch e) h2).1
end DL

/-! k33: pack papers among things that are told otherwise -/
namespace DL
open PySem L2
def ppL (a s : Nat) : List PyData := (paperF a s a).map frac
def newsP (q : Rat) (o : PyData) : List (List PyData) :=
  [[.tuple [.int (q.num + 1), .int (q.den : Int)]], [.tuple [.int (q.num + (q.den : Int)), .int (q.den : Int)]], [.tuple [.int (2 * q.num), .int (2 * (q.den : Int))]], [.int q.num], [.tuple [.bool (decide (q.num = 1)), .int (q.den : Int)]]] ++
  [[.list [.int q.num, .int (q.den : Int)]], [], [frac q, frac q], [o], [.tuple [.int (q.num - (q.den : Int)), .int (q.den : Int)]], [.tuple [.int q.num, .int (q.den : Int), .int 0]]]
def midP (l : List PyData) (i : Nat) (n : List PyData) : List PyData := l.take i ++ n ++ l.drop (i + 1)
def swapP (l : List PyData) (i j : Nat) : List PyData := (l.set i (l.getD j .none)).set j (l.getD i .none)
def bentL (l : List Rat) (i j : Nat) (o : PyData) : List PyData := ((newsP (l.getD i 0) o).map fun n => .list (midP (l.map frac) i n)) ++ [.list (swapP (l.map frac) i j), .tuple (l.map frac), .list (l.map frac).reverse]
def isPP (l : List PyData) : PyData → Bool
  | .list ds => ds.all isFrac && PyData.eqv (.list ds) (.list l)
  | _ => false
/-- a thing that is a list of small enough items -/
structure OkI (d : PyData) : Prop where
  sh : ShB d 4 4000
  sz : szFrac d
def OkX (x : PyData) : Prop := ShA x ∧ ∀ ds, x = .list ds → (∀ d ∈ ds, szFrac d) ∧ ds.length ≤ 100
theorem okx_list {ds : List PyData} (h : ∀ d ∈ ds, OkI d) (hl : ds.length ≤ 50) : OkX (.list ds) := ⟨(shb_list (fun d hd => (h d hd).sh) hl).toA (by decide) (by decide), fun es e => by injection e with e; subst e; exact ⟨fun d hd => (h d hd).sz, by omega⟩⟩
theorem okx_tuple {ds : List PyData} (h : ∀ d ∈ ds, OkI d) (hl : ds.length ≤ 50) : OkX (.tuple ds) := ⟨(shb_tuple (fun d hd => (h d hd).sh) hl).toA (by decide) (by decide), fun es e => nomatch e⟩
theorem oki_int {i : Int} (h : Bt i 200) : OkI (.int i) := ⟨((sh_int (a := 200) h (by decide) (by decide)).toB).mono (by decide) (by decide), by simp [szFrac]⟩
theorem oki_tup {ds : List PyData} (h : ∀ d ∈ ds, ShB d 1 300) (hi : ∀ i : Int, PyData.int i ∈ ds → Bt i 8000) (hl : ds.length ≤ 5) : OkI (.tuple ds) := ⟨(shb_tuple h hl).mono (by decide) (by decide), sz_tuple hi⟩
theorem oki_pair {t b : Int} (h1 : Bt t 200) (h2 : Bt b 200) : OkI (.tuple [.int t, .int b]) := oki_tup (fun d hd => by
  simp only [List.mem_cons, List.not_mem_nil, or_false] at hd
  rcases hd with rfl | rfl
  · exact ((sh_int (a := 200) h1 (by decide) (by decide)).toB).mono (by decide) (by decide)
  · exact ((sh_int (a := 200) h2 (by decide) (by decide)).toB).mono (by decide) (by decide)) (fun i hi => by
  simp only [List.mem_cons, List.not_mem_nil, or_false, PyData.int.injEq] at hi
  rcases hi with rfl | rfl
  · exact h1.mono (by decide)
  · exact h2.mono (by decide)) (by show 2 ≤ 5; decide)
theorem oki_frac {q : Rat} (h : FrB q 60) : OkI (frac q) := oki_pair (h.1.mono (by decide)) (h.2.mono (by decide))
theorem oki_odd {o : PyData} (h : o ∈ oddL) : OkI o := by
  obtain ⟨h1, h2, _⟩ := odd_facts h
  refine ⟨?_, h2.2⟩
  rcases h1 with h1 | h1
  · exact h1.toB.mono (by decide) (by decide)
  · exact ShB.mono (k := 3) (n := 2000) ⟨h1.2.1, h1.2.2.1, h1.2.2.2⟩ (by decide) (by decide)
theorem okx_odd {o : PyData} (h : o ∈ oddL) : OkX o := by
  refine ⟨(oki_odd h).sh.toA (by decide) (by decide), fun ds e => ?_⟩
  subst e
  have : ∀ x ∈ oddL, (match x with | .list ds => decide (ds = [] ∨ ds.length = 1 ∧ ds.all isInt = true) | _ => true) = true := by decide +kernel
  have := this _ h
  have : ds = [] ∨ ds.length = 1 ∧ ds.all isInt = true := of_decide_eq_true this
  rcases this with rfl | ⟨h1, h2⟩
  · exact ⟨(fun _ z => nomatch z), by decide⟩
  · refine ⟨fun d hd => ?_, by omega⟩
    have := List.all_eq_true.mp h2 d hd
    cases d <;> first | (simp [szFrac]; done) | (simp [isInt] at this; done)
theorem pp_items {a s : Nat} (hp : Pk a s) : ∀ q ∈ paperF a s a, FrB q 60 := paper_items _ (pairs_of hp) ⟨a, by have := hp.2.1; omega⟩
theorem pp_oki {a s : Nat} (hp : Pk a s) : ∀ d ∈ ppL a s, OkI d := fun d hd => by
  obtain ⟨q, hq, rfl⟩ := List.mem_map.mp hd
  exact oki_frac (pp_items hp q hq)
theorem pp_len (a s : Nat) : (ppL a s).length = a + 1 := by unfold ppL; rw [List.length_map, paperF_len]
theorem news_oki {q : Rat} (h : FrB q 60) {o : PyData} (ho : o ∈ oddL) {n : List PyData} (hn : n ∈ newsP q o) : (∀ d ∈ n, OkI d) ∧ n.length ≤ 2 := by
  have h1 : Bt q.num 200 := h.1.mono (by decide)
  have h2 : Bt (q.den : Int) 200 := h.2.mono (by decide)
  have b1 : Bt (1 : Int) 60 := bt_lit (n := 1) (by decide) (by decide)
  have c1 : Bt (q.num + 1) 200 := (h.1.add b1 (Nat.le_refl _) (by decide)).mono (by decide)
  have c2 : Bt (q.num + (q.den : Int)) 200 := (h.1.add h.2 (Nat.le_refl _) (by decide)).mono (by decide)
  have b2 : Bt (2 : Int) 2 := bt_lit (n := 2) (by decide) (by decide)
  have c3 : Bt (2 * q.num) 200 := (b2.mul h.1).mono (by decide)
  have c4 : Bt (2 * (q.den : Int)) 200 := (b2.mul h.2).mono (by decide)
  have c5 : Bt (q.num - (q.den : Int)) 200 := by
    rw [Int.sub_eq_add_neg]
    exact (h.1.add h.2.neg (Nat.le_refl _) (by decide)).mono (by decide)
  have one : ∀ {d : PyData}, OkI d → (∀ e ∈ [d], OkI e) ∧ [d].length ≤ 2 := fun {d} hd => ⟨fun e he => by rw [List.mem_singleton.mp he]; exact hd, by show 1 ≤ 2; decide⟩
  have ib : ∀ {i : Int}, Bt i 200 → ShB (.int i) 1 300 := fun {i} hi => ((sh_int (a := 200) hi (by decide) (by decide)).toB).mono (by decide) (by decide)
  simp only [newsP, List.cons_append, List.nil_append, List.mem_cons, List.not_mem_nil, or_false] at hn
  rcases hn with rfl | rfl | rfl | rfl | rfl | rfl | rfl | rfl | rfl | rfl | rfl
  · exact one (oki_pair c1 h2)
  · exact one (oki_pair c2 h2)
  · exact one (oki_pair c3 c4)
  · exact one (oki_int h1)
  · refine one (oki_tup (fun d hd => ?_) (fun i hi => ?_) (by show 2 ≤ 5; decide))
    · simp only [List.mem_cons, List.not_mem_nil, or_false] at hd
      rcases hd with rfl | rfl
      · exact (sh_bool _).toB.mono (by decide) (by decide)
      · exact ib h2
    · simp only [List.mem_cons, List.not_mem_nil, or_false, PyData.int.injEq, reduceCtorEq, false_or] at hi
      rw [hi]; exact h2.mono (by decide)
  · refine one ⟨(shb_list (ds := [.int q.num, .int (q.den : Int)]) (k := 1) (n := 300) (c := 2) (fun d hd => ?_) (Nat.le_refl 2)).mono (by decide) (by decide), by simp [szFrac]⟩
    simp only [List.mem_cons, List.not_mem_nil, or_false] at hd
    rcases hd with rfl | rfl
    · exact ib h1
    · exact ib h2
  · exact ⟨(fun _ z => nomatch z), by decide⟩
  · refine ⟨fun d hd => ?_, by show 2 ≤ 2; decide⟩
    simp only [List.mem_cons, List.not_mem_nil, or_false, or_self] at hd
    rw [hd]; exact oki_frac h
  · exact one (oki_odd ho)
  · exact one (oki_pair c5 h2)
  · refine one (oki_tup (fun d hd => ?_) (fun i hi => ?_) (by show 3 ≤ 5; decide))
    · simp only [List.mem_cons, List.not_mem_nil, or_false] at hd
      rcases hd with rfl | rfl | rfl
      · exact ib h1
      · exact ib h2
      · exact ib (bt_lit (n := 1) (by decide) (by decide))
    · simp only [List.mem_cons, List.not_mem_nil, or_false, PyData.int.injEq] at hi
      rcases hi with rfl | rfl | rfl
      · exact h1.mono (by decide)
      · exact h2.mono (by decide)
      · exact bt_lit (n := 1) (by decide) (by decide)
theorem bent_ok {a s i j : Nat} (hp : Pk a s) (hi : i ≤ a) (hj : j ≤ a) {o x : PyData} (ho : o ∈ oddL) (hx : x ∈ bentL (paperF a s a) i j o) : OkX x := by
  have h5 := hp.2.1
  have hl := pp_len a s
  have hit := pp_oki hp
  have gd : ∀ k, k ≤ a → OkI ((ppL a s).getD k .none) := fun k hk => by
    rw [List.getD_eq_getElem?_getD, List.getElem?_eq_getElem (by omega)]
    exact hit _ (List.getElem_mem _)
  have hq : FrB ((paperF a s a).getD i 0) 60 := pp_items hp _ (getD_mem (by rw [paperF_len]; omega))
  unfold bentL at hx
  rcases List.mem_append.mp hx with hx | hx
  · obtain ⟨n, hn, rfl⟩ := List.mem_map.mp hx
    obtain ⟨h1, h2⟩ := news_oki hq ho hn
    refine okx_list (fun d hd => ?_) ?_
    · unfold midP at hd
      rcases List.mem_append.mp hd with hd | hd
      · rcases List.mem_append.mp hd with hd | hd
        · exact hit d (List.mem_of_mem_take hd)
        · exact h1 d hd
      · exact hit d (List.mem_of_mem_drop hd)
    · unfold midP
      rw [List.length_append, List.length_append, List.length_take, List.length_drop, List.length_map, paperF_len]
      omega
  · simp only [List.mem_cons, List.not_mem_nil, or_false] at hx
    rcases hx with rfl | rfl | rfl
    · refine okx_list (fun d hd => ?_) ?_
      · unfold swapP at hd
        rcases List.mem_or_eq_of_mem_set hd with hd | rfl
        · rcases List.mem_or_eq_of_mem_set hd with hd | rfl
          · exact hit d hd
          · exact gd j hj
        · exact gd i hi
      · unfold swapP
        rw [List.length_set, List.length_set]
        show (ppL a s).length ≤ 50
        omega
    · exact okx_tuple hit (by show (ppL a s).length ≤ 50; omega)
    · exact okx_list (fun d hd => hit d (List.mem_reverse.mp hd)) (by rw [List.length_reverse]; show (ppL a s).length ≤ 50; omega)
/-! it is the paper where it is shown as the paper -/
theorem isFrac_of {d : PyData} (h : isFrac d = true) : ∃ q : Rat, d = frac q := by
  unfold isFrac at h
  split at h
  · rename_i t b
    have h : decide (1 ≤ b) = true ∧ decide (Nat.gcd b.toNat t.natAbs = 1) = true := by simpa using h
    have h1 := of_decide_eq_true h.1
    have h2 := of_decide_eq_true h.2
    refine ⟨mkRat t b.toNat, ?_⟩
    rw [frac_mk t b.toNat (by omega)]
    rw [h2]
    simp
    omega
  · cases h
theorem fracs_of : ∀ {ds : List PyData}, ds.all isFrac = true → ∃ qs : List Rat, ds = qs.map frac
  | [], _ => ⟨[], rfl⟩
  | d :: ds, h => by
    rw [List.all_cons, Bool.and_eq_true] at h
    obtain ⟨q, rfl⟩ := isFrac_of h.1
    obtain ⟨qs, rfl⟩ := fracs_of h.2
    exact ⟨q :: qs, rfl⟩
theorem itl_fracs : ∀ qs : List Rat, itlAll (qs.map frac) = true
  | [] => rfl
  | q :: qs => by
    rw [List.map_cons, itlAll, itl_fracs qs]
    rfl
theorem eqv_frQ (p q : Rat) : PyData.eqv (frac p) (frac q) = decide (p = q) := by
  by_cases h : p = q
  · subst h
    rw [eqv_data (shaped_frac p), decide_eq_true rfl]
  · rw [decide_eq_false h]
    unfold frac
    have hne : ¬ (p.num = q.num ∧ (p.den : Int) = (q.den : Int)) := fun ⟨h1, h2⟩ => h (Rat.ext h1 (by omega))
    simp only [PyData.eqv, PyData.eqvAll, Bool.and_true]
    by_cases a : p.num = q.num
    · have b : ¬ (p.den : Int) = (q.den : Int) := fun z => hne ⟨a, z⟩
      simp [a, b]
    · simp [a]
theorem eqv_fracs : ∀ ps qs : List Rat, PyData.eqvAll (ps.map frac) (qs.map frac) = decide (ps = qs)
  | [], [] => by simp [PyData.eqvAll]
  | [], q :: qs => by simp [PyData.eqvAll]
  | p :: ps, [] => by simp [PyData.eqvAll]
  | p :: ps, q :: qs => by
    rw [List.map_cons, List.map_cons, PyData.eqvAll, eqv_fracs ps qs, eqv_frQ, Bool.eq_iff_iff]
    simp
theorem isPP_shown (qs : List Rat) (x : PyData) : isPP (qs.map frac) x = decide (x.shown = (PyData.list (qs.map frac)).shown) := by
  have hy : itl (.list (qs.map frac)) = true := by rw [itl]; exact itl_fracs qs
  by_cases h : x = .list (qs.map frac)
  · subst h
    have : (qs.map frac).all isFrac = true := List.all_eq_true.mpr fun d hd => by
      obtain ⟨q, _, rfl⟩ := List.mem_map.mp hd
      exact isFrac_frac q
    rw [decide_eq_true rfl, isPP, this, PyData.eqv, eqv_fracs, decide_eq_true rfl]
    rfl
  · rw [decide_eq_false fun e => h (shown_inj hy e)]
    cases x with
    | list ds =>
      rw [isPP]
      cases hf : ds.all isFrac with
      | false => rfl
      | true =>
        obtain ⟨ps, rfl⟩ := fracs_of hf
        rw [PyData.eqv, eqv_fracs, decide_eq_false fun e => h (by rw [e])]
        rfl
    | _ => rfl
section
variable {K : PySem.W.Frag} {r : List Val} {m : Mm} {Q : Val → Mm → Prop} {te to1 ti1 to2 ti2 : TE} {N : List Val → Mm → Prop} {E : Val → Mm → Prop}
/-- xs[i], ys[j] = .. of one tuple -/
theorem w_asg2S (h : Ev K te r m fun x m1 => ∃ d1 d2, x = .d (.tuple [d1, d2]) ∧ Ev K to1 r m1 fun y m2 => ∃ p, y = .v (.ref p) ∧ Ev K ti1 r m2 fun z m3 => ∃ (i : Nat) (rs : List Val), z = .d (.int (i : Int)) ∧ m3 p = some (.lst rs) ∧ i < rs.length ∧
      Ev K to2 r (put m3 p (.lst (rs.set i (.d d1)))) fun y m4 => ∃ p, y = .v (.ref p) ∧ Ev K ti2 r m4 fun z m5 => ∃ (i : Nat) (rs : List Val), z = .d (.int (i : Int)) ∧ m5 p = some (.lst rs) ∧ i < rs.length ∧ N r (put m5 p (.lst (rs.set i (.d d2))))) :
    Wp K (tAsg te (gTup K 2 (gCons (gSub to1 ti1 rSetL) (gCons (gSub to2 ti2 rSetL) gNil)))) r m N E := fun σ H G D S L a b =>
  h σ H G S L _ fun v H1 G1 x m1 ⟨d1, d2, hx, h1⟩ S1 e1 r1 => by
    subst hx
    obtain ⟨p, xs, hv, hs, hA⟩ := rp_tuple.mp r1.rp
    obtain ⟨x1, t1, rfl, a1, hA⟩ := rpa_cons.mp hA
    obtain ⟨x2, t2, rfl, a2, hA⟩ := rpa_cons.mp hA
    obtain rfl := rpa_nil.mp hA
    refine ⟨p, _, hv, S1.sqT hs, rfl, x1, [x2], rfl, ?_⟩
    refine h1 σ H1 G1 S1 (L.mono e1) _ fun w H2 G2 y m2 ⟨p1, hy, h2⟩ S2 e2 r2 => h2 σ H2 G2 S2 (L.mono (e1.trans e2)) _ fun u H3 G3 z m3 ⟨i, rs, hz, hb, hi, h3⟩ S3 e3 r3 => ?_
    subst hy hz
    obtain rfl := r2.eq
    obtain rfl := int_of r3
    obtain ⟨ys, g1, g2⟩ := S3.mem p1 _ hb
    refine ⟨p1, ys, (i : Int), i, rfl, rfl, g1, ixN_nat (by rw [g2.length]; exact hi), x2, [], rfl, ?_⟩
    have S4 := S3.chg (u := .lst (rs.set i (.d d1))) (o := .lst (ys.set i x1)) hb ⟨_, upd_same, VRs.set (.d (Rp.mono (e2.trans e3) _ _ a1)) i g2⟩
    refine h3 σ _ G3 S4 (L.mono (e1.trans (e2.trans e3))) _ fun w H5 G5 y m5 ⟨p2, hy, h5⟩ S5 e5 r5 => h5 σ H5 G5 S5 (L.mono (e1.trans (e2.trans (e3.trans e5)))) _ fun u H6 G6 z m6 ⟨j, rs', hz, hb', hi', q⟩ S6 e6 r6 => ?_
    subst hy hz
    obtain rfl := r5.eq
    obtain rfl := int_of r6
    obtain ⟨zs, g3, g4⟩ := S6.mem p2 _ hb'
    refine ⟨p2, zs, (j : Int), j, rfl, rfl, g3, ixN_nat (by rw [g4.length]; exact hi'), rfl, ?_⟩
    have S7 := S6.chg (u := .lst (rs'.set j (.d d2))) (o := .lst (zs.set j x2)) hb' ⟨_, upd_same, VRs.set (.d (Rp.mono (e2.trans (e3.trans (e5.trans e6))) _ _ a2)) j g4⟩
    exact a σ _ G6 r _ q S7 (e1.trans (e2.trans (e3.trans (e5.trans e6)))) (L.mono (e1.trans (e2.trans (e3.trans (e5.trans e6)))))
theorem RpAll.rev {G : Hp} : ∀ {ds : List PyData} {xs : List V}, RpAll K G ds xs → RpAll K G ds.reverse xs.reverse
  | [], xs, h => by rw [rpa_nil.mp h]; exact rpa_nil.mpr rfl
  | d :: ds, xs, h => by
    obtain ⟨x, t, rfl, h1, h2⟩ := rpa_cons.mp h
    rw [List.reverse_cons, List.reverse_cons]
    exact (RpAll.rev h2).append (rpa_cons.mpr ⟨x, [], rfl, h1, rpa_nil.mpr rfl⟩)
/-- xs[::-1] -/
theorem ev_revL (h : Ev K te r m fun x m1 => ∃ ds, x = .d (.list ds) ∧ Q (.d (.list ds.reverse)) m1) : Ev K (tRevL K te) r m Q := fun σ H G S L R k =>
  h σ H G S L _ fun v H1 G1 x m1 ⟨ds, hx, q⟩ S1 e1 r1 => by
    subst hx
    obtain ⟨p, xs, hv, g1, g2⟩ := rp_list.mp r1.rp
    refine ⟨p, xs, hv, Or.inl (Le.rd S1.sub g1), fun l hl => ?_⟩
    have hg := S1.free hl
    exact k _ _ (upd G1 l _) _ m1 q (S1.fix hl) (e1.trans (Le.new hg)) (.d (rp_list.mpr ⟨l, _, rfl, Rd.of upd_same, RpAll.mono (Le.new hg) _ _ (RpAll.rev g2)⟩))
end
theorem canLay_frs (l : List Rat) : PyData.canLayAll0 (l.map frac) = true := by
  induction l with
  | nil => simp [PyData.canLayAll0]
  | cons q l ih => rw [List.map_cons]; simp [PyData.canLayAll0, PyData.canLay0, frac, ih]
theorem depth_frs (l : List Rat) : PyData.depthAll (l.map frac) ≤ 1 := by
  induction l with
  | nil => simp [PyData.depthAll]
  | cons q l ih => rw [List.map_cons]; simp only [PyData.depthAll, depth_frac]; exact Nat.max_le.mpr ⟨Nat.le_refl _, ih⟩
theorem shaped_frs (l : List Rat) : SeqAt.shaped (.list (l.map frac)) = true := by
  have h := depth_frs l
  simp only [SeqAt.shaped, PyData.canLay0, canLay_frs, PyData.depth, Bool.true_and]
  exact decide_eq_true (by omega)
theorem o2_eqDL {K : PySem.W.Frag} {m : Mm} {Q : Val → Mm → Prop} {x : PyData} {ds : List PyData} {p : Addr} (hm : m p = some (.lst (ds.map Val.d))) (hx : SeqAt.shaped x = true) (hy : SeqAt.shaped (.list ds) = true) (q : Q (.d (.bool (PyData.eqv x (.list ds)))) m) : Op2 K (rEqA K) (.d x) (.v (.ref p)) m Q := fun H G v w S a b R k => by
  have b := b.eq
  subst b
  obtain ⟨xs, g1, g2⟩ := S.mem p _ hm
  have hy2 : ((PyData.list ds).canLay0 && decide ((PyData.list ds).depth ≤ 64)) = true := hy
  rw [Bool.and_eq_true] at hy2
  have hr : Rp K H (.list ds) (.ref p) := rp_list.mpr ⟨p, xs, rfl, Or.inl g1, RpAll.mono S.sub _ _ g2.toAll⟩
  exact Or.inr ⟨x, .list ds, dp_of S hx a, rp_dp _ _ (PyData.hasDict_of_canLay _ hy2.1) hr, hx, hy, k _ H G _ m q S (Le.refl G) vr_bool⟩
theorem cutD_tk (ds : List PyData) (a : Nat) : cutD ds none (some (a : Int)) = ds.take a := by
  have := cut_take (fun d => d) ds a
  rw [List.map_id', List.map_id'] at this
  exact this
theorem cutD_dr (ds : List PyData) (a : Nat) : cutD ds (some (a : Int)) none = ds.drop a := by
  have := cut_drop (fun d => d) ds a
  rw [List.map_id', List.map_id'] at this
  exact this
def f_isPackX : FSp := fun args m R => ∃ (a s : Nat) (x : PyData), args = [.d x, .d (.int (a : Int)), .d (.int (s : Int))] ∧ Pk a s ∧ OkX x ∧ R (.d (.bool (isPP (ppL a s) x))) m
def f_bent33 : FSp := fun args m R => ∃ (p : Addr) (a s : Nat) (o : PyData), args = [.v (.ref p), .d (.list (ppL a s)), .d o] ∧ m p = some .box ∧ Pk a s ∧ ∀ i j x, i ≤ a → j ≤ a → x ∈ bentL (paperF a s a) i j o → R (.d x) m
end DL

namespace Law
open PySem L2 DL
def topS (i : Nat) : Stmt := PySem.Challenge.pw_kindsgathered_k33_pack_papers_looked_at.main.body.getD i (.Pass ⟨0, 0, 0, 0⟩)
local macro_rules | `(tactic| walk_at "dl1") => `(tactic| first
  | with_reducible refine w_seq ?_
  | with_reducible refine w_asg ?_
  | with_reducible refine w_ret ?_
  | with_reducible refine w_drop ?_
  | with_reducible refine w_if ?_
  | with_reducible refine w_par ?_
  | with_reducible refine evt_B ?_
  | with_reducible refine evt_test ?_
  | with_reducible refine evt_and ?_
  | with_reducible refine evt_or ?_
  | with_reducible refine evt_not ?_
  | with_reducible refine evt_yes ?_
  | with_reducible refine ev_lstMul ?_
  | with_reducible refine ev_op ?_
  | with_reducible refine ev_un ?_
  | with_reducible refine ev_callB ?_
  | with_reducible refine ev_call ?_
  | with_reducible refine eva_cons ?_
  | with_reducible refine eva_nil ?_
  | with_reducible refine evo_none ?_
  | with_reducible refine evo_some ?_
  | with_reducible refine ev_slL ?_
  | with_reducible refine ev_slT ?_
  | with_reducible refine ev_and ?_
  | with_reducible refine ev_or ?_
  | with_reducible refine ev_not ?_
  | with_reducible refine ev_chain ?_
  | with_reducible refine ev_tup ?_
  | with_reducible refine ev_if ?_
  | (refine ev_varTN rfl ?_)
  | (refine ev_varT rfl ?_)
  | (refine ev_var rfl (fun h => nomatch h) ?_)
  | with_reducible refine ev_cI ?_
  | with_reducible refine ev_cB ?_
  | with_reducible refine ev_cS ?_
  | with_reducible refine ev_cN ?_
  | with_reducible refine ev_cTy ?_)
local macro_rules | `(tactic| walk_at "dl2") => `(tactic| first
  | with_reducible refine o2_addI ?_
  | with_reducible refine o2_sub ?_
  | with_reducible refine o2_lt ?_
  | with_reducible refine o2_le ?_
  | with_reducible refine o2_gt ?_
  | with_reducible refine o2_ge ?_
  | with_reducible refine o2_eqI ?_
  | with_reducible refine o2_neI ?_
  | with_reducible refine o2_neS ?_
  | with_reducible refine o2_eqS ?_
  | with_reducible refine o1_neg ?_
  | with_reducible refine o2_isB ?_
  | with_reducible refine o2_isNotB ?_
  | with_reducible refine o2_inN ?_
  | with_reducible refine o2_notInN ?_
  | with_reducible refine on_abs ?_
  | with_reducible refine on_max ?_
  | with_reducible refine on_min ?_
  | with_reducible refine o2_ixF0 ?_
  | with_reducible refine o2_ixF1 ?_
  | with_reducible refine on_lenI ?_
  | with_reducible refine on_lenN ?_
  | with_reducible refine on_sumI ?_
  | with_reducible refine on_lenT ?_
  | with_reducible refine on_lenL ?_
  | with_reducible refine on_lenS ?_
  | with_reducible refine on_tupL ?_
  | with_reducible refine on_tupT ?_
  | with_reducible refine on_lstT ?_
  | with_reducible refine on_isiTup ?_
  | with_reducible refine on_isiInt ?_
  | with_reducible refine on_isiBool ?_
  | with_reducible refine on_isiStr ?_
  | with_reducible refine on_isiList ?_
  | with_reducible refine on_isiDict ?_
  | with_reducible refine on_sumL ?_
  | with_reducible refine on_sumT ?_
  | with_reducible refine on_all ?_
  | with_reducible refine on_any ?_
  | refine ⟨_, rfl, ?_⟩
  | refine ⟨_, _, rfl, ?_⟩
  | refine ⟨[], rfl, Nat.le_of_ble_eq_true rfl, ?_⟩
  | refine ⟨[_], rfl, Nat.le_of_ble_eq_true rfl, ?_⟩
  | refine ⟨[_, _], rfl, Nat.le_of_ble_eq_true rfl, ?_⟩
  | refine ⟨[_, _, _], rfl, Nat.le_of_ble_eq_true rfl, ?_⟩)
local macro_rules | `(tactic| walk_at "dl") => `(tactic| first | walk_at "dl1" | walk_at "dl2")
local macro_rules | `(tactic| walk_at "go") => `(tactic| repeat walk_at "dl")
section
variable {P : Program} {w : World} {K : PySem.W.Frag} {mg : Str → Option Value} {base : Heap}
variable {c_NoShares c_NoKind c_NoNumber c_NoNeeds c_TooMany c_NoPlan c_NoLine c_NoText c_GatherError : Addr}
abbrev s_is_whole : Stmt := topS 5
theorem sc_is_whole : FnScope ["thing"] ["thing"] (defScope s_is_whole) := ⟨rfl, rfl, rfl, by decide +kernel, rfl, by decide +kernel, by decide +kernel⟩
theorem ok_is_whole {a : Addr} {fd : FuncData} (F : Fun K "is_whole" "is_whole" s_is_whole a fd) (hm : mg "is_whole" = some (.ref a)) (z_isinstance : mg "isinstance" = none) (z_bool : mg "bool" = none) (z_int : mg "int" = none) :
    Cl P w K mg base 1 "is_whole" f_isWhole := by
  refine ⟨a, fd, ["thing"], fn_ok F sc_is_whole (fun args m R h => ?_) (fun cdv A outer s H E hr => ⟨_, (pss_one (ps_ret (pe_and (pe_callB (kIsi K) (by rfl) z_isinstance (by decide +kernel) (pa_cons (pv 0) (pa_cons (pe_bltn (v := .ty "int") (by rfl) z_int (by decide +kernel) rfl) pa_nil))) (pe_one (pe_not (pe_callB (kIsi K) (by rfl) z_isinstance (by decide +kernel) (pa_cons (pv 0) (pa_cons (pe_bltn (v := .ty "bool") (by rfl) z_bool (by decide +kernel) rfl) pa_nil)))))))), fun args m R h => ?_⟩), hm, F.kp, F.binds (ps := ["thing"]) fun _ _ _ _ _ _ us hl => match us, hl with | [_], _ => rfl⟩
  ·
    obtain ⟨_, rfl, _⟩ := h; rfl
  ·
    obtain ⟨x, rfl, q⟩ := h
    repeat walk_at "dl"
    refine ⟨fun hc => ?_, fun hc => ?_⟩
    · repeat walk_at "dl"
      have e : (!isBoo x) = isInt x := by cases x <;> simp_all [isBoo, isInt, isIntB]
      rw [e]
      exact q
    · have e : isInt x = false := by cases x <;> simp_all [isInt, isIntB]
      rw [e] at q
      exact q

abbrev s_greatest_common : Stmt := topS 6
theorem sc_greatest_common : FnScope ["one", "other"] ["one", "other"] (defScope s_greatest_common) := ⟨rfl, rfl, rfl, by decide +kernel, rfl, by decide +kernel, by decide +kernel⟩
theorem ok_greatest_common {a : Addr} {fd : FuncData} (F : Fun K "greatest_common" "greatest_common" s_greatest_common a fd) (hm : mg "greatest_common" = some (.ref a)) :
    Cl P w K mg base 1 "greatest_common" f_gcd := by
  refine ⟨a, fd, ["one", "other"], fn_ok F sc_greatest_common (fun args m R h => ?_) (fun cdv A outer s H E hr => ⟨_, (pss_cons (ps_while PassesOwn.never (pt_cmpR (kNe K hr) (pv 1) pe_int (nomark _)) (pss_one (ps_par (i := 0) (j := 1) rfl sc_greatest_common.nd rfl rfl (by decide) rfl rfl (pa_cons (pv 1) (pa_cons (pe_op oMod (pv 0) (pv 1)) pa_nil)) rfl)))
      (pss_one (ps_ret (pv 0)))), fun args m R h => ?_⟩), hm, F.kp, F.binds (ps := ["one", "other"]) fun _ _ _ _ _ _ us hl => match us, hl with | [_, _], _ => rfl⟩
  ·
    obtain ⟨_, _, rfl, _⟩ := h; rfl
  ·
    obtain ⟨a0, b0, rfl, q⟩ := h
    refine w_seq (w_while (fun n r m' => m' = m ∧ ∃ x y : Nat, n = y ∧ r = [.d (.int (x : Int)), .d (.int (y : Int))] ∧ Nat.gcd x y = Nat.gcd a0 b0) b0 ⟨rfl, a0, b0, rfl, rfl, rfl⟩ ?_)
    rintro n r m' ⟨rfl, x, y, rfl, rfl, hg⟩
    repeat walk_at "dl"
    refine ⟨fun hc => ?_, fun hc => ?_⟩
    · have hy : n ≠ 0 := by
        intro e
        rw [e] at hc
        simp at hc
      repeat walk_at "dl"
      refine o2_mod (by omega) ?_
      repeat walk_at "dl"
      refine ⟨x % n, Nat.mod_lt x (by omega), rfl, n, x % n, rfl, rfl, ?_⟩
      rw [← hg, Nat.gcd_comm n (x % n), ← Nat.gcd_rec, Nat.gcd_comm]
    · have hy : n = 0 := by
        have : ((n : Nat) : Int) = 0 := by simpa using hc
        omega
      subst hy
      repeat walk_at "dl"
      rw [Nat.gcd_zero_right] at hg
      rw [hg]
      exact q

abbrev s_choices : Stmt := topS 15
theorem sc_choices : FnScope ["many", "few", "found", "turn"] ["many", "few"] (defScope s_choices) := ⟨rfl, rfl, rfl, by decide +kernel, rfl, by decide +kernel, by decide +kernel⟩
theorem ok_choices {a : Addr} {fd : FuncData} (F : Fun K "choices" "choices" s_choices a fd) (hm : mg "choices" = some (.ref a)) (z_range : mg "range" = none) :
    Cl P w K mg base 1 "choices" f_choices := by
  refine ⟨a, fd, ["many", "few"], fn_ok F sc_choices (fun args m R h => ?_) (fun cdv A outer s H E hr => ⟨_, (pss_cons (ps_if (pt_not (pt_chain oLe oLe pe_int (pv 1) (pv 0))) (pss_one (ps_ret pe_int)) pss_nil)
      (pss_cons (ps_set (i := 2) sc_choices.nd rfl (by first | exact Or.inl rfl | exact Or.inr rfl) pe_int)
      (pss_cons (ps_for PassesOwn.never rfl (pi_range1 (by rfl) z_range (pa_cons (pv 1) pa_nil)) (pg_name (i := 3) sc_choices.nd rfl (by first | exact Or.inl rfl | exact Or.inr rfl)) (pss_one (ps_set (i := 2) sc_choices.nd rfl (by first | exact Or.inl rfl | exact Or.inr rfl) (pe_op oFdv (pe_op (kMul K) (pv 2) (pe_op oSub (pv 0) (pv 3))) (pe_op (kAdd K) (pv 3) pe_int)))))
      (pss_one (ps_ret (pv 2)))))), fun args m R h => ?_⟩), hm, F.kp, F.binds (ps := ["many", "few"]) fun _ _ _ _ _ _ us hl => match us, hl with | [_, _], _ => rfl⟩
  ·
    obtain ⟨_, _, rfl, _⟩ := h; rfl
  ·
    obtain ⟨n, k, rfl, hn, q⟩ := h
    walk_at "go"
    refine br_t rfl ?_
    walk_at "go"
    by_cases hk : k ≤ n
    · refine br_f (by rw [decide_eq_true (show (k : Int) ≤ (n : Int) by omega)]; rfl) (w_next ?_)
      walk_at "go"
      refine w_forR1 (n := k) ?_ (by omega) (fun i r' m' => m' = m ∧ ∃ y, r' = [.d (.int (n : Int)), .d (.int (k : Int)), .d (.int ((chT n i : Nat) : Int)), y]) ⟨rfl, _, rfl⟩ ?_ ?_
      · walk_at "go"
        exact ⟨rfl, rfl⟩
      · rintro i r' m' hi ⟨rfl, y, rfl⟩
        have hc := chT_le' hn (show i ≤ 5 by omega)
        walk_at "go"
        refine o2_mulI (cmul_small (by omega) (by omega)) ?_
        walk_at "go"
        refine o2_fdv (cdiv_small (by omega) (by omega)) ?_
        refine ⟨rfl, .d (.int (i : Int)), ?_⟩
        have e : ((chT n i : Nat) : Int) * ((n : Int) - (i : Int)) / ((i : Int) + 1) = ((chT n (i + 1) : Nat) : Int) := by
          rw [chT, Int.natCast_ediv, Int.natCast_mul, Int.natCast_sub (by omega)]
          rfl
        rw [e]
        rfl
      · rintro r' m' ⟨rfl, y, rfl⟩
        walk_at "go"
        have e : chP n k = chT n k := if_pos hk
        rw [e] at q
        exact q
    · refine br_t (by rw [decide_eq_false (show ¬ (k : Int) ≤ (n : Int) by omega)]; rfl) ?_
      walk_at "go"
      have e : chP n k = 0 := if_neg hk
      rw [e] at q
      exact q

abbrev s__law_cell : Stmt := topS 20
theorem sc__law_cell : FnScope ["_law_script", "_law_k"] ["_law_script", "_law_k"] (defScope s__law_cell) := ⟨rfl, rfl, rfl, by decide +kernel, rfl, by decide +kernel, by decide +kernel⟩
theorem ok__law_cell {a : Addr} {fd : FuncData} (F : Fun K "_law_cell" "_law_cell" s__law_cell a fd) (hm : mg "_law_cell" = some (.ref a)) (z_len : mg "len" = none) :
    Cl P w K mg base 1 "_law_cell" f_cell := by
  refine ⟨a, fd, ["_law_script", "_law_k"], fn_ok F sc__law_cell (fun args m R h => ?_) (fun cdv A outer s H E hr => ⟨_, (pss_cons (ps_if (pt_cmpR oLt (pv 1) (pe_callB (kLen K) (by rfl) z_len (by decide +kernel) (pa_cons (pv 0) pa_nil)) (nomark _)) (pss_one (ps_ret (pe_ix (kIx K) (pv 0) (pv 1) (fun _ _ => rfl)))) pss_nil)
      (pss_one (ps_ret pe_int))), fun args m R h => ?_⟩), hm, F.kp, F.binds (ps := ["_law_script", "_law_k"]) fun _ _ _ _ _ _ us hl => match us, hl with | [_, _], _ => rfl⟩
  ·
    obtain ⟨_, _, rfl, _⟩ := h; rfl
  ·
    obtain ⟨ns, k, rfl, q⟩ := h
    repeat walk_at "dl"
    by_cases hk : (k : Int) < (ns.length : Int)
    · refine br_t (decide_eq_true hk) ?_
      repeat walk_at "dl"
      refine o2_ixS (List.getElem?_eq_getElem (by omega)) ?_
      exact q _
    · refine br_f (decide_eq_false hk) (w_next ?_)
      repeat walk_at "dl"
      exact q _

abbrev s__law_mix : Stmt := topS 21
theorem sc__law_mix : FnScope ["_law_cell_here", "_law_k", "_law_some", "_law_stir"] ["_law_cell_here", "_law_k"] (defScope s__law_mix) := ⟨rfl, rfl, rfl, by decide +kernel, rfl, by decide +kernel, by decide +kernel⟩
theorem ok__law_mix {a : Addr} {fd : FuncData} (F : Fun K "_law_mix" "_law_mix" s__law_mix a fd) (hm : mg "_law_mix" = some (.ref a)) :
    Cl P w K mg base 1 "_law_mix" f_mix := by
  refine ⟨a, fd, ["_law_cell_here", "_law_k"], fn_ok F sc__law_mix (fun args m R h => ?_) (fun cdv A outer s H E hr => ⟨_, (pss_cons (ps_set (i := 2) sc__law_mix.nd rfl (by first | exact Or.inl rfl | exact Or.inr rfl) (pe_lst (pa_cons pe_int (pa_cons pe_int (pa_cons pe_int (pa_cons pe_int (pa_cons pe_int (pa_cons pe_int (pa_cons pe_int (pa_cons pe_int (pa_cons pe_int (pa_cons pe_int (pa_cons pe_int (pa_cons pe_int (pa_cons pe_int pa_nil)))))))))))))))
      (pss_cons (ps_set (i := 3) sc__law_mix.nd rfl (by first | exact Or.inl rfl | exact Or.inr rfl) (pe_op (kMul K) (pe_op (kAdd K) (pe_op oMod (pv 0) pe_int) pe_int) (pe_ix (kIx K) (pv 2) (pe_op oMod (pv 1) pe_int) (fun _ _ => rfl))))
      (pss_cons (ps_set (i := 3) sc__law_mix.nd rfl (by first | exact Or.inl rfl | exact Or.inr rfl) (pe_op (kAdd K) (pe_op (kAdd K) (pv 3) (pe_op (kMul K) pe_int (pv 1))) (pe_op (kMul K) pe_int (pe_op oFdv (pv 1) pe_int))))
      (pss_cons (ps_set (i := 3) sc__law_mix.nd rfl (by first | exact Or.inl rfl | exact Or.inr rfl) (pe_op oMod (pv 3) pe_int))
      (pss_one (ps_ret (pe_op oFdv (pe_op oMod (pe_op (kAdd K) (pe_op (kMul K) (pv 3) (pv 3)) (pe_op (kMul K) pe_int (pv 1))) pe_int) pe_int))))))), fun args m R h => ?_⟩), hm, F.kp, F.binds (ps := ["_law_cell_here", "_law_k"]) fun _ _ _ _ _ _ us hl => match us, hl with | [_, _], _ => rfl⟩
  ·
    obtain ⟨_, _, rfl, _⟩ := h; rfl
  ·
    obtain ⟨c, k, rfl, hk, q⟩ := h
    refine w_seq (w_asg (ev_lstD ?_))
    iterate 27 walk_at "dl1"
    refine ⟨([48271, 69621, 16807, 39373, 30269, 40014, 40692, 50021, 61687, 71993, 83869, 95561, 30307] : List Int).map PyData.int, rfl, Nat.le_of_ble_eq_true rfl, ?_⟩
    obtain ⟨v, hv, hv0, hv1⟩ : ∃ v : Int, atI (([48271, 69621, 16807, 39373, 30269, 40014, 40692, 50021, 61687, 71993, 83869, 95561, 30307] : List Int).map PyData.int) ((k : Int) % 13) = some (.int v) ∧ 0 ≤ v ∧ v < 131072 := by
      have h13 : k % 13 < 13 := Nat.mod_lt k (by decide)
      have e : (k : Int) % 13 = ((k % 13 : Nat) : Int) := by omega
      rw [e, atI_nth, List.getElem?_map, List.getElem?_eq_getElem (by simpa using h13)]
      refine ⟨_, rfl, ?_⟩
      have hm := List.getElem_mem (l := ([48271, 69621, 16807, 39373, 30269, 40014, 40692, 50021, 61687, 71993, 83869, 95561, 30307] : List Int)) (n := k % 13) (by simpa using h13)
      revert hm
      generalize ([48271, 69621, 16807, 39373, 30269, 40014, 40692, 50021, 61687, 71993, 83869, 95561, 30307] : List Int)[k % 13] = w
      intro hm
      simp only [List.mem_cons, List.mem_nil_iff, or_false] at hm
      omega
    have hc := Int.emod_nonneg c (show (2147483647 : Int) ≠ 0 by decide)
    have hc2 := Int.emod_lt_of_pos c (show (0 : Int) < 2147483647 by decide)
    repeat walk_at "dl"
    refine o2_mod (by decide) ?_
    repeat walk_at "dl"
    refine o2_mod (by decide) ?_
    refine o2_ixL hv ?_
    refine o2_mulI (cmul_small (by omega) (by omega)) ?_
    repeat walk_at "dl"
    refine o2_mulI (cmul_small (by decide) (by omega)) ?_
    repeat walk_at "dl"
    refine o2_fdv (cdiv_small (by decide) (by decide)) ?_
    refine o2_mulI (cmul_small (by decide) (by omega)) ?_
    repeat walk_at "dl"
    refine o2_mod (by decide) ?_
    generalize hs : ((c % 2147483647 + 12345) * v + 977 * (k : Int) + 7919 * ((k : Int) / 13)) = S
    have h1 := Int.emod_nonneg S (show (1000000007 : Int) ≠ 0 by decide)
    have h2 := Int.emod_lt_of_pos S (show (0 : Int) < 1000000007 by decide)
    generalize ht : S % 1000000007 = T at *
    repeat walk_at "dl"
    refine o2_mulI (cmul_small (by omega) (by omega)) ?_
    repeat walk_at "dl"
    refine o2_mulI (cmul_small (by decide) (by omega)) ?_
    repeat walk_at "dl"
    refine o2_mod (by decide) ?_
    repeat walk_at "dl"
    refine o2_fdv (cdiv_small (by decide) (by decide)) ?_
    have h3 := Int.emod_nonneg (T * T + 48271 * (k : Int)) (show (1000000007 : Int) ≠ 0 by decide)
    have h4 := Int.emod_lt_of_pos (T * T + 48271 * (k : Int)) (show (0 : Int) < 1000000007 by decide)
    exact q _ (by omega) (by omega)

abbrev s__law_take : Stmt := topS 23
theorem sc__law_take : FnScope ["_law_box_here", "_law_many", "_law_left", "_law_digit"] ["_law_box_here", "_law_many"] (defScope s__law_take) := ⟨rfl, rfl, rfl, by decide +kernel, rfl, by decide +kernel, by decide +kernel⟩
theorem ok__law_take {a : Addr} {fd : FuncData} (F : Fun K "_law_take" "_law_take" s__law_take a fd) (hm : mg "_law_take" = some (.ref a)) (z_divmod : mg "divmod" = none) :
    Cl P w K mg base 1 "_law_take" f_take := by
  refine ⟨a, fd, ["_law_box_here", "_law_many"], fn_ok F sc__law_take (fun args m R h => ?_) (fun cdv A outer s H E hr => ⟨_, (pss_cons (ps_asg (pe_callB cDivmod (by rfl) z_divmod (by decide +kernel) (pa_cons (pe_ix (kIx K) (pv 0) pe_int (fun _ _ => rfl)) (pa_cons (pv 1) pa_nil))) (kgT K (pg_tup (n := 2) rfl (pgs_cons (pg_name (i := 2) sc__law_take.nd rfl (by first | exact Or.inl rfl | exact Or.inr rfl)) (pgs_cons (pg_name (i := 3) sc__law_take.nd rfl (by first | exact Or.inl rfl | exact Or.inr rfl)) pgs_nil)))))
      (pss_cons (ps_asg (pv 2) (pg_sub (pv 0) pe_int set_list))
      (pss_one (ps_ret (pv 3))))), fun args m R h => ?_⟩), hm, F.kp, F.binds (ps := ["_law_box_here", "_law_many"]) fun _ _ _ _ _ _ us hl => match us, hl with | [_, _], _ => rfl⟩
  ·
    obtain ⟨_, _, rfl, _⟩ := h; rfl
  ·
    obtain ⟨p, k, rfl, hp, hk, hb, q⟩ := h
    refine w_seq (w_asg2 ?_)
    repeat walk_at "dl"
    refine o2_ixB hp fun n => ?_
    repeat walk_at "dl"
    refine on_divmod (hb.cdiv hk (by decide)) ?_
    repeat walk_at "dl"
    refine w_setB (p := p) ?_
    repeat walk_at "dl"
    refine ⟨rfl, ?_⟩
    repeat walk_at "dl"
    refine ⟨rfl, hp, ?_⟩
    repeat walk_at "dl"
    exact q _ (Int.emod_nonneg n (by omega)) (Int.emod_lt_of_pos n hk)

abbrev s__law_truth : Stmt := topS 24
theorem sc__law_truth : FnScope ["_law_found", "_law_due"] ["_law_found", "_law_due"] (defScope s__law_truth) := ⟨rfl, rfl, rfl, by decide +kernel, rfl, by decide +kernel, by decide +kernel⟩
theorem ok__law_truth {a : Addr} {fd : FuncData} (F : Fun K "_law_truth" "_law_truth" s__law_truth a fd) (hm : mg "_law_truth" = some (.ref a)) (z_isinstance : mg "isinstance" = none) (z_bool : mg "bool" = none) :
    Cl P w K mg base 1 "_law_truth" f_truth := by
  refine ⟨a, fd, ["_law_found", "_law_due"], fn_ok F sc__law_truth (fun args m R h => ?_) (fun cdv A outer s H E hr => ⟨_, (pss_one (ps_ret (pe_and (pe_callB (kIsi K) (by rfl) z_isinstance (by decide +kernel) (pa_cons (pv 0) (pa_cons (pe_bltn (v := .ty "bool") (by rfl) z_bool (by decide +kernel) rfl) pa_nil))) (pe_one (pe_cmpR (kEq K hr) (pv 0) (pv 1) (nomark _)))))), fun args m R h => ?_⟩), hm, F.kp, F.binds (ps := ["_law_found", "_law_due"]) fun _ _ _ _ _ _ us hl => match us, hl with | [_, _], _ => rfl⟩
  ·
    obtain ⟨_, _, rfl, _⟩ := h; rfl
  ·
    obtain ⟨a, b, rfl, q⟩ := h
    walk_at "go"
    refine br_t rfl ?_
    walk_at "go"
    refine o2_eq (shaped_bool a) (shaped_bool b) ?_
    have e : PyData.eqv (.bool a) (.bool b) = decide (a = b) := by
      simp only [PyData.eqv]; exact Bool.beq_eq_decide_eq a b
    rw [e]
    exact q

abbrev s__law_common : Stmt := topS 25
theorem sc__law_common : FnScope ["_law_one", "_law_other"] ["_law_one", "_law_other"] (defScope s__law_common) := ⟨rfl, rfl, rfl, by decide +kernel, rfl, by decide +kernel, by decide +kernel⟩
theorem ok__law_common {a : Addr} {fd : FuncData} (F : Fun K "_law_common" "_law_common" s__law_common a fd) (hm : mg "_law_common" = some (.ref a)) :
    Cl P w K mg base 1 "_law_common" f_gcd := by
  refine ⟨a, fd, ["_law_one", "_law_other"], fn_ok F sc__law_common (fun args m R h => ?_) (fun cdv A outer s H E hr => ⟨_, (pss_cons (ps_while PassesOwn.never (pt_cmpR (kNe K hr) (pv 1) pe_int (nomark _)) (pss_one (ps_par (i := 0) (j := 1) rfl sc__law_common.nd rfl rfl (by decide) rfl rfl (pa_cons (pv 1) (pa_cons (pe_op oMod (pv 0) (pv 1)) pa_nil)) rfl)))
      (pss_one (ps_ret (pv 0)))), fun args m R h => ?_⟩), hm, F.kp, F.binds (ps := ["_law_one", "_law_other"]) fun _ _ _ _ _ _ us hl => match us, hl with | [_, _], _ => rfl⟩
  ·
    obtain ⟨_, _, rfl, _⟩ := h; rfl
  ·
    obtain ⟨a0, b0, rfl, q⟩ := h
    refine w_seq (w_while (fun n r m' => m' = m ∧ ∃ x y : Nat, n = y ∧ r = [.d (.int (x : Int)), .d (.int (y : Int))] ∧ Nat.gcd x y = Nat.gcd a0 b0) b0 ⟨rfl, a0, b0, rfl, rfl, rfl⟩ ?_)
    rintro n r m' ⟨rfl, x, y, rfl, rfl, hg⟩
    repeat walk_at "dl"
    refine ⟨fun hc => ?_, fun hc => ?_⟩
    · have hy : n ≠ 0 := by
        intro e
        rw [e] at hc
        simp at hc
      repeat walk_at "dl"
      refine o2_mod (by omega) ?_
      repeat walk_at "dl"
      refine ⟨x % n, Nat.mod_lt x (by omega), rfl, n, x % n, rfl, rfl, ?_⟩
      rw [← hg, Nat.gcd_comm n (x % n), ← Nat.gcd_rec, Nat.gcd_comm]
    · have hy : n = 0 := by
        have : ((n : Nat) : Int) = 0 := by simpa using hc
        omega
      subst hy
      repeat walk_at "dl"
      rw [Nat.gcd_zero_right] at hg
      rw [hg]
      exact q

abbrev s__law_all_some : Stmt := topS 29
theorem sc__law_all_some : FnScope ["_law_many", "_law_found", "_law_kind", "_law_some"] ["_law_many"] (defScope s__law_all_some) := ⟨rfl, rfl, rfl, by decide +kernel, rfl, by decide +kernel, by decide +kernel⟩
theorem ok__law_all_some {a : Addr} {fd : FuncData} (F : Fun K "_law_all_some" "_law_all_some" s__law_all_some a fd) (hm : mg "_law_all_some" = some (.ref a)) (z_range : mg "range" = none) :
    Cl P w K mg base 1 "_law_all_some" f_lawAllSome := by
  refine ⟨a, fd, ["_law_many"], fn_ok F sc__law_all_some (fun args m R h => ?_) (fun cdv A outer s H E hr => ⟨_, (pss_cons (ps_set (i := 1) sc__law_all_some.nd rfl (by first | exact Or.inl rfl | exact Or.inr rfl) (pe_lst (pa_cons (pe_tup pa_nil) pa_nil)))
      (pss_cons (ps_for PassesOwn.never rfl (pi_range1 (by rfl) z_range (pa_cons (pv 0) pa_nil)) (pg_name (i := 2) sc__law_all_some.nd rfl (by first | exact Or.inl rfl | exact Or.inr rfl)) (pss_one (ps_set (i := 1) sc__law_all_some.nd rfl (by first | exact Or.inl rfl | exact Or.inr rfl) (pe_op (kAdd K) (pv 1) (pe_lc (own := [("_law_some", 3)]) rfl sc__law_all_some.nd (kiL K (pv 1)) (blkOk_by (own := [("_law_some", 3)]) (N := ["_law_many", "_law_found", "_law_kind", "_law_some"]) (sc := defScope s__law_all_some) (by decide +kernel)) (fun _ _ _ _ _ => (pg_name (i := 3) sc__law_all_some.nd rfl (by first | exact Or.inl rfl | exact Or.inr rfl))) (fun _ _ _ _ _ => pts_nil) (fun _ _ _ _ _ => (pe_op (kAdd K) (pv 3) (pe_tup (pa_cons (pv 2) pa_nil)))))))))
      (pss_one (ps_ret (pv 1))))), fun args m R h => ?_⟩), hm, F.kp, F.binds (ps := ["_law_many"]) fun _ _ _ _ _ _ us hl => match us, hl with | [_], _ => rfl⟩
  ·
    obtain ⟨_, rfl, _⟩ := h; rfl
  ·
    obtain ⟨n, rfl, hn, q⟩ := h
    refine w_seq (w_asg (ev_lstD ?_))
    walk_at "go"
    refine w_forR1 (n := n) ?_ (by omega) (fun i r' m' => m' = m ∧ ∃ y, r' = [.d (.int (n : Int)), .d (.list ((allS i).map tupN)), y, .any]) ⟨rfl, _, rfl⟩ ?_ ?_
    · walk_at "go"
      exact ⟨rfl, rfl⟩
    · rintro i r' m' hi ⟨rfl, y, rfl⟩
      have hp : (2 : Nat) ^ i ≤ 2 ^ 8 := Nat.pow_le_pow_right (by decide) (by omega)
      have hl := allS_len i
      walk_at "go"
      refine ev_mapLf (xs := allS i) (f := tupN) ?_ (by omega) (fun s => tupN (s ++ [i])) (fun s m2 hs hx => ?_) ?_
      · walk_at "go"
        exact ⟨rfl, rfl⟩
      · walk_at "go"
        refine o2_addNi (by have := (allS_mem i s hs).1; omega) ⟨rfl, rfl⟩
      · refine o2_addL (by rw [List.length_map, List.length_map]; omega) ?_
        refine ⟨rfl, .d (.int (i : Int)), ?_⟩
        rw [allS, List.map_append, List.map_map]
        rfl
    · rintro r' m' ⟨rfl, y, rfl⟩
      walk_at "go"
      exact q

abbrev s_made : Stmt := topS 7
theorem sc_made : FnScope ["top", "bottom", "both"] ["top", "bottom"] (defScope s_made) := ⟨rfl, rfl, rfl, by decide +kernel, rfl, by decide +kernel, by decide +kernel⟩
theorem ok_made {a : Addr} {fd : FuncData} (F : Fun K "made" "made" s_made a fd) (hm : mg "made" = some (.ref a)) (z_abs : mg "abs" = none) (k_greatest_common : Cl P w K mg base 1 "greatest_common" f_gcd) :
    Cl P w K mg base 2 "made" f_made := by
  refine ⟨a, fd, ["top", "bottom"], fn_ok F sc_made (fun args m R h => ?_) (fun cdv A outer s H E hr => ⟨_, (pss_cons (ps_set (i := 2) sc_made.nd rfl (by first | exact Or.inl rfl | exact Or.inr rfl) (pe_cl k_greatest_common hr (by decide) (by rfl) (pa_cons (pv 1) (pa_cons (pe_callB cAbs (by rfl) z_abs (by decide +kernel) (pa_cons (pv 0) pa_nil)) pa_nil))))
      (pss_one (ps_ret (pe_tup (pa_cons (pe_op oFdv (pv 0) (pv 2)) (pa_cons (pe_op oFdv (pv 1) (pv 2)) pa_nil)))))), fun args m R h => ?_⟩), hm, F.kp, F.binds (ps := ["top", "bottom"]) fun _ _ _ _ _ _ us hl => match us, hl with | [_, _], _ => rfl⟩
  ·
    obtain ⟨_, _, rfl, _⟩ := h; rfl
  ·
    obtain ⟨t, b, rfl, hb, hz, q⟩ := h
    have hp : 0 < Nat.gcd b t.natAbs := Nat.gcd_pos_of_pos_left _ hb
    have hB : Bt ((Nat.gcd b t.natAbs : Nat) : Int) 8000 := hz.le (by
      have := Nat.le_of_dvd hb (Nat.gcd_dvd_left b t.natAbs)
      omega)
    repeat walk_at "dl"
    refine o2_fdv (hB.cdiv (by omega) (by decide)) ?_
    repeat walk_at "dl"
    refine o2_fdv (hB.cdiv (by omega) (by decide)) ?_
    repeat walk_at "dl"
    rw [frac_mk t b (by omega)] at q
    exact q

abbrev s_need_number : Stmt := topS 9
theorem sc_need_number : FnScope ["number", "least", "most"] ["number", "least", "most"] (defScope s_need_number) := ⟨rfl, rfl, rfl, by decide +kernel, rfl, by decide +kernel, by decide +kernel⟩
theorem ok_need_number {a : Addr} {fd : FuncData} (F : Fun K "need_number" "need_number" s_need_number a fd) (hm : mg "need_number" = some (.ref a)) (k_is_whole : Cl P w K mg base 1 "is_whole" f_isWhole) :
    Cl P w K mg base 2 "need_number" f_needNumber := by
  refine ⟨a, fd, ["number", "least", "most"], fn_ok F sc_need_number (fun args m R h => ?_) (fun cdv A outer s H E hr => ⟨_, (pss_one (ps_if (PW.pt (pw_or (pt_not (pt_val (pe_cl k_is_whole hr (by decide) (by rfl) (pa_cons (pv 0) pa_nil)))) (pw_or1 (pt_not (pt_chain oLe oLe (pv 1) (pv 0) (pv 2)))))) (pss_one ps_never) pss_nil)), fun args m R h => ?_⟩), hm, F.kp, F.binds (ps := ["number", "least", "most"]) fun _ _ _ _ _ _ us hl => match us, hl with | [_, _, _], _ => rfl⟩
  ·
    obtain ⟨_, _, _, rfl, _⟩ := h; rfl
  ·
    obtain ⟨i, lo, hi, rfl, h1, h2, q⟩ := h
    walk_at "go"
    refine br_f rfl ?_
    walk_at "go"
    refine br_t (decide_eq_true h1) ?_
    walk_at "go"
    refine br_f (by rw [decide_eq_true h2]; rfl) ?_
    exact w_next q

abbrev s__law_box : Stmt := topS 22
theorem sc__law_box : FnScope ["_law_script", "_law_k", "_law_cell_here", "_law_number", "_law_j"] ["_law_script", "_law_k"] (defScope s__law_box) := ⟨rfl, rfl, rfl, by decide +kernel, rfl, by decide +kernel, by decide +kernel⟩
theorem ok__law_box {a : Addr} {fd : FuncData} (F : Fun K "_law_box" "_law_box" s__law_box a fd) (hm : mg "_law_box" = some (.ref a)) (z_abs : mg "abs" = none) (z_range : mg "range" = none) (k__law_cell : Cl P w K mg base 1 "_law_cell" f_cell) (k__law_mix : Cl P w K mg base 1 "_law_mix" f_mix) :
    Cl P w K mg base 2 "_law_box" f_box := by
  refine ⟨a, fd, ["_law_script", "_law_k"], fn_ok F sc__law_box (fun args m R h => ?_) (fun cdv A outer s H E hr => ⟨_, (pss_cons (ps_set (i := 2) sc__law_box.nd rfl (by first | exact Or.inl rfl | exact Or.inr rfl) (pe_cl k__law_cell hr (by decide) (by rfl) (pa_cons (pv 0) (pa_cons (pv 1) pa_nil))))
      (pss_cons (ps_if (pt_cmpR (kEq K hr) (pe_op oMod (pv 2) pe_int) pe_int (nomark _)) (pss_one (ps_ret (pe_lst (pa_cons (pe_op oFdv (pe_callB cAbs (by rfl) z_abs (by decide +kernel) (pa_cons (pv 2) pa_nil)) pe_int) pa_nil)))) pss_nil)
      (pss_cons (ps_set (i := 3) sc__law_box.nd rfl (by first | exact Or.inl rfl | exact Or.inr rfl) pe_int)
      (pss_cons (ps_for PassesOwn.never rfl (pi_range1 (by rfl) z_range (pa_cons pe_int pa_nil)) (pg_name (i := 4) sc__law_box.nd rfl (by first | exact Or.inl rfl | exact Or.inr rfl)) (pss_one (ps_set (i := 3) sc__law_box.nd rfl (by first | exact Or.inl rfl | exact Or.inr rfl) (pe_op (kAdd K) (pe_op (kMul K) (pv 3) pe_int) (pe_cl k__law_mix hr (by decide) (by rfl) (pa_cons (pv 2) (pa_cons (pv 4) pa_nil)))))))
      (pss_one (ps_ret (pe_lst (pa_cons (pv 3) pa_nil)))))))), fun args m R h => ?_⟩), hm, F.kp, F.binds (ps := ["_law_script", "_law_k"]) fun _ _ _ _ _ _ us hl => match us, hl with | [_, _], _ => rfl⟩
  ·
    obtain ⟨_, _, rfl, _⟩ := h; rfl
  ·
    obtain ⟨ns, k, rfl, q⟩ := h
    repeat walk_at "dl"
    intro z
    repeat walk_at "dl"
    refine o2_mod (by decide) ?_
    repeat walk_at "dl"
    by_cases hz : z % 2 = 0
    · refine br_t (decide_eq_true hz) (w_ret (ev_lstB ?_))
      repeat walk_at "dl"
      refine o2_fdv (cdiv_small (by decide) (by decide)) ?_
      repeat walk_at "dl"
      exact q
    · refine br_f (decide_eq_false hz) (w_next ?_)
      repeat walk_at "dl"
      refine w_forR1 (n := 40) ?_ (by decide) (fun i r' m' => m' = m ∧ ∃ (n : Int) (y : Val), r' = [.scr ns, .d (.int (k : Int)), .d (.int z), .d (.int n), y] ∧ 0 ≤ n ∧ Bt n (32 * i + 1)) ⟨rfl, 0, .any, rfl, by decide, bt_lit (n := 1) (by decide) (by omega)⟩ ?_ ?_
      · repeat walk_at "dl"
        exact ⟨rfl, rfl⟩
      · rintro i r' m' hi ⟨rfl, n, y, rfl, hn, hb⟩
        repeat walk_at "dl"
        refine o2_mulI (hb.cmul (b := 31) (bt_lit (n := 31) (by decide) (by decide)) (by omega)) ?_
        repeat walk_at "dl"
        refine ⟨by omega, fun w hw hw1 => ?_⟩
        repeat walk_at "dl"
        refine ⟨rfl, n * 142857143 + w, _, rfl, by omega, ?_⟩
        have h1 : Bt (n * 142857143) (32 * i + 1 + 28) := hb.mul (bt_lit (n := 28) (by decide) (Nat.le_refl _))
        exact (h1.add (bt_lit (i := w) (n := 30) (a := 32 * i + 30) (by
          have e : (2 : Nat) ^ 30 = 1073741824 := by decide
          rw [e]; omega) (by omega)) (c := 32 * i + 30) (by omega) (Nat.le_refl _)).mono (by omega)
      · rintro r' m' ⟨rfl, n, y, rfl, hn, hb⟩
        refine w_ret (ev_lstB ?_)
        repeat walk_at "dl"
        exact q

abbrev s__law_made : Stmt := topS 26
theorem sc__law_made : FnScope ["_law_top", "_law_bottom", "_law_both"] ["_law_top", "_law_bottom"] (defScope s__law_made) := ⟨rfl, rfl, rfl, by decide +kernel, rfl, by decide +kernel, by decide +kernel⟩
theorem ok__law_made {a : Addr} {fd : FuncData} (F : Fun K "_law_made" "_law_made" s__law_made a fd) (hm : mg "_law_made" = some (.ref a)) (z_abs : mg "abs" = none) (k__law_common : Cl P w K mg base 1 "_law_common" f_gcd) :
    Cl P w K mg base 2 "_law_made" f_made := by
  refine ⟨a, fd, ["_law_top", "_law_bottom"], fn_ok F sc__law_made (fun args m R h => ?_) (fun cdv A outer s H E hr => ⟨_, (pss_cons (ps_set (i := 2) sc__law_made.nd rfl (by first | exact Or.inl rfl | exact Or.inr rfl) (pe_cl k__law_common hr (by decide) (by rfl) (pa_cons (pv 1) (pa_cons (pe_callB cAbs (by rfl) z_abs (by decide +kernel) (pa_cons (pv 0) pa_nil)) pa_nil))))
      (pss_one (ps_ret (pe_tup (pa_cons (pe_op oFdv (pv 0) (pv 2)) (pa_cons (pe_op oFdv (pv 1) (pv 2)) pa_nil)))))), fun args m R h => ?_⟩), hm, F.kp, F.binds (ps := ["_law_top", "_law_bottom"]) fun _ _ _ _ _ _ us hl => match us, hl with | [_, _], _ => rfl⟩
  ·
    obtain ⟨_, _, rfl, _⟩ := h; rfl
  ·
    obtain ⟨t, b, rfl, hb, hz, q⟩ := h
    have hp : 0 < Nat.gcd b t.natAbs := Nat.gcd_pos_of_pos_left _ hb
    have hB : Bt ((Nat.gcd b t.natAbs : Nat) : Int) 8000 := hz.le (by
      have := Nat.le_of_dvd hb (Nat.gcd_dvd_left b t.natAbs)
      omega)
    repeat walk_at "dl"
    refine o2_fdv (hB.cdiv (by omega) (by decide)) ?_
    repeat walk_at "dl"
    refine o2_fdv (hB.cdiv (by omega) (by decide)) ?_
    repeat walk_at "dl"
    rw [frac_mk t b (by omega)] at q
    exact q

abbrev s__law_odd : Stmt := topS 28
theorem sc__law_odd : FnScope ["_law_box_here", "_law_some"] ["_law_box_here"] (defScope s__law_odd) := ⟨rfl, rfl, rfl, by decide +kernel, rfl, by decide +kernel, by decide +kernel⟩
theorem ok__law_odd {a : Addr} {fd : FuncData} (F : Fun K "_law_odd" "_law_odd" s__law_odd a fd) (hm : mg "_law_odd" = some (.ref a)) (k__law_take : Cl P w K mg base 1 "_law_take" f_take) :
    Cl P w K mg base 2 "_law_odd" f_odd := by
  refine ⟨a, fd, ["_law_box_here"], fn_ok F sc__law_odd (fun args m R h => ?_) (fun cdv A outer s H E hr => ⟨_, (pss_cons (ps_set (i := 1) sc__law_odd.nd rfl (by first | exact Or.inl rfl | exact Or.inr rfl) (pe_lst (pa_cons pe_non (pa_cons pe_bl (pa_cons pe_bl (pa_cons (pe_un oNeg pe_int) (pa_cons pe_int (pa_cons pe_int (pa_cons pe_str (pa_cons pe_str (pa_cons (pe_tup pa_nil) (pa_cons (pe_lst pa_nil) (pa_cons (pe_tup (pa_cons pe_int pa_nil)) (pa_cons (pe_lst (pa_cons pe_int pa_nil)) (pa_cons (pe_tup (pa_cons pe_int (pa_cons pe_int pa_nil))) (pa_cons (pe_disp (pps_cons pe_str pe_int pps_nil) rfl rfl (fun h => nomatch h) (by decide)) (pa_cons pe_dnewT (pa_cons (pe_op oPow pe_int pe_int) (pa_cons (pe_tup (pa_cons pe_int (pa_cons pe_int pa_nil))) (pa_cons (pe_tup (pa_cons pe_int (pa_cons pe_int pa_nil))) pa_nil))))))))))))))))))))
      (pss_one (ps_ret (pe_ix (kIx K) (pe_op (kAdd K) (pv 1) (pe_lst (pa_cons (pe_tup (pa_cons (pe_tup (pa_cons pe_int (pa_cons pe_int pa_nil))) pa_nil)) (pa_cons (pe_tup (pa_cons pe_int (pa_cons pe_int pa_nil))) (pa_cons (pe_tup (pa_cons pe_int (pa_cons (pe_un oNeg pe_int) pa_nil))) (pa_cons (pe_tup (pa_cons pe_bl (pa_cons pe_int pa_nil))) (pa_cons (pe_tup (pa_cons pe_int (pa_cons pe_int (pa_cons pe_int pa_nil)))) (pa_cons (pe_tup (pa_cons (pe_lst (pa_cons pe_int pa_nil)) pa_nil)) pa_nil)))))))) (pe_cl k__law_take hr (by decide) (by rfl) (pa_cons (pv 0) (pa_cons pe_int pa_nil))) (fun _ _ => rfl))))), fun args m R h => ?_⟩), hm, F.kp, F.binds (ps := ["_law_box_here"]) fun _ _ _ _ _ _ us hl => match us, hl with | [_], _ => rfl⟩
  ·
    obtain ⟨_, rfl, _⟩ := h; rfl
  ·
    obtain ⟨p, rfl, hp, q⟩ := h
    refine w_seq (w_asg (ev_lstD ?_))
    walk_at "go"
    refine ev_lstD (eva_nil ⟨[], rfl, by decide, ?_⟩)
    walk_at "go"
    refine ev_lstD (eva_cons (ev_cI (eva_nil ⟨[_], rfl, by decide, ?_⟩)))
    walk_at "go"
    refine ev_dispS ?_
    walk_at "go"
    refine ev_dnewD ?_
    walk_at "go"
    refine o2_pow ⟨by decide, by decide, by decide⟩ ?_
    walk_at "go"
    refine ⟨oddA, rfl, by decide, ?_⟩
    refine w_ret (ev_op (ev_op (ev_var rfl (fun h => nomatch h) (ev_lstD ?_))))
    walk_at "go"
    refine ev_lstD (eva_cons (ev_cI (eva_nil ⟨[_], rfl, by decide, ?_⟩)))
    walk_at "go"
    refine ⟨oddB, rfl, by decide, ?_⟩
    refine o2_addL (by decide) ?_
    walk_at "go"
    refine ⟨hp, by decide, bt_lit (n := 5) (by decide) (by decide), fun z hz0 hz1 => ?_⟩
    obtain ⟨k, rfl⟩ : ∃ k : Nat, z = (k : Int) := ⟨z.toNat, by omega⟩
    have hk : k < oddL.length := by show k < 24; omega
    refine o2_ixL (d := oddL[k]) (by rw [atI_nth]; exact List.getElem?_eq_getElem hk) ?_
    exact q _ (List.getElem_mem hk)

abbrev s__law_sets : Stmt := topS 30
theorem sc__law_sets : FnScope ["_law_many", "_law_size", "_law_some"] ["_law_many", "_law_size"] (defScope s__law_sets) := ⟨rfl, rfl, rfl, by decide +kernel, rfl, by decide +kernel, by decide +kernel⟩
theorem ok__law_sets {a : Addr} {fd : FuncData} (F : Fun K "_law_sets" "_law_sets" s__law_sets a fd) (hm : mg "_law_sets" = some (.ref a)) (z_len : mg "len" = none) (k__law_all_some : Cl P w K mg base 1 "_law_all_some" f_lawAllSome) :
    Cl P w K mg base 2 "_law_sets" f_lawSets := by
  refine ⟨a, fd, ["_law_many", "_law_size"], fn_ok F sc__law_sets (fun args m R h => ?_) (fun cdv A outer s H E hr => ⟨_, (pss_one (ps_ret (pe_lc (own := [("_law_some", 2)]) rfl sc__law_sets.nd (kiL K (pe_cl k__law_all_some hr (by decide) (by rfl) (pa_cons (pv 0) pa_nil))) (blkOk_by (own := [("_law_some", 2)]) (N := ["_law_many", "_law_size", "_law_some"]) (sc := defScope s__law_sets) (by decide +kernel)) (fun _ _ _ _ _ => (pg_name (i := 2) sc__law_sets.nd rfl (by first | exact Or.inl rfl | exact Or.inr rfl))) (fun _ _ _ _ _ => (pts_one (pt_cmpR (kEq K hr) (pe_callB (kLen K) (by rfl) z_len (by decide +kernel) (pa_cons (pv 2) pa_nil)) (pv 1) (nomark _)))) (fun _ _ _ _ _ => (pv 2))))), fun args m R h => ?_⟩), hm, F.kp, F.binds (ps := ["_law_many", "_law_size"]) fun _ _ _ _ _ _ us hl => match us, hl with | [_, _], _ => rfl⟩
  ·
    obtain ⟨_, _, rfl, _⟩ := h; rfl
  ·
    obtain ⟨a, s, rfl, ha, q⟩ := h
    have hl := allS_len a
    have hp : (2 : Nat) ^ a ≤ 2 ^ 8 := Nat.pow_le_pow_right (by decide) ha
    walk_at "go"
    refine ev_filLf (xs := allS a) (f := tupN) ?_ (by omega) (fun t => decide (t.length = s)) tupN (fun t m2 ht hx => ?_) (fun t m2 ht hx hp => ?_) ?_
    · walk_at "go"
      exact ⟨ha, rfl, rfl⟩
    · walk_at "go"
      refine ⟨?_, rfl⟩
      exact decide_eq_decide.mpr (by omega)
    · walk_at "go"
      exact ⟨rfl, rfl⟩
    · exact q

abbrev s__law_bent : Stmt := topS 32
theorem sc__law_bent : FnScope ["_law_box_here", "_law_paper", "_law_odd_here", "_law_at", "_law_to", "_law_top", "_law_bottom", "_law_other", "_law_news", "_law_some", "_law_new"] ["_law_box_here", "_law_paper", "_law_odd_here"] (defScope s__law_bent) := ⟨rfl, rfl, rfl, by decide +kernel, rfl, by decide +kernel, by decide +kernel⟩
theorem ok__law_bent {a : Addr} {fd : FuncData} (F : Fun K "_law_bent" "_law_bent" s__law_bent a fd) (hm : mg "_law_bent" = some (.ref a)) (z_len : mg "len" = none) (z_list : mg "list" = none) (z_tuple : mg "tuple" = none) (k__law_take : Cl P w K mg base 1 "_law_take" f_take) :
    Cl P w K mg base 2 "_law_bent" f_bent33 := by
  refine ⟨a, fd, ["_law_box_here", "_law_paper", "_law_odd_here"], fn_ok F sc__law_bent (fun args m R h => ?_) (fun cdv A outer s H E hr => ⟨_, (pss_cons (ps_asg (pe_tup (pa_cons (pe_cl k__law_take hr (by decide) (by rfl) (pa_cons (pv 0) (pa_cons (pe_callB (kLen K) (by rfl) z_len (by decide +kernel) (pa_cons (pv 1) pa_nil)) pa_nil))) (pa_cons (pe_cl k__law_take hr (by decide) (by rfl) (pa_cons (pv 0) (pa_cons (pe_callB (kLen K) (by rfl) z_len (by decide +kernel) (pa_cons (pv 1) pa_nil)) pa_nil))) pa_nil))) (kgT K (pg_tup (n := 2) rfl (pgs_cons (pg_name (i := 3) sc__law_bent.nd rfl (by first | exact Or.inl rfl | exact Or.inr rfl)) (pgs_cons (pg_name (i := 4) sc__law_bent.nd rfl (by first | exact Or.inl rfl | exact Or.inr rfl)) pgs_nil)))))
      (pss_cons (ps_asg (pe_ix (kIx K) (pv 1) (pv 3) (fun _ _ => rfl)) (kgT K (pg_tup (n := 2) rfl (pgs_cons (pg_name (i := 5) sc__law_bent.nd rfl (by first | exact Or.inl rfl | exact Or.inr rfl)) (pgs_cons (pg_name (i := 6) sc__law_bent.nd rfl (by first | exact Or.inl rfl | exact Or.inr rfl)) pgs_nil)))))
      (pss_cons (ps_set (i := 7) sc__law_bent.nd rfl (by first | exact Or.inl rfl | exact Or.inr rfl) (pe_callTy (kLst K) (by rfl) z_list (by decide +kernel) (pa_cons (pv 1) pa_nil)))
      (pss_cons (ps_asg (pe_tup (pa_cons (pe_ix (kIx K) (pv 7) (pv 4) (fun _ _ => rfl)) (pa_cons (pe_ix (kIx K) (pv 7) (pv 3) (fun _ _ => rfl)) pa_nil))) (kgT K (pg_tup (n := 2) rfl (pgs_cons (pg_sub (pv 7) (pv 3) set_list) (pgs_cons (pg_sub (pv 7) (pv 4) set_list) pgs_nil)))))
      (pss_cons (ps_set (i := 8) sc__law_bent.nd rfl (by first | exact Or.inl rfl | exact Or.inr rfl) (pe_lst (pa_cons (pe_lst (pa_cons (pe_tup (pa_cons (pe_op (kAdd K) (pv 5) pe_int) (pa_cons (pv 6) pa_nil))) pa_nil)) (pa_cons (pe_lst (pa_cons (pe_tup (pa_cons (pe_op (kAdd K) (pv 5) (pv 6)) (pa_cons (pv 6) pa_nil))) pa_nil)) (pa_cons (pe_lst (pa_cons (pe_tup (pa_cons (pe_op (kMul K) pe_int (pv 5)) (pa_cons (pe_op (kMul K) pe_int (pv 6)) pa_nil))) pa_nil)) (pa_cons (pe_lst (pa_cons (pv 5) pa_nil)) (pa_cons (pe_lst (pa_cons (pe_tup (pa_cons (pe_cmpR (kEq K hr) (pv 5) pe_int (nomark _)) (pa_cons (pv 6) pa_nil))) pa_nil)) pa_nil)))))))
      (pss_cons (ps_set (i := 8) sc__law_bent.nd rfl (by first | exact Or.inl rfl | exact Or.inr rfl) (pe_op (kAdd K) (pv 8) (pe_lst (pa_cons (pe_lst (pa_cons (pe_lst (pa_cons (pv 5) (pa_cons (pv 6) pa_nil))) pa_nil)) (pa_cons (pe_lst pa_nil) (pa_cons (pe_lst (pa_cons (pe_ix (kIx K) (pv 1) (pv 3) (fun _ _ => rfl)) (pa_cons (pe_ix (kIx K) (pv 1) (pv 3) (fun _ _ => rfl)) pa_nil))) (pa_cons (pe_lst (pa_cons (pv 2) pa_nil)) (pa_cons (pe_lst (pa_cons (pe_tup (pa_cons (pe_op oSub (pv 5) (pv 6)) (pa_cons (pv 6) pa_nil))) pa_nil)) (pa_cons (pe_lst (pa_cons (pe_tup (pa_cons (pv 5) (pa_cons (pv 6) (pa_cons pe_int pa_nil)))) pa_nil)) pa_nil)))))))))
      (pss_cons (ps_setLc (i := 9) (own := [("_law_new", 10)]) rfl sc__law_bent.nd rfl rfl (sw_true rfl rfl rfl (by decide +kernel)) (kiL K (pv 8)) (blkOk_by (own := [("_law_new", 10)]) (N := ["_law_box_here", "_law_paper", "_law_odd_here", "_law_at", "_law_to", "_law_top", "_law_bottom", "_law_other", "_law_news", "_law_some", "_law_new"]) (sc := defScope s__law_bent) (by decide +kernel)) (fun _ _ _ _ _ => (pg_name (i := 10) sc__law_bent.nd rfl (by first | exact Or.inl rfl | exact Or.inr rfl))) (fun _ _ _ _ _ => pts_nil) (fun _ _ _ _ _ => (pe_op (kAdd K) (pe_op (kAdd K) (pe_slice (kSlL K) (pv 1) po_none (po_some (pv 3))) (pv 10)) (pe_slice (kSlL K) (pv 1) (po_some (pe_op (kAdd K) (pv 3) pe_int)) po_none))))
      (pss_one (ps_ret (pe_ix (kIx K) (pe_op (kAdd K) (pv 9) (pe_lst (pa_cons (pv 7) (pa_cons (pe_callTy (kTup K) (by rfl) z_tuple (by decide +kernel) (pa_cons (pv 1) pa_nil)) (pa_cons (kRevL K (pe_revL (pv 1))) pa_nil))))) (pe_cl k__law_take hr (by decide) (by rfl) (pa_cons (pv 0) (pa_cons pe_int pa_nil))) (fun _ _ => rfl))))))))))), fun args m R h => ?_⟩), hm, F.kp, F.binds (ps := ["_law_box_here", "_law_paper", "_law_odd_here"]) fun _ _ _ _ _ _ us hl => match us, hl with | [_, _, _], _ => rfl⟩
  ·
    obtain ⟨_, _, _, _, rfl, _⟩ := h; rfl
  ·
    obtain ⟨p, a, s, o, rfl, hp, hpk, q⟩ := h
    have h5 := hpk.2.1
    have hl := pp_len a s
    have hbt : Bt ((ppL a s).length : Int) 8000 := bt_lit (n := 4) (by show _ < 16; omega) (by decide)
    refine w_seq (w_asg2 (ev_tup ?_))
    walk_at "go"
    refine ⟨hp, by omega, hbt, fun z hz0 hz1 => ?_⟩
    obtain ⟨i, rfl⟩ : ∃ k : Nat, z = (k : Int) := ⟨z.toNat, by omega⟩
    walk_at "go"
    refine ⟨hp, by omega, hbt, fun z hy0 hy1 => ?_⟩
    obtain ⟨j, rfl⟩ : ∃ k : Nat, z = (k : Int) := ⟨z.toNat, by omega⟩
    walk_at "dl1"
    refine ⟨[.int (i : Int), .int (j : Int)], rfl, by show 2 ≤ 100000; decide, _, _, rfl, ?_⟩
    have hi : i ≤ a := by omega
    have hj : j ≤ a := by omega
    have hb := pp_items hpk _ (getD_mem (l := paperF a s a) (i := i) (by rw [paperF_len]; omega))
    have hat : ∀ k, k ≤ a → atI (ppL a s) (k : Int) = some (frac ((paperF a s a).getD k 0)) := fun k hk => atI_frac (by rw [paperF_len]; omega)
    have hgd : ∀ k, k ≤ a → (ppL a s).getD k .none = frac ((paperF a s a).getD k 0) := fun k hk => by
      unfold ppL
      rw [List.getD_eq_getElem?_getD, List.getElem?_map, List.getD_eq_getElem?_getD, List.getElem?_eq_getElem (by rw [paperF_len]; omega)]; rfl
    have hml : ∀ k, k ≤ a → ((ppL a s).map Val.d)[k]? = some (.d (frac ((paperF a s a).getD k 0))) := fun k hk => by
      rw [← hgd k hk, List.getElem?_map, List.getD_eq_getElem?_getD, List.getElem?_eq_getElem (by omega)]; rfl
    have hq : ∀ x ∈ bentL (paperF a s a) i j o, R (.d x) m := fun x hx => q i j x hi hj hx
    refine w_seq (w_asg2 ?_)
    walk_at "go"
    refine o2_ixL (hat i hi) ?_
    refine ⟨_, _, rfl, ?_⟩
    unfold bentL at hq
    refine w_seq (w_asg (ev_callB (eva_cons (ev_var rfl (fun h => nomatch h) (eva_nil (on_lstLM fun c hc => ?_))))))
    refine w_seq (w_asg2S (ev_tup ?_))
    walk_at "go"
    refine o2_ixM put_same (hml j hj) ?_
    walk_at "go"
    refine o2_ixM put_same (hml i hi) ?_
    walk_at "dl1"
    refine ⟨[_, _], rfl, by show 2 ≤ 100000; decide, _, _, rfl, ?_⟩
    refine ev_var rfl (fun h => nomatch h) ⟨c, rfl, ?_⟩
    walk_at "go"
    refine ⟨i, _, rfl, put_same, by rw [List.length_map]; omega, ?_⟩
    refine ev_var rfl (fun h => nomatch h) ⟨c, rfl, ?_⟩
    walk_at "go"
    refine ⟨j, _, rfl, put_same, by rw [List.length_set, List.length_map]; omega, ?_⟩
    rw [put_put, put_put]
    have hsw : (((ppL a s).map Val.d).set i (.d (frac ((paperF a s a).getD j 0)))).set j (.d (frac ((paperF a s a).getD i 0))) = (swapP (ppL a s) i j).map Val.d := by
      unfold swapP
      rw [hgd i hi, hgd j hj, List.map_set, List.map_set]
    rw [hsw]
    refine w_freeze (i := 7) (p := c) (ds := swapP (ppL a s) i j) rfl put_same ?_
    rw [del_put hc]
    generalize hgq : (paperF a s a).getD i 0 = gq at *
    have b2 : Bt (2 : Int) 2 := bt_lit (n := 2) (by decide) (by decide)
    refine w_seq (w_asg (ev_lstD ?_))
    refine eva_cons (ev_lstD ?_)
    walk_at "go"
    refine ev_lstD ?_
    walk_at "go"
    refine ev_lstD ?_
    walk_at "go"
    refine o2_mulI (b2.cmul hb.1 (by decide)) ?_
    walk_at "go"
    refine o2_mulI (b2.cmul hb.2 (by decide)) ?_
    walk_at "go"
    refine ev_lstD ?_
    walk_at "go"
    refine ev_lstD ?_
    walk_at "go"
    refine ⟨[.list [.tuple [.int (gq.num + 1), .int (gq.den : Int)]], .list [.tuple [.int (gq.num + (gq.den : Int)), .int (gq.den : Int)]], .list [.tuple [.int (2 * gq.num), .int (2 * (gq.den : Int))]], .list [.int gq.num], .list [.tuple [.bool (decide (gq.num = 1)), .int (gq.den : Int)]]], rfl, by show 5 ≤ 100000; decide, ?_⟩
    refine w_seq (w_asg (ev_op (ev_var rfl (fun h => nomatch h) (ev_lstD ?_))))
    refine eva_cons (ev_lstD (eva_cons (ev_lstD ?_)))
    walk_at "go"
    refine ev_lstD (eva_nil ⟨[], rfl, by decide, ?_⟩)
    walk_at "go"
    refine ev_lstD ?_
    walk_at "go"
    refine o2_ixL (hat i hi) ?_
    walk_at "go"
    refine o2_ixL (hat i hi) ?_
    rw [hgq]
    walk_at "go"
    refine ev_lstD ?_
    walk_at "go"
    refine ev_lstD ?_
    walk_at "go"
    refine ev_lstD ?_
    walk_at "go"
    refine ⟨[.list [.list [.int gq.num, .int (gq.den : Int)]], .list [], .list [frac gq, frac gq], .list [o], .list [.tuple [.int (gq.num - (gq.den : Int)), .int (gq.den : Int)]], .list [.tuple [.int gq.num, .int (gq.den : Int), .int 0]]], rfl, by show 6 ≤ 100000; decide, ?_⟩
    refine o2_addL (by show 5 + 6 ≤ 100000; decide) ?_
    have hnw : ∀ n ∈ newsP gq o, n.length ≤ 2 := fun n hn => by
      simp only [newsP, List.cons_append, List.nil_append, List.mem_cons, List.not_mem_nil, or_false] at hn
      rcases hn with rfl | rfl | rfl | rfl | rfl | rfl | rfl | rfl | rfl | rfl | rfl <;> simp
    refine w_seq (w_asg (ev_mapLf (xs := newsP gq o) (f := PyData.list) ?_ (by show 11 ≤ 100000; decide) (fun n => .list (midP (ppL a s) i n)) (fun n m2 hn hxx => ?_) ?_))
    · walk_at "go"
      exact ⟨rfl, rfl⟩
    · walk_at "go"
      rw [cutD_tk]
      have hn2 := hnw n hn
      refine o2_addL (by rw [List.length_take]; omega) ?_
      walk_at "go"
      rw [show (i : Int) + 1 = ((i + 1 : Nat) : Int) by omega, cutD_dr]
      refine o2_addL (by rw [List.length_append, List.length_take, List.length_drop]; omega) ?_
      exact ⟨rfl, rfl⟩
    refine w_ret (ev_op (ev_op (ev_var rfl (fun h => nomatch h) (ev_lstD ?_))))
    walk_at "go"
    refine ev_revL ?_
    walk_at "go"
    refine o2_addL (by rw [List.length_map]; show 11 + 3 ≤ 100000; decide) ?_
    walk_at "go"
    refine ⟨hp, by decide, bt_lit (n := 4) (by decide) (by decide), fun z hz0 hz1 => ?_⟩
    obtain ⟨k, rfl⟩ : ∃ k : Nat, z = (k : Int) := ⟨z.toNat, by omega⟩
    have hk : k < (((newsP gq o).map fun n => PyData.list (midP (ppL a s) i n)) ++ [PyData.list (swapP (ppL a s) i j), PyData.tuple (ppL a s), PyData.list (ppL a s).reverse]).length := by
      rw [List.length_append, List.length_map]
      show k < 11 + 3
      omega
    refine o2_ixL (by rw [atI_nth]; exact List.getElem?_eq_getElem hk) ?_
    exact hq _ (List.getElem_mem hk)

abbrev s_is_fraction : Stmt := topS 8
theorem sc_is_fraction : FnScope ["thing"] ["thing"] (defScope s_is_fraction) := ⟨rfl, rfl, rfl, by decide +kernel, rfl, by decide +kernel, by decide +kernel⟩
theorem ok_is_fraction {a : Addr} {fd : FuncData} (F : Fun K "is_fraction" "is_fraction" s_is_fraction a fd) (hm : mg "is_fraction" = some (.ref a)) (z_len : mg "len" = none) (z_isinstance : mg "isinstance" = none) (z_tuple : mg "tuple" = none) (k_is_whole : Cl P w K mg base 1 "is_whole" f_isWhole) (k_made : Cl P w K mg base 2 "made" f_made) :
    Cl P w K mg base 3 "is_fraction" f_isFrac := by
  refine ⟨a, fd, ["thing"], fn_ok F sc_is_fraction (fun args m R h => ?_) (fun cdv A outer s H E hr => ⟨_, (pss_cons (ps_if (PW.pt (pw_or (pt_not (pt_val (pe_callB (kIsi K) (by rfl) z_isinstance (by decide +kernel) (pa_cons (pv 0) (pa_cons (pe_bltn (v := .ty "tuple") (by rfl) z_tuple (by decide +kernel) rfl) pa_nil))))) (pw_or (pt_cmpR (kNe K hr) (pe_callB (kLen K) (by rfl) z_len (by decide +kernel) (pa_cons (pv 0) pa_nil)) pe_int (nomark _)) (pw_or (pt_not (pt_val (pe_cl k_is_whole hr (by decide) (by rfl) (pa_cons (pe_ix (kIx K) (pv 0) pe_int (fun _ _ => rfl)) pa_nil)))) (pw_or1 (pt_not (pt_val (pe_cl k_is_whole hr (by decide) (by rfl) (pa_cons (pe_ix (kIx K) (pv 0) pe_int (fun _ _ => rfl)) pa_nil))))))))) (pss_one (ps_ret pe_bl)) pss_nil)
      (pss_one (ps_ret (pe_and (pe_cmpR oGe (pe_ix (kIx K) (pv 0) pe_int (fun _ _ => rfl)) pe_int (nomark _)) (pe_one (pe_cmpR (kEq K hr) (pe_cl k_made hr (by decide) (by rfl) (pa_cons (pe_ix (kIx K) (pv 0) pe_int (fun _ _ => rfl)) (pa_cons (pe_ix (kIx K) (pv 0) pe_int (fun _ _ => rfl)) pa_nil))) (pv 0) (nomark _))))))), fun args m R h => ?_⟩), hm, F.kp, F.binds (ps := ["thing"]) fun _ _ _ _ _ _ us hl => match us, hl with | [_], _ => rfl⟩
  ·
    obtain ⟨_, rfl, _⟩ := h; rfl
  ·
    obtain ⟨x, rfl, hz, q⟩ := h
    walk_at "go"
    cases hx : isTup x with
    | false =>
      refine br_t rfl (br_t rfl ?_)
      walk_at "go"
      have e : isFrac x = false := by cases x <;> first | rfl | cases hx
      rw [e] at q
      exact q
    | true =>
      obtain ⟨ds, rfl⟩ := tup_shape hx
      refine br_f rfl ?_
      walk_at "go"
      by_cases h2 : (ds.length : Int) = 2
      · refine br_f (by rw [decide_eq_true h2]; rfl) ?_
        obtain ⟨d0, d1, rfl⟩ : ∃ d0 d1, ds = [d0, d1] := by
          match ds, h2 with
          | [a, b], _ => exact ⟨a, b, rfl⟩
          | [], h => exact absurd h (by decide)
          | [_], h => exact absurd h (by simp)
          | _ :: _ :: _ :: _, h => simp at h; omega
        walk_at "go"
        refine o2_ixT (d := d0) rfl ?_
        walk_at "go"
        cases h0 : isInt d0 with
        | false =>
          refine br_t rfl (br_t rfl ?_)
          walk_at "go"
          have e : isFrac (.tuple [d0, d1]) = false := by cases d0 <;> first | rfl | cases h0
          rw [e] at q
          exact q
        | true =>
          obtain ⟨t, rfl⟩ := int_shape h0
          refine br_f rfl ?_
          walk_at "go"
          refine o2_ixT (d := d1) rfl ?_
          walk_at "go"
          cases h1 : isInt d1 with
          | false =>
            refine br_t rfl ?_
            walk_at "go"
            have e : isFrac (.tuple [.int t, d1]) = false := by cases d1 <;> first | rfl | cases h1
            rw [e] at q
            exact q
          | true =>
            obtain ⟨b, rfl⟩ := int_shape h1
            have hz : Bt b 8000 := hz
            refine br_f rfl (w_next ?_)
            walk_at "go"
            refine o2_ixT (d := .int b) rfl ?_
            walk_at "go"
            by_cases hb : (1 : Int) ≤ b
            · refine br_t (decide_eq_true hb) ?_
              obtain ⟨n, rfl⟩ : ∃ n : Nat, b = (n : Int) := ⟨b.toNat, by omega⟩
              walk_at "go"
              refine o2_ixT (d := .int t) rfl ?_
              walk_at "go"
              refine o2_ixT (d := .int (n : Int)) rfl ?_
              walk_at "go"
              refine ⟨by omega, hz, ?_⟩
              walk_at "go"
              refine o2_eq (shaped_frac _) (by simp [SeqAt.shaped, PyData.canLay0, PyData.canLayAll0, PyData.depth, PyData.depthAll]) ?_
              rw [eqv_frac2 t n (by omega)]
              have e : isFrac (.tuple [.int t, .int (n : Int)]) = decide (Nat.gcd n t.natAbs = 1) := by
                show (decide (1 ≤ (n : Int)) && decide (Nat.gcd ((n : Int)).toNat t.natAbs = 1)) = _
                rw [decide_eq_true hb, Int.toNat_natCast, Bool.true_and]
              rw [e] at q
              exact q
            · refine br_f (decide_eq_false hb) ?_
              have e : isFrac (.tuple [.int t, .int b]) = false := by
                show (decide (1 ≤ b) && decide (Nat.gcd b.toNat t.natAbs = 1)) = false
                rw [decide_eq_false hb, Bool.false_and]
              rw [e] at q
              exact q
      · refine br_t (by rw [decide_eq_false h2]; rfl) (br_t rfl ?_)
        walk_at "go"
        have e : isFrac (.tuple ds) = false := by
          match ds, h2 with
          | [], _ => rfl
          | [_], _ => simp [isFrac]
          | [a, b], h => exact absurd rfl h
          | _ :: _ :: _ :: _, _ => simp [isFrac]
        rw [e] at q
        exact q

abbrev s_sum_of : Stmt := topS 10
theorem sc_sum_of : FnScope ["one", "other"] ["one", "other"] (defScope s_sum_of) := ⟨rfl, rfl, rfl, by decide +kernel, rfl, by decide +kernel, by decide +kernel⟩
theorem ok_sum_of {a : Addr} {fd : FuncData} (F : Fun K "sum_of" "sum_of" s_sum_of a fd) (hm : mg "sum_of" = some (.ref a)) (k_made : Cl P w K mg base 2 "made" f_made) :
    Cl P w K mg base 3 "sum_of" f_sumOf := by
  refine ⟨a, fd, ["one", "other"], fn_ok F sc_sum_of (fun args m R h => ?_) (fun cdv A outer s H E hr => ⟨_, (pss_one (ps_ret (pe_cl k_made hr (by decide) (by rfl) (pa_cons (pe_op (kAdd K) (pe_op (kMul K) (pe_ix (kIx K) (pv 0) pe_int (fun _ _ => rfl)) (pe_ix (kIx K) (pv 1) pe_int (fun _ _ => rfl))) (pe_op (kMul K) (pe_ix (kIx K) (pv 1) pe_int (fun _ _ => rfl)) (pe_ix (kIx K) (pv 0) pe_int (fun _ _ => rfl)))) (pa_cons (pe_op (kMul K) (pe_ix (kIx K) (pv 0) pe_int (fun _ _ => rfl)) (pe_ix (kIx K) (pv 1) pe_int (fun _ _ => rfl))) pa_nil))))), fun args m R h => ?_⟩), hm, F.kp, F.binds (ps := ["one", "other"]) fun _ _ _ _ _ _ us hl => match us, hl with | [_, _], _ => rfl⟩
  ·
    obtain ⟨_, _, rfl, _⟩ := h; rfl
  ·
    obtain ⟨p, r, rfl, hp, hr, q⟩ := h
    walk_at "go"
    refine o2_mulI (hp.1.cmul hr.2 (by decide)) ?_
    walk_at "go"
    refine o2_mulI (hr.1.cmul hp.2 (by decide)) ?_
    walk_at "go"
    refine o2_mulI (hp.2.cmul hr.2 (by decide)) ?_
    walk_at "go"
    refine ⟨Nat.mul_pos (den_pos p) (den_pos r), ?_, ?_⟩
    · rw [Int.natCast_mul]; exact (hp.2.mul hr.2).mono (by decide)
    · rw [← Rat.add_def']; exact q

abbrev s_times_of : Stmt := topS 11
theorem sc_times_of : FnScope ["one", "other"] ["one", "other"] (defScope s_times_of) := ⟨rfl, rfl, rfl, by decide +kernel, rfl, by decide +kernel, by decide +kernel⟩
theorem ok_times_of {a : Addr} {fd : FuncData} (F : Fun K "times_of" "times_of" s_times_of a fd) (hm : mg "times_of" = some (.ref a)) (k_made : Cl P w K mg base 2 "made" f_made) :
    Cl P w K mg base 3 "times_of" f_timesOf := by
  refine ⟨a, fd, ["one", "other"], fn_ok F sc_times_of (fun args m R h => ?_) (fun cdv A outer s H E hr => ⟨_, (pss_one (ps_ret (pe_cl k_made hr (by decide) (by rfl) (pa_cons (pe_op (kMul K) (pe_ix (kIx K) (pv 0) pe_int (fun _ _ => rfl)) (pe_ix (kIx K) (pv 1) pe_int (fun _ _ => rfl))) (pa_cons (pe_op (kMul K) (pe_ix (kIx K) (pv 0) pe_int (fun _ _ => rfl)) (pe_ix (kIx K) (pv 1) pe_int (fun _ _ => rfl))) pa_nil))))), fun args m R h => ?_⟩), hm, F.kp, F.binds (ps := ["one", "other"]) fun _ _ _ _ _ _ us hl => match us, hl with | [_, _], _ => rfl⟩
  ·
    obtain ⟨_, _, rfl, _⟩ := h; rfl
  ·
    obtain ⟨p, r, rfl, hp, hr, q⟩ := h
    walk_at "go"
    refine o2_mulI (hp.1.cmul hr.1 (by decide)) ?_
    walk_at "go"
    refine o2_mulI (hp.2.cmul hr.2 (by decide)) ?_
    walk_at "go"
    refine ⟨Nat.mul_pos (den_pos p) (den_pos r), ?_, ?_⟩
    · rw [Int.natCast_mul]; exact (hp.2.mul hr.2).mono (by decide)
    · rw [← Rat.mul_def']; exact q

abbrev s_need_pack : Stmt := topS 16
theorem sc_need_pack : FnScope ["many", "size"] ["many", "size"] (defScope s_need_pack) := ⟨rfl, rfl, rfl, by decide +kernel, rfl, by decide +kernel, by decide +kernel⟩
theorem ok_need_pack {a : Addr} {fd : FuncData} (F : Fun K "need_pack" "need_pack" s_need_pack a fd) (hm : mg "need_pack" = some (.ref a)) (z_min : mg "min" = none) (c_MOST_KINDS : ∃ t, mg "MOST_KINDS" = some (.int 5 t)) (c_MOST_SIZE : ∃ t, mg "MOST_SIZE" = some (.int 3 t)) (k_need_number : Cl P w K mg base 2 "need_number" f_needNumber) :
    Cl P w K mg base 3 "need_pack" f_needPack := by
  refine ⟨a, fd, ["many", "size"], fn_ok F sc_need_pack (fun args m R h => ?_) (fun cdv A outer s H E hr => ⟨_, (pss_cons (ps_expr (pe_cl k_need_number hr (by decide) (by rfl) (pa_cons (pv 0) (pa_cons pe_int (pa_cons (pe_gi c_MOST_KINDS (by rfl)) pa_nil)))))
      (pss_one (ps_expr (pe_cl k_need_number hr (by decide) (by rfl) (pa_cons (pv 1) (pa_cons pe_int (pa_cons (pe_callB (cMin rfl) (by rfl) z_min (by decide +kernel) (pa_cons (pv 0) (pa_cons (pe_gi c_MOST_SIZE (by rfl)) pa_nil))) pa_nil))))))), fun args m R h => ?_⟩), hm, F.kp, F.binds (ps := ["many", "size"]) fun _ _ _ _ _ _ us hl => match us, hl with | [_, _], _ => rfl⟩
  ·
    obtain ⟨_, _, rfl, _⟩ := h; rfl
  ·
    obtain ⟨a, s, rfl, ⟨h1, h2, h3, h4, h5⟩, q⟩ := h
    walk_at "go"
    refine ⟨_, _, _, rfl, by omega, by omega, ?_⟩
    walk_at "go"
    refine ⟨_, _, _, rfl, by omega, by omega, ?_⟩
    exact q

abbrev s__law_plus : Stmt := topS 27
theorem sc__law_plus : FnScope ["_law_one", "_law_other"] ["_law_one", "_law_other"] (defScope s__law_plus) := ⟨rfl, rfl, rfl, by decide +kernel, rfl, by decide +kernel, by decide +kernel⟩
theorem ok__law_plus {a : Addr} {fd : FuncData} (F : Fun K "_law_plus" "_law_plus" s__law_plus a fd) (hm : mg "_law_plus" = some (.ref a)) (k__law_made : Cl P w K mg base 2 "_law_made" f_made) :
    Cl P w K mg base 3 "_law_plus" f_sumOf := by
  refine ⟨a, fd, ["_law_one", "_law_other"], fn_ok F sc__law_plus (fun args m R h => ?_) (fun cdv A outer s H E hr => ⟨_, (pss_one (ps_ret (pe_cl k__law_made hr (by decide) (by rfl) (pa_cons (pe_op (kAdd K) (pe_op (kMul K) (pe_ix (kIx K) (pv 0) pe_int (fun _ _ => rfl)) (pe_ix (kIx K) (pv 1) pe_int (fun _ _ => rfl))) (pe_op (kMul K) (pe_ix (kIx K) (pv 1) pe_int (fun _ _ => rfl)) (pe_ix (kIx K) (pv 0) pe_int (fun _ _ => rfl)))) (pa_cons (pe_op (kMul K) (pe_ix (kIx K) (pv 0) pe_int (fun _ _ => rfl)) (pe_ix (kIx K) (pv 1) pe_int (fun _ _ => rfl))) pa_nil))))), fun args m R h => ?_⟩), hm, F.kp, F.binds (ps := ["_law_one", "_law_other"]) fun _ _ _ _ _ _ us hl => match us, hl with | [_, _], _ => rfl⟩
  ·
    obtain ⟨_, _, rfl, _⟩ := h; rfl
  ·
    obtain ⟨p, r, rfl, hp, hr, q⟩ := h
    walk_at "go"
    refine o2_mulI (hp.1.cmul hr.2 (by decide)) ?_
    walk_at "go"
    refine o2_mulI (hr.1.cmul hp.2 (by decide)) ?_
    walk_at "go"
    refine o2_mulI (hp.2.cmul hr.2 (by decide)) ?_
    walk_at "go"
    refine ⟨Nat.mul_pos (den_pos p) (den_pos r), ?_, ?_⟩
    · rw [Int.natCast_mul]; exact (hp.2.mul hr.2).mono (by decide)
    · rw [← Rat.add_def']; exact q

abbrev s_paper_of : Stmt := topS 17
theorem sc_paper_of : FnScope ["many", "size", "every", "found", "left", "due", "come", "ways"] ["many", "size"] (defScope s_paper_of) := ⟨rfl, rfl, rfl, by decide +kernel, rfl, by decide +kernel, by decide +kernel⟩
theorem ok_paper_of {a : Addr} {fd : FuncData} (F : Fun K "paper_of" "paper_of" s_paper_of a fd) (hm : mg "paper_of" = some (.ref a)) (z_range : mg "range" = none) (z_min : mg "min" = none) (c_NOUGHT : ∃ a, mg "NOUGHT" = some (.ref a) ∧ ∀ G, Rp K G (.tuple [.int 0, .int 1]) (.ref a)) (k_choices : Cl P w K mg base 1 "choices" f_choices) (k_sum_of : Cl P w K mg base 3 "sum_of" f_sumOf) (k_times_of : Cl P w K mg base 3 "times_of" f_timesOf) :
    Cl P w K mg base 4 "paper_of" f_paperOf := by
  obtain ⟨a_NOUGHT, h_NOUGHT, d_NOUGHT⟩ := c_NOUGHT
  refine ⟨a, fd, ["many", "size"], fn_ok F sc_paper_of (fun args m R h => ?_) (fun cdv A outer s H E hr => ⟨_, (pss_cons (ps_set (i := 2) sc_paper_of.nd rfl (by first | exact Or.inl rfl | exact Or.inr rfl) (pe_cl k_choices hr (by decide) (by rfl) (pa_cons (pv 0) (pa_cons (pv 1) pa_nil))))
      (pss_cons (ps_set (i := 3) sc_paper_of.nd rfl (by first | exact Or.inl rfl | exact Or.inr rfl) (pe_lst (pa_cons (pe_glob (v := V.ref a_NOUGHT) (by rfl) h_NOUGHT rfl) pa_nil)))
      (pss_cons (ps_for PassesOwn.never rfl (pi_range2 (by rfl) z_range (pa_cons pe_int (pa_cons (pe_op (kAdd K) (pv 0) pe_int) pa_nil))) (pg_name (i := 4) sc_paper_of.nd rfl (by first | exact Or.inl rfl | exact Or.inr rfl)) (pss_cons (ps_set (i := 5) sc_paper_of.nd rfl (by first | exact Or.inl rfl | exact Or.inr rfl) (pe_tup (pa_cons (pv 2) (pa_cons pe_int pa_nil))))
      (pss_cons (ps_for PassesOwn.never rfl (pi_range2 (by rfl) z_range (pa_cons pe_int (pa_cons (pe_op (kAdd K) (pe_callB (cMin rfl) (by rfl) z_min (by decide +kernel) (pa_cons (pv 4) (pa_cons (pv 1) pa_nil))) pe_int) pa_nil))) (pg_name (i := 6) sc_paper_of.nd rfl (by first | exact Or.inl rfl | exact Or.inr rfl)) (pss_cons (ps_set (i := 7) sc_paper_of.nd rfl (by first | exact Or.inl rfl | exact Or.inr rfl) (pe_op (kMul K) (pe_cl k_choices hr (by decide) (by rfl) (pa_cons (pv 4) (pa_cons (pv 6) pa_nil))) (pe_cl k_choices hr (by decide) (by rfl) (pa_cons (pe_op oSub (pv 0) (pv 4)) (pa_cons (pe_op oSub (pv 1) (pv 6)) pa_nil)))))
      (pss_one (ps_set (i := 5) sc_paper_of.nd rfl (by first | exact Or.inl rfl | exact Or.inr rfl) (pe_cl k_sum_of hr (by decide) (by rfl) (pa_cons (pv 5) (pa_cons (pe_cl k_times_of hr (by decide) (by rfl) (pa_cons (pe_tup (pa_cons (pv 7) (pa_cons pe_int pa_nil))) (pa_cons (pe_ix (kIx K) (pv 3) (pe_op oSub (pv 4) (pv 6)) (fun _ _ => rfl)) pa_nil))) pa_nil)))))))
      (pss_one (ps_expr (kBM K (pe_bm PySem.F.plainAttrs_list PySem.F.slot_list_append PySem.F.type_list_append mt_append (pv 3) (pa_cons (pe_cl k_times_of hr (by decide) (by rfl) (pa_cons (pv 5) (pa_cons (pe_tup (pa_cons pe_int (pa_cons (pe_op oSub (pv 2) (pe_cl k_choices hr (by decide) (by rfl) (pa_cons (pe_op oSub (pv 0) (pv 4)) (pa_cons (pv 1) pa_nil)))) pa_nil))) pa_nil))) pa_nil))))))))
      (pss_one (ps_ret (pv 3)))))), fun args m R h => ?_⟩), hm, F.kp, F.binds (ps := ["many", "size"]) fun _ _ _ _ _ _ us hl => match us, hl with | [_, _], _ => rfl⟩
  ·
    obtain ⟨_, _, rfl, _⟩ := h; rfl
  ·
    obtain ⟨a, s, rfl, hp, q⟩ := h
    have h5 := hp.2.1
    have hok := paper_ok _ (pairs_of hp)
    have hit := paper_items _ (pairs_of hp)
    simp only at hok hit
    walk_at "go"
    refine ⟨h5, ?_⟩
    refine w_seq (w_asg (ev_lstM (eva_cons (ev_cG d_NOUGHT (eva_nil ⟨by show 1 ≤ 100000; decide, fun p hpn => ?_⟩)))))
    refine w_seq (w_forR2 (lo := 1) (n := a) ?_ (by omega) (fun i r' m' => m' = put m p (.lst (((paperF a s i).map frac).map Val.d)) ∧ ∃ y4 y5 y6 y7, r' = [.d (.int (a : Int)), .d (.int (s : Int)), .d (.int ((chP a s : Nat) : Int)), .v (.ref p), y4, y5, y6, y7]) ⟨rfl, _, _, _, _, rfl⟩ ?_ ?_)
    · walk_at "go"
      rw [show (a : Int) + 1 = ((1 + a : Nat) : Int) by omega]
      exact ⟨rfl, rfl⟩
    · rintro i r' m' hi ⟨rfl, y4, y5, y6, y7, rfl⟩
      obtain ⟨hlt, hdue⟩ := hok ⟨i, by omega⟩ hi
      have hlt : chP (a - (1 + i)) s < chP a s := hlt
      have hdue : ∀ c, c < 4 → FrB (dueF a s (paperF a s i) (1 + i) c) 60 := fun c hc => hdue ⟨c, hc⟩
      have hit := hit ⟨i, by omega⟩
      have hit : ∀ x ∈ paperF a s i, FrB x 60 := hit
      have hpl := paperF_len a s i
      have h3 := hp.2.2.2.2
      have ea : (a : Int) - ((1 + i : Nat) : Int) = ((a - (1 + i) : Nat) : Int) := by omega
      walk_at "go"
      refine w_forR2 (lo := 1) (n := min (1 + i) s) ?_ (by omega) (fun c r' m' => m' = put m p (.lst (((paperF a s i).map frac).map Val.d)) ∧ ∃ y6 y7, r' = [.d (.int (a : Int)), .d (.int (s : Int)), .d (.int ((chP a s : Nat) : Int)), .v (.ref p), .d (.int ((1 + i : Nat) : Int)), .d (frac (dueF a s (paperF a s i) (1 + i) c)), y6, y7]) ⟨rfl, _, _, rfl⟩ ?_ ?_
      · walk_at "go"
        rw [show min (((1 + i : Nat) : Int)) (s : Int) + 1 = ((1 + min (1 + i) s : Nat) : Int) by omega]
        exact ⟨rfl, rfl⟩
      · rintro c r2 m2 hc ⟨rfl, y6, y7, rfl⟩
        have es : (s : Int) - ((1 + c : Nat) : Int) = ((s - (1 + c) : Nat) : Int) := by omega
        have ei : ((1 + i : Nat) : Int) - ((1 + c : Nat) : Int) = (((1 + i) - (1 + c) : Nat) : Int) := by omega
        have hc1 := chP_le (n := 1 + i) (k := 1 + c) (by omega)
        have hc2 := chP_le (n := a - (1 + i)) (k := s - (1 + c)) (by omega)
        have hw : FrB ((((chP (1 + i) (1 + c) : Nat) : Int) * ((chP (a - (1 + i)) (s - (1 + c)) : Nat) : Int) : Int) : Rat) 8 := ⟨Bt.mul (a := 4) (b := 4) (bt_lit (n := 4) (by show _ < 16; omega) (by decide)) (bt_lit (n := 4) (by show _ < 16; omega) (by decide)), bt_lit (n := 1) (by show 1 < 2; decide) (by decide)⟩
        have hf : FrB ((paperF a s i).getD ((1 + i) - (1 + c)) 0) 60 := hit _ (getD_mem (by omega))
        walk_at "go"
        refine ⟨by omega, ?_⟩
        walk_at "go"
        rw [ea, es]
        refine ⟨_, _, rfl, by omega, ?_⟩
        refine o2_mulI (cmul_small (by omega) (by omega)) ?_
        walk_at "go"
        rw [ei]
        refine o2_ixM put_same (getD_frac (by omega)) ?_
        walk_at "go"
        refine ⟨(((((chP (1 + i) (1 + c) : Nat) : Int) * ((chP (a - (1 + i)) (s - (1 + c)) : Nat) : Int) : Int)) : Rat), _, rfl, hw.mono (by decide), hf.mono (by decide), ?_⟩
        walk_at "go"
        refine ⟨(hdue c (by omega)).mono (by decide), (hw.mul hf (c := 68) (by decide)).mono (by decide), ?_⟩
        exact ⟨rfl, _, _, rfl⟩
      · rintro r2 m2 ⟨rfl, y6, y7, rfl⟩
        refine w_drop (ev_app (p := p) (rs := ((paperF a s i).map frac).map Val.d) ?_)
        walk_at "go"
        refine ⟨rfl, put_same, ?_⟩
        walk_at "go"
        rw [ea]
        refine ⟨_, _, rfl, by omega, ?_⟩
        walk_at "go"
        rw [show ((chP a s : Nat) : Int) - ((chP (a - (1 + i)) s : Nat) : Int) = ((chP a s - chP (a - (1 + i)) s : Nat) : Int) by omega, ← frac_over (by omega)]
        have hca := chP_le (n := a) (k := s) h5
        have ho : FrB (mkRat 1 (chP a s - chP (a - (1 + i)) s)) 8 := frB_mk (bt_lit (n := 1) (by decide) (by decide)) (bt_lit (n := 8) (by show _ < 256; omega) (by decide)) (by omega)
        refine ⟨_, _, rfl, (hdue _ (by omega)).mono (by decide), ho.mono (by decide), ?_⟩
        refine ⟨put_same, by rw [List.length_map, List.length_map, hpl]; omega, ?_, _, _, _, _, rfl⟩
        rw [put_put, paperF, List.map_append, List.map_append]
        rfl
    · rintro r' m' ⟨rfl, y4, y5, y6, y7, rfl⟩
      walk_at "go"
      exact q p hpn

abbrev s__law_pack_paper : Stmt := topS 31
theorem sc__law_pack_paper : FnScope ["_law_many", "_law_size", "_law_packs", "_law_found", "_law_left", "_law_number", "_law_still", "_law_pack", "_law_come", "_law_kind"] ["_law_many", "_law_size"] (defScope s__law_pack_paper) := ⟨rfl, rfl, rfl, by decide +kernel, rfl, by decide +kernel, by decide +kernel⟩
theorem ok__law_pack_paper {a : Addr} {fd : FuncData} (F : Fun K "_law_pack_paper" "_law_pack_paper" s__law_pack_paper a fd) (hm : mg "_law_pack_paper" = some (.ref a)) (z_range : mg "range" = none) (z_len : mg "len" = none) (k__law_sets : Cl P w K mg base 2 "_law_sets" f_lawSets) (k__law_plus : Cl P w K mg base 3 "_law_plus" f_sumOf) (k__law_made : Cl P w K mg base 2 "_law_made" f_made) :
    Cl P w K mg base 4 "_law_pack_paper" f_lawPackPaper := by
  refine ⟨a, fd, ["_law_many", "_law_size"], fn_ok F sc__law_pack_paper (fun args m R h => ?_) (fun cdv A outer s H E hr => ⟨_, (pss_cons (ps_set (i := 2) sc__law_pack_paper.nd rfl (by first | exact Or.inl rfl | exact Or.inr rfl) (pe_cl k__law_sets hr (by decide) (by rfl) (pa_cons (pv 0) (pa_cons (pv 1) pa_nil))))
      (pss_cons (ps_set (i := 3) sc__law_pack_paper.nd rfl (by first | exact Or.inl rfl | exact Or.inr rfl) (pe_lst (pa_cons (pe_tup (pa_cons pe_int (pa_cons pe_int pa_nil))) pa_nil)))
      (pss_cons (ps_for PassesOwn.never rfl (pi_range2 (by rfl) z_range (pa_cons pe_int (pa_cons (pe_op (kAdd K) (pv 0) pe_int) pa_nil))) (pg_name (i := 4) sc__law_pack_paper.nd rfl (by first | exact Or.inl rfl | exact Or.inr rfl)) (pss_cons (ps_set (i := 5) sc__law_pack_paper.nd rfl (by first | exact Or.inl rfl | exact Or.inr rfl) (pe_tup (pa_cons (pe_callB (kLen K) (by rfl) z_len (by decide +kernel) (pa_cons (pv 2) pa_nil)) (pa_cons pe_int pa_nil))))
      (pss_cons (ps_set (i := 6) sc__law_pack_paper.nd rfl (by first | exact Or.inl rfl | exact Or.inr rfl) pe_int)
      (pss_cons (ps_for PassesOwn.never rfl (kiL K (pv 2)) (pg_name (i := 7) sc__law_pack_paper.nd rfl (by first | exact Or.inl rfl | exact Or.inr rfl)) (pss_cons (ps_set (i := 8) sc__law_pack_paper.nd rfl (by first | exact Or.inl rfl | exact Or.inr rfl) (pe_callB (kLen K) (by rfl) z_len (by decide +kernel) (pa_cons (pe_lc (own := [("_law_kind", 9)]) rfl sc__law_pack_paper.nd (kiT K (pv 7)) (blkOk_by (own := [("_law_kind", 9)]) (N := ["_law_many", "_law_size", "_law_packs", "_law_found", "_law_left", "_law_number", "_law_still", "_law_pack", "_law_come", "_law_kind"]) (sc := defScope s__law_pack_paper) (by decide +kernel)) (fun _ _ _ _ _ => (pg_name (i := 9) sc__law_pack_paper.nd rfl (by first | exact Or.inl rfl | exact Or.inr rfl))) (fun _ _ _ _ _ => (pts_one (pt_cmpR oLt (pv 9) (pv 4) (nomark _)))) (fun _ _ _ _ _ => (pv 9))) pa_nil)))
      (pss_one (ps_if (pt_cmpR (kEq K hr) (pv 8) pe_int (nomark _)) (pss_one (ps_set (i := 6) sc__law_pack_paper.nd rfl (by first | exact Or.inl rfl | exact Or.inr rfl) (pe_op (kAdd K) (pv 6) pe_int))) (pss_one (ps_set (i := 5) sc__law_pack_paper.nd rfl (by first | exact Or.inl rfl | exact Or.inr rfl) (pe_cl k__law_plus hr (by decide) (by rfl) (pa_cons (pv 5) (pa_cons (pe_ix (kIx K) (pv 3) (pe_op oSub (pv 4) (pv 8)) (fun _ _ => rfl)) pa_nil)))))))))
      (pss_one (ps_expr (kBM K (pe_bm PySem.F.plainAttrs_list PySem.F.slot_list_append PySem.F.type_list_append mt_append (pv 3) (pa_cons (pe_cl k__law_made hr (by decide) (by rfl) (pa_cons (pe_ix (kIx K) (pv 5) pe_int (fun _ _ => rfl)) (pa_cons (pe_op (kMul K) (pe_ix (kIx K) (pv 5) pe_int (fun _ _ => rfl)) (pe_op oSub (pe_callB (kLen K) (by rfl) z_len (by decide +kernel) (pa_cons (pv 2) pa_nil)) (pv 6))) pa_nil))) pa_nil)))))))))
      (pss_one (ps_ret (pv 3)))))), fun args m R h => ?_⟩), hm, F.kp, F.binds (ps := ["_law_many", "_law_size"]) fun _ _ _ _ _ _ us hl => match us, hl with | [_, _], _ => rfl⟩
  ·
    obtain ⟨_, _, rfl, _⟩ := h; rfl
  ·
    obtain ⟨a, s, rfl, hp, q⟩ := h
    have h5 := hp.2.1
    have hma := many_all _ (pairs_of hp)
    have hok := ln_ok _ (pairs_of hp)
    have hit := paper_items _ (pairs_of hp)
    have heq := lp_eq _ (pairs_of hp)
    simp only at hok hit heq hma
    walk_at "go"
    refine ⟨by omega, ?_⟩
    refine w_seq (w_asg (ev_lstM ?_))
    walk_at "go"
    refine ⟨by show 1 ≤ 100000; decide, fun l hl => ?_⟩
    refine w_seq (w_forR2 (lo := 1) (n := a) ?_ (by omega) (fun i r' m' => m' = put m l (.lst (((lpF a s i).map frac).map Val.d)) ∧ ∃ y4 y5 y6 y7 y8, r' = [.d (.int (a : Int)), .d (.int (s : Int)), .d (.list ((setsF a s).map tupN)), .v (.ref l), y4, y5, y6, y7, y8, .any]) ⟨rfl, _, _, _, _, _, rfl⟩ ?_ ?_)
    · walk_at "go"
      rw [show (a : Int) + 1 = ((1 + a : Nat) : Int) by omega]
      exact ⟨rfl, rfl⟩
    · rintro i r' m' hi ⟨rfl, y4, y5, y6, y7, y8, rfl⟩
      have heq1 : lpF a s i = paperF a s i := heq ⟨i, by omega⟩ (Nat.le_of_lt hi)
      obtain ⟨hst, hnum⟩ := hok ⟨i, by omega⟩ hi
      have hst : (lnF (paperF a s i) (1 + i) (setsF a s).length (setsF a s)).2 < (setsF a s).length := hst
      have hnum : ∀ k, k < 11 → FrB (lnF (paperF a s i) (1 + i) (setsF a s).length ((setsF a s).take k)).1 60 := fun k hk => hnum ⟨k, hk⟩
      have hit : ∀ x ∈ paperF a s i, FrB x 60 := hit ⟨i, by omega⟩
      rw [← heq1] at hst hnum hit
      have hpl := lpF_len a s i
      generalize hL : lpF a s i = L at *
      generalize hP : (setsF a s).length = Pn at *
      walk_at "go"
      rw [List.length_map, hP]
      refine w_forLf (xs := setsF a s) (f := tupN) ?_ (fun k r' m' => m' = put m l (.lst ((L.map frac).map Val.d)) ∧ ∃ y7 y8, r' = [.d (.int (a : Int)), .d (.int (s : Int)), .d (.list ((setsF a s).map tupN)), .v (.ref l), .d (.int ((1 + i : Nat) : Int)), .d (frac (lnF L (1 + i) Pn ((setsF a s).take k)).1), .d (.int (((lnF L (1 + i) Pn ((setsF a s).take k)).2 : Nat) : Int)), y7, y8, .any]) ⟨rfl, _, _, rfl⟩ ?_ ?_
      · walk_at "go"
        exact ⟨rfl, rfl⟩
      · rintro k p r2 m2 hk ⟨rfl, y7, y8, rfl⟩
        have hpm := setsF_mem (List.mem_of_getElem? hk)
        have hpl2 := (allS_mem a p hpm.1).1
        have hkl : k < Pn := by rw [← hP]; exact (List.getElem?_eq_some_iff.mp hk).1
        have hb := hnum k (by omega)
        have est : lnF L (1 + i) Pn ((setsF a s).take (k + 1)) = lstep L (1 + i) (lnF L (1 + i) Pn ((setsF a s).take k)) p := by
          unfold lnF; rw [take_one hk, List.foldl_append]; rfl
        rw [est]
        generalize lnF L (1 + i) Pn ((setsF a s).take k) = st at *
        walk_at "go"
        refine ev_filTf (xs := p) (f := intN) ?_ (by omega) (fun k => decide (k < 1 + i)) intN (fun k m2 hk hx => ?_) (fun k m2 hk hx hq => ?_) ?_
        · walk_at "go"
          exact ⟨by rw [tupN_eq], rfl⟩
        · walk_at "go"
          exact ⟨decide_eq_decide.mpr (by omega), rfl⟩
        · walk_at "go"
          exact ⟨rfl, rfl⟩
        walk_at "go"
        rw [List.length_map]
        unfold lstep
        have hcl : (p.filter fun k => decide (k < 1 + i)).length ≤ 1 + i ∨ True := Or.inr trivial
        generalize hcm : (p.filter fun k => decide (k < 1 + i)).length = come
        by_cases hz : come = 0
        · refine br_t (decide_eq_true (by omega)) ?_
          walk_at "go"
          rw [if_pos hz]
          exact ⟨rfl, _, _, rfl⟩
        · refine br_f (decide_eq_false (by omega)) ?_
          have hle : come ≤ 1 + i := by
            have hall := few_below hpm.1 (1 + i)
            omega
          walk_at "go"
          rw [show ((1 + i : Nat) : Int) - (come : Int) = (((1 + i) - come : Nat) : Int) by omega]
          refine o2_ixM put_same (getD_frac (by omega)) ?_
          walk_at "go"
          refine ⟨hb.mono (by decide), (hit _ (getD_mem (by omega))).mono (by decide), ?_⟩
          rw [if_neg hz]
          exact ⟨rfl, _, _, rfl⟩
      · rintro r2 m2 ⟨rfl, y7, y8, rfl⟩
        have hb := hnum Pn (by omega)
        rw [← hP, List.take_length, hP] at hb
        rw [List.take_length]
        generalize hS : lnF L (1 + i) Pn (setsF a s) = st at *
        refine w_drop (ev_app (p := l) (rs := (L.map frac).map Val.d) ?_)
        walk_at "go"
        refine ⟨rfl, put_same, ?_⟩
        walk_at "go"
        rw [List.length_map, hP]
        have ed : (Pn : Int) - (st.2 : Int) = ((Pn - st.2 : Nat) : Int) := by omega
        rw [ed]
        have hbd : Bt ((Pn - st.2 : Nat) : Int) 8 := bt_lit (n := 8) (by show _ < 256; omega) (by decide)
        refine o2_mulI (hb.2.cmul hbd (by decide)) ?_
        walk_at "go"
        refine ⟨Nat.mul_pos (den_pos _) (by omega), ?_, ?_⟩
        · rw [Int.natCast_mul]; exact (hb.2.mul hbd).mono (by decide)
        refine ⟨put_same, by rw [List.length_map, List.length_map, hpl]; omega, ?_, _, _, _, _, _, rfl⟩
        rw [put_put, lpF, hL, hP, hS, List.map_append, List.map_append]
        rfl
    · rintro r' m' ⟨rfl, y4, y5, y6, y7, y8, rfl⟩
      refine w_freeze (i := 3) rfl put_same ?_
      rw [del_put hl]
      walk_at "go"
      have heq1 : lpF a s a = paperF a s a := heq ⟨a, by omega⟩ (Nat.le_refl a)
      rw [heq1]
      exact q

abbrev s_is_pack_paper : Stmt := topS 18
theorem sc_is_pack_paper : FnScope ["thing", "many", "size", "one"] ["thing", "many", "size"] (defScope s_is_pack_paper) := ⟨rfl, rfl, rfl, by decide +kernel, rfl, by decide +kernel, by decide +kernel⟩
theorem ok_is_pack_paper {a : Addr} {fd : FuncData} (F : Fun K "is_pack_paper" "is_pack_paper" s_is_pack_paper a fd) (hm : mg "is_pack_paper" = some (.ref a)) (z_all : mg "all" = none) (z_isinstance : mg "isinstance" = none) (z_list : mg "list" = none) (k_need_pack : Cl P w K mg base 3 "need_pack" f_needPack) (k_paper_of : Cl P w K mg base 4 "paper_of" f_paperOf) (k_is_fraction : Cl P w K mg base 3 "is_fraction" f_isFrac) :
    Cl P w K mg base 5 "is_pack_paper" f_isPackX := by
  refine ⟨a, fd, ["thing", "many", "size"], fn_ok F sc_is_pack_paper (fun args m R h => ?_) (fun cdv A outer s H E hr => ⟨_, (pss_cons (ps_expr (pe_cl k_need_pack hr (by decide) (by rfl) (pa_cons (pv 1) (pa_cons (pv 2) pa_nil))))
      (pss_one (ps_ret (pe_and (pe_callB (kIsi K) (by rfl) z_isinstance (by decide +kernel) (pa_cons (pv 0) (pa_cons (pe_bltn (v := .ty "list") (by rfl) z_list (by decide +kernel) rfl) pa_nil))) (pe_and (pe_callB (kAll K) (by rfl) z_all (by decide +kernel) (pa_cons (pe_lc (own := [("one", 3)]) rfl sc_is_pack_paper.nd (kiL K (pv 0)) (blkOk_by (own := [("one", 3)]) (N := ["thing", "many", "size", "one"]) (sc := defScope s_is_pack_paper) (by decide +kernel)) (fun _ _ _ _ _ => (pg_name (i := 3) sc_is_pack_paper.nd rfl (by first | exact Or.inl rfl | exact Or.inr rfl))) (fun _ _ _ _ _ => pts_nil) (fun _ _ _ _ _ => (pe_cl k_is_fraction hr (by decide) (by rfl) (pa_cons (pv 3) pa_nil)))) pa_nil)) (pe_one (pe_cmpR (kEq K hr) (pv 0) (pe_cl k_paper_of hr (by decide) (by rfl) (pa_cons (pv 1) (pa_cons (pv 2) pa_nil))) (nomark _)))))))), fun args m R h => ?_⟩), hm, F.kp, F.binds (ps := ["thing", "many", "size"]) fun _ _ _ _ _ _ us hl => match us, hl with | [_, _, _], _ => rfl⟩
  ·
    obtain ⟨_, _, _, rfl, _⟩ := h; rfl
  ·
    obtain ⟨a, s, x, rfl, hp, ⟨_, hx⟩, q⟩ := h
    have h5 := hp.2.1
    walk_at "go"
    refine ⟨hp, ?_⟩
    walk_at "go"
    by_cases hl : ∃ ds, x = .list ds
    · obtain ⟨ds, rfl⟩ := hl
      obtain ⟨hi, hn⟩ := hx ds rfl
      refine br_t rfl ?_
      walk_at "go"
      refine ev_mapLf (xs := ds) (f := fun d => d) ?_ (by omega) (fun d => .bool (isFrac d)) (fun d m2 hd hxx => ?_) ?_
      · walk_at "go"
        exact ⟨by rw [List.map_id'], rfl⟩
      · walk_at "go"
        exact ⟨hi d hd, rfl, rfl⟩
      rw [show (ds.map fun d => PyData.bool (isFrac d)) = (ds.map isFrac).map PyData.bool by rw [List.map_map]; rfl]
      refine eva_nil (on_all ?_)
      rw [show (ds.map isFrac).all id = ds.all isFrac by rw [List.all_map]; rfl]
      walk_at "go"
      cases hf : ds.all isFrac with
      | false =>
        refine br_f rfl ?_
        have e : isPP (ppL a s) (.list ds) = false := by rw [isPP, hf]; rfl
        rw [e] at q
        exact q
      | true =>
        refine br_t rfl ?_
        obtain ⟨qs, rfl⟩ := fracs_of hf
        refine ev_forget ?_
        walk_at "go"
        refine ⟨hp, fun p hpn => ?_⟩
        refine o2_eqDL put_same (shaped_frs _) (shaped_frs _) ?_
        refine ⟨m, put_less hpn, ?_⟩
        have e : isPP (ppL a s) (.list (qs.map frac)) = PyData.eqv (.list (qs.map frac)) (.list ((paperF a s a).map frac)) := by rw [isPP, hf, Bool.true_and]; rfl
        rw [e] at q
        exact q
    · have hf : isLst x = false := by cases x <;> first | rfl | exact absurd ⟨_, rfl⟩ hl
      have e : isPP (ppL a s) x = false := by cases x <;> first | rfl | exact absurd ⟨_, rfl⟩ hl
      refine br_f hf ?_
      rw [e] at q
      exact q

abbrev s_law : Stmt := topS 33
theorem sc_law : FnScope ["_law_script", "_law_k", "_law_box_here", "_law_many", "_law_size", "_law_paper", "_law_odd_here", "_law_things", "_law_thing", "_law_as_it_was", "_law_due", "_law_lap"] ["_law_script"] (defScope s_law) := ⟨rfl, rfl, rfl, by decide +kernel, rfl, by decide +kernel, by decide +kernel⟩
theorem ok_law {a : Addr} {fd : FuncData} (F : Fun K "law" "law" s_law a fd) (z_range : mg "range" = none) (z_max : mg "max" = none) (z_min : mg "min" = none) (z_len : mg "len" = none) (z_repr : mg "repr" = none) (k__law_box : Cl P w K mg base 2 "_law_box" f_box) (k__law_take : Cl P w K mg base 1 "_law_take" f_take) (k__law_pack_paper : Cl P w K mg base 4 "_law_pack_paper" f_lawPackPaper) (k__law_odd : Cl P w K mg base 2 "_law_odd" f_odd) (k__law_bent : Cl P w K mg base 2 "_law_bent" f_bent33) (k__law_truth : Cl P w K mg base 1 "_law_truth" f_truth) (k_is_pack_paper : Cl P w K mg base 5 "is_pack_paper" f_isPackX) (hsy : SysAt base) :
    FnG P w K mg base 6 a fd ["_law_script"] (spD K f_law) := by
  refine fnG_ok F sc_law (fun args m R h => ?_) (fun cdv A outer s H E hg hr => ⟨_, (pss_cons (ps_for PassesOwn.never rfl (pi_range1 (by rfl) z_range (pa_cons (pe_callB (cMax rfl) (by rfl) z_max (by decide +kernel) (pa_cons pe_int (pa_cons (pe_callB (cMin rfl) (by rfl) z_min (by decide +kernel) (pa_cons (pe_callB (kLen K) (by rfl) z_len (by decide +kernel) (pa_cons (pv 0) pa_nil)) (pa_cons pe_int pa_nil))) pa_nil))) pa_nil)) (pg_name (i := 1) sc_law.nd rfl (by first | exact Or.inl rfl | exact Or.inr rfl)) (pss_cons (ps_set (i := 2) sc_law.nd rfl (by first | exact Or.inl rfl | exact Or.inr rfl) (pe_cl k__law_box hr (by decide) (by rfl) (pa_cons (pv 0) (pa_cons (pv 1) pa_nil))))
      (pss_cons (ps_set (i := 3) sc_law.nd rfl (by first | exact Or.inl rfl | exact Or.inr rfl) (pe_op (kAdd K) pe_int (pe_cl k__law_take hr (by decide) (by rfl) (pa_cons (pv 2) (pa_cons pe_int pa_nil)))))
      (pss_cons (ps_set (i := 4) sc_law.nd rfl (by first | exact Or.inl rfl | exact Or.inr rfl) (pe_op (kAdd K) pe_int (pe_cl k__law_take hr (by decide) (by rfl) (pa_cons (pv 2) (pa_cons (pe_callB (cMin rfl) (by rfl) z_min (by decide +kernel) (pa_cons (pv 3) (pa_cons pe_int pa_nil))) pa_nil)))))
      (pss_cons (ps_set (i := 5) sc_law.nd rfl (by first | exact Or.inl rfl | exact Or.inr rfl) (pe_cl k__law_pack_paper hr (by decide) (by rfl) (pa_cons (pv 3) (pa_cons (pv 4) pa_nil))))
      (pss_cons (ps_set (i := 6) sc_law.nd rfl (by first | exact Or.inl rfl | exact Or.inr rfl) (pe_cl k__law_odd hr (by decide) (by rfl) (pa_cons (pv 2) pa_nil)))
      (pss_cons (ps_set (i := 7) sc_law.nd rfl (by first | exact Or.inl rfl | exact Or.inr rfl) (pe_lst (pa_cons (pv 5) (pa_cons (pv 6) (pa_cons (pe_cl k__law_pack_paper hr (by decide) (by rfl) (pa_cons (pv 3) (pa_cons pe_int pa_nil))) (pa_cons (pe_slice (kSlL K) (pv 5) po_none (po_some (pe_un oNeg pe_int))) (pa_cons (pe_lst pa_nil) pa_nil)))))))
      (pss_one (ps_for PassesOwn.never rfl (kiL K (pe_op (kAdd K) (pv 7) (pe_lc (own := [("_law_lap", 11)]) rfl sc_law.nd (pi_range1 (by rfl) z_range (pa_cons pe_int pa_nil)) (blkOk_by (own := [("_law_lap", 11)]) (N := ["_law_script", "_law_k", "_law_box_here", "_law_many", "_law_size", "_law_paper", "_law_odd_here", "_law_things", "_law_thing", "_law_as_it_was", "_law_due", "_law_lap"]) (sc := defScope s_law) (by decide +kernel)) (fun _ _ _ _ _ => (pg_name (i := 11) sc_law.nd rfl (by first | exact Or.inl rfl | exact Or.inr rfl))) (fun _ _ _ _ _ => pts_nil) (fun _ _ _ _ _ => (pe_cl k__law_bent hr (by decide) (by rfl) (pa_cons (pv 2) (pa_cons (pv 5) (pa_cons (pv 6) pa_nil)))))))) (pg_name (i := 8) sc_law.nd rfl (by first | exact Or.inl rfl | exact Or.inr rfl)) (pss_cons (ps_set (i := 9) sc_law.nd rfl (by first | exact Or.inl rfl | exact Or.inr rfl) (pe_callB (kReprA K hr hg hsy) (by rfl) z_repr (by decide +kernel) (pa_cons (pv 8) pa_nil)))
      (pss_cons (ps_set (i := 10) sc_law.nd rfl (by first | exact Or.inl rfl | exact Or.inr rfl) (pe_cmpR (kEq K hr) (pv 9) (pe_callB (kReprA K hr hg hsy) (by rfl) z_repr (by decide +kernel) (pa_cons (pv 5) pa_nil)) (nomark _)))
      (pss_one (ps_if (PW.pt (pw_or (pt_not (pt_val (pe_cl k__law_truth hr (by decide) (by rfl) (pa_cons (pe_cl k_is_pack_paper hr (by decide) (by rfl) (pa_cons (pv 8) (pa_cons (pv 3) (pa_cons (pv 4) pa_nil)))) (pa_cons (pv 10) pa_nil))))) (pw_or1 (pt_cmpR (kNe K hr) (pe_callB (kReprA K hr hg hsy) (by rfl) z_repr (by decide +kernel) (pa_cons (pv 8) pa_nil)) (pv 9) (nomark _))))) (pss_one (ps_ret pe_bl)) pss_nil)))))))))))))
      (pss_one (ps_ret pe_bl))), fun args m R h => ?_⟩)
  ·
    obtain ⟨_, rfl, _⟩ := h; rfl
  ·
    obtain ⟨ns, rfl, q⟩ := h
    walk_at "go"
    obtain ⟨n, hn, hn6⟩ : ∃ n : Nat, max (1 : Int) (min (ns.length : Int) 4) = (n : Int) ∧ n ≤ 4 := ⟨(max (1 : Int) (min (ns.length : Int) 4)).toNat, by omega, by omega⟩
    
    refine w_forR1 (n := n) ?_ (by omega) (fun i r' m' => ∃ y1 y2 y3 y4 y5 y6 y7 y8 y9 y10 y11, r' = [.scr ns, y1, y2, y3, y4, y5, y6, y7, y8, y9, y10, y11]) ⟨_, _, _, _, _, _, _, _, _, _, _, rfl⟩ ?_ ?_
    · walk_at "go"
      exact ⟨by rw [hn], rfl⟩
    · rintro i r' m' hi ⟨y1, y2, y3, y4, y5, y6, y7, y8, y9, y10, y11, rfl⟩
      walk_at "go"
      intro p hp
      have hpb := put_same (m := m') (a := p) (o := .box)
      generalize put m' p .box = M at *
      walk_at "go"
      refine ⟨hpb, by decide, bt_lit (n := 3) (by decide) (by decide), fun z hz0 hz1 => ?_⟩
      obtain ⟨a, ha⟩ : ∃ k : Nat, 1 + z = (k : Int) := ⟨(1 + z).toNat, by omega⟩
      walk_at "go"
      rw [ha]
      refine ⟨hpb, by omega, bt_lit (n := 3) (by show _ < 8; omega) (by decide), fun u hu0 hu1 => ?_⟩
      obtain ⟨s, hs⟩ : ∃ k : Nat, 1 + u = (k : Int) := ⟨(1 + u).toNat, by omega⟩
      walk_at "go"
      rw [hs]
      have hpk : Pk a s := by unfold Pk; omega
      have hp1 : Pk a 1 := by unfold Pk; omega
      have h5 := hpk.2.1
      refine ⟨a, s, rfl, hpk, ?_⟩
      walk_at "go"
      refine ⟨hpb, fun o ho => ?_⟩
      have hl := pp_len a s
      have hit := pp_oki hpk
      have kp : OkX (.list (ppL a s)) := okx_list hit (by omega)
      refine w_seq (w_asg (ev_lstD ?_))
      walk_at "go"
      refine ⟨hp1, ?_⟩
      walk_at "go"
      refine ev_lstD (eva_nil ⟨[], rfl, by decide, ?_⟩)
      walk_at "go"
      refine ⟨[.list (ppL a s), o, .list (ppL a 1), .list (cutD (ppL a s) none (some (-1))), .list []], rfl, by show 5 ≤ 100000; decide, ?_⟩
      have k0 : ∀ d ∈ [PyData.list (ppL a s), o, .list (ppL a 1), .list (cutD (ppL a s) none (some (-1))), .list []], OkX d := fun d hd => by
        simp only [List.mem_cons, List.not_mem_nil, or_false] at hd
        rcases hd with rfl | rfl | rfl | rfl | rfl
        · exact kp
        · exact okx_odd ho
        · exact okx_list (pp_oki hp1) (by rw [pp_len]; omega)
        · exact okx_list (fun d hd => hit d (cutD_mem hd)) (Nat.le_trans (cutD_len _ _ _) (by omega))
        · exact okx_list (fun d hd => nomatch hd) (by decide)
      refine w_forLA (fun ds => ∀ d ∈ ds, OkX d) ?_ (fun _ _ r2 m2 => m2 = M ∧ ∃ y7 y8 y9 y10 y11, r2 = [.scr ns, .d (.int (i : Int)), .v (.ref p), .d (.int (a : Int)), .d (.int (s : Int)), .d (.list (ppL a s)), .d o, y7, y8, y9, y10, y11]) (fun ds _ => ⟨rfl, _, _, _, _, _, rfl⟩) ?_ ?_
      · refine ev_op (ev_var rfl (fun h => nomatch h) ?_)
        refine ev_lcR1 (n := 6) ?_ (by decide) (fun j acc => acc.length = j ∧ ∀ d ∈ acc, OkX d) ⟨rfl, fun _ z => nomatch z⟩ ?_ ?_
        · walk_at "go"
          exact ⟨rfl, rfl⟩
        · rintro j m3 acc hj hx ⟨hal, hacc⟩
          refine evt_yes ⟨rfl, fun _ => ?_, (fun g => nomatch g)⟩
          walk_at "go"
          refine ⟨p, a, s, o, rfl, hx _ _ hpb, hpk, fun i2 j2 x hi2 hj2 hx2 => ⟨rfl, x, rfl, ?_, ?_⟩⟩
          · rw [List.length_append, hal]; rfl
          · intro d hd
            rcases List.mem_append.mp hd with hd | hd
            · exact hacc d hd
            · rw [List.mem_singleton.mp hd]; exact bent_ok hpk hi2 hj2 ho hx2
        · rintro acc ⟨hal, hacc⟩
          refine o2_addL (by show 5 + acc.length ≤ 100000; omega) ⟨rfl, _, rfl, fun d hd => ?_⟩
          rcases List.mem_append.mp hd with hd | hd
          · exact k0 d hd
          · exact hacc d hd
      · rintro ds j d r2 m2 hds hd ⟨rfl, y7, y8, y9, y10, y11, rfl⟩
        have hok := hds d (List.mem_of_getElem? hd)
        walk_at "go"
        refine on_showN hok.1 ?_
        walk_at "go"
        refine on_showN kp.1 ?_
        walk_at "go"
        refine ⟨a, s, d, rfl, hpk, hok, ?_⟩
        walk_at "go"
        rw [show isPP (ppL a s) d = decide (d.shown = (PyData.list (ppL a s)).shown) from isPP_shown _ _]
        rw [decide_eq_true rfl]
        refine br_f rfl ?_
        walk_at "go"
        refine on_showN hok.1 ?_
        walk_at "go"
        refine br_f (by simp) (w_next ?_)
        exact ⟨rfl, _, _, _, _, _, rfl⟩
      · rintro ds r2 m2 _ ⟨rfl, y7, y8, y9, y10, y11, rfl⟩
        exact ⟨_, _, _, _, _, _, _, _, _, _, _, rfl⟩
    · rintro r' m' ⟨y1, y2, y3, y4, y5, y6, y7, y8, y9, y10, y11, rfl⟩
      walk_at "go"
      exact q _

end
theorem law_ends : ∀ ns : List Int, ns.length ≤ 63 → (∀ z ∈ ns, Builtin.Int.intBits z ≤ 1048576) → f_law [.scr ns] (fun _ => none) fun y _ => y = .d (.bool true) := fun ns _ _ => ⟨ns, rfl, fun _ => rfl⟩
section
variable {P : Program} {w : World} {K : PySem.W.Frag} {mg : Str → Option Value}
theorem all_mk {h : Heap} {fa : Addr} (X : K.In h) (G : h.Ns mainGlobals mg) (hfa : mg "law" = some (.ref fa))
    {od1 an1 : Option Addr} {sl1 : Array (Option Value)} {f1 : Addr} {oc1 kV1 dc1 pm1 cd1 ct1 : Value}
    (a1 : PySem.W.nsIn K mainGlobals "is_whole" = some (some (.ref f1))) (l1 : K.lookup f1 = some ⟨oc1, od1, .func (PySem.W.fnOf "is_whole" "is_whole" (defArgs s_is_whole) (defBody s_is_whole) (defScope s_is_whole) .none kV1 dc1 pm1 an1 cd1 ct1), sl1⟩) (c1 : PySem.W.codeIn K cd1 "is_whole" = true) (k1 : PySem.W.keepIn K (.ref f1) = true)
    {od2 an2 : Option Addr} {sl2 : Array (Option Value)} {f2 : Addr} {oc2 kV2 dc2 pm2 cd2 ct2 : Value}
    (a2 : PySem.W.nsIn K mainGlobals "greatest_common" = some (some (.ref f2))) (l2 : K.lookup f2 = some ⟨oc2, od2, .func (PySem.W.fnOf "greatest_common" "greatest_common" (defArgs s_greatest_common) (defBody s_greatest_common) (defScope s_greatest_common) .none kV2 dc2 pm2 an2 cd2 ct2), sl2⟩) (c2 : PySem.W.codeIn K cd2 "greatest_common" = true) (k2 : PySem.W.keepIn K (.ref f2) = true)
    {od3 an3 : Option Addr} {sl3 : Array (Option Value)} {f3 : Addr} {oc3 kV3 dc3 pm3 cd3 ct3 : Value}
    (a3 : PySem.W.nsIn K mainGlobals "choices" = some (some (.ref f3))) (l3 : K.lookup f3 = some ⟨oc3, od3, .func (PySem.W.fnOf "choices" "choices" (defArgs s_choices) (defBody s_choices) (defScope s_choices) .none kV3 dc3 pm3 an3 cd3 ct3), sl3⟩) (c3 : PySem.W.codeIn K cd3 "choices" = true) (k3 : PySem.W.keepIn K (.ref f3) = true)
    {od4 an4 : Option Addr} {sl4 : Array (Option Value)} {f4 : Addr} {oc4 kV4 dc4 pm4 cd4 ct4 : Value}
    (a4 : PySem.W.nsIn K mainGlobals "_law_cell" = some (some (.ref f4))) (l4 : K.lookup f4 = some ⟨oc4, od4, .func (PySem.W.fnOf "_law_cell" "_law_cell" (defArgs s__law_cell) (defBody s__law_cell) (defScope s__law_cell) .none kV4 dc4 pm4 an4 cd4 ct4), sl4⟩) (c4 : PySem.W.codeIn K cd4 "_law_cell" = true) (k4 : PySem.W.keepIn K (.ref f4) = true)
    {od5 an5 : Option Addr} {sl5 : Array (Option Value)} {f5 : Addr} {oc5 kV5 dc5 pm5 cd5 ct5 : Value}
    (a5 : PySem.W.nsIn K mainGlobals "_law_mix" = some (some (.ref f5))) (l5 : K.lookup f5 = some ⟨oc5, od5, .func (PySem.W.fnOf "_law_mix" "_law_mix" (defArgs s__law_mix) (defBody s__law_mix) (defScope s__law_mix) .none kV5 dc5 pm5 an5 cd5 ct5), sl5⟩) (c5 : PySem.W.codeIn K cd5 "_law_mix" = true) (k5 : PySem.W.keepIn K (.ref f5) = true)
    {od6 an6 : Option Addr} {sl6 : Array (Option Value)} {f6 : Addr} {oc6 kV6 dc6 pm6 cd6 ct6 : Value}
    (a6 : PySem.W.nsIn K mainGlobals "_law_take" = some (some (.ref f6))) (l6 : K.lookup f6 = some ⟨oc6, od6, .func (PySem.W.fnOf "_law_take" "_law_take" (defArgs s__law_take) (defBody s__law_take) (defScope s__law_take) .none kV6 dc6 pm6 an6 cd6 ct6), sl6⟩) (c6 : PySem.W.codeIn K cd6 "_law_take" = true) (k6 : PySem.W.keepIn K (.ref f6) = true)
    {od7 an7 : Option Addr} {sl7 : Array (Option Value)} {f7 : Addr} {oc7 kV7 dc7 pm7 cd7 ct7 : Value}
    (a7 : PySem.W.nsIn K mainGlobals "_law_truth" = some (some (.ref f7))) (l7 : K.lookup f7 = some ⟨oc7, od7, .func (PySem.W.fnOf "_law_truth" "_law_truth" (defArgs s__law_truth) (defBody s__law_truth) (defScope s__law_truth) .none kV7 dc7 pm7 an7 cd7 ct7), sl7⟩) (c7 : PySem.W.codeIn K cd7 "_law_truth" = true) (k7 : PySem.W.keepIn K (.ref f7) = true)
    {od8 an8 : Option Addr} {sl8 : Array (Option Value)} {f8 : Addr} {oc8 kV8 dc8 pm8 cd8 ct8 : Value}
    (a8 : PySem.W.nsIn K mainGlobals "_law_common" = some (some (.ref f8))) (l8 : K.lookup f8 = some ⟨oc8, od8, .func (PySem.W.fnOf "_law_common" "_law_common" (defArgs s__law_common) (defBody s__law_common) (defScope s__law_common) .none kV8 dc8 pm8 an8 cd8 ct8), sl8⟩) (c8 : PySem.W.codeIn K cd8 "_law_common" = true) (k8 : PySem.W.keepIn K (.ref f8) = true)
    {od9 an9 : Option Addr} {sl9 : Array (Option Value)} {f9 : Addr} {oc9 kV9 dc9 pm9 cd9 ct9 : Value}
    (a9 : PySem.W.nsIn K mainGlobals "_law_all_some" = some (some (.ref f9))) (l9 : K.lookup f9 = some ⟨oc9, od9, .func (PySem.W.fnOf "_law_all_some" "_law_all_some" (defArgs s__law_all_some) (defBody s__law_all_some) (defScope s__law_all_some) .none kV9 dc9 pm9 an9 cd9 ct9), sl9⟩) (c9 : PySem.W.codeIn K cd9 "_law_all_some" = true) (k9 : PySem.W.keepIn K (.ref f9) = true)
    {od10 an10 : Option Addr} {sl10 : Array (Option Value)} {f10 : Addr} {oc10 kV10 dc10 pm10 cd10 ct10 : Value}
    (a10 : PySem.W.nsIn K mainGlobals "made" = some (some (.ref f10))) (l10 : K.lookup f10 = some ⟨oc10, od10, .func (PySem.W.fnOf "made" "made" (defArgs s_made) (defBody s_made) (defScope s_made) .none kV10 dc10 pm10 an10 cd10 ct10), sl10⟩) (c10 : PySem.W.codeIn K cd10 "made" = true) (k10 : PySem.W.keepIn K (.ref f10) = true)
    {od11 an11 : Option Addr} {sl11 : Array (Option Value)} {f11 : Addr} {oc11 kV11 dc11 pm11 cd11 ct11 : Value}
    (a11 : PySem.W.nsIn K mainGlobals "need_number" = some (some (.ref f11))) (l11 : K.lookup f11 = some ⟨oc11, od11, .func (PySem.W.fnOf "need_number" "need_number" (defArgs s_need_number) (defBody s_need_number) (defScope s_need_number) .none kV11 dc11 pm11 an11 cd11 ct11), sl11⟩) (c11 : PySem.W.codeIn K cd11 "need_number" = true) (k11 : PySem.W.keepIn K (.ref f11) = true)
    {od12 an12 : Option Addr} {sl12 : Array (Option Value)} {f12 : Addr} {oc12 kV12 dc12 pm12 cd12 ct12 : Value}
    (a12 : PySem.W.nsIn K mainGlobals "_law_box" = some (some (.ref f12))) (l12 : K.lookup f12 = some ⟨oc12, od12, .func (PySem.W.fnOf "_law_box" "_law_box" (defArgs s__law_box) (defBody s__law_box) (defScope s__law_box) .none kV12 dc12 pm12 an12 cd12 ct12), sl12⟩) (c12 : PySem.W.codeIn K cd12 "_law_box" = true) (k12 : PySem.W.keepIn K (.ref f12) = true)
    {od13 an13 : Option Addr} {sl13 : Array (Option Value)} {f13 : Addr} {oc13 kV13 dc13 pm13 cd13 ct13 : Value}
    (a13 : PySem.W.nsIn K mainGlobals "_law_made" = some (some (.ref f13))) (l13 : K.lookup f13 = some ⟨oc13, od13, .func (PySem.W.fnOf "_law_made" "_law_made" (defArgs s__law_made) (defBody s__law_made) (defScope s__law_made) .none kV13 dc13 pm13 an13 cd13 ct13), sl13⟩) (c13 : PySem.W.codeIn K cd13 "_law_made" = true) (k13 : PySem.W.keepIn K (.ref f13) = true)
    {od14 an14 : Option Addr} {sl14 : Array (Option Value)} {f14 : Addr} {oc14 kV14 dc14 pm14 cd14 ct14 : Value}
    (a14 : PySem.W.nsIn K mainGlobals "_law_odd" = some (some (.ref f14))) (l14 : K.lookup f14 = some ⟨oc14, od14, .func (PySem.W.fnOf "_law_odd" "_law_odd" (defArgs s__law_odd) (defBody s__law_odd) (defScope s__law_odd) .none kV14 dc14 pm14 an14 cd14 ct14), sl14⟩) (c14 : PySem.W.codeIn K cd14 "_law_odd" = true) (k14 : PySem.W.keepIn K (.ref f14) = true)
    {od15 an15 : Option Addr} {sl15 : Array (Option Value)} {f15 : Addr} {oc15 kV15 dc15 pm15 cd15 ct15 : Value}
    (a15 : PySem.W.nsIn K mainGlobals "_law_sets" = some (some (.ref f15))) (l15 : K.lookup f15 = some ⟨oc15, od15, .func (PySem.W.fnOf "_law_sets" "_law_sets" (defArgs s__law_sets) (defBody s__law_sets) (defScope s__law_sets) .none kV15 dc15 pm15 an15 cd15 ct15), sl15⟩) (c15 : PySem.W.codeIn K cd15 "_law_sets" = true) (k15 : PySem.W.keepIn K (.ref f15) = true)
    {od16 an16 : Option Addr} {sl16 : Array (Option Value)} {f16 : Addr} {oc16 kV16 dc16 pm16 cd16 ct16 : Value}
    (a16 : PySem.W.nsIn K mainGlobals "_law_bent" = some (some (.ref f16))) (l16 : K.lookup f16 = some ⟨oc16, od16, .func (PySem.W.fnOf "_law_bent" "_law_bent" (defArgs s__law_bent) (defBody s__law_bent) (defScope s__law_bent) .none kV16 dc16 pm16 an16 cd16 ct16), sl16⟩) (c16 : PySem.W.codeIn K cd16 "_law_bent" = true) (k16 : PySem.W.keepIn K (.ref f16) = true)
    {od17 an17 : Option Addr} {sl17 : Array (Option Value)} {f17 : Addr} {oc17 kV17 dc17 pm17 cd17 ct17 : Value}
    (a17 : PySem.W.nsIn K mainGlobals "is_fraction" = some (some (.ref f17))) (l17 : K.lookup f17 = some ⟨oc17, od17, .func (PySem.W.fnOf "is_fraction" "is_fraction" (defArgs s_is_fraction) (defBody s_is_fraction) (defScope s_is_fraction) .none kV17 dc17 pm17 an17 cd17 ct17), sl17⟩) (c17 : PySem.W.codeIn K cd17 "is_fraction" = true) (k17 : PySem.W.keepIn K (.ref f17) = true)
    {od18 an18 : Option Addr} {sl18 : Array (Option Value)} {f18 : Addr} {oc18 kV18 dc18 pm18 cd18 ct18 : Value}
    (a18 : PySem.W.nsIn K mainGlobals "sum_of" = some (some (.ref f18))) (l18 : K.lookup f18 = some ⟨oc18, od18, .func (PySem.W.fnOf "sum_of" "sum_of" (defArgs s_sum_of) (defBody s_sum_of) (defScope s_sum_of) .none kV18 dc18 pm18 an18 cd18 ct18), sl18⟩) (c18 : PySem.W.codeIn K cd18 "sum_of" = true) (k18 : PySem.W.keepIn K (.ref f18) = true)
    {od19 an19 : Option Addr} {sl19 : Array (Option Value)} {f19 : Addr} {oc19 kV19 dc19 pm19 cd19 ct19 : Value}
    (a19 : PySem.W.nsIn K mainGlobals "times_of" = some (some (.ref f19))) (l19 : K.lookup f19 = some ⟨oc19, od19, .func (PySem.W.fnOf "times_of" "times_of" (defArgs s_times_of) (defBody s_times_of) (defScope s_times_of) .none kV19 dc19 pm19 an19 cd19 ct19), sl19⟩) (c19 : PySem.W.codeIn K cd19 "times_of" = true) (k19 : PySem.W.keepIn K (.ref f19) = true)
    {od20 an20 : Option Addr} {sl20 : Array (Option Value)} {f20 : Addr} {oc20 kV20 dc20 pm20 cd20 ct20 : Value}
    (a20 : PySem.W.nsIn K mainGlobals "need_pack" = some (some (.ref f20))) (l20 : K.lookup f20 = some ⟨oc20, od20, .func (PySem.W.fnOf "need_pack" "need_pack" (defArgs s_need_pack) (defBody s_need_pack) (defScope s_need_pack) .none kV20 dc20 pm20 an20 cd20 ct20), sl20⟩) (c20 : PySem.W.codeIn K cd20 "need_pack" = true) (k20 : PySem.W.keepIn K (.ref f20) = true)
    {od21 an21 : Option Addr} {sl21 : Array (Option Value)} {f21 : Addr} {oc21 kV21 dc21 pm21 cd21 ct21 : Value}
    (a21 : PySem.W.nsIn K mainGlobals "_law_plus" = some (some (.ref f21))) (l21 : K.lookup f21 = some ⟨oc21, od21, .func (PySem.W.fnOf "_law_plus" "_law_plus" (defArgs s__law_plus) (defBody s__law_plus) (defScope s__law_plus) .none kV21 dc21 pm21 an21 cd21 ct21), sl21⟩) (c21 : PySem.W.codeIn K cd21 "_law_plus" = true) (k21 : PySem.W.keepIn K (.ref f21) = true)
    {od22 an22 : Option Addr} {sl22 : Array (Option Value)} {f22 : Addr} {oc22 kV22 dc22 pm22 cd22 ct22 : Value}
    (a22 : PySem.W.nsIn K mainGlobals "paper_of" = some (some (.ref f22))) (l22 : K.lookup f22 = some ⟨oc22, od22, .func (PySem.W.fnOf "paper_of" "paper_of" (defArgs s_paper_of) (defBody s_paper_of) (defScope s_paper_of) .none kV22 dc22 pm22 an22 cd22 ct22), sl22⟩) (c22 : PySem.W.codeIn K cd22 "paper_of" = true) (k22 : PySem.W.keepIn K (.ref f22) = true)
    {od23 an23 : Option Addr} {sl23 : Array (Option Value)} {f23 : Addr} {oc23 kV23 dc23 pm23 cd23 ct23 : Value}
    (a23 : PySem.W.nsIn K mainGlobals "_law_pack_paper" = some (some (.ref f23))) (l23 : K.lookup f23 = some ⟨oc23, od23, .func (PySem.W.fnOf "_law_pack_paper" "_law_pack_paper" (defArgs s__law_pack_paper) (defBody s__law_pack_paper) (defScope s__law_pack_paper) .none kV23 dc23 pm23 an23 cd23 ct23), sl23⟩) (c23 : PySem.W.codeIn K cd23 "_law_pack_paper" = true) (k23 : PySem.W.keepIn K (.ref f23) = true)
    {od24 an24 : Option Addr} {sl24 : Array (Option Value)} {f24 : Addr} {oc24 kV24 dc24 pm24 cd24 ct24 : Value}
    (a24 : PySem.W.nsIn K mainGlobals "is_pack_paper" = some (some (.ref f24))) (l24 : K.lookup f24 = some ⟨oc24, od24, .func (PySem.W.fnOf "is_pack_paper" "is_pack_paper" (defArgs s_is_pack_paper) (defBody s_is_pack_paper) (defScope s_is_pack_paper) .none kV24 dc24 pm24 an24 cd24 ct24), sl24⟩) (c24 : PySem.W.codeIn K cd24 "is_pack_paper" = true) (k24 : PySem.W.keepIn K (.ref f24) = true)
    {od25 an25 : Option Addr} {sl25 : Array (Option Value)} {f25 : Addr} {oc25 kV25 dc25 pm25 cd25 ct25 : Value}
    (a25 : PySem.W.nsIn K mainGlobals "law" = some (some (.ref f25))) (l25 : K.lookup f25 = some ⟨oc25, od25, .func (PySem.W.fnOf "law" "law" (defArgs s_law) (defBody s_law) (defScope s_law) .none kV25 dc25 pm25 an25 cd25 ct25), sl25⟩) (c25 : PySem.W.codeIn K cd25 "law" = true) (k25 : PySem.W.keepIn K (.ref f25) = true)
    (z_abs : PySem.W.nsIn K mainGlobals "abs" = some none)
    (z_all : PySem.W.nsIn K mainGlobals "all" = some none)
    (z_bool : PySem.W.nsIn K mainGlobals "bool" = some none)
    (z_divmod : PySem.W.nsIn K mainGlobals "divmod" = some none)
    (z_int : PySem.W.nsIn K mainGlobals "int" = some none)
    (z_isinstance : PySem.W.nsIn K mainGlobals "isinstance" = some none)
    (z_len : PySem.W.nsIn K mainGlobals "len" = some none)
    (z_list : PySem.W.nsIn K mainGlobals "list" = some none)
    (z_max : PySem.W.nsIn K mainGlobals "max" = some none)
    (z_min : PySem.W.nsIn K mainGlobals "min" = some none)
    (z_range : PySem.W.nsIn K mainGlobals "range" = some none)
    (z_repr : PySem.W.nsIn K mainGlobals "repr" = some none)
    (z_tuple : PySem.W.nsIn K mainGlobals "tuple" = some none)
    {t_MOST_KINDS : Tok} (g_MOST_KINDS : PySem.W.nsIn K mainGlobals "MOST_KINDS" = some (some (.int 5 t_MOST_KINDS)))
    {t_MOST_SIZE : Tok} (g_MOST_SIZE : PySem.W.nsIn K mainGlobals "MOST_SIZE" = some (some (.int 3 t_MOST_SIZE)))
    {p_NOUGHT : Addr} {e_NOUGHT : Option Addr} {q_NOUGHT : Array (Option Value)} {u_NOUGHT w_NOUGHT : Tok} {n_NOUGHT : Nat} (g_NOUGHT : PySem.W.nsIn K mainGlobals "NOUGHT" = some (some (.ref p_NOUGHT))) (o_NOUGHT : K.lookup p_NOUGHT = some ⟨.type "tuple", e_NOUGHT, .seq #[.int 0 u_NOUGHT, .int 1 w_NOUGHT] n_NOUGHT, q_NOUGHT⟩)
    : ∃ fd : FuncData, (∀ (s : Shared) (v : Value), BindsTo s fd ⟨[v], []⟩ [("_law_script", v)]) ∧ ∀ base : Heap, K.In base → base.Ns mainGlobals mg → SysAt base → FnG P w K mg base 6 fa fd ["_law_script"] (spD K f_law) := by
  have e := hfa.symm.trans (PySem.W.mg_of X G a25)
  cases e
  have y_abs := PySem.W.mg_none_of X G z_abs
  have y_all := PySem.W.mg_none_of X G z_all
  have y_bool := PySem.W.mg_none_of X G z_bool
  have y_divmod := PySem.W.mg_none_of X G z_divmod
  have y_int := PySem.W.mg_none_of X G z_int
  have y_isinstance := PySem.W.mg_none_of X G z_isinstance
  have y_len := PySem.W.mg_none_of X G z_len
  have y_list := PySem.W.mg_none_of X G z_list
  have y_max := PySem.W.mg_none_of X G z_max
  have y_min := PySem.W.mg_none_of X G z_min
  have y_range := PySem.W.mg_none_of X G z_range
  have y_repr := PySem.W.mg_none_of X G z_repr
  have y_tuple := PySem.W.mg_none_of X G z_tuple
  have x_MOST_KINDS : ∃ t, mg "MOST_KINDS" = some (.int 5 t) := ⟨_, PySem.W.mg_of X G g_MOST_KINDS⟩
  have x_MOST_SIZE : ∃ t, mg "MOST_SIZE" = some (.int 3 t) := ⟨_, PySem.W.mg_of X G g_MOST_SIZE⟩
  have x_NOUGHT : ∃ a, mg "NOUGHT" = some (.ref a) ∧ ∀ G, Rp K G (.tuple [.int 0, .int 1]) (.ref a) := ⟨_, PySem.W.mg_of X G g_NOUGHT, fun G => rp_tuple.mpr ⟨_, [V.int 0, V.int 1], rfl, Or.inr ⟨_, _, _, o_NOUGHT, rfl, rfl, (by show 2 ≤ sizeLine; decide), .cons ⟨_, rfl⟩ (.cons ⟨_, rfl⟩ .nil)⟩, rpa_ints [0, 1]⟩⟩
  have F1 := fun_mk (st := s_is_whole) l1 c1 k1
  have F2 := fun_mk (st := s_greatest_common) l2 c2 k2
  have F3 := fun_mk (st := s_choices) l3 c3 k3
  have F4 := fun_mk (st := s__law_cell) l4 c4 k4
  have F5 := fun_mk (st := s__law_mix) l5 c5 k5
  have F6 := fun_mk (st := s__law_take) l6 c6 k6
  have F7 := fun_mk (st := s__law_truth) l7 c7 k7
  have F8 := fun_mk (st := s__law_common) l8 c8 k8
  have F9 := fun_mk (st := s__law_all_some) l9 c9 k9
  have F10 := fun_mk (st := s_made) l10 c10 k10
  have F11 := fun_mk (st := s_need_number) l11 c11 k11
  have F12 := fun_mk (st := s__law_box) l12 c12 k12
  have F13 := fun_mk (st := s__law_made) l13 c13 k13
  have F14 := fun_mk (st := s__law_odd) l14 c14 k14
  have F15 := fun_mk (st := s__law_sets) l15 c15 k15
  have F16 := fun_mk (st := s__law_bent) l16 c16 k16
  have F17 := fun_mk (st := s_is_fraction) l17 c17 k17
  have F18 := fun_mk (st := s_sum_of) l18 c18 k18
  have F19 := fun_mk (st := s_times_of) l19 c19 k19
  have F20 := fun_mk (st := s_need_pack) l20 c20 k20
  have F21 := fun_mk (st := s__law_plus) l21 c21 k21
  have F22 := fun_mk (st := s_paper_of) l22 c22 k22
  have F23 := fun_mk (st := s__law_pack_paper) l23 c23 k23
  have F24 := fun_mk (st := s_is_pack_paper) l24 c24 k24
  have F25 := fun_mk (st := s_law) l25 c25 k25
  refine ⟨PySem.W.fnOf "law" "law" (defArgs s_law) (defBody s_law) (defScope s_law) .none kV25 dc25 pm25 an25 cd25 ct25, fun s v => .of_eq rfl, fun base _ _ hsy => ?_⟩
  have C1 : Cl P w K mg base 1 "is_whole" f_isWhole := ok_is_whole (P := P) (w := w) (base := base) F1 (PySem.W.mg_of X G a1) y_isinstance y_bool y_int
  have C2 : Cl P w K mg base 1 "greatest_common" f_gcd := ok_greatest_common (P := P) (w := w) (base := base) F2 (PySem.W.mg_of X G a2) 
  have C3 : Cl P w K mg base 1 "choices" f_choices := ok_choices (P := P) (w := w) (base := base) F3 (PySem.W.mg_of X G a3) y_range
  have C4 : Cl P w K mg base 1 "_law_cell" f_cell := ok__law_cell (P := P) (w := w) (base := base) F4 (PySem.W.mg_of X G a4) y_len
  have C5 : Cl P w K mg base 1 "_law_mix" f_mix := ok__law_mix (P := P) (w := w) (base := base) F5 (PySem.W.mg_of X G a5) 
  have C6 : Cl P w K mg base 1 "_law_take" f_take := ok__law_take (P := P) (w := w) (base := base) F6 (PySem.W.mg_of X G a6) y_divmod
  have C7 : Cl P w K mg base 1 "_law_truth" f_truth := ok__law_truth (P := P) (w := w) (base := base) F7 (PySem.W.mg_of X G a7) y_isinstance y_bool
  have C8 : Cl P w K mg base 1 "_law_common" f_gcd := ok__law_common (P := P) (w := w) (base := base) F8 (PySem.W.mg_of X G a8) 
  have C9 : Cl P w K mg base 1 "_law_all_some" f_lawAllSome := ok__law_all_some (P := P) (w := w) (base := base) F9 (PySem.W.mg_of X G a9) y_range
  have C10 : Cl P w K mg base 2 "made" f_made := ok_made (P := P) (w := w) (base := base) F10 (PySem.W.mg_of X G a10) y_abs C2
  have C11 : Cl P w K mg base 2 "need_number" f_needNumber := ok_need_number (P := P) (w := w) (base := base) F11 (PySem.W.mg_of X G a11) C1
  have C12 : Cl P w K mg base 2 "_law_box" f_box := ok__law_box (P := P) (w := w) (base := base) F12 (PySem.W.mg_of X G a12) y_abs y_range C4 C5
  have C13 : Cl P w K mg base 2 "_law_made" f_made := ok__law_made (P := P) (w := w) (base := base) F13 (PySem.W.mg_of X G a13) y_abs C8
  have C14 : Cl P w K mg base 2 "_law_odd" f_odd := ok__law_odd (P := P) (w := w) (base := base) F14 (PySem.W.mg_of X G a14) C6
  have C15 : Cl P w K mg base 2 "_law_sets" f_lawSets := ok__law_sets (P := P) (w := w) (base := base) F15 (PySem.W.mg_of X G a15) y_len C9
  have C16 : Cl P w K mg base 2 "_law_bent" f_bent33 := ok__law_bent (P := P) (w := w) (base := base) F16 (PySem.W.mg_of X G a16) y_len y_list y_tuple C6
  have C17 : Cl P w K mg base 3 "is_fraction" f_isFrac := ok_is_fraction (P := P) (w := w) (base := base) F17 (PySem.W.mg_of X G a17) y_len y_isinstance y_tuple C1 C10
  have C18 : Cl P w K mg base 3 "sum_of" f_sumOf := ok_sum_of (P := P) (w := w) (base := base) F18 (PySem.W.mg_of X G a18) C10
  have C19 : Cl P w K mg base 3 "times_of" f_timesOf := ok_times_of (P := P) (w := w) (base := base) F19 (PySem.W.mg_of X G a19) C10
  have C20 : Cl P w K mg base 3 "need_pack" f_needPack := ok_need_pack (P := P) (w := w) (base := base) F20 (PySem.W.mg_of X G a20) y_min x_MOST_KINDS x_MOST_SIZE C11
  have C21 : Cl P w K mg base 3 "_law_plus" f_sumOf := ok__law_plus (P := P) (w := w) (base := base) F21 (PySem.W.mg_of X G a21) C13
  have C22 : Cl P w K mg base 4 "paper_of" f_paperOf := ok_paper_of (P := P) (w := w) (base := base) F22 (PySem.W.mg_of X G a22) y_range y_min x_NOUGHT C3 C18 C19
  have C23 : Cl P w K mg base 4 "_law_pack_paper" f_lawPackPaper := ok__law_pack_paper (P := P) (w := w) (base := base) F23 (PySem.W.mg_of X G a23) y_range y_len C15 C21 C13
  have C24 : Cl P w K mg base 5 "is_pack_paper" f_isPackX := ok_is_pack_paper (P := P) (w := w) (base := base) F24 (PySem.W.mg_of X G a24) y_all y_isinstance y_list C20 C22 C17
  exact ok_law F25 y_range y_max y_min y_len y_repr C12 C6 C23 C14 C16 C7 C24 hsy
end
end Law
open PySem PySem.W PyProof.Rows
set_option maxRecDepth 100000 in
set_option maxHeartbeats 0 in
theorem PySem.Challenge.cw_kindsgathered_k33_pack_papers_looked_at_holds : PySem.Challenge.rw_kindsgathered_k33_pack_papers_looked_at.Holds := by
  w_on; o_law; k_head; (case hw => w_witness2)
  k_fill
  refine DL.walkS (l := PySem.Challenge.rw_kindsgathered_k33_pack_papers_looked_at) (n := 63) (k := 6) (x := "_law_script") (sp := DL.f_law) rfl (by decide) (by decide +kernel) rfl ⟨rfl, by decide, by decide⟩ (fun w h Y => PySem.W.kIn_of Y) ?F Law.law_ends
  case F =>
    intro w mg fa h KX G hmg
    refine' Law.all_mk KX G hmg ?a1 ?l1 ?c1 ?k1 ?a2 ?l2 ?c2 ?k2 ?a3 ?l3 ?c3 ?k3 ?a4 ?l4 ?c4 ?k4 ?a5 ?l5 ?c5 ?k5 ?a6 ?l6 ?c6 ?k6 ?a7 ?l7 ?c7 ?k7 ?a8 ?l8 ?c8 ?k8 ?a9 ?l9 ?c9 ?k9 ?a10 ?l10 ?c10 ?k10 ?a11 ?l11 ?c11 ?k11 ?a12 ?l12 ?c12 ?k12 ?a13 ?l13 ?c13 ?k13 ?a14 ?l14 ?c14 ?k14 ?a15 ?l15 ?c15 ?k15 ?a16 ?l16 ?c16 ?k16 ?a17 ?l17 ?c17 ?k17 ?a18 ?l18 ?c18 ?k18 ?a19 ?l19 ?c19 ?k19 ?a20 ?l20 ?c20 ?k20 ?a21 ?l21 ?c21 ?k21 ?a22 ?l22 ?c22 ?k22 ?a23 ?l23 ?c23 ?k23 ?a24 ?l24 ?c24 ?k24 ?a25 ?l25 ?c25 ?k25 ?z_abs ?z_all ?z_bool ?z_divmod ?z_int ?z_isinstance ?z_len ?z_list ?z_max ?z_min ?z_range ?z_repr ?z_tuple ?g_MOST_KINDS ?g_MOST_SIZE ?g_NOUGHT ?o_NOUGHT
    (case a1 => k_is)
    (case l1 => k_is)
    (case c1 => k_is)
    (case k1 => k_is)
    (case a2 => k_is)
    (case l2 => k_is)
    (case c2 => k_is)
    (case k2 => k_is)
    (case a3 => k_is)
    (case l3 => k_is)
    (case c3 => k_is)
    (case k3 => k_is)
    (case a4 => k_is)
    (case l4 => k_is)
    (case c4 => k_is)
    (case k4 => k_is)
    (case a5 => k_is)
    (case l5 => k_is)
    (case c5 => k_is)
    (case k5 => k_is)
    (case a6 => k_is)
    (case l6 => k_is)
    (case c6 => k_is)
    (case k6 => k_is)
    (case a7 => k_is)
    (case l7 => k_is)
    (case c7 => k_is)
    (case k7 => k_is)
    (case a8 => k_is)
    (case l8 => k_is)
    (case c8 => k_is)
    (case k8 => k_is)
    (case a9 => k_is)
    (case l9 => k_is)
    (case c9 => k_is)
    (case k9 => k_is)
    (case a10 => k_is)
    (case l10 => k_is)
    (case c10 => k_is)
    (case k10 => k_is)
    (case a11 => k_is)
    (case l11 => k_is)
    (case c11 => k_is)
    (case k11 => k_is)
    (case a12 => k_is)
    (case l12 => k_is)
    (case c12 => k_is)
    (case k12 => k_is)
    (case a13 => k_is)
    (case l13 => k_is)
    (case c13 => k_is)
    (case k13 => k_is)
    (case a14 => k_is)
    (case l14 => k_is)
    (case c14 => k_is)
    (case k14 => k_is)
    (case a15 => k_is)
    (case l15 => k_is)
    (case c15 => k_is)
    (case k15 => k_is)
    (case a16 => k_is)
    (case l16 => k_is)
    (case c16 => k_is)
    (case k16 => k_is)
    (case a17 => k_is)
    (case l17 => k_is)
    (case c17 => k_is)
    (case k17 => k_is)
    (case a18 => k_is)
    (case l18 => k_is)
    (case c18 => k_is)
    (case k18 => k_is)
    (case a19 => k_is)
    (case l19 => k_is)
    (case c19 => k_is)
    (case k19 => k_is)
    (case a20 => k_is)
    (case l20 => k_is)
    (case c20 => k_is)
    (case k20 => k_is)
    (case a21 => k_is)
    (case l21 => k_is)
    (case c21 => k_is)
    (case k21 => k_is)
    (case a22 => k_is)
    (case l22 => k_is)
    (case c22 => k_is)
    (case k22 => k_is)
    (case a23 => k_is)
    (case l23 => k_is)
    (case c23 => k_is)
    (case k23 => k_is)
    (case a24 => k_is)
    (case l24 => k_is)
    (case c24 => k_is)
    (case k24 => k_is)
    (case a25 => k_is)
    (case l25 => k_is)
    (case c25 => k_is)
    (case k25 => k_is)
    (case z_abs => k_is)
    (case z_all => k_is)
    (case z_bool => k_is)
    (case z_divmod => k_is)
    (case z_int => k_is)
    (case z_isinstance => k_is)
    (case z_len => k_is)
    (case z_list => k_is)
    (case z_max => k_is)
    (case z_min => k_is)
    (case z_range => k_is)
    (case z_repr => k_is)
    (case z_tuple => k_is)
    (case g_MOST_KINDS => k_is)
    (case g_MOST_SIZE => k_is)
    (case g_NOUGHT => k_is)
    (case o_NOUGHT => k_is)
