import PyProof.Rows.All
import Wide.All
import OpenK.AllK
import Wide.FinOn
import HandS.ForMost
import HandS.ForExc
import HandS.IsInst
import HandS.Wide
import HandS.TupAny
import HandS.TupMul
import HandS.Conv
import HandS.Deep
import PyProof.ReprRoads
import PyProof.SumWalkG
import PyProof.WalksMore
import HandS.EndBits
import PyProof.ReprLen
import HandS.TupLe
import HandS.Text
import HandS.StrSplit
import HandS.Iter
import HandS.Walk
import HandS.TryOnly
import KE.SortKeyHeap
import HandS.SortKw
import KE.KDictDisplayH
import HandS.SortInts
import HandS.Zip
import KE.GoesMore
import KE.KDictWalk
import HandS.Dict
import KE.KDictPairs
import KE.KDictCopyH
import HandS.Style
import HandS.HotCalls
import HandS.ExcIs
import HandS.ExcCtx
import HandS.TupLen
import KE.SortData
import HandS.DictTup
import PyProof.StrLawsRepr
import KE.KDictKeyed
import HandS.CallLocal
import PySem.Challenge.RW_kindsgathered_k64_buying_refused
set_option Elab.async false
set_option linter.all false
set_option maxRecDepth 100000
set_option maxHeartbeats 4000000

namespace DL
open PySem L2

/-! data behind values -/
def keyD : Key → PyData
  | .inl i => .int i
  | .inr x => .str x

mutual
def Rp (K : PySem.W.Frag) (G : Hp) : PyData → V → Prop
  | .none, v => v = .non
  | .bool b, v => v = .bl b
  | .int i, v => v = .int i
  | .str s, v => v = .str s
  | .list ds, v => ∃ a xs, v = .ref a ∧ Rd G a (.lst xs) ∧ RpAll K G ds xs
  | .tuple ds, v => ∃ a xs, v = .ref a ∧ SqT K G a xs ∧ RpAll K G ds xs
  | .dict kvs, v => ∃ a, v = .ref a ∧ ((∃ es, G a = some (.dT es) ∧ RpT K G kvs es) ∨ (∃ es, G a = some (.dK es) ∧ RpK K G kvs es))
def RpAll (K : PySem.W.Frag) (G : Hp) : List PyData → List V → Prop
  | [], xs => xs = []
  | d :: ds, xs => ∃ x r, xs = x :: r ∧ Rp K G d x ∧ RpAll K G ds r
def RpT (K : PySem.W.Frag) (G : Hp) : List (PyData × PyData) → List (List Key × V) → Prop
  | [], es => es = []
  | (k, d) :: r, es => ∃ ks v t, es = (ks, v) :: t ∧ k = .tuple (ks.map keyD) ∧ Rp K G d v ∧ RpT K G r t
def RpK (K : PySem.W.Frag) (G : Hp) : List (PyData × PyData) → List (Key × V) → Prop
  | [], es => es = []
  | (k, d) :: r, es => ∃ ks v t, es = (ks, v) :: t ∧ k = keyD ks ∧ Rp K G d v ∧ RpK K G r t
end

def Le (G G' : Hp) : Prop := ∀ a o, G a = some o → G' a = some o
theorem Le.refl (G : Hp) : Le G G := fun _ _ h => h
theorem Le.trans {G G1 G2 : Hp} (a : Le G G1) (b : Le G1 G2) : Le G G2 := fun x o h => b x o (a x o h)
theorem Le.new {G : Hp} {p : Addr} {o : HO} (h : G p = none) : Le G (upd G p o) := fun a u e => by
  rw [upd_ne (ne_of_none e h)]; exact e
theorem Le.rd {G G' : Hp} {a : Addr} {u : HO} (e : Le G G') (h : Rd G a u) : Rd G' a u := by
  rcases h with h | ⟨o, h⟩
  · exact Or.inl (e a _ h)
  · exact Or.inr ⟨o, e a _ h⟩
theorem Le.sqL {K : PySem.W.Frag} {G G' : Hp} {a : Addr} {xs : List V} (e : Le G G') (h : SqL K G a xs) : SqL K G' a xs := by
  rcases h with h | h
  · exact Or.inl (e.rd h)
  · exact Or.inr h
theorem Le.sqT {K : PySem.W.Frag} {G G' : Hp} {a : Addr} {xs : List V} (e : Le G G') (h : SqT K G a xs) : SqT K G' a xs := by
  rcases h with h | h
  · exact Or.inl (e.rd h)
  · exact Or.inr h

mutual
theorem Rp.mono {K : PySem.W.Frag} {G G' : Hp} (e : Le G G') : ∀ (d : PyData) (v : V), Rp K G d v → Rp K G' d v
  | .none, v, h => by rw [Rp] at h ⊢; exact h
  | .bool b, v, h => by rw [Rp] at h ⊢; exact h
  | .int i, v, h => by rw [Rp] at h ⊢; exact h
  | .str s, v, h => by rw [Rp] at h ⊢; exact h
  | .list ds, v, h => by
    rw [Rp] at h ⊢
    obtain ⟨a, xs, h1, h2, h3⟩ := h
    exact ⟨a, xs, h1, e.rd h2, RpAll.mono e ds xs h3⟩
  | .tuple ds, v, h => by
    rw [Rp] at h ⊢
    obtain ⟨a, xs, h1, h2, h3⟩ := h
    exact ⟨a, xs, h1, e.sqT h2, RpAll.mono e ds xs h3⟩
  | .dict kvs, v, h => by
    rw [Rp] at h ⊢
    obtain ⟨a, h1, h2⟩ := h
    refine ⟨a, h1, ?_⟩
    rcases h2 with ⟨es, h3, h4⟩ | ⟨es, h3, h4⟩
    · exact Or.inl ⟨es, e _ _ h3, RpT.mono e kvs es h4⟩
    · exact Or.inr ⟨es, e _ _ h3, RpK.mono e kvs es h4⟩
theorem RpAll.mono {K : PySem.W.Frag} {G G' : Hp} (e : Le G G') : ∀ (ds : List PyData) (xs : List V), RpAll K G ds xs → RpAll K G' ds xs
  | [], xs, h => by rw [RpAll] at h ⊢; exact h
  | d :: ds, xs, h => by
    rw [RpAll] at h ⊢
    obtain ⟨x, r, h1, h2, h3⟩ := h
    exact ⟨x, r, h1, Rp.mono e d x h2, RpAll.mono e ds r h3⟩
theorem RpT.mono {K : PySem.W.Frag} {G G' : Hp} (e : Le G G') : ∀ (kvs : List (PyData × PyData)) (es : List (List Key × V)), RpT K G kvs es → RpT K G' kvs es
  | [], es, h => by rw [RpT] at h ⊢; exact h
  | (k, d) :: r, es, h => by
    rw [RpT] at h ⊢
    obtain ⟨ks, v, t, h1, h2, h3, h4⟩ := h
    exact ⟨ks, v, t, h1, h2, Rp.mono e d v h3, RpT.mono e r t h4⟩
theorem RpK.mono {K : PySem.W.Frag} {G G' : Hp} (e : Le G G') : ∀ (kvs : List (PyData × PyData)) (es : List (Key × V)), RpK K G kvs es → RpK K G' kvs es
  | [], es, h => by rw [RpK] at h ⊢; exact h
  | (k, d) :: r, es, h => by
    rw [RpK] at h ⊢
    obtain ⟨ks, v, t, h1, h2, h3, h4⟩ := h
    exact ⟨ks, v, t, h1, h2, Rp.mono e d v h3, RpK.mono e r t h4⟩
end

section
variable {K : PySem.W.Frag} {G : Hp} {v : V}
theorem rp_none : Rp K G .none v ↔ v = .non := by rw [Rp]
theorem rp_bool {b : Bool} : Rp K G (.bool b) v ↔ v = .bl b := by rw [Rp]
theorem rp_int {i : Int} : Rp K G (.int i) v ↔ v = .int i := by rw [Rp]
theorem rp_str {s : Str} : Rp K G (.str s) v ↔ v = .str s := by rw [Rp]
theorem rp_list {ds : List PyData} : Rp K G (.list ds) v ↔ ∃ a xs, v = .ref a ∧ Rd G a (.lst xs) ∧ RpAll K G ds xs := by rw [Rp]
theorem rp_tuple {ds : List PyData} : Rp K G (.tuple ds) v ↔ ∃ a xs, v = .ref a ∧ SqT K G a xs ∧ RpAll K G ds xs := by rw [Rp]
theorem rpa_nil {xs : List V} : RpAll K G [] xs ↔ xs = [] := by rw [RpAll]
theorem rpa_cons {d : PyData} {ds : List PyData} {xs : List V} : RpAll K G (d :: ds) xs ↔ ∃ x r, xs = x :: r ∧ Rp K G d x ∧ RpAll K G ds r := by rw [RpAll]
end

theorem RpAll.length {K : PySem.W.Frag} {G : Hp} : ∀ {ds : List PyData} {xs : List V}, RpAll K G ds xs → xs.length = ds.length
  | [], xs, h => by rw [RpAll] at h; rw [h]; rfl
  | d :: ds, xs, h => by
    rw [RpAll] at h
    obtain ⟨x, r, h1, _, h3⟩ := h
    rw [h1, List.length_cons, List.length_cons, RpAll.length h3]
theorem RpAll.get {K : PySem.W.Frag} {G : Hp} : ∀ {ds : List PyData} {xs : List V} {i : Nat} {x : V}, RpAll K G ds xs → xs[i]? = some x → ∃ d, ds[i]? = some d ∧ Rp K G d x
  | [], xs, i, x, h, e => by rw [RpAll] at h; subst h; simp at e
  | d :: ds, xs, 0, x, h, e => by
    rw [RpAll] at h
    obtain ⟨y, r, h1, h2, _⟩ := h
    subst h1
    simp at e
    subst e
    exact ⟨d, rfl, h2⟩
  | d :: ds, xs, i + 1, x, h, e => by
    rw [RpAll] at h
    obtain ⟨y, r, h1, _, h3⟩ := h
    subst h1
    obtain ⟨z, h4, h5⟩ := RpAll.get (i := i) (x := x) h3 (by simpa using e)
    exact ⟨z, by simpa using h4, h5⟩
theorem RpAll.at {K : PySem.W.Frag} {G : Hp} : ∀ {ds : List PyData} {xs : List V} {i : Nat} {d : PyData}, RpAll K G ds xs → ds[i]? = some d → ∃ x, xs[i]? = some x ∧ Rp K G d x
  | [], xs, i, d, h, e => by simp at e
  | d0 :: ds, xs, 0, d, h, e => by
    rw [RpAll] at h
    obtain ⟨y, r, h1, h2, _⟩ := h
    subst h1
    simp at e
    subst e
    exact ⟨y, rfl, h2⟩
  | d0 :: ds, xs, i + 1, d, h, e => by
    rw [RpAll] at h
    obtain ⟨y, r, h1, _, h3⟩ := h
    subst h1
    obtain ⟨z, h4, h5⟩ := RpAll.at (i := i) (d := d) h3 (by simpa using e)
    exact ⟨z, by simpa using h4, h5⟩
theorem RpAll.append {K : PySem.W.Frag} {G : Hp} : ∀ {ds es : List PyData} {xs ys : List V}, RpAll K G ds xs → RpAll K G es ys → RpAll K G (ds ++ es) (xs ++ ys)
  | [], es, xs, ys, h, g => by rw [RpAll] at h; subst h; exact g
  | d :: ds, es, xs, ys, h, g => by
    rw [RpAll] at h
    obtain ⟨y, r, h1, h2, h3⟩ := h
    subst h1
    rw [List.cons_append, List.cons_append, RpAll]
    exact ⟨y, r ++ ys, rfl, h2, RpAll.append h3 g⟩
theorem RpAll.ints {K : PySem.W.Frag} {G : Hp} : ∀ {ns : List Int} {xs : List V}, RpAll K G (ns.map PyData.int) xs → xs = ns.map V.int
  | [], xs, h => by rw [List.map_nil, RpAll] at h; rw [h]; rfl
  | n :: ns, xs, h => by
    rw [List.map_cons, RpAll] at h
    obtain ⟨y, r, h1, h2, h3⟩ := h
    rw [Rp] at h2
    rw [h1, h2, RpAll.ints h3]; rfl
theorem RpAll.bools {K : PySem.W.Frag} {G : Hp} : ∀ {ns : List Bool} {xs : List V}, RpAll K G (ns.map PyData.bool) xs → xs = ns.map V.bl
  | [], xs, h => by rw [List.map_nil, RpAll] at h; rw [h]; rfl
  | n :: ns, xs, h => by
    rw [List.map_cons, RpAll] at h
    obtain ⟨y, r, h1, h2, h3⟩ := h
    rw [Rp] at h2
    rw [h1, h2, RpAll.bools h3]; rfl
theorem RpAll.strs {K : PySem.W.Frag} {G : Hp} : ∀ {ns : List Str} {xs : List V}, RpAll K G (ns.map PyData.str) xs → xs = ns.map V.str
  | [], xs, h => by rw [List.map_nil, RpAll] at h; rw [h]; rfl
  | n :: ns, xs, h => by
    rw [List.map_cons, RpAll] at h
    obtain ⟨y, r, h1, h2, h3⟩ := h
    rw [Rp] at h2
    rw [h1, h2, RpAll.strs h3]; rfl
theorem rpa_ints {K : PySem.W.Frag} {G : Hp} : ∀ (ns : List Int), RpAll K G (ns.map PyData.int) (ns.map V.int)
  | [] => by rw [List.map_nil, RpAll]; rfl
  | n :: ns => by
    rw [List.map_cons, List.map_cons, RpAll]
    exact ⟨_, _, rfl, by rw [Rp], rpa_ints ns⟩

/-! values at this level -/
inductive Val where
  | d (x : PyData)
  | v (w : V)
  | scr (ns : List Int)
  | any
  /-- a tuple of ints, made by the code itself -/
  | t (ns : List Int)
  /-- a list of such tuples, that stays as it is -/
  | lt (nss : List (List Int))
  /-- a pair of such a tuple and data -/
  | p (ns : List Int) (x : PyData)
  /-- a tuple of ints without attributes of its own -/
  | f (ns : List Int)
  /-- any other thing that stays as it is, by what is true of it -/
  | g (P : Hp → V → Prop)

def TAll (G : Hp) : List (List Int) → List V → Prop
  | [], xs => xs = []
  | ns :: r, xs => ∃ b t, xs = .ref b :: t ∧ G b = some (.tup (ns.map V.int)) ∧ TAll G r t
theorem TAll.mono {G G' : Hp} (e : Le G G') : ∀ {nss : List (List Int)} {xs : List V}, TAll G nss xs → TAll G' nss xs
  | [], xs, h => h
  | ns :: r, xs, h => by
    obtain ⟨b, t, h1, h2, h3⟩ := h
    exact ⟨b, t, h1, e _ _ h2, TAll.mono e h3⟩
theorem TAll.all {K : PySem.W.Frag} {G : Hp} : ∀ {nss : List (List Int)} {xs : List V}, TAll G nss xs → RpAll K G (nss.map fun ns => .tuple (ns.map PyData.int)) xs
  | [], xs, h => by rw [List.map_nil, RpAll]; exact h
  | ns :: r, xs, h => by
    obtain ⟨b, t, h1, h2, h3⟩ := h
    rw [List.map_cons, RpAll]
    exact ⟨_, t, h1, rp_tuple.mpr ⟨b, _, rfl, SqT.of h2, rpa_ints ns⟩, TAll.all h3⟩
inductive VR (K : PySem.W.Frag) (G : Hp) : Val → V → Prop
  | d {x : PyData} {v : V} (h : Rp K G x v) : VR K G (.d x) v
  | v {w : V} : VR K G (.v w) w
  | scr {ns : List Int} {a : Addr} (h : SqL K G a (ns.map V.int)) : VR K G (.scr ns) (.ref a)
  | any {v : V} : VR K G .any v
  | t {ns : List Int} {a : Addr} (h : G a = some (.tup (ns.map V.int))) : VR K G (.t ns) (.ref a)
  | lt {nss : List (List Int)} {a : Addr} {xs : List V} (h : Rd G a (.lst xs)) (h2 : TAll G nss xs) : VR K G (.lt nss) (.ref a)
  | p {ns : List Int} {x : PyData} {a b : Addr} {w : V} (h : G a = some (.tup [.ref b, w])) (h2 : G b = some (.tup (ns.map V.int))) (h3 : Rp K G x w) : VR K G (.p ns x) (.ref a)
  | f {ns : List Int} {a : Addr} {o : Obj} (h : G a = some (.frz o (.tup (ns.map V.int)))) (h1 : o.cls = .type "tuple") (h2 : o.dict = none) : VR K G (.f ns) (.ref a)
  | g {P : Hp → V → Prop} {v : V} (h : P G v) (h1 : ∀ G G', Le G G' → P G v → P G' v) : VR K G (.g P) v
theorem VR.mono {K : PySem.W.Frag} {G G' : Hp} (e : Le G G') {r : Val} {v : V} (h : VR K G r v) : VR K G' r v := by
  cases h with
  | d h => exact .d (Rp.mono e _ v h)
  | v => exact .v
  | scr h => exact .scr (e.sqL h)
  | any => exact .any
  | t h => exact .t (e _ _ h)
  | lt h h2 => exact .lt (e.rd h) (h2.mono e)
  | p h h2 h3 => exact .p (e _ _ h) (e _ _ h2) (Rp.mono e _ _ h3)
  | f h h1 h2 => exact .f (e _ _ h) h1 h2
  | g h h1 => exact .g (h1 _ _ e h) h1
theorem VR.rp {K : PySem.W.Frag} {G : Hp} {x : PyData} {v : V} (h : VR K G (.d x) v) : Rp K G x v := by
  cases h with
  | d h => exact h
theorem VR.eq {K : PySem.W.Frag} {G : Hp} {w v : V} (h : VR K G (.v w) v) : v = w := by
  cases h with
  | v => rfl

def VRs (K : PySem.W.Frag) (G : Hp) : List Val → List V → Prop
  | [], xs => xs = []
  | r :: rs, xs => ∃ x t, xs = x :: t ∧ VR K G r x ∧ VRs K G rs t
theorem VRs.mono {K : PySem.W.Frag} {G G' : Hp} (e : Le G G') : ∀ {rs : List Val} {xs : List V}, VRs K G rs xs → VRs K G' rs xs
  | [], xs, h => h
  | r :: rs, xs, h => by
    obtain ⟨x, t, h1, h2, h3⟩ := h
    exact ⟨x, t, h1, h2.mono e, VRs.mono e h3⟩
theorem VRs.length {K : PySem.W.Frag} {G : Hp} : ∀ {rs : List Val} {xs : List V}, VRs K G rs xs → xs.length = rs.length
  | [], xs, h => by
    have h : xs = [] := h
    rw [h]; rfl
  | r :: rs, xs, h => by
    obtain ⟨x, t, h1, _, h3⟩ := h
    rw [h1, List.length_cons, List.length_cons, VRs.length h3]
theorem VRs.ofAll {K : PySem.W.Frag} {G : Hp} : ∀ {ds : List PyData} {xs : List V}, RpAll K G ds xs → VRs K G (ds.map Val.d) xs
  | [], xs, h => by rw [RpAll] at h; exact h
  | d :: ds, xs, h => by
    rw [RpAll] at h
    obtain ⟨x, r, h1, h2, h3⟩ := h
    exact ⟨x, r, h1, .d h2, VRs.ofAll h3⟩
theorem VRs.toAll {K : PySem.W.Frag} {G : Hp} : ∀ {ds : List PyData} {xs : List V}, VRs K G (ds.map Val.d) xs → RpAll K G ds xs
  | [], xs, h => by rw [RpAll]; exact h
  | d :: ds, xs, h => by
    obtain ⟨x, r, h1, h2, h3⟩ := h
    rw [RpAll]
    exact ⟨x, r, h1, h2.rp, VRs.toAll h3⟩
theorem VRs.append {K : PySem.W.Frag} {G : Hp} : ∀ {rs ss : List Val} {xs ys : List V}, VRs K G rs xs → VRs K G ss ys → VRs K G (rs ++ ss) (xs ++ ys)
  | [], ss, xs, ys, h, g => by
    have h : xs = [] := h
    subst h; exact g
  | r :: rs, ss, xs, ys, h, g => by
    obtain ⟨x, t, h1, h2, h3⟩ := h
    subst h1
    exact ⟨x, t ++ ys, rfl, h2, VRs.append h3 g⟩

/-! slots -/
def Sl (K : PySem.W.Frag) (G : Hp) : List Val → St → Prop
  | [], s => s = []
  | r :: rs, s => ∃ x t, s = x :: t ∧ (r = .any ∨ ∃ v, x = some v ∧ VR K G r v) ∧ Sl K G rs t
theorem Sl.mono {K : PySem.W.Frag} {G G' : Hp} (e : Le G G') : ∀ {rs : List Val} {s : St}, Sl K G rs s → Sl K G' rs s
  | [], s, h => h
  | r :: rs, s, h => by
    obtain ⟨x, t, h1, h2, h3⟩ := h
    refine ⟨x, t, h1, ?_, Sl.mono e h3⟩
    rcases h2 with h2 | ⟨v, h2, h4⟩
    · exact Or.inl h2
    · exact Or.inr ⟨v, h2, h4.mono e⟩
theorem Sl.get {K : PySem.W.Frag} {G : Hp} : ∀ {rs : List Val} {s : St} {i : Nat} {r : Val}, Sl K G rs s → rs[i]? = some r → r ≠ .any → ∃ v, s[i]? = some (some v) ∧ VR K G r v
  | [], s, i, r, h, e, _ => by simp at e
  | r0 :: rs, s, 0, r, h, e, n => by
    obtain ⟨x, t, h1, h2, h3⟩ := h
    subst h1
    have e : r0 = r := by simpa using e
    subst e
    rcases h2 with h2 | ⟨v, h2, h4⟩
    · exact absurd h2 n
    · exact ⟨v, by rw [h2]; rfl, h4⟩
  | r0 :: rs, s, i + 1, r, h, e, n => by
    obtain ⟨x, t, h1, h2, h3⟩ := h
    subst h1
    obtain ⟨v, h5, h6⟩ := Sl.get (i := i) (r := r) h3 (by simpa using e) n
    exact ⟨v, by simpa using h5, h6⟩
theorem Sl.set {K : PySem.W.Frag} {G : Hp} {r : Val} {v : V} (hv : VR K G r v) : ∀ {rs : List Val} {s : St} (i : Nat), Sl K G rs s → Sl K G (rs.set i r) (s.set i (some v))
  | [], s, i, h => by
    have h : s = [] := h
    subst h; exact rfl
  | r0 :: rs, s, 0, h => by
    obtain ⟨x, t, h1, h2, h3⟩ := h
    subst h1
    exact ⟨some v, t, rfl, Or.inr ⟨v, rfl, hv⟩, h3⟩
  | r0 :: rs, s, i + 1, h => by
    obtain ⟨x, t, h1, h2, h3⟩ := h
    subst h1
    exact ⟨x, t.set i (some v), rfl, h2, Sl.set hv i h3⟩
theorem Sl.forget {K : PySem.W.Frag} {G : Hp} : ∀ {rs : List Val} {s : St} (i : Nat), Sl K G rs s → Sl K G (rs.set i .any) (s.set i none)
  | [], s, i, h => by
    have h : s = [] := h
    subst h; exact rfl
  | r0 :: rs, s, 0, h => by
    obtain ⟨x, t, h1, h2, h3⟩ := h
    subst h1
    exact ⟨none, t, rfl, Or.inl rfl, h3⟩
  | r0 :: rs, s, i + 1, h => by
    obtain ⟨x, t, h1, h2, h3⟩ := h
    subst h1
    exact ⟨x, t.set i none, rfl, h2, Sl.forget i h3⟩
theorem Sl.length {K : PySem.W.Frag} {G : Hp} : ∀ {rs : List Val} {s : St}, Sl K G rs s → s.length = rs.length
  | [], s, h => by
    have h : s = [] := h
    rw [h]; rfl
  | r :: rs, s, h => by
    obtain ⟨x, t, h1, _, h3⟩ := h
    rw [h1, List.length_cons, List.length_cons, Sl.length h3]
theorem Sl.anys {K : PySem.W.Frag} {G : Hp} : ∀ (n : Nat), Sl K G (List.replicate n .any) (List.replicate n none)
  | 0 => rfl
  | n + 1 => ⟨none, List.replicate n none, rfl, Or.inl rfl, Sl.anys n⟩
theorem Sl.start {K : PySem.W.Frag} {G : Hp} : ∀ {rs : List Val} {vs : List V} (n : Nat), VRs K G rs vs → Sl K G (rs ++ List.replicate n .any) (vs.map some ++ List.replicate n none)
  | [], vs, n, h => by
    have h : vs = [] := h
    subst h; exact Sl.anys n
  | r :: rs, vs, n, h => by
    obtain ⟨x, t, h1, h2, h3⟩ := h
    subst h1
    exact ⟨some x, _, rfl, Or.inr ⟨x, rfl, h2⟩, Sl.start n h3⟩
/-- less told -/
def Wk : List Val → List Val → Prop
  | [], t => t = []
  | r :: rs, t => ∃ q u, t = q :: u ∧ (q = .any ∨ q = r) ∧ Wk rs u
theorem Sl.weak {K : PySem.W.Frag} {G : Hp} : ∀ {rs ts : List Val} {s : St}, Wk rs ts → Sl K G rs s → Sl K G ts s
  | [], ts, s, w, h => by
    have w : ts = [] := w
    subst w; exact h
  | r :: rs, ts, s, w, h => by
    obtain ⟨q, u, w1, w2, w3⟩ := w
    obtain ⟨x, t, h1, h2, h3⟩ := h
    subst w1
    refine ⟨x, t, h1, ?_, Sl.weak w3 h3⟩
    rcases w2 with w2 | w2
    · exact Or.inl w2
    · rw [w2]; exact h2

/-! what may change -/
inductive MO where
  | lst (rs : List Val)
  | dT (kvs : List (List Key × Val))
  | dK (kvs : List (Key × Val))
  /-- a dict that is being walked -/
  | lk (od : Obj) (es : List (List Key × V)) (kvs : List (List Key × Val))
  /-- a list of one whole number -/
  | box
  /-- any other thing, by what is true of it -/
  | g (P : Hp → Hp → Addr → Prop)
abbrev Mm := Addr → Option MO
def put (m : Mm) (a : Addr) (o : MO) : Mm := fun b => if b = a then some o else m b
def del (m : Mm) (a : Addr) : Mm := fun b => if b = a then none else m b
theorem put_same {m : Mm} {a : Addr} {o : MO} : put m a o a = some o := by unfold put; rw [if_pos rfl]
theorem put_ne {m : Mm} {a b : Addr} {o : MO} (h : b ≠ a) : put m a o b = m b := by unfold put; rw [if_neg h]
theorem put_put {m : Mm} {a : Addr} {o u : MO} : put (put m a o) a u = put m a u := by
  funext b; unfold put; split <;> rfl
theorem put_comm {m : Mm} {a b : Addr} {o u : MO} (h : a ≠ b) : put (put m a o) b u = put (put m b u) a o := by
  funext c; unfold put
  by_cases h1 : c = b
  · rw [if_pos h1]
    by_cases h2 : c = a
    · exact absurd (h2.symm.trans h1) h
    · rw [if_neg h2, if_pos h1]
  · rw [if_neg h1]
    by_cases h2 : c = a
    · rw [if_pos h2, if_pos h2]
    · rw [if_neg h2, if_neg h2, if_neg h1]
theorem ne_of_get {m : Mm} {a b : Addr} {o : MO} (h : m a = some o) (g : m b = none) : a ≠ b := fun e => by
  rw [e, g] at h; cases h
def KVs (K : PySem.W.Frag) (G : Hp) {α : Type} : List (α × Val) → List (α × V) → Prop
  | [], es => es = []
  | (k, r) :: t, es => ∃ v u, es = (k, v) :: u ∧ VR K G r v ∧ KVs K G t u
theorem KVs.mono {K : PySem.W.Frag} {G G' : Hp} {α : Type} (e : Le G G') : ∀ {kvs : List (α × Val)} {es : List (α × V)}, KVs K G kvs es → KVs K G' kvs es
  | [], es, h => h
  | (k, r) :: t, es, h => by
    obtain ⟨v, u, h1, h2, h3⟩ := h
    exact ⟨v, u, h1, h2.mono e, KVs.mono e h3⟩
def MR (K : PySem.W.Frag) (G H : Hp) (a : Addr) : MO → Prop
  | .lst rs => ∃ xs, H a = some (.lst xs) ∧ VRs K G rs xs
  | .dT kvs => ∃ es, H a = some (.dT es) ∧ KVs K G kvs es
  | .dK kvs => ∃ es, H a = some (.dK es) ∧ KVs K G kvs es
  | .lk od es kvs => H a = some (.frz od (.dT es)) ∧ KVs K G kvs es
  | .box => ∃ n : Int, H a = some (.lst [.int n])
  | .g P => P G H a ∧ (∀ G G' H H' : Hp, Le G G' → H' a = H a → P G H a → P G' H' a) ∧ (∃ u, H a = some u) ∧ ∀ xs, H a ≠ some (.tup xs)
theorem MR.some {K : PySem.W.Frag} {G H : Hp} {a : Addr} {o : MO} (h : MR K G H a o) : ∃ u, H a = some u := by
  cases o with
  | lst rs => obtain ⟨xs, h, _⟩ := h; exact ⟨_, h⟩
  | dT kvs => obtain ⟨xs, h, _⟩ := h; exact ⟨_, h⟩
  | dK kvs => obtain ⟨xs, h, _⟩ := h; exact ⟨_, h⟩
  | lk od es kvs => exact ⟨_, h.1⟩
  | box => obtain ⟨n, h⟩ := h; exact ⟨_, h⟩
  | g P => exact h.2.2.1
theorem MR.mono {K : PySem.W.Frag} {G G' H H' : Hp} {a : Addr} {o : MO} (e : Le G G') (hh : H' a = H a) (h : MR K G H a o) : MR K G' H' a o := by
  cases o with
  | lst rs => obtain ⟨xs, h, g⟩ := h; exact ⟨xs, hh.trans h, g.mono e⟩
  | dT kvs => obtain ⟨xs, h, g⟩ := h; exact ⟨xs, hh.trans h, g.mono e⟩
  | dK kvs => obtain ⟨xs, h, g⟩ := h; exact ⟨xs, hh.trans h, g.mono e⟩
  | lk od es kvs => exact ⟨hh.trans h.1, h.2.mono e⟩
  | box => obtain ⟨n, h⟩ := h; exact ⟨n, hh.trans h⟩
  | g P => obtain ⟨h1, h2, h3, h4⟩ := h; exact ⟨h2 _ _ _ _ e hh h1, h2, by rw [hh]; exact h3, by rw [hh]; exact h4⟩

structure Sta (K : PySem.W.Frag) (m : Mm) (H G : Hp) : Prop where
  sub : ∀ a o, G a = some o → H a = some o
  mem : ∀ a o, m a = some o → MR K G H a o
  dis : ∀ a o, m a = some o → G a = none

section
variable {K : PySem.W.Frag} {m : Mm} {H G : Hp} {p : Addr} {o : HO}
theorem Sta.free (S : Sta K m H G) (h : H p = none) : G p = none := by
  cases e : G p with
  | none => rfl
  | some u => rw [S.sub p u e] at h; cases h
theorem Sta.freeM (S : Sta K m H G) (h : H p = none) : m p = none := by
  cases e : m p with
  | none => rfl
  | some u =>
    obtain ⟨x, hx⟩ := (S.mem p u e).some
    rw [hx] at h; cases h
/-- a new thing that stays as it is -/
theorem Sta.fix (S : Sta K m H G) (h : H p = none) : Sta K m (upd H p o) (upd G p o) := by
  have hg := S.free h
  have hm := S.freeM h
  refine ⟨fun a u e => ?_, fun a u e => ?_, fun a u e => ?_⟩
  · by_cases ha : a = p
    · subst ha; rw [upd_same] at e ⊢; exact e
    · rw [upd_ne ha] at e ⊢; exact S.sub a u e
  · have ha : a ≠ p := ne_of_get e hm
    exact (S.mem a u e).mono (Le.new hg) (upd_ne ha)
  · have ha : a ≠ p := ne_of_get e hm
    rw [upd_ne ha]; exact S.dis a u e
/-- a new thing that may change -/
theorem Sta.new {u : MO} (S : Sta K m H G) (h : H p = none) (hu : MR K G (upd H p o) p u) : Sta K (put m p u) (upd H p o) G := by
  have hg := S.free h
  refine ⟨fun a w e => ?_, fun a w e => ?_, fun a w e => ?_⟩
  · rw [upd_ne (ne_of_none e hg)]; exact S.sub a w e
  · by_cases ha : a = p
    · subst ha; rw [put_same] at e; cases e; exact hu
    · rw [put_ne ha] at e
      exact (S.mem a w e).mono (Le.refl G) (upd_ne ha)
  · by_cases ha : a = p
    · subst ha; exact hg
    · rw [put_ne ha] at e; exact S.dis a w e
/-- a thing changed -/
theorem Sta.chg {u w : MO} (S : Sta K m H G) (h : m p = some w) (hu : MR K G (upd H p o) p u) : Sta K (put m p u) (upd H p o) G := by
  have hg := S.dis p w h
  refine ⟨fun a w e => ?_, fun a w e => ?_, fun a w e => ?_⟩
  · rw [upd_ne (ne_of_none e hg)]; exact S.sub a w e
  · by_cases ha : a = p
    · subst ha; rw [put_same] at e; cases e; exact hu
    · rw [put_ne ha] at e
      exact (S.mem a w e).mono (Le.refl G) (upd_ne ha)
  · by_cases ha : a = p
    · subst ha; exact hg
    · rw [put_ne ha] at e; exact S.dis a w e
/-- from now on it stays as it is -/
theorem Sta.freeze {u : MO} (S : Sta K m H G) (h : m p = some u) (ho : H p = some o) : Sta K (del m p) H (upd G p o) := by
  have hg := S.dis p u h
  refine ⟨fun a w e => ?_, fun a w e => ?_, fun a w e => ?_⟩
  · by_cases ha : a = p
    · subst ha; rw [upd_same] at e; cases e; exact ho
    · rw [upd_ne ha] at e; exact S.sub a w e
  · by_cases ha : a = p
    · subst ha; unfold del at e; rw [if_pos rfl] at e; cases e
    · unfold del at e; rw [if_neg ha] at e
      exact (S.mem a w e).mono (Le.new hg) rfl
  · by_cases ha : a = p
    · subst ha; unfold del at e; rw [if_pos rfl] at e; cases e
    · unfold del at e; rw [if_neg ha] at e
      rw [upd_ne ha]; exact S.dis a w e
/-- less told of what may change -/
theorem Sta.less {m' : Mm} (S : Sta K m H G) (h : ∀ a o, m' a = some o → m a = some o) : Sta K m' H G :=
  ⟨S.sub, fun a o e => S.mem a o (h a o e), fun a o e => S.dis a o (h a o e)⟩
theorem Sta.sqL {a : Addr} {xs : List V} (S : Sta K m H G) (h : SqL K G a xs) : SqL K H a xs := Le.sqL S.sub h
theorem Sta.sqT {a : Addr} {xs : List V} (S : Sta K m H G) (h : SqT K G a xs) : SqT K H a xs := Le.sqT S.sub h
end

/-! what code does, at this level -/
def Ev (K : PySem.W.Frag) (t : TE) (r : List Val) (m : Mm) (Q : Val → Mm → Prop) : Prop :=
  ∀ σ H G, Sta K m H G → Sl K G r σ → ∀ R : VK, (∀ v H' G' x m', Q x m' → Sta K m' H' G' → Le G G' → VR K G' x v → R v H') → t σ H R
def EvT (K : PySem.W.Frag) (t : TT) (r : List Val) (m : Mm) (Q : Bool → Mm → Prop) : Prop :=
  ∀ σ H G, Sta K m H G → Sl K G r σ → ∀ R : Bool → Hp → Prop, (∀ H' G' b m', Q b m' → Sta K m' H' G' → Le G G' → R b H') → t σ H R
def EvA (K : PySem.W.Frag) (t : TA) (r : List Val) (m : Mm) (Q : List Val → Mm → Prop) : Prop :=
  ∀ σ H G, Sta K m H G → Sl K G r σ → ∀ R : List V → Hp → Prop, (∀ vs H' G' xs m', Q xs m' → Sta K m' H' G' → Le G G' → VRs K G' xs vs → R vs H') → t σ H R
def Op2 (K : PySem.W.Frag) (f : R2) (x y : Val) (m : Mm) (Q : Val → Mm → Prop) : Prop :=
  ∀ H G v w, Sta K m H G → VR K G x v → VR K G y w → ∀ R : VK, (∀ v H' G' x m', Q x m' → Sta K m' H' G' → Le G G' → VR K G' x v → R v H') → f v w H R
def Op1 (K : PySem.W.Frag) (f : V → Hp → VK → Prop) (x : Val) (m : Mm) (Q : Val → Mm → Prop) : Prop :=
  ∀ H G v, Sta K m H G → VR K G x v → ∀ R : VK, (∀ v H' G' x m', Q x m' → Sta K m' H' G' → Le G G' → VR K G' x v → R v H') → f v H R
def OpN (K : PySem.W.Frag) (f : List V → Hp → VK → Prop) (xs : List Val) (m : Mm) (Q : Val → Mm → Prop) : Prop :=
  ∀ H G vs, Sta K m H G → VRs K G xs vs → ∀ R : VK, (∀ v H' G' x m', Q x m' → Sta K m' H' G' → Le G G' → VR K G' x v → R v H') → f vs H R
def Wp (K : PySem.W.Frag) (t : TS) (r : List Val) (m : Mm) (N : List Val → Mm → Prop) (E : Val → Mm → Prop) : Prop :=
  ∀ σ H G (D : Ends), Sta K m H G → Sl K G r σ → (∀ σ' H' G' r' m', N r' m' → Sta K m' H' G' → Le G G' → Sl K G' r' σ' → D.nx σ' H') →
    (∀ v H' G' x m', E x m' → Sta K m' H' G' → Le G G' → VR K G' x v → D.rt v H') → t D σ H

section
variable {K : PySem.W.Frag} {r : List Val} {m : Mm} {Q : Val → Mm → Prop} {ta tb tc te : TE} {tt tu : TT}
theorem Ev.imp {Q' : Val → Mm → Prop} (h : Ev K te r m Q) (i : ∀ x m', Q x m' → Q' x m') : Ev K te r m Q' := fun σ H G S L R q =>
  h σ H G S L R fun v H' G' x m' hq => q v H' G' x m' (i x m' hq)
theorem EvT.imp {Q Q' : Bool → Mm → Prop} (h : EvT K tt r m Q) (i : ∀ x m', Q x m' → Q' x m') : EvT K tt r m Q' := fun σ H G S L R q =>
  h σ H G S L R fun H' G' x m' hq => q H' G' x m' (i x m' hq)
theorem EvA.imp {t : TA} {Q Q' : List Val → Mm → Prop} (h : EvA K t r m Q) (i : ∀ x m', Q x m' → Q' x m') : EvA K t r m Q' := fun σ H G S L R q =>
  h σ H G S L R fun v H' G' x m' hq => q v H' G' x m' (i x m' hq)
theorem ev_var {i : Nat} {x : Val} (h : r[i]? = some x) (n : x ≠ .any) (q : Q x m) : Ev K (tVar i) r m Q := fun σ H G S L R k => by
  obtain ⟨v, h1, h2⟩ := L.get h n
  exact ⟨v, h1, k v H G x m q S (Le.refl G) h2⟩
theorem ev_cI {i : Int} (q : Q (.d (.int i)) m) : Ev K (tC (.int i)) r m Q := fun σ H G S L R k => k _ H G _ m q S (Le.refl G) (.d (rp_int.mpr rfl))
theorem ev_cB {i : Bool} (q : Q (.d (.bool i)) m) : Ev K (tC (.bl i)) r m Q := fun σ H G S L R k => k _ H G _ m q S (Le.refl G) (.d (rp_bool.mpr rfl))
theorem ev_cS {i : Str} (q : Q (.d (.str i)) m) : Ev K (tC (.str i)) r m Q := fun σ H G S L R k => k _ H G _ m q S (Le.refl G) (.d (rp_str.mpr rfl))
theorem ev_cN (q : Q (.d .none) m) : Ev K (tC .non) r m Q := fun σ H G S L R k => k _ H G _ m q S (Le.refl G) (.d (rp_none.mpr rfl))
theorem ev_cV {v : V} (q : Q (.v v) m) : Ev K (tC v) r m Q := fun σ H G S L R k => k _ H G _ m q S (Le.refl G) .v
/-- a constant of the module that is data -/
theorem ev_cG {v : V} {x : PyData} (hv : ∀ G, Rp K G x v) (q : Q (.d x) m) : Ev K (tC v) r m Q := fun σ H G S L R k => k _ H G _ m q S (Le.refl G) (.d (hv G))
theorem ev_op {f : R2} (h : Ev K ta r m fun x m1 => Ev K tb r m1 fun y m2 => Op2 K f x y m2 Q) : Ev K (tOp f ta tb) r m Q := fun σ H G S L R k =>
  h σ H G S L _ fun v H1 G1 x m1 h1 S1 e1 r1 => h1 σ H1 G1 S1 (L.mono e1) _ fun w H2 G2 y m2 h2 S2 e2 r2 =>
    h2 H2 G2 v w S2 (r1.mono e2) r2 R fun v' H3 G3 z m3 h3 S3 e3 r3 => k v' H3 G3 z m3 h3 S3 (e1.trans (e2.trans e3)) r3
theorem ev_un {f : V → Hp → VK → Prop} (h : Ev K ta r m fun x m1 => Op1 K f x m1 Q) : Ev K (tUn f ta) r m Q := fun σ H G S L R k =>
  h σ H G S L _ fun v H1 G1 x m1 h1 S1 e1 r1 => h1 H1 G1 v S1 r1 R fun v' H3 G3 z m3 h3 S3 e3 r3 => k v' H3 G3 z m3 h3 S3 (e1.trans e3) r3
theorem eva_nil {Q : List Val → Mm → Prop} (q : Q [] m) : EvA K tNil r m Q := fun σ H G S L R k => k [] H G [] m q S (Le.refl G) rfl
theorem eva_cons {tr : TA} {Q : List Val → Mm → Prop} (h : Ev K ta r m fun x m1 => EvA K tr r m1 fun xs m2 => Q (x :: xs) m2) : EvA K (tCons ta tr) r m Q := fun σ H G S L R k =>
  h σ H G S L _ fun v H1 G1 x m1 h1 S1 e1 r1 => h1 σ H1 G1 S1 (L.mono e1) _ fun vs H2 G2 xs m2 h2 S2 e2 r2 =>
    k (v :: vs) H2 G2 (x :: xs) m2 h2 S2 (e1.trans e2) ⟨v, vs, rfl, r1.mono e2, r2⟩
theorem ev_callB {f : List V → Hp → VK → Prop} {t : TA} (h : EvA K t r m fun xs m1 => OpN K f xs m1 Q) : Ev K (tCB f t) r m Q := fun σ H G S L R k =>
  h σ H G S L _ fun vs H1 G1 xs m1 h1 S1 e1 r1 => h1 H1 G1 vs S1 r1 R fun v' H3 G3 z m3 h3 S3 e3 r3 => k v' H3 G3 z m3 h3 S3 (e1.trans e3) r3
theorem ev_if (h : EvT K tt r m fun b m1 => (b = true → Ev K ta r m1 Q) ∧ (b = false → Ev K tb r m1 Q)) : Ev K (tIf tt ta tb) r m Q := fun σ H G S L R k =>
  h σ H G S L _ fun H1 G1 b m1 h1 S1 e1 => by
    cases b with
    | true =>
      show ta σ H1 R
      exact h1.1 rfl σ H1 G1 S1 (L.mono e1) R fun v' H3 G3 z m3 h3 S3 e3 r3 => k v' H3 G3 z m3 h3 S3 (e1.trans e3) r3
    | false =>
      show tb σ H1 R
      exact h1.2 rfl σ H1 G1 S1 (L.mono e1) R fun v' H3 G3 z m3 h3 S3 e3 r3 => k v' H3 G3 z m3 h3 S3 (e1.trans e3) r3
theorem evt_test {Q : Bool → Mm → Prop} (h : Ev K te r m fun x m1 => ∃ b, x = .d (.bool b) ∧ Q b m1) : EvT K (tTest te) r m Q := fun σ H G S L R k =>
  h σ H G S L _ fun v H1 G1 x m1 ⟨b, hx, hb⟩ S1 e1 r1 => by
    subst hx
    exact ⟨b, rp_bool.mp r1.rp, k H1 G1 b m1 hb S1 e1⟩
theorem evt_B {Q : Bool → Mm → Prop} (h : Ev K te r m fun x m1 => ∃ b, x = .d (.bool b) ∧ Q b m1) : EvT K (tB te) r m Q := fun σ H G S L R k =>
  h σ H G S L _ fun v H1 G1 x m1 ⟨b, hx, hb⟩ S1 e1 r1 => by
    subst hx
    exact ⟨b, rp_bool.mp r1.rp, k H1 G1 b m1 hb S1 e1⟩
theorem evt_and {Q : Bool → Mm → Prop} (h : EvT K tt r m fun b m1 => (b = true → EvT K tu r m1 Q) ∧ (b = false → Q false m1)) : EvT K (tAnd tt tu) r m Q := fun σ H G S L R k =>
  h σ H G S L _ fun H1 G1 b m1 h1 S1 e1 => by
    cases b with
    | true =>
      show tu σ H1 R
      exact h1.1 rfl σ H1 G1 S1 (L.mono e1) R fun H3 G3 z m3 h3 S3 e3 => k H3 G3 z m3 h3 S3 (e1.trans e3)
    | false =>
      show R false H1
      exact k H1 G1 false m1 (h1.2 rfl) S1 e1
theorem evt_or {Q : Bool → Mm → Prop} (h : EvT K tt r m fun b m1 => (b = true → Q true m1) ∧ (b = false → EvT K tu r m1 Q)) : EvT K (tOr tt tu) r m Q := fun σ H G S L R k =>
  h σ H G S L _ fun H1 G1 b m1 h1 S1 e1 => by
    cases b with
    | false =>
      show tu σ H1 R
      exact h1.2 rfl σ H1 G1 S1 (L.mono e1) R fun H3 G3 z m3 h3 S3 e3 => k H3 G3 z m3 h3 S3 (e1.trans e3)
    | true =>
      show R true H1
      exact k H1 G1 true m1 (h1.1 rfl) S1 e1
theorem evt_not {Q : Bool → Mm → Prop} (h : EvT K tt r m fun b m1 => Q (!b) m1) : EvT K (tNot tt) r m Q := fun σ H G S L R k =>
  h σ H G S L _ fun H1 G1 b m1 h1 S1 e1 => k H1 G1 (!b) m1 h1 S1 e1
theorem ev_and (h : Ev K ta r m fun x m1 => ∃ b, x = .d (.bool b) ∧ (b = true → Ev K tb r m1 Q) ∧ (b = false → Q (.d (.bool false)) m1)) : Ev K (tAndV ta tb) r m Q := fun σ H G S L R k =>
  h σ H G S L _ fun v H1 G1 x m1 ⟨b, hx, h1, h2⟩ S1 e1 r1 => by
    subst hx
    refine ⟨b, rp_bool.mp r1.rp, ?_⟩
    cases b with
    | true =>
      show tb σ H1 R
      exact h1 rfl σ H1 G1 S1 (L.mono e1) R fun v' H3 G3 z m3 h3 S3 e3 r3 => k v' H3 G3 z m3 h3 S3 (e1.trans e3) r3
    | false =>
      show R (.bl false) H1
      exact k _ H1 G1 _ m1 (h2 rfl) S1 e1 (.d (rp_bool.mpr rfl))
theorem ev_or (h : Ev K ta r m fun x m1 => ∃ b, x = .d (.bool b) ∧ (b = true → Q (.d (.bool true)) m1) ∧ (b = false → Ev K tb r m1 Q)) : Ev K (tOrV ta tb) r m Q := fun σ H G S L R k =>
  h σ H G S L _ fun v H1 G1 x m1 ⟨b, hx, h1, h2⟩ S1 e1 r1 => by
    subst hx
    refine ⟨b, rp_bool.mp r1.rp, ?_⟩
    cases b with
    | false =>
      show tb σ H1 R
      exact h2 rfl σ H1 G1 S1 (L.mono e1) R fun v' H3 G3 z m3 h3 S3 e3 r3 => k v' H3 G3 z m3 h3 S3 (e1.trans e3) r3
    | true =>
      show R (.bl true) H1
      exact k _ H1 G1 _ m1 (h1 rfl) S1 e1 (.d (rp_bool.mpr rfl))
theorem ev_not (h : Ev K ta r m fun x m1 => ∃ b, x = .d (.bool b) ∧ Q (.d (.bool (!b))) m1) : Ev K (tNotV ta) r m Q := fun σ H G S L R k =>
  h σ H G S L _ fun v H1 G1 x m1 ⟨b, hx, h1⟩ S1 e1 r1 => by
    subst hx
    exact ⟨b, rp_bool.mp r1.rp, k _ H1 G1 _ m1 h1 S1 e1 (.d (rp_bool.mpr rfl))⟩
theorem ev_chain {f g : R2} (h : Ev K ta r m fun x m1 => Ev K tb r m1 fun y m2 => Op2 K f x y m2 fun z m3 => ∃ b, z = .d (.bool b) ∧ (b = true → Ev K tc r m3 fun w m4 => Op2 K g y w m4 Q) ∧ (b = false → Q (.d (.bool false)) m3)) :
    Ev K (tChain f g ta tb tc) r m Q := fun σ H G S L R k =>
  h σ H G S L _ fun v H1 G1 x m1 h1 S1 e1 r1 => h1 σ H1 G1 S1 (L.mono e1) _ fun w H2 G2 y m2 h2 S2 e2 r2 =>
    h2 H2 G2 v w S2 (r1.mono e2) r2 _ fun v' H3 G3 z m3 ⟨b, hz, h3, h4⟩ S3 e3 r3 => by
      subst hz
      refine ⟨b, rp_bool.mp r3.rp, ?_⟩
      cases b with
      | true =>
        show tc σ H3 _
        exact h3 rfl σ H3 G3 S3 (L.mono (e1.trans (e2.trans e3))) _ fun u H4 G4 q m4 h5 S4 e4 r4 =>
          h5 H4 G4 w u S4 (r2.mono (e3.trans e4)) r4 R fun v5 H5 G5 z5 m5 q5 S5 e5 r5 => k v5 H5 G5 z5 m5 q5 S5 (e1.trans (e2.trans (e3.trans (e4.trans e5)))) r5
      | false =>
        show R (.bl false) H3
        exact k _ H3 G3 _ m3 (h4 rfl) S3 (e1.trans (e2.trans e3)) (.d (rp_bool.mpr rfl))
/-- a tuple -/
theorem ev_tup {t : TA} (h : EvA K t r m fun xs m1 => ∃ ds : List PyData, xs = ds.map Val.d ∧ ds.length ≤ 100000 ∧ Q (.d (.tuple ds)) m1) : Ev K (tTup t) r m Q := fun σ H G S L R k =>
  h σ H G S L _ fun vs H1 G1 xs m1 ⟨ds, hx, hl, q⟩ S1 e1 r1 => by
    subst hx
    have hA := r1.toAll
    refine ⟨by rw [hA.length]; exact Nat.le_trans hl (by decide), fun p hp => ?_⟩
    have hg := S1.free hp
    exact k (.ref p) _ (upd G1 p (.tup vs)) _ m1 q (S1.fix hp) (e1.trans (Le.new hg)) (.d <| rp_tuple.mpr ⟨p, vs, rfl, SqT.of upd_same, RpAll.mono (Le.new hg) ds vs hA⟩)
/-- a list that stays as it is -/
theorem ev_lstD {t : TA} (h : EvA K t r m fun xs m1 => ∃ ds : List PyData, xs = ds.map Val.d ∧ ds.length ≤ 100000 ∧ Q (.d (.list ds)) m1) : Ev K (tLst t) r m Q := fun σ H G S L R k =>
  h σ H G S L _ fun vs H1 G1 xs m1 ⟨ds, hx, hl, q⟩ S1 e1 r1 => by
    subst hx
    have hA := r1.toAll
    refine ⟨by rw [hA.length]; exact Nat.le_trans hl (by decide), fun p hp => ?_⟩
    have hg := S1.free hp
    exact k (.ref p) _ (upd G1 p (.lst vs)) _ m1 q (S1.fix hp) (e1.trans (Le.new hg)) (.d <| rp_list.mpr ⟨p, vs, rfl, Rd.of upd_same, RpAll.mono (Le.new hg) ds vs hA⟩)
/-- a list that may change -/
theorem ev_lstM {t : TA} (h : EvA K t r m fun xs m1 => xs.length ≤ 100000 ∧ ∀ p, m1 p = none → Q (.v (.ref p)) (put m1 p (.lst xs))) : Ev K (tLst t) r m Q := fun σ H G S L R k =>
  h σ H G S L _ fun vs H1 G1 xs m1 ⟨hl, q⟩ S1 e1 r1 => by
    refine ⟨by rw [r1.length]; exact Nat.le_trans hl (by decide), fun p hp => ?_⟩
    exact k (.ref p) _ G1 _ _ (q p (S1.freeM hp)) (S1.new hp ⟨vs, upd_same, r1⟩) e1 .v
/-- what may change is data from now on -/
theorem ev_freezeL (h : Ev K te r m fun x m1 => ∃ p ds, x = .v (.ref p) ∧ m1 p = some (.lst (ds.map Val.d)) ∧ Q (.d (.list ds)) (del m1 p)) : Ev K te r m Q := fun σ H G S L R k =>
  h σ H G S L R fun v H1 G1 x m1 ⟨p, ds, hx, hm, q⟩ S1 e1 r1 => by
    subst hx
    have r1 : v = .ref p := r1.eq
    subst r1
    obtain ⟨xs, h1, h2⟩ := S1.mem p _ hm
    have hg := S1.dis p _ hm
    exact k (.ref p) H1 (upd G1 p (.lst xs)) _ _ q (S1.freeze hm h1) (e1.trans (Le.new hg)) (.d <| rp_list.mpr ⟨p, xs, rfl, Rd.of upd_same, RpAll.mono (Le.new hg) ds xs h2.toAll⟩)

/-! statements -/
variable {N : List Val → Mm → Prop} {E : Val → Mm → Prop} {t u : TS}
theorem Wp.imp {N' : List Val → Mm → Prop} {E' : Val → Mm → Prop} (h : Wp K t r m N E) (i : ∀ x m', N x m' → N' x m') (j : ∀ x m', E x m' → E' x m') : Wp K t r m N' E' := fun σ H G D S L a b =>
  h σ H G D S L (fun σ' H' G' r' m' hq => a σ' H' G' r' m' (i _ _ hq)) (fun v H' G' x m' hq => b v H' G' x m' (j _ _ hq))
theorem w_next (q : N r m) : Wp K tNext r m N E := fun σ H G D S L a b => a σ H G r m q S (Le.refl G) L
theorem w_seq (h : Wp K t r m (fun r1 m1 => Wp K u r1 m1 N E) E) : Wp K (tSeq t u) r m N E := fun σ H G D S L a b =>
  h σ H G { D with nx := u D } S L (fun σ1 H1 G1 r1 m1 h1 S1 e1 L1 => h1 σ1 H1 G1 D S1 L1 (fun σ2 H2 G2 r2 m2 n2 S2 e2 L2 => a σ2 H2 G2 r2 m2 n2 S2 (e1.trans e2) L2)
    (fun v H2 G2 x m2 n2 S2 e2 L2 => b v H2 G2 x m2 n2 S2 (e1.trans e2) L2)) b
theorem w_asg {i : Nat} (h : Ev K te r m fun x m1 => N (r.set i x) m1) : Wp K (tAsg te (gName i)) r m N E := fun σ H G D S L a b =>
  h σ H G S L _ fun v H1 G1 x m1 q S1 e1 r1 => a (σ.set i (some v)) H1 G1 (r.set i x) m1 q S1 e1 ((L.mono e1).set r1 i)
theorem w_drop (h : Ev K te r m fun _ m1 => N r m1) : Wp K (tDrop te) r m N E := fun σ H G D S L a b =>
  h σ H G S L _ fun v H1 G1 x m1 q S1 e1 r1 => a σ H1 G1 r m1 q S1 e1 (L.mono e1)
theorem w_ret (h : Ev K te r m E) : Wp K (tRet te) r m N E := fun σ H G D S L a b => h σ H G S L _ b
theorem w_if (h : EvT K tt r m fun c m1 => (c = true → Wp K t r m1 N E) ∧ (c = false → Wp K u r m1 N E)) : Wp K (tIfS tt t u) r m N E := fun σ H G D S L a b =>
  h σ H G S L _ fun H1 G1 c m1 h1 S1 e1 => by
    cases c with
    | true =>
      show t D σ H1
      exact h1.1 rfl σ H1 G1 D S1 (L.mono e1) (fun σ2 H2 G2 r2 m2 n2 S2 e2 L2 => a σ2 H2 G2 r2 m2 n2 S2 (e1.trans e2) L2) (fun v H2 G2 x m2 n2 S2 e2 L2 => b v H2 G2 x m2 n2 S2 (e1.trans e2) L2)
    | false =>
      show u D σ H1
      exact h1.2 rfl σ H1 G1 D S1 (L.mono e1) (fun σ2 H2 G2 r2 m2 n2 S2 e2 L2 => a σ2 H2 G2 r2 m2 n2 S2 (e1.trans e2) L2) (fun v H2 G2 x m2 n2 S2 e2 L2 => b v H2 G2 x m2 n2 S2 (e1.trans e2) L2)
/-- less told -/
theorem w_weak {r' : List Val} (w : Wk r r') (h : Wp K t r' m N E) : Wp K t r m N E := fun σ H G D S L a b => h σ H G D S (L.weak w) a b
/-- a, b = .. of one tuple -/
theorem w_asg2 {i j : Nat} (h : Ev K te r m fun x m1 => ∃ d1 d2, x = .d (.tuple [d1, d2]) ∧ N ((r.set i (.d d1)).set j (.d d2)) m1) : Wp K (tAsg te (gTup K 2 (gCons (gName i) (gCons (gName j) gNil)))) r m N E := fun σ H G D S L a b =>
  h σ H G S L _ fun v H1 G1 x m1 ⟨d1, d2, hx, q⟩ S1 e1 r1 => by
    subst hx
    obtain ⟨p, xs, hv, hs, hA⟩ := rp_tuple.mp r1.rp
    have hl := hA.length
    obtain ⟨x1, t1, rfl, a1, hA⟩ := rpa_cons.mp hA
    obtain ⟨x2, t2, rfl, a2, hA⟩ := rpa_cons.mp hA
    obtain rfl := rpa_nil.mp hA
    refine ⟨p, _, hv, S1.sqT hs, rfl, x1, [x2], rfl, x2, [], rfl, rfl, ?_⟩
    exact a _ H1 G1 _ m1 q S1 e1 (((L.mono e1).set (r := .d d1) (.d a1) i).set (r := .d d2) (.d a2) j)
/-- a, b = e, f -/
theorem w_par {i j : Nat} {ta : TA} (h : EvA K ta r m fun xs m1 => ∃ x y, xs = [x, y] ∧ N ((r.set i x).set j y) m1) : Wp K (tPar i j ta) r m N E := fun σ H G D S L a b =>
  h σ H G S L _ fun vs H1 G1 xs m1 ⟨x, y, hx, q⟩ S1 e1 r1 => by
    subst hx
    obtain ⟨v1, t1, rfl, a1, t2⟩ := r1
    obtain ⟨v2, t2, rfl, a2, t3⟩ := t2
    have t3 : t2 = [] := t3
    subst t3
    exact ⟨v1, v2, rfl, a _ H1 G1 _ m1 q S1 e1 (((L.mono e1).set a1 i).set a2 j)⟩
theorem w_while {tt : TT} (W : Nat → List Val → Mm → Prop) (n0 : Nat) (h0 : W n0 r m)
    (hs : ∀ n r' m', W n r' m' → EvT K tt r' m' fun c m1 => (c = true → Wp K t r' m1 (fun r2 m2 => ∃ n', n' < n ∧ W n' r2 m2) E) ∧ (c = false → N r' m1)) : Wp K (tWhile tt t) r m N E := fun σ H G D S L a b => by
  refine ⟨fun n σ' H' => ∃ G' r' m', W n r' m' ∧ Sta K m' H' G' ∧ Le G G' ∧ Sl K G' r' σ', ⟨n0, G, r, m, h0, S, Le.refl G, L⟩, ?_⟩
  rintro n σ1 H1 ⟨G1, r1, m1, hw, S1, e1, L1⟩
  refine hs n r1 m1 hw σ1 H1 G1 S1 L1 _ fun H2 G2 c m2 h2 S2 e2 => ?_
  cases c with
  | true =>
    refine ⟨fun σ' H' => ∃ n', n' < n ∧ ∃ G' r' m', W n' r' m' ∧ Sta K m' H' G' ∧ Le G G' ∧ Sl K G' r' σ', fun σ' H' h => h, ?_⟩
    exact h2.1 rfl σ1 H2 G2 _ S2 (L1.mono e2) (fun σ3 H3 G3 r3 m3 ⟨n', hn, hw'⟩ S3 e3 L3 => ⟨n', hn, G3, r3, m3, hw', S3, e1.trans (e2.trans e3), L3⟩)
      (fun v H3 G3 x m3 n3 S3 e3 L3 => b v H3 G3 x m3 n3 S3 (e1.trans (e2.trans e3)) L3)
  | false => exact a σ1 H2 G2 r1 m2 (h2.2 rfl) S2 (e1.trans e2) (L1.mono e2)
theorem w_forTA {tl : TE} {j : Nat} (P : List PyData → Prop) (h : Ev K tl r m fun x m1 => m1 = m ∧ ∃ ds, x = .d (.tuple ds) ∧ P ds) (W : List PyData → Nat → List Val → Mm → Prop) (h0 : ∀ ds, P ds → W ds 0 r m)
    (hs : ∀ (ds : List PyData) (i : Nat) (d : PyData) r' m', P ds → ds[i]? = some d → W ds i r' m' → Wp K t (r'.set j (.d d)) m' (W ds (i + 1)) E) (hd : ∀ (ds : List PyData) r' m', P ds → W ds ds.length r' m' → N r' m') : Wp K (tFor (iTup K tl) (gName j) t) r m N E := fun σ H G D S L a b =>
  h σ H G S L _ fun v H1 G1 x m1 ⟨hm, ds, hx, hP⟩ S1 e1 r1 => by
    subst hx hm
    obtain ⟨p, xs, hv, hs1, hA⟩ := rp_tuple.mp r1.rp
    refine ⟨p, hv, ⟨xs, S1.sqT hs1⟩, for_tup (xs := xs) (fun i σ' H' => ∃ G' r' m', W ds i r' m' ∧ Sta K m' H' G' ∧ Le G1 G' ∧ Sl K G' r' σ') ⟨G1, r, _, h0 ds hP, S1, Le.refl G1, L.mono e1⟩ ?_ ?_ ?_⟩
    · rintro i σ' H' hi ⟨G', r', m', _, S', e', _⟩
      exact S'.sqT (e'.sqT hs1)
    · rintro i y σ' H' hy ⟨G', r', m', hw, S', e', L'⟩
      obtain ⟨d, hd1, hd2⟩ := hA.get hy
      refine hs ds i d r' m' hP hd1 hw (σ'.set j (some y)) H' G' _ S' (L'.set (r := .d d) (.d (Rp.mono e' d y hd2)) j) (fun σ3 H3 G3 r3 m3 h3 S3 e3 L3 => ⟨G3, r3, m3, h3, S3, e'.trans e3, L3⟩) (fun v H3 G3 x m3 n3 S3 e3 L3 => b v H3 G3 x m3 n3 S3 (e1.trans (e'.trans e3)) L3)
    · rintro σ' H' ⟨G', r', m', hw, S', e', L'⟩
      rw [hA.length] at hw
      exact a σ' H' G' r' m' (hd ds r' m' hP hw) S' (e1.trans e') L'
theorem w_forT {tl : TE} {j : Nat} {ds : List PyData} (h : Ev K tl r m fun x m1 => x = .d (.tuple ds) ∧ m1 = m) (W : Nat → List Val → Mm → Prop) (h0 : W 0 r m)
    (hs : ∀ (i : Nat) (d : PyData) r' m', ds[i]? = some d → W i r' m' → Wp K t (r'.set j (.d d)) m' (W (i + 1)) E) (hd : ∀ r' m', W ds.length r' m' → N r' m') : Wp K (tFor (iTup K tl) (gName j) t) r m N E :=
  w_forTA (fun l => l = ds) (h.imp fun x m' e => ⟨e.2, ds, e.1, rfl⟩) (fun _ => W) (fun _ _ => h0) (fun l i d r' m' e hd hw => hs i d r' m' (by rw [← e]; exact hd) hw) (fun l r' m' e hw => hd r' m' (by rw [← e]; exact hw))
theorem w_forLA {tl : TE} {j : Nat} (P : List PyData → Prop) (h : Ev K tl r m fun x m1 => m1 = m ∧ ∃ ds, x = .d (.list ds) ∧ P ds) (W : List PyData → Nat → List Val → Mm → Prop) (h0 : ∀ ds, P ds → W ds 0 r m)
    (hs : ∀ (ds : List PyData) (i : Nat) (d : PyData) r' m', P ds → ds[i]? = some d → W ds i r' m' → Wp K t (r'.set j (.d d)) m' (W ds (i + 1)) E) (hd : ∀ (ds : List PyData) r' m', P ds → W ds ds.length r' m' → N r' m') : Wp K (tFor (iList K tl) (gName j) t) r m N E := fun σ H G D S L a b =>
  h σ H G S L _ fun v H1 G1 x m1 ⟨hm, ds, hx, hP⟩ S1 e1 r1 => by
    subst hx hm
    obtain ⟨p, xs, hv, hs1, hA⟩ := rp_list.mp r1.rp
    have hs1 : SqL K G1 p xs := Or.inl hs1
    refine ⟨p, hv, ⟨xs, S1.sqL hs1⟩, for_list (xs := xs) (fun i σ' H' => ∃ G' r' m', W ds i r' m' ∧ Sta K m' H' G' ∧ Le G1 G' ∧ Sl K G' r' σ') ⟨G1, r, _, h0 ds hP, S1, Le.refl G1, L.mono e1⟩ ?_ ?_ ?_⟩
    · rintro i σ' H' hi ⟨G', r', m', _, S', e', _⟩
      exact S'.sqL (e'.sqL hs1)
    · rintro i y σ' H' hy ⟨G', r', m', hw, S', e', L'⟩
      obtain ⟨d, hd1, hd2⟩ := hA.get hy
      refine hs ds i d r' m' hP hd1 hw (σ'.set j (some y)) H' G' _ S' (L'.set (r := .d d) (.d (Rp.mono e' d y hd2)) j) (fun σ3 H3 G3 r3 m3 h3 S3 e3 L3 => ⟨G3, r3, m3, h3, S3, e'.trans e3, L3⟩) (fun v H3 G3 x m3 n3 S3 e3 L3 => b v H3 G3 x m3 n3 S3 (e1.trans (e'.trans e3)) L3)
    · rintro σ' H' ⟨G', r', m', hw, S', e', L'⟩
      rw [hA.length] at hw
      exact a σ' H' G' r' m' (hd ds r' m' hP hw) S' (e1.trans e') L'
theorem w_forL {tl : TE} {j : Nat} {ds : List PyData} (h : Ev K tl r m fun x m1 => x = .d (.list ds) ∧ m1 = m) (W : Nat → List Val → Mm → Prop) (h0 : W 0 r m)
    (hs : ∀ (i : Nat) (d : PyData) r' m', ds[i]? = some d → W i r' m' → Wp K t (r'.set j (.d d)) m' (W (i + 1)) E) (hd : ∀ r' m', W ds.length r' m' → N r' m') : Wp K (tFor (iList K tl) (gName j) t) r m N E :=
  w_forLA (fun l => l = ds) (h.imp fun x m' e => ⟨e.2, ds, e.1, rfl⟩) (fun _ => W) (fun _ _ => h0) (fun l i d r' m' e hd hw => hs i d r' m' (by rw [← e]; exact hd) hw) (fun l r' m' e hw => hd r' m' (by rw [← e]; exact hw))
theorem w_forR1 {ta : TA} {j : Nat} {n : Nat} (h : EvA K ta r m fun xs m1 => xs = [.d (.int (n : Int))] ∧ m1 = m) (hn : n ≤ 100000) (W : Nat → List Val → Mm → Prop) (h0 : W 0 r m)
    (hs : ∀ (i : Nat) r' m', i < n → W i r' m' → Wp K t (r'.set j (.d (.int (i : Int)))) m' (W (i + 1)) E) (hd : ∀ r' m', W n r' m' → N r' m') : Wp K (tFor (iRng1 ta) (gName j) t) r m N E := fun σ H G D S L a b =>
  h σ H G S L _ fun vs H1 G1 xs m1 ⟨hx, hm⟩ S1 e1 r1 => by
    subst hx hm
    obtain ⟨v1, t1, rfl, a1, t2⟩ := r1
    have t2 : t1 = [] := t2
    subst t2
    have a1 : v1 = .int (n : Int) := rp_int.mp a1.rp
    subst a1
    have en : ((n : Int)).toNat = n := by omega
    refine ⟨(n : Int), rfl, by omega, by omega, ?_⟩
    rw [en]
    refine for_range (lo := 0) (n := n) (fun i σ' H' => ∃ G' r' m', W i r' m' ∧ Sta K m' H' G' ∧ Le G1 G' ∧ Sl K G' r' σ') ⟨G1, r, _, h0, S1, Le.refl G1, L.mono e1⟩ ?_ ?_
    · rintro i σ' H' hi ⟨G', r', m', hw, S', e', L'⟩
      rw [Int.zero_add]
      refine hs i r' m' hi hw (σ'.set j (some (.int (i : Int)))) H' G' _ S' (L'.set (r := .d (.int (i : Int))) (.d (rp_int.mpr rfl)) j) (fun σ3 H3 G3 r3 m3 h3 S3 e3 L3 => ⟨G3, r3, m3, h3, S3, e'.trans e3, L3⟩) (fun v H3 G3 x m3 n3 S3 e3 L3 => b v H3 G3 x m3 n3 S3 (e1.trans (e'.trans e3)) L3)
    · rintro σ' H' ⟨G', r', m', hw, S', e', L'⟩
      exact a σ' H' G' r' m' (hd r' m' hw) S' (e1.trans e') L'
theorem w_forR2 {ta : TA} {j : Nat} {lo n : Nat} (h : EvA K ta r m fun xs m1 => xs = [.d (.int (lo : Int)), .d (.int ((lo + n : Nat) : Int))] ∧ m1 = m) (hn : lo + n ≤ 100000) (W : Nat → List Val → Mm → Prop) (h0 : W 0 r m)
    (hs : ∀ (i : Nat) r' m', i < n → W i r' m' → Wp K t (r'.set j (.d (.int ((lo + i : Nat) : Int)))) m' (W (i + 1)) E) (hd : ∀ r' m', W n r' m' → N r' m') : Wp K (tFor (iRng2 ta) (gName j) t) r m N E := fun σ H G D S L a b =>
  h σ H G S L _ fun vs H1 G1 xs m1 ⟨hx, hm⟩ S1 e1 r1 => by
    subst hx hm
    obtain ⟨v1, t1, rfl, a1, t2⟩ := r1
    obtain ⟨v2, t3, rfl, a2, t2⟩ := t2
    have t2 : t3 = [] := t2
    subst t2
    have a1 : v1 = .int (lo : Int) := rp_int.mp a1.rp
    have a2 : v2 = .int ((lo + n : Nat) : Int) := rp_int.mp a2.rp
    subst a1 a2
    have en : (((lo + n : Nat) : Int) - (lo : Int)).toNat = n := by omega
    refine ⟨(lo : Int), ((lo + n : Nat) : Int), rfl, ⟨by omega, by omega, by omega, by omega⟩, ?_⟩
    rw [en]
    refine for_range (lo := (lo : Int)) (n := n) (fun i σ' H' => ∃ G' r' m', W i r' m' ∧ Sta K m' H' G' ∧ Le G1 G' ∧ Sl K G' r' σ') ⟨G1, r, _, h0, S1, Le.refl G1, L.mono e1⟩ ?_ ?_
    · rintro i σ' H' hi ⟨G', r', m', hw, S', e', L'⟩
      rw [show (lo : Int) + (i : Int) = ((lo + i : Nat) : Int) from (Int.natCast_add lo i).symm]
      refine hs i r' m' hi hw _ H' G' _ S' (L'.set (r := .d (.int ((lo + i : Nat) : Int))) (.d (rp_int.mpr rfl)) j) (fun σ3 H3 G3 r3 m3 h3 S3 e3 L3 => ⟨G3, r3, m3, h3, S3, e'.trans e3, L3⟩) (fun v H3 G3 x m3 n3 S3 e3 L3 => b v H3 G3 x m3 n3 S3 (e1.trans (e'.trans e3)) L3)
    · rintro σ' H' ⟨G', r', m', hw, S', e', L'⟩
      exact a σ' H' G' r' m' (hd r' m' hw) S' (e1.trans e') L'
end

/-! what a def does, at this level -/
abbrev FSp := List Val → Mm → (Val → Mm → Prop) → Prop
def spD (K : PySem.W.Frag) (f : FSp) : Sp := fun vs H Q _ => ∃ m G args R, Sta K m H G ∧ VRs K G args vs ∧ f args m R ∧ ∀ v H' G' x m', R x m' → Sta K m' H' G' → Le G G' → VR K G' x v → Q v H'
theorem ev_call {K : PySem.W.Frag} {f : FSp} {t : TA} {E : XK} {r : List Val} {m : Mm} {Q : Val → Mm → Prop} (h : EvA K t r m fun xs m1 => f xs m1 Q) : Ev K (tCall (spD K f) [] E t) r m Q := fun σ H G S L R k =>
  h σ H G S L _ fun vs H1 G1 xs m1 h1 S1 e1 r1 => by
    rw [List.append_nil]
    exact ⟨m1, G1, xs, Q, S1, r1, h1, fun v' H3 G3 z m3 h3 S3 e3 r3 => k v' H3 G3 z m3 h3 S3 (e1.trans e3) r3⟩
section
variable {P : Program} {w : World} {K : PySem.W.Frag} {mg : Str → Option Value} {base : Heap}
theorem fn_ok {x qual : Str} {st : Stmt} {f : Addr} {fd : FuncData} {N ps : List Str} {k : Nat} {sp : FSp} (F : Fun K x qual st f fd) (S : FnScope N ps (defScope st)) (hl : ∀ args m R, sp args m R → args.length = ps.length)
    (hb : ∀ (cdv : Value) (A : Around) (outer : List Env) (s : Shared) (H : Hp) (E : XK), Room k (A.deeper (PyProof.Rows.envOfC qual (defScope st) s.heap.objs.size f cdv)) →
      ∃ t, PSs (cxOf CX0 P w K mg base N qual (defScope st) f cdv A outer s H E).nox (defBody st) t ∧
        ∀ args m R, sp args m R → Wp K t (args ++ List.replicate (N.length - args.length) .any) m (fun _ m' => R (.d .none) m') R) : FnOk P w K mg base CX0 (k + 1) f fd ps (spD K sp) := by
  refine F.ok S (fun vs H Q E h => ?_) (fun cdv A outer s H vs Q E hr h => ?_)
  · obtain ⟨m, G, args, R, S1, r1, h1, _⟩ := h
    rw [r1.length]; exact hl args m R h1
  · obtain ⟨m, G, args, R, S1, r1, h1, k1⟩ := h
    obtain ⟨t, ht, hw⟩ := hb cdv A outer s H E hr
    refine ⟨t, ht, ?_⟩
    refine hw args m R h1 _ H G _ S1 ?_ (fun σ' H' G' r' m' hn S' e' L' => ?_) (fun v H' G' x m' hn S' e' L' => k1 v H' G' x m' hn S' e' L')
    · unfold L2.start
      rw [r1.length]
      exact Sl.start _ r1
    · exact k1 .non H' G' (.d .none) m' hn S' e' (.d (rp_none.mpr rfl))
end
end DL


namespace DL
open PySem L2

/-! rules of the layer below, joined -/
section
variable {X : Cx}
/-- list + list, as they may be read -/
def rCatR : R2 := fun x y H Q => ∃ l b xs zs, x = .ref l ∧ y = .ref b ∧ Rd H l (.lst xs) ∧ Rd H b (.lst zs) ∧ xs.length + zs.length ≤ sizeLine ∧ ∀ p, H p = none → Q (.ref p) (upd H p (.lst (xs ++ zs)))
theorem rd_list {pins : List (Addr × Obj)} {σ : L2.St} {H : Hp} {s : Shared} {l : Addr} {xs : List V} (I : Inv X pins σ H s) (h : Rd H l (.lst xs)) :
    xs.length ≤ sizeLine ∧ ∃ (its : List Value) (n : Nat), Vals xs its ∧ xs.length = its.length ∧ s.heap.get? l = some { cls := .type "list", data := .seq its.toArray n } := by
  obtain ⟨z, its, n, r, e⟩ := h.ok I.hok
  exact ⟨z, its, n, r, r.length, e⟩
theorem op_catR : OpR X (binaryOp .Add) rCatR := by
  intro pins s σ H x y v u Q I rx ry h
  obtain ⟨l, b, xs, zs, rfl, rfl, hH, hB, hz, q⟩ := h
  cases rx
  cases ry
  obtain ⟨z1, its1, n1, r1, hl1, e1⟩ := rd_list I hH
  obtain ⟨z2, its2, n2, r2, hl2, e2⟩ := rd_list I hB
  refine PySem.P.add_list e1 e2 ?_ (by rw [List.size_toArray, List.size_toArray, ← hl1, ← hl2]; exact hz)
  have ea : its1.toArray ++ its2.toArray = (its1 ++ its2).toArray := by simp
  rw [ea]
  exact ⟨.ref _, _, I.lnew (t' := s.toks) (r1.append r2) (by rw [List.length_append]; exact hz), rfl, q _ I.fresh⟩
def rAddI : R2 := rI0 fun i j => .int (i + j)
def rAddS : R2 := fun x y H Q => ∃ i j, x = .str i ∧ y = .str j ∧ i.length + j.length ≤ sizeLine ∧ Q (.str (i ++ j)) H
def rAdd (K : PySem.W.Frag) : R2 := fun x y H Q => rAddI x y H Q ∨ (rCatA K x y H Q ∨ (rCatR x y H Q ∨ rAddS x y H Q))
theorem oAdd : OpR X (binaryOp .Add) (rAdd X.K) := (op_add).or (op_catA.or (op_catR.or op_add_str))
def rSub : R2 := rI0 fun i j => .int (i - j)
theorem oSub : OpR X (binaryOp .Sub) rSub := op_sub
def rMulI : R2 := rI CMulW fun i j => .int (i * j)
def rFdv : R2 := rI CDivW fun i j => .int (i / j)
theorem oFdv : OpR X (binaryOp .FloorDiv) rFdv := op_fdivW
def rMod : R2 := rI (fun _ j => 0 < j) fun i j => .int (i % j)
theorem oMod : OpR X (binaryOp .Mod) rMod := op_mod
def rPow : R2 := rI CPow fun i j => .int (i ^ j.toNat)
theorem oPow : OpR X (binaryOp .Pow) rPow := op_pow
def rLt : R2 := rI0 fun i j => .bl (decide (i < j))
def rLe : R2 := rI0 fun i j => .bl (decide (i ≤ j))
def rGt : R2 := rI0 fun i j => .bl (decide (j < i))
def rGe : R2 := rI0 fun i j => .bl (decide (j ≤ i))
theorem oLt : OpR X (compareOp .Lt) rLt := op_lt
theorem oLe : OpR X (compareOp .LtE) rLe := op_le
theorem oGt : OpR X (compareOp .Gt) rGt := op_gt
theorem oGe : OpR X (compareOp .GtE) rGe := op_ge
def rEqA (K : PySem.W.Frag) : R2 := fun x y H Q => rEq x y H Q ∨ rEqD K x y H Q
def rNeA (K : PySem.W.Frag) : R2 := fun x y H Q => rNe x y H Q ∨ rNeD K x y H Q
theorem oEq {k : Nat} (hr : Room k X.A) : OpR X (compareOp .Eq) (rEqA X.K) := op_eq.or (op_eqD hr.units)
theorem oNe {k : Nat} (hr : Room k X.A) : OpR X (compareOp .NotEq) (rNeA X.K) := op_ne.or (op_neD hr.units)
def rNeg : V → Hp → VK → Prop := rU fun i => .int (-i)
theorem oNeg : UnR X (unaryOp .USub) rNeg := un_neg

/-! a tuple so many times: once it is the same one -/
theorem mul_tuple1 {l : Addr} {items : Array Value} {n : Nat} {dd : Option Addr} {sl : Array (Option Value)} {u : Tok} :
    Meets (Builtin.«tuple.__mul__» ⟨[.ref l, .int 1 u], []⟩) (fun _ R s => s.heap.get? l = some { cls := .type "tuple", dict := dd, data := .seq items n, slots := sl } ∧ R (.ok (.ret (Value.ref l))) s) :=
  .of_wp fun prog w A R s h => by
    obtain ⟨hp, g, d, tk, os⟩ := s
    obtain ⟨hl, h⟩ := h
    have f1 := AutoSeq1.idx_int
    wp_walk using wpAny_loadPart' hl
    repeat (first
      | (refine wpAny_ite_false (by decide) ?_; wp_walk using wpAny_loadPart' hl)
      | (refine wpAny_ite_true (by simp) ?_; wp_walk using wpAny_loadPart' hl))
    exact ⟨_, rfl, h⟩


def rRepT1 (K : PySem.W.Frag) : R2 := fun x y H Q => ∃ l xs, x = .ref l ∧ y = .int 1 ∧ SqT K H l xs ∧ Q (.ref l) H
theorem op_repT1 : OpR X (binaryOp .Mult) (rRepT1 X.K) := by
  intro pins s σ H x y v u Q I rx ry h
  obtain ⟨l, xs, rfl, rfl, hT, q⟩ := h
  cases rx
  obtain ⟨t, rfl⟩ := ry
  obtain ⟨its, r, ⟨⟨cls, dd, data, sl⟩, ho, hc, n, hd⟩, hs⟩ := I.tuple hT
  simp only at hc hd
  subst hc hd
  refine wpAny_binaryOp_repeat_ref (T := "tuple") (U := "int") (by decide) ⟨_, ho, rfl⟩ (fun s' => typeIs_int s' 1 t) noFill_tuple_mul PySem.F.fills_int_mul PySem.F.slot_int_rmul repeat_tuple PySem.F.slot_int_index.lookup
    (call_meets PySem.F.slot_int_rmul (typeIs_int s 1 t) PySem.F.entry_int_rmul (PySem.F.args_int_rmul_2 _ _) (int_rmul_tuple 1 t l its.toArray n dd sl)
      ⟨ho, rfl, ⟨_, ho, rfl⟩, call_meets PySem.F.slot_tuple_mul ⟨_, ho, rfl⟩ PySem.F.entry_tuple_mul (PySem.F.args_tuple_mul_2 _ _) mul_tuple1 ⟨ho, ?_⟩⟩)
  exact ⟨.ref l, H, I, rfl, q⟩
def rMul (K : PySem.W.Frag) : R2 := fun x y H Q => rMulI x y H Q ∨ (rRepT K x y H Q ∨ (rRepT1 K x y H Q ∨ rRep x y H Q))
theorem oMul : OpR X (binaryOp .Mult) (rMul X.K) := op_mulW.or (op_repT.or (op_repT1.or op_rep))

/-! sum of a tuple -/
def rSumT (K : PySem.W.Frag) : List V → Hp → VK → Prop := fun vs H Q => ∃ (a : Addr) (ns : List Int), vs = [V.ref a] ∧ SqT K H a (ns.map V.int) ∧ Q (.int ns.sum) H
theorem presum_take (ns : List Int) : ∀ k, preSum (fun i => ns.getD i 0) k = (ns.take k).sum
  | 0 => by simp [preSum]
  | k + 1 => by
    have ih := presum_take ns k
    by_cases h : k < ns.length
    · rw [List.take_succ_eq_append_getElem h, List.sum_append]
      simp only [preSum, ih, List.sum_cons, List.sum_nil, Int.add_zero]
      rw [List.getD_eq_getElem?_getD, List.getElem?_eq_getElem h]; rfl
    · rw [List.take_of_length_le (by omega)] at ih ⊢
      simp only [preSum, ih]
      rw [List.getD_eq_getElem?_getD, List.getElem?_eq_none (by omega)]; simp
theorem cr_sumT (hc : X.calm = true) : CallR X (.builtin "sum") (rSumT X.K) := by
  intro pins s σ H vs us Q I r h
  obtain ⟨a, ns, rfl, hs, q⟩ := h
  obtain ⟨its, rv, ht, _⟩ := I.tuple hs
  rw [Vals.ref1 r]
  have hlt : a < s.heap.objs.size := ht.lt
  refine call_sum_walkG (wpAny_pyIter_tuple ht ?_)
  refine ⟨s.heap.objs.size, [s.heap.objs.size, a], [s.heap.objs.size], its.toArray.size, _, _, fun i => ns.getD i 0, rfl, Walks.tuple (A := X.A.in1) (I.ok.hd hc) s.heap.objs.size a (Nat.ne_of_lt hlt) its.toArray, ⟨⟨_, Heap.get?_push_size _ rfl, rfl, rfl⟩, ?_⟩, ?_, ?_, ?_⟩
  · obtain ⟨o, h1, h2⟩ := ht
    exact ⟨o, Heap.get?_push_of_some _ h1, h2⟩
  · intro b hb
    have hsz : (s.heap.push { cls := .type "tuple_iterator", data := .fields #[.ref a, .int 0 0] }).objs.size = s.heap.objs.size + 1 := Heap.size_push ..
    show b < (s.heap.push { cls := .type "tuple_iterator", data := .fields #[.ref a, .int 0 0] }).objs.size
    rw [hsz]
    rcases List.mem_cons.mp hb with e | e
    · rw [e]; exact Nat.lt_succ_self _
    · rw [List.mem_singleton.mp e]; exact Nat.lt_succ_of_lt hlt
  · intro i v hv
    have hv : its[i]? = some v := by simpa using hv
    have hlen := rv.length
    have hil : i < its.length := (List.getElem?_eq_some_iff.mp hv).1
    rw [List.length_map] at hlen
    have hx : (ns.map V.int)[i]? = some (.int (ns.getD i 0)) := by
      rw [List.getElem?_map, List.getD_eq_getElem?_getD, List.getElem?_eq_getElem (by omega)]; rfl
    obtain ⟨u, h1, h2⟩ := rv.get hx
    rw [hv] at h1
    cases h1
    exact h2
  · intro h' tk t' hk
    have hlen := rv.length
    rw [List.length_map] at hlen
    have e : preSum (fun i => ns.getD i 0) its.toArray.size = ns.sum := by
      rw [presum_take, List.size_toArray, List.take_of_length_le (by omega)]
    rw [e]
    refine ⟨.int ns.sum, H, I.kept (fun b o e => hk b o (fun hb => ?_) (Heap.get?_push_of_some _ e)), ⟨_, rfl⟩, q⟩
    have hb : b = s.heap.objs.size := by simpa using hb
    subst hb
    exact absurd (Heap.lt_size e) (Nat.lt_irrefl _)
def rSumA (K : PySem.W.Frag) : List V → Hp → VK → Prop := fun vs H Q => rSum K vs H Q ∨ rSumT K vs H Q
theorem cSum (hc : X.calm = true) : CallR X (.builtin "sum") (rSumA X.K) := (cr_sum hc).or (cr_sumT hc)
theorem cAll (hc : X.calm = true) : CallR X (.builtin "all") (rAll X.K) := cr_all hc
theorem cAny (hc : X.calm = true) : CallR X (.builtin "any") (rAny X.K) := cr_any hc
def rAbs : List V → Hp → VK → Prop := fun xs H Q => ∃ i, xs = [.int i] ∧ Q (.int (if i < 0 then -i else i)) H
theorem cAbs : CallR X (.builtin "abs") rAbs := call_abs
def rMax2 : List V → Hp → VK → Prop := fun xs H Q => ∃ i j, xs = [.int i, .int j] ∧ Q (.int (if j > i then j else i)) H
def rMin2 : List V → Hp → VK → Prop := fun xs H Q => ∃ i j, xs = [.int i, .int j] ∧ Q (.int (if j < i then j else i)) H
theorem cMax (hc : X.calm = true) : CallR X (.builtin "max") rMax2 := call_max2 hc
theorem cMin (hc : X.calm = true) : CallR X (.builtin "min") rMin2 := call_min2 hc
def rLenQ (K : PySem.W.Frag) : List V → Hp → VK → Prop := fun xs H Q => ∃ p ys, xs = [.ref p] ∧ (SqL K H p ys ∨ SqT K H p ys) ∧ Q (.int ys.length) H
def rLenS : List V → Hp → VK → Prop := fun xs H Q => ∃ z, xs = [.str z] ∧ z.length ≤ sizeLine ∧ Q (.int z.length) H
def rLen (K : PySem.W.Frag) : List V → Hp → VK → Prop := fun vs H Q => rLenQ K vs H Q ∨ rLenS vs H Q
theorem cLen : CallR X (.builtin "len") (rLen X.K) := call_len_seq.or call_len_str
def rTupO (K : PySem.W.Frag) : List V → Hp → VK → Prop := fun xs H Q => ∃ p ys, xs = [.ref p] ∧ ((SqL K H p ys ∧ ∀ l, H l = none → Q (.ref l) (upd H l (.tup ys))) ∨ (SqT K H p ys ∧ Q (.ref p) H))
theorem cTup : CallR X (.type "tuple") (rTupO X.K) := call_tuple_of
def rLstO (K : PySem.W.Frag) : List V → Hp → VK → Prop := fun xs H Q => ∃ p ys, xs = [.ref p] ∧ (SqL K H p ys ∨ SqT K H p ys) ∧ ∀ l, H l = none → Q (.ref l) (upd H l (.lst ys))
theorem cLst : CallR X (.type "list") (rLstO X.K) := call_list_of
theorem cIsi : CallR X (.builtin "isinstance") (rIsi X.K) := call_isi
def rDivmod : List V → Hp → VK → Prop := fun xs H Q => ∃ i j, xs = [.int i, .int j] ∧ CDivW i j ∧ ∀ p, H p = none → Q (.ref p) (upd H p (.tup [.int (i / j), .int (i % j)]))
theorem cDivmod : CallR X (.builtin "divmod") rDivmod := by
  intro pins s σ H xs us Q I r h
  obtain ⟨i, j, rfl, ⟨h1, h2⟩, q⟩ := h
  obtain ⟨u, w', rfl, ⟨t, rfl⟩, ⟨t', rfl⟩⟩ := vals2 r
  refine PyProof.Rows.divmod_int (by omega) ?_ (.inl (PyProof.noPylong_of_log2 h2))
  rw [Int.fdiv_eq_ediv_of_nonneg i (by omega), Int.fmod_eq_emod_of_nonneg i (by omega)]
  have hn : H s.heap.objs.size = none := I.hok.fresh (Nat.le_refl _)
  refine ⟨.ref s.heap.objs.size, _, ?_, rfl, q _ hn⟩
  refine I.laid (fun b o e => Heap.get?_push_of_some _ e) (Nat.le_refl _) ⟨by rw [sizeLine_eq]; show 2 ≤ 16777216; decide, [.int (i / j) s.toks, .int (i % j) (s.toks + 1)], .cons ⟨_, rfl⟩ (.cons ⟨_, rfl⟩ .nil), ?_⟩
  exact ⟨_, Heap.get?_push_size s.heap rfl, rfl, 0, rfl⟩

/-! repr of data -/
mutual
theorem rp_dp {K : PySem.W.Frag} {G : Hp} : ∀ (d : PyData) (v : V), d.hasDict = false → Rp K G d v → Dp K G v d
  | .none, v, _, h => by rw [rp_none.mp h]; exact .non
  | .bool b, v, _, h => by rw [rp_bool.mp h]; exact .bl b
  | .int i, v, _, h => by rw [rp_int.mp h]; exact .int i
  | .str s, v, _, h => by rw [rp_str.mp h]; exact .str s
  | .list ds, v, n, h => by
    obtain ⟨a, xs, rfl, h2, h3⟩ := rp_list.mp h
    exact .lst (Or.inl h2) (rp_dpAll ds xs (by simpa [PyData.hasDict] using n) h3)
  | .tuple ds, v, n, h => by
    obtain ⟨a, xs, rfl, h2, h3⟩ := rp_tuple.mp h
    exact .tup h2 (rp_dpAll ds xs (by simpa [PyData.hasDict] using n) h3)
  | .dict kvs, v, n, h => by simp [PyData.hasDict] at n
theorem rp_dpAll {K : PySem.W.Frag} {G : Hp} : ∀ (ds : List PyData) (xs : List V), PyData.hasDictAll ds = false → RpAll K G ds xs → DpAll K G xs ds
  | [], xs, _, h => by rw [rpa_nil.mp h]; exact .nil
  | d :: ds, xs, n, h => by
    obtain ⟨x, r, rfl, h2, h3⟩ := rpa_cons.mp h
    have n : d.hasDict = false ∧ PyData.hasDictAll ds = false := by simpa [PyData.hasDictAll] using n
    exact .cons (rp_dp d x n.1 h2) (rp_dpAll ds r n.2 h3)
end
def rRepr (K : PySem.W.Frag) : List V → Hp → VK → Prop := fun xs H Q => ∃ x d, xs = [x] ∧ Rp K H d x ∧ d.hasDict = false ∧ d.depth ≤ 64 ∧ d.showable = true ∧ d.shown.length ≤ sizeLine ∧ Q (.str d.shown) H
theorem repr_leaf {pins : List (Addr × Obj)} {σ : L2.St} {H : Hp} {s : Shared} {Q : VK} {u : Value} {as : List Addr} {d : PyData} (I : Inv X pins σ H s) (r : Reads s.heap u d as) (h0 : d.hasDict = false) (hg : X.A.guards = some []) (hu : X.A.units + 65 < cLine)
    (h1 : d.depth ≤ 64) (h2 : d.showable = true) (h3 : d.shown.length ≤ sizeLine) (q : Q (.str d.shown) H) : wpAny (model X.prog X.w) X.A (call (.builtin "repr") [u]) (EP X pins σ Q) X.xe s := by
  cases r with
  | none =>
    simp only [PyData.shown] at q
    exact PySem.P.repr_of_none ⟨.str _, H, I.tok _, ⟨_, rfl⟩, q⟩
  | bool b =>
    simp only [PyData.shown] at q
    exact PySem.P.repr_of_bool ⟨.str _, H, I.tok _, ⟨_, rfl⟩, q⟩
  | int i t =>
    simp only [PyData.shown] at q
    exact PySem.P.repr_of_int (by simpa [PyData.showable] using h2) ⟨.str _, H, I.tok _, ⟨_, rfl⟩, q⟩
  | str x t =>
    simp only [PyData.shown] at q h3
    exact PySem.P.repr_of_str ⟨.str _, H, I.tok _, ⟨_, rfl⟩, q⟩ h3
  | list a1 a2 a3 a4 =>
    exact repr_of_reads' (.list a1 a2 a3 a4) h2 (PyData.noDict_hsm h0) hg (by omega) (fun _ _ e => e) (fun h' u tk hk => ⟨.str _, H, I.kept hk, ⟨_, rfl⟩, q⟩) h3
  | tuple a1 a2 a3 a4 =>
    exact repr_of_reads' (.tuple a1 a2 a3 a4) h2 (PyData.noDict_hsm h0) hg (by omega) (fun _ _ e => e) (fun h' u tk hk => ⟨.str _, H, I.kept hk, ⟨_, rfl⟩, q⟩) h3
  | dict a1 a2 a3 a4 a5 => simp [PyData.hasDict] at h0
theorem cRepr {k : Nat} (hr : Room k X.A) (hg : X.A.guards = some []) : CallR X (.builtin "repr") (rRepr X.K) := by
  intro pins s σ H xs us Q I r h
  obtain ⟨x, d, rfl, hd, h0, h1, h2, h3, q⟩ := h
  obtain ⟨u, rfl, rx⟩ := vals1 r
  obtain ⟨as, rd⟩ := Dp.reads I d x u (rp_dp d x h0 hd) rx
  have := hr.un
  exact repr_leaf I rd h0 hg (by omega) h1 h2 h3 q
end
end DL


namespace DL
open PySem L2

section
variable {K : PySem.W.Frag} {m : Mm} {Q : Val → Mm → Prop}
/-! operators upon ints -/
theorem int_of {G : Hp} {i : Int} {v : V} (h : VR K G (.d (.int i)) v) : v = .int i := rp_int.mp h.rp
theorem bool_of {G : Hp} {i : Bool} {v : V} (h : VR K G (.d (.bool i)) v) : v = .bl i := rp_bool.mp h.rp
theorem str_of {G : Hp} {i : Str} {v : V} (h : VR K G (.d (.str i)) v) : v = .str i := rp_str.mp h.rp
theorem vr_int {G : Hp} {i : Int} : VR K G (.d (.int i)) (.int i) := .d (rp_int.mpr rfl)
theorem vr_bool {G : Hp} {i : Bool} : VR K G (.d (.bool i)) (.bl i) := .d (rp_bool.mpr rfl)
theorem vr_str {G : Hp} {i : Str} : VR K G (.d (.str i)) (.str i) := .d (rp_str.mpr rfl)
theorem vr_none {G : Hp} : VR K G (.d .none) .non := .d (rp_none.mpr rfl)
theorem o2_I0 {g : Int → Int → Int} {i j : Int} (q : Q (.d (.int (g i j))) m) : Op2 K (rI0 fun i j => .int (g i j)) (.d (.int i)) (.d (.int j)) m Q := fun H G v w S a b R k => by
  rw [int_of a, int_of b]
  exact ⟨i, j, rfl, rfl, k _ H G _ m q S (Le.refl G) vr_int⟩
theorem o2_B0 {g : Int → Int → Bool} {i j : Int} (q : Q (.d (.bool (g i j))) m) : Op2 K (rI0 fun i j => .bl (g i j)) (.d (.int i)) (.d (.int j)) m Q := fun H G v w S a b R k => by
  rw [int_of a, int_of b]
  exact ⟨i, j, rfl, rfl, k _ H G _ m q S (Le.refl G) vr_bool⟩
theorem o2_I {C : Int → Int → Prop} {g : Int → Int → Int} {i j : Int} (c : C i j) (q : Q (.d (.int (g i j))) m) : Op2 K (rI C fun i j => .int (g i j)) (.d (.int i)) (.d (.int j)) m Q := fun H G v w S a b R k => by
  rw [int_of a, int_of b]
  exact ⟨i, j, rfl, rfl, c, k _ H G _ m q S (Le.refl G) vr_int⟩
theorem o2_addI {i j : Int} (q : Q (.d (.int (i + j))) m) : Op2 K (rAdd K) (.d (.int i)) (.d (.int j)) m Q := fun H G v w S a b R k => Or.inl (o2_I0 (g := fun i j => i + j) q H G v w S a b R k)
theorem o2_sub {i j : Int} (q : Q (.d (.int (i - j))) m) : Op2 K rSub (.d (.int i)) (.d (.int j)) m Q := o2_I0 (g := fun i j => i - j) q
theorem o2_mulI {i j : Int} (c : CMulW i j) (q : Q (.d (.int (i * j))) m) : Op2 K (rMul K) (.d (.int i)) (.d (.int j)) m Q := fun H G v w S a b R k => Or.inl (o2_I (C := CMulW) (g := fun i j => i * j) c q H G v w S a b R k)
theorem o2_fdv {i j : Int} (c : CDivW i j) (q : Q (.d (.int (i / j))) m) : Op2 K rFdv (.d (.int i)) (.d (.int j)) m Q := o2_I (C := CDivW) (g := fun i j => i / j) c q
theorem o2_mod {i j : Int} (c : 0 < j) (q : Q (.d (.int (i % j))) m) : Op2 K rMod (.d (.int i)) (.d (.int j)) m Q := o2_I (C := fun _ j => 0 < j) (g := fun i j => i % j) c q
theorem o2_lt {i j : Int} (q : Q (.d (.bool (decide (i < j)))) m) : Op2 K rLt (.d (.int i)) (.d (.int j)) m Q := o2_B0 (g := fun i j => decide (i < j)) q
theorem o2_le {i j : Int} (q : Q (.d (.bool (decide (i ≤ j)))) m) : Op2 K rLe (.d (.int i)) (.d (.int j)) m Q := o2_B0 (g := fun i j => decide (i ≤ j)) q
theorem o2_gt {i j : Int} (q : Q (.d (.bool (decide (j < i)))) m) : Op2 K rGt (.d (.int i)) (.d (.int j)) m Q := o2_B0 (g := fun i j => decide (j < i)) q
theorem o2_ge {i j : Int} (q : Q (.d (.bool (decide (j ≤ i)))) m) : Op2 K rGe (.d (.int i)) (.d (.int j)) m Q := o2_B0 (g := fun i j => decide (j ≤ i)) q
theorem o1_neg {i : Int} (q : Q (.d (.int (-i))) m) : Op1 K rNeg (.d (.int i)) m Q := fun H G v S a R k => by
  rw [int_of a]
  exact ⟨i, rfl, k _ H G _ m q S (Le.refl G) vr_int⟩

/-! == of data -/
theorem dp_of {H G : Hp} {x : PyData} {v : V} (S : Sta K m H G) (h : SeqAt.shaped x = true) (a : VR K G (.d x) v) : Dp K H v x := by
  have h : (x.canLay0 && decide (x.depth ≤ 64)) = true := h
  rw [Bool.and_eq_true] at h
  exact rp_dp x v (PyData.hasDict_of_canLay x h.1) (Rp.mono S.sub x v a.rp)
theorem o2_eq {x y : PyData} (hx : SeqAt.shaped x = true) (hy : SeqAt.shaped y = true) (q : Q (.d (.bool (PyData.eqv x y))) m) : Op2 K (rEqA K) (.d x) (.d y) m Q := fun H G v w S a b R k =>
  Or.inr ⟨x, y, dp_of S hx a, dp_of S hy b, hx, hy, k _ H G _ m q S (Le.refl G) vr_bool⟩
theorem o2_ne {x y : PyData} (hx : SeqAt.shaped x = true) (hy : SeqAt.shaped y = true) (q : Q (.d (.bool (!PyData.eqv x y))) m) : Op2 K (rNeA K) (.d x) (.d y) m Q := fun H G v w S a b R k =>
  Or.inr ⟨x, y, dp_of S hx a, dp_of S hy b, hx, hy, k _ H G _ m q S (Le.refl G) vr_bool⟩
theorem shaped_int (i : Int) : SeqAt.shaped (.int i) = true := by simp [SeqAt.shaped, PyData.canLay0, PyData.depth]
theorem shaped_bool (i : Bool) : SeqAt.shaped (.bool i) = true := by simp [SeqAt.shaped, PyData.canLay0, PyData.depth]
theorem eqv_int (i j : Int) : PyData.eqv (.int i) (.int j) = decide (i = j) := by
  simp only [PyData.eqv]; exact Bool.beq_eq_decide_eq i j
theorem o2_eqI {i j : Int} (q : Q (.d (.bool (decide (i = j)))) m) : Op2 K (rEqA K) (.d (.int i)) (.d (.int j)) m Q := o2_eq (shaped_int i) (shaped_int j) (by rw [eqv_int]; exact q)
theorem o2_neI {i j : Int} (q : Q (.d (.bool (!decide (i = j)))) m) : Op2 K (rNeA K) (.d (.int i)) (.d (.int j)) m Q := o2_ne (shaped_int i) (shaped_int j) (by rw [eqv_int]; exact q)

/-! texts -/
theorem o2_eqS {x y : Str} (q : Q (.d (.bool (decide (x = y)))) m) : Op2 K (rEqA K) (.d (.str x)) (.d (.str y)) m Q := fun H G v w S a b R k => by
  rw [str_of a, str_of b]
  refine Or.inl ⟨rfl, ?_⟩
  rw [dec_str, Bool.beq_eq_decide_eq]
  exact k _ H G _ m q S (Le.refl G) vr_bool
theorem o2_neS {x y : Str} (q : Q (.d (.bool (!decide (x = y)))) m) : Op2 K (rNeA K) (.d (.str x)) (.d (.str y)) m Q := fun H G v w S a b R k => by
  rw [str_of a, str_of b]
  refine Or.inl ⟨rfl, ?_⟩
  rw [dec_str, Bool.beq_eq_decide_eq]
  exact k _ H G _ m q S (Le.refl G) vr_bool

/-! items -/
theorem atI_map {α β : Type} (f : α → β) (xs : List α) (i : Int) : atI (xs.map f) i = (atI xs i).map f := by
  unfold atI
  rw [List.length_map]
  cases ixN xs.length i with
  | none => rfl
  | some j => simp [List.getElem?_map]
theorem atI_nth {α : Type} (xs : List α) (i : Nat) : atI xs (i : Int) = xs[i]? := by
  unfold atI ixN
  rw [if_pos (Int.natCast_nonneg i)]
  by_cases h : i < xs.length
  · rw [if_pos (by omega), show ((i : Int)).toNat = i by omega]; rfl
  · rw [if_neg (by omega), List.getElem?_eq_none (by omega)]; rfl
theorem RpAll.atI {G : Hp} {ds : List PyData} {xs : List V} {i : Int} {d : PyData} (h : RpAll K G ds xs) (e : L2.atI ds i = some d) : ∃ x, L2.atI xs i = some x ∧ Rp K G d x := by
  unfold L2.atI at e ⊢
  rw [h.length]
  cases hj : ixN ds.length i with
  | none => rw [hj] at e; cases e
  | some j =>
    rw [hj] at e
    exact h.at e
theorem VRs.atI {G : Hp} : ∀ {rs : List Val} {xs : List V} {i : Nat} {r : Val}, VRs K G rs xs → rs[i]? = some r → ∃ x, xs[i]? = some x ∧ VR K G r x
  | [], xs, i, r, h, e => by simp at e
  | r0 :: rs, xs, 0, r, h, e => by
    obtain ⟨y, t, h1, h2, _⟩ := h
    subst h1
    have e : r0 = r := by simpa using e
    subst e
    exact ⟨y, rfl, h2⟩
  | r0 :: rs, xs, i + 1, r, h, e => by
    obtain ⟨y, t, h1, _, h3⟩ := h
    subst h1
    obtain ⟨z, h4, h5⟩ := VRs.atI (i := i) (r := r) h3 (by simpa using e)
    exact ⟨z, by simpa using h4, h5⟩
theorem o2_ixT {ds : List PyData} {i : Int} {d : PyData} (h : atI ds i = some d) (q : Q (.d d) m) : Op2 K (rIx K) (.d (.tuple ds)) (.d (.int i)) m Q := fun H G v w S a b R k => by
  rw [int_of b]
  obtain ⟨p, xs, hv, h2, h3⟩ := rp_tuple.mp a.rp
  obtain ⟨x, h4, h5⟩ := h3.atI h
  exact Or.inr (Or.inl ⟨p, xs, i, x, hv, rfl, S.sqT h2, h4, k _ H G _ m q S (Le.refl G) (.d h5)⟩)
theorem o2_ixL {ds : List PyData} {i : Int} {d : PyData} (h : atI ds i = some d) (q : Q (.d d) m) : Op2 K (rIx K) (.d (.list ds)) (.d (.int i)) m Q := fun H G v w S a b R k => by
  rw [int_of b]
  obtain ⟨p, xs, hv, h2, h3⟩ := rp_list.mp a.rp
  obtain ⟨x, h4, h5⟩ := h3.atI h
  exact Or.inl ⟨p, xs, i, x, hv, rfl, Or.inl (Le.rd S.sub h2), h4, k _ H G _ m q S (Le.refl G) (.d h5)⟩
theorem o2_ixM {p : Addr} {rs : List Val} {i : Nat} {r : Val} (hm : m p = some (.lst rs)) (h : rs[i]? = some r) (q : Q r m) : Op2 K (rIx K) (.v (.ref p)) (.d (.int (i : Int))) m Q := fun H G v w S a b R k => by
  rw [int_of b]
  obtain ⟨xs, h2, h3⟩ := S.mem p _ hm
  obtain ⟨x, h4, h5⟩ := h3.atI h
  exact Or.inl ⟨p, xs, i, x, a.eq, rfl, Or.inl (Or.inl h2), by rw [atI_nth]; exact h4, k _ H G _ m q S (Le.refl G) h5⟩
theorem o2_ixB {p : Addr} (hm : m p = some .box) (q : ∀ n : Int, Q (.d (.int n)) m) : Op2 K (rIx K) (.v (.ref p)) (.d (.int 0)) m Q := fun H G v w S a b R k => by
  rw [int_of b]
  obtain ⟨n, h2⟩ := S.mem p _ hm
  exact Or.inl ⟨p, [.int n], 0, .int n, a.eq, rfl, Or.inl (Or.inl h2), rfl, k _ H G _ m (q n) S (Le.refl G) vr_int⟩
theorem o2_ixS {ns : List Int} {i : Nat} {n : Int} (h : ns[i]? = some n) (q : Q (.d (.int n)) m) : Op2 K (rIx K) (.scr ns) (.d (.int (i : Int))) m Q := fun H G v w S a b R k => by
  rw [int_of b]
  cases a with
  | scr h2 =>
    exact Or.inl ⟨_, _, i, .int n, rfl, rfl, S.sqL h2, by rw [atI_nth, List.getElem?_map, h]; rfl, k _ H G _ m q S (Le.refl G) vr_int⟩

/-! built-ins -/
theorem vrs1 {G : Hp} {x : Val} {vs : List V} (h : VRs K G [x] vs) : ∃ v, vs = [v] ∧ VR K G x v := by
  obtain ⟨v, t, h1, h2, h3⟩ := h
  have h3 : t = [] := h3
  exact ⟨v, by rw [h1, h3], h2⟩
theorem vrs2 {G : Hp} {x y : Val} {vs : List V} (h : VRs K G [x, y] vs) : ∃ v w, vs = [v, w] ∧ VR K G x v ∧ VR K G y w := by
  obtain ⟨v, t, h1, h2, h3⟩ := h
  obtain ⟨w, h4, h5⟩ := vrs1 h3
  exact ⟨v, w, by rw [h1, h4], h2, h5⟩
theorem on_abs {i : Int} (q : Q (.d (.int (i.natAbs : Int))) m) : OpN K rAbs [.d (.int i)] m Q := fun H G vs S a R k => by
  obtain ⟨v, rfl, h⟩ := vrs1 a
  rw [int_of h]
  refine ⟨i, rfl, ?_⟩
  have e : (if i < 0 then -i else i) = (i.natAbs : Int) := by split <;> omega
  rw [e]
  exact k _ H G _ m q S (Le.refl G) vr_int
theorem on_max {i j : Int} (q : Q (.d (.int (max i j))) m) : OpN K rMax2 [.d (.int i), .d (.int j)] m Q := fun H G vs S a R k => by
  obtain ⟨v, w, rfl, h1, h2⟩ := vrs2 a
  rw [int_of h1, int_of h2]
  refine ⟨i, j, rfl, ?_⟩
  have e : (if j > i then j else i) = max i j := by split <;> omega
  rw [e]
  exact k _ H G _ m q S (Le.refl G) vr_int
theorem on_min {i j : Int} (q : Q (.d (.int (min i j))) m) : OpN K rMin2 [.d (.int i), .d (.int j)] m Q := fun H G vs S a R k => by
  obtain ⟨v, w, rfl, h1, h2⟩ := vrs2 a
  rw [int_of h1, int_of h2]
  refine ⟨i, j, rfl, ?_⟩
  have e : (if j < i then j else i) = min i j := by split <;> omega
  rw [e]
  exact k _ H G _ m q S (Le.refl G) vr_int
theorem on_lenT {ds : List PyData} (q : Q (.d (.int (ds.length : Int))) m) : OpN K (rLen K) [.d (.tuple ds)] m Q := fun H G vs S a R k => by
  obtain ⟨v, rfl, h⟩ := vrs1 a
  obtain ⟨p, xs, hv, h2, h3⟩ := rp_tuple.mp h.rp
  refine Or.inl ⟨p, xs, by rw [hv], Or.inr (S.sqT h2), ?_⟩
  rw [h3.length]
  exact k _ H G _ m q S (Le.refl G) vr_int
theorem on_lenL {ds : List PyData} (q : Q (.d (.int (ds.length : Int))) m) : OpN K (rLen K) [.d (.list ds)] m Q := fun H G vs S a R k => by
  obtain ⟨v, rfl, h⟩ := vrs1 a
  obtain ⟨p, xs, hv, h2, h3⟩ := rp_list.mp h.rp
  refine Or.inl ⟨p, xs, by rw [hv], Or.inl (Or.inl (Le.rd S.sub h2)), ?_⟩
  rw [h3.length]
  exact k _ H G _ m q S (Le.refl G) vr_int
theorem on_lenS {ns : List Int} (q : Q (.d (.int (ns.length : Int))) m) : OpN K (rLen K) [.scr ns] m Q := fun H G vs S a R k => by
  obtain ⟨v, rfl, h⟩ := vrs1 a
  cases h with
  | scr h2 =>
    refine Or.inl ⟨_, _, rfl, Or.inl (S.sqL h2), ?_⟩
    rw [List.length_map]
    exact k _ H G _ m q S (Le.refl G) vr_int
theorem on_lenM {p : Addr} {rs : List Val} (hm : m p = some (.lst rs)) (q : Q (.d (.int (rs.length : Int))) m) : OpN K (rLen K) [.v (.ref p)] m Q := fun H G vs S a R k => by
  obtain ⟨v, rfl, h⟩ := vrs1 a
  obtain ⟨xs, h2, h3⟩ := S.mem p _ hm
  refine Or.inl ⟨p, xs, by rw [h.eq], Or.inl (Or.inl (Or.inl h2)), ?_⟩
  rw [h3.length]
  exact k _ H G _ m q S (Le.refl G) vr_int
theorem on_lenX {x : Str} (hz : x.length ≤ 100000) (q : Q (.d (.int (x.length : Int))) m) : OpN K (rLen K) [.d (.str x)] m Q := fun H G vs S a R k => by
  obtain ⟨v, rfl, h⟩ := vrs1 a
  exact Or.inr ⟨x, by rw [str_of h], Nat.le_trans hz (by decide), k _ H G _ m q S (Le.refl G) vr_int⟩
theorem on_sumL {ns : List Int} (q : Q (.d (.int ns.sum)) m) : OpN K (rSumA K) [.d (.list (ns.map PyData.int))] m Q := fun H G vs S a R k => by
  obtain ⟨v, rfl, h⟩ := vrs1 a
  obtain ⟨p, xs, hv, h2, h3⟩ := rp_list.mp h.rp
  rw [h3.ints] at h2
  exact Or.inl ⟨p, ns, by rw [hv], Or.inl (Le.rd S.sub h2), k _ H G _ m q S (Le.refl G) vr_int⟩
theorem on_sumT {ns : List Int} (q : Q (.d (.int ns.sum)) m) : OpN K (rSumA K) [.d (.tuple (ns.map PyData.int))] m Q := fun H G vs S a R k => by
  obtain ⟨v, rfl, h⟩ := vrs1 a
  obtain ⟨p, xs, hv, h2, h3⟩ := rp_tuple.mp h.rp
  rw [h3.ints] at h2
  exact Or.inr ⟨p, ns, by rw [hv], S.sqT h2, k _ H G _ m q S (Le.refl G) vr_int⟩
theorem on_all {bs : List Bool} (q : Q (.d (.bool (bs.all id))) m) : OpN K (rAll K) [.d (.list (bs.map PyData.bool))] m Q := fun H G vs S a R k => by
  obtain ⟨v, rfl, h⟩ := vrs1 a
  obtain ⟨p, xs, hv, h2, h3⟩ := rp_list.mp h.rp
  rw [h3.bools] at h2
  exact ⟨p, bs, by rw [hv], Or.inl (Le.rd S.sub h2), k _ H G _ m q S (Le.refl G) vr_bool⟩
theorem on_any {bs : List Bool} (q : Q (.d (.bool (bs.any id))) m) : OpN K (rAny K) [.d (.list (bs.map PyData.bool))] m Q := fun H G vs S a R k => by
  obtain ⟨v, rfl, h⟩ := vrs1 a
  obtain ⟨p, xs, hv, h2, h3⟩ := rp_list.mp h.rp
  rw [h3.bools] at h2
  exact ⟨p, bs, by rw [hv], Or.inl (Le.rd S.sub h2), k _ H G _ m q S (Le.refl G) vr_bool⟩
theorem on_tupL {ds : List PyData} (q : Q (.d (.tuple ds)) m) : OpN K (rTupO K) [.d (.list ds)] m Q := fun H G vs S a R k => by
  obtain ⟨v, rfl, h⟩ := vrs1 a
  obtain ⟨p, xs, hv, h2, h3⟩ := rp_list.mp h.rp
  refine ⟨p, xs, by rw [hv], Or.inl ⟨Or.inl (Le.rd S.sub h2), fun l hl => ?_⟩⟩
  have hg := S.free hl
  exact k _ _ (upd G l (.tup xs)) _ m q (S.fix hl) (Le.new hg) (.d (rp_tuple.mpr ⟨l, xs, rfl, SqT.of upd_same, RpAll.mono (Le.new hg) ds xs h3⟩))
theorem on_tupT {ds : List PyData} (q : Q (.d (.tuple ds)) m) : OpN K (rTupO K) [.d (.tuple ds)] m Q := fun H G vs S a R k => by
  obtain ⟨v, rfl, h⟩ := vrs1 a
  obtain ⟨p, xs, hv, h2, h3⟩ := rp_tuple.mp h.rp
  exact ⟨p, xs, by rw [hv], Or.inr ⟨S.sqT h2, by rw [← hv]; exact k _ H G _ m q S (Le.refl G) h⟩⟩
theorem on_lstT {ds : List PyData} (q : Q (.d (.list ds)) m) : OpN K (rLstO K) [.d (.tuple ds)] m Q := fun H G vs S a R k => by
  obtain ⟨v, rfl, h⟩ := vrs1 a
  obtain ⟨p, xs, hv, h2, h3⟩ := rp_tuple.mp h.rp
  refine ⟨p, xs, by rw [hv], Or.inr (S.sqT h2), fun l hl => ?_⟩
  have hg := S.free hl
  exact k _ _ (upd G l (.lst xs)) _ m q (S.fix hl) (Le.new hg) (.d (rp_list.mpr ⟨l, xs, rfl, Rd.of upd_same, RpAll.mono (Le.new hg) ds xs h3⟩))
theorem on_divmod {i j : Int} (c : CDivW i j) (q : Q (.d (.tuple [.int (i / j), .int (i % j)])) m) : OpN K rDivmod [.d (.int i), .d (.int j)] m Q := fun H G vs S a R k => by
  obtain ⟨v, w, rfl, h1, h2⟩ := vrs2 a
  rw [int_of h1, int_of h2]
  refine ⟨i, j, rfl, c, fun p hp => ?_⟩
  have hg := S.free hp
  exact k _ _ (upd G p (.tup [.int (i / j), .int (i % j)])) _ m q (S.fix hp) (Le.new hg) (.d (rp_tuple.mpr ⟨p, _, rfl, SqT.of upd_same, rpa_ints [i / j, i % j]⟩))

/-! isinstance -/
def tyN : PyData → String
  | .none => "NoneType" | .bool _ => "bool" | .int _ => "int" | .str _ => "str" | .list _ => "list" | .tuple _ => "tuple" | .dict _ => "dict"
theorem ty_of {H G : Hp} {x : PyData} {v : V} (S : Sta K m H G) (a : Rp K G x v) : TyX K H v (.type (tyN x)) := by
  cases x with
  | none => rw [rp_none.mp a]; exact .base .non
  | bool b => rw [rp_bool.mp a]; exact .base (.bl b)
  | int b => rw [rp_int.mp a]; exact .base (.int b)
  | str b => rw [rp_str.mp a]; exact .base (.str b)
  | list ds =>
    obtain ⟨p, xs, rfl, h2, _⟩ := rp_list.mp a
    rcases Le.rd S.sub h2 with h | ⟨o, h⟩
    · exact .base (.lst h)
    · exact .base (.frz h)
  | tuple ds =>
    obtain ⟨p, xs, rfl, h2, _⟩ := rp_tuple.mp a
    rcases S.sqT h2 with (h | ⟨o, h⟩) | ⟨o, its, n, h, hc, _⟩
    · exact .base (.tup h)
    · exact .fTuple h
    · exact .kTuple h hc
  | dict kvs =>
    rw [Rp] at a
    obtain ⟨p, rfl, ⟨es, h, _⟩ | ⟨es, h, _⟩⟩ := a
    · exact .base (.dT (S.sub _ _ h))
    · exact .base (.dK (S.sub _ _ h))
theorem on_isi {x : PyData} {T : String} {b : Bool} (hb : kitB (tyN x) T = some b) (q : Q (.d (.bool b)) m) : OpN K (rIsi K) [.d x, .v (.ty T)] m Q := fun H G vs S a R k => by
  obtain ⟨v, w, rfl, h1, h2⟩ := vrs2 a
  rw [h2.eq]
  exact ⟨v, .ty T, _, _, b, rfl, .ty T, ty_of S h1.rp, kit_ty hb, k _ H G _ m q S (Le.refl G) vr_bool⟩
def isTup : PyData → Bool | .tuple _ => true | _ => false
def isIntB : PyData → Bool | .int _ => true | .bool _ => true | _ => false
def isBoo : PyData → Bool | .bool _ => true | _ => false
def isStrD : PyData → Bool | .str _ => true | _ => false
def isLst : PyData → Bool | .list _ => true | _ => false
def isDct : PyData → Bool | .dict _ => true | _ => false
theorem on_isiTup {x : PyData} (q : Q (.d (.bool (isTup x))) m) : OpN K (rIsi K) [.d x, .v (.ty "tuple")] m Q := on_isi (by cases x <;> (simp only [tyN, isTup, isIntB, isBoo, isStrD, isLst, isDct]; decide +kernel)) q
theorem on_isiInt {x : PyData} (q : Q (.d (.bool (isIntB x))) m) : OpN K (rIsi K) [.d x, .v (.ty "int")] m Q := on_isi (by cases x <;> (simp only [tyN, isTup, isIntB, isBoo, isStrD, isLst, isDct]; decide +kernel)) q
theorem on_isiBool {x : PyData} (q : Q (.d (.bool (isBoo x))) m) : OpN K (rIsi K) [.d x, .v (.ty "bool")] m Q := on_isi (by cases x <;> (simp only [tyN, isTup, isIntB, isBoo, isStrD, isLst, isDct]; decide +kernel)) q
theorem on_isiStr {x : PyData} (q : Q (.d (.bool (isStrD x))) m) : OpN K (rIsi K) [.d x, .v (.ty "str")] m Q := on_isi (by cases x <;> (simp only [tyN, isTup, isIntB, isBoo, isStrD, isLst, isDct]; decide +kernel)) q
theorem on_isiList {x : PyData} (q : Q (.d (.bool (isLst x))) m) : OpN K (rIsi K) [.d x, .v (.ty "list")] m Q := on_isi (by cases x <;> (simp only [tyN, isTup, isIntB, isBoo, isStrD, isLst, isDct]; decide +kernel)) q
theorem on_isiDict {x : PyData} (q : Q (.d (.bool (isDct x))) m) : OpN K (rIsi K) [.d x, .v (.ty "dict")] m Q := on_isi (by cases x <;> (simp only [tyN, isTup, isIntB, isBoo, isStrD, isLst, isDct]; decide +kernel)) q

/-! repr -/
theorem on_repr {x : PyData} (h0 : x.hasDict = false) (h1 : x.depth ≤ 64) (h2 : x.showable = true) (h3 : x.shown.length ≤ sizeLine) (q : Q (.d (.str x.shown)) m) : OpN K (rRepr K) [.d x] m Q := fun H G vs S a R k => by
  obtain ⟨v, rfl, h⟩ := vrs1 a
  exact ⟨v, x, rfl, Rp.mono S.sub x v h.rp, h0, h1, h2, h3, k _ H G _ m q S (Le.refl G) vr_str⟩

/-! + of tuples and lists, * -/
theorem nil_of_all {G : Hp} {ds : List PyData} (h : RpAll K G ds []) : ds = [] := by
  cases ds with
  | nil => rfl
  | cons d r =>
    obtain ⟨x, t, h1, _⟩ := rpa_cons.mp h
    cases h1
theorem o2_addT {ds es : List PyData} (hz : ds.length + es.length ≤ 100000) (q : Q (.d (.tuple (ds ++ es))) m) : Op2 K (rAdd K) (.d (.tuple ds)) (.d (.tuple es)) m Q := fun H G v w S a b R k => by
  obtain ⟨p, xs, rfl, h2, h3⟩ := rp_tuple.mp a.rp
  obtain ⟨p', ys, rfl, h4, h5⟩ := rp_tuple.mp b.rp
  refine Or.inr (Or.inl ⟨p, p', xs, ys, rfl, rfl, S.sqT h2, S.sqT h4, ?_, fun e => ?_, fun _ e => ?_, fun _ _ l hl => ?_⟩)
  · rw [h3.length, h5.length]; exact Nat.le_trans hz (by decide)
  · subst e
    have e := nil_of_all h3
    subst e
    exact k _ H G _ m q S (Le.refl G) b
  · subst e
    have e := nil_of_all h5
    subst e
    rw [List.append_nil] at q
    exact k _ H G _ m q S (Le.refl G) a
  · have hg := S.free hl
    exact k _ _ (upd G l (.tup (xs ++ ys))) _ m q (S.fix hl) (Le.new hg) (.d (rp_tuple.mpr ⟨l, _, rfl, SqT.of upd_same, RpAll.mono (Le.new hg) _ _ (h3.append h5)⟩))
theorem o2_addL {ds es : List PyData} (hz : ds.length + es.length ≤ 100000) (q : Q (.d (.list (ds ++ es))) m) : Op2 K (rAdd K) (.d (.list ds)) (.d (.list es)) m Q := fun H G v w S a b R k => by
  obtain ⟨p, xs, rfl, h2, h3⟩ := rp_list.mp a.rp
  obtain ⟨p', ys, rfl, h4, h5⟩ := rp_list.mp b.rp
  refine Or.inr (Or.inr (Or.inl ⟨p, p', xs, ys, rfl, rfl, Le.rd S.sub h2, Le.rd S.sub h4, ?_, fun l hl => ?_⟩))
  · rw [h3.length, h5.length]; exact Nat.le_trans hz (by decide)
  · have hg := S.free hl
    exact k _ _ (upd G l (.lst (xs ++ ys))) _ m q (S.fix hl) (Le.new hg) (.d (rp_list.mpr ⟨l, _, rfl, Rd.of upd_same, RpAll.mono (Le.new hg) _ _ (h3.append h5)⟩))
theorem o2_addS {x y : Str} (hz : x.length + y.length ≤ 100000) (q : Q (.d (.str (x ++ y))) m) : Op2 K (rAdd K) (.d (.str x)) (.d (.str y)) m Q := fun H G v w S a b R k => by
  rw [str_of a, str_of b]
  exact Or.inr (Or.inr (Or.inr ⟨x, y, rfl, rfl, Nat.le_trans hz (by decide), k _ H G _ m q S (Le.refl G) vr_str⟩))
theorem RpAll.rep {G : Hp} {ds : List PyData} {xs : List V} (h : RpAll K G ds xs) : ∀ n : Nat, RpAll K G (List.replicate n ds).flatten (List.replicate n xs).flatten
  | 0 => rpa_nil.mpr rfl
  | n + 1 => by
    rw [List.replicate_succ, List.replicate_succ, List.flatten_cons, List.flatten_cons]
    exact h.append (RpAll.rep h n)
theorem o2_mulT {ds : List PyData} {n : Nat} (h0 : ds ≠ []) (h1 : 1 ≤ n) (h2 : n ≤ 1000) (h3 : ds.length ≤ 1000) (q : Q (.d (.tuple (List.replicate n ds).flatten)) m) : Op2 K (rMul K) (.d (.tuple ds)) (.d (.int (n : Int))) m Q := fun H G v w S a b R k => by
  rw [int_of b]
  obtain ⟨p, xs, rfl, g2, g3⟩ := rp_tuple.mp a.rp
  by_cases e : n = 1
  · subst e
    have e : (List.replicate 1 ds).flatten = ds := by simp
    rw [e] at q
    exact Or.inr (Or.inr (Or.inl ⟨p, xs, rfl, rfl, S.sqT g2, k _ H G _ m q S (Le.refl G) a⟩))
  · refine Or.inr (Or.inl ⟨p, (n : Int), xs, rfl, rfl, S.sqT g2, fun e => ?_, by omega, by omega, by rw [g3.length]; exact h3, fun l hl => ?_⟩)
    · subst e; exact h0 (nil_of_all g3)
    · have hg := S.free hl
      have en : ((n : Int)).toNat = n := by omega
      rw [en]
      exact k _ _ (upd G l _) _ m q (S.fix hl) (Le.new hg) (.d (rp_tuple.mpr ⟨l, _, rfl, SqT.of upd_same, RpAll.mono (Le.new hg) _ _ (g3.rep n)⟩))
end

/-! list(range), tuple(range) -/
section
variable {K : PySem.W.Frag} {r : List Val} {m : Mm} {Q : Val → Mm → Prop} {ta tb tc te : TE} {tt : TT}
def rngD (a n : Nat) : List PyData := (List.range n).map fun i => .int ((a + i : Nat) : Int)
theorem rpa_rng {G : Hp} (a n : Nat) : RpAll K G (rngD a n) (rgV (a : Int) ((a + n : Nat) : Int)) := by
  have e : rgV (a : Int) ((a + n : Nat) : Int) = ((List.range n).map fun i => ((a + i : Nat) : Int)).map V.int := by
    unfold rgV
    have e : (((a + n : Nat) : Int) - (a : Int)).toNat = n := by omega
    rw [e, List.map_map]
    rfl
  have e2 : rngD a n = ((List.range n).map fun i => ((a + i : Nat) : Int)).map PyData.int := by
    unfold rngD
    rw [List.map_map]
    rfl
  rw [e, e2]
  exact rpa_ints _
theorem rgok {a n : Nat} (h : a + n ≤ 100000) : RgOk (a : Int) ((a + n : Nat) : Int) := RgOk.of_le (by omega) (by omega) (by omega) (by omega)
theorem ev_tupR1 {n : Nat} (hn : n ≤ 100000) (h : Ev K ta r m fun x m1 => x = .d (.int (n : Int)) ∧ Q (.d (.tuple (rngD 0 n))) m1) : Ev K (tTupRg (tRg1 ta)) r m Q := fun σ H G S L R k =>
  h σ H G S L _ fun v H1 G1 x m1 ⟨hx, q⟩ S1 e1 r1 => by
    subst hx
    rw [int_of r1]
    have e : (n : Int) = ((0 + n : Nat) : Int) := by omega
    refine ⟨(n : Int), rfl, by rw [e]; exact rgok (a := 0) (n := n) (by omega), fun p hp => ?_⟩
    have hg := S1.free hp
    exact k _ _ (upd G1 p _) _ m1 q (S1.fix hp) (e1.trans (Le.new hg)) (.d (rp_tuple.mpr ⟨p, _, rfl, SqT.of upd_same, by rw [e]; exact rpa_rng 0 n⟩))
theorem ev_lstR1 {n : Nat} (hn : n ≤ 100000) (h : Ev K ta r m fun x m1 => x = .d (.int (n : Int)) ∧ Q (.d (.list (rngD 0 n))) m1) : Ev K (tLstRg (tRg1 ta)) r m Q := fun σ H G S L R k =>
  h σ H G S L _ fun v H1 G1 x m1 ⟨hx, q⟩ S1 e1 r1 => by
    subst hx
    rw [int_of r1]
    have e : (n : Int) = ((0 + n : Nat) : Int) := by omega
    refine ⟨(n : Int), rfl, by rw [e]; exact rgok (a := 0) (n := n) (by omega), fun p hp => ?_⟩
    have hg := S1.free hp
    exact k _ _ (upd G1 p _) _ m1 q (S1.fix hp) (e1.trans (Le.new hg)) (.d (rp_list.mpr ⟨p, _, rfl, Rd.of upd_same, by rw [e]; exact rpa_rng 0 n⟩))

/-! comprehensions -/
def Ext (m m' : Mm) : Prop := ∀ a o, m a = some o → m' a = some o
theorem Ext.refl (m : Mm) : Ext m m := fun _ _ h => h
/-- one turn's end: the list so far stands at D -/
def LcW (K : PySem.W.Frag) (m : Mm) (G : Hp) (D : Addr) (W : Nat → List PyData → Prop) (i : Nat) (H' : Hp) : Prop :=
  ∃ G' acc, W i acc ∧ acc.length ≤ i ∧ Sta K (put m D (.lst (acc.map Val.d))) H' G' ∧ Le G G'
theorem lc_turn {G : Hp} {D : Addr} {W : Nat → List PyData → Prop} {i : Nat} {σ : L2.St} {H' : Hp} {r' : List Val} (hm : m D = none) (hi : i < 100000) (L : ∀ G', Le G G' → Sl K G' r' σ)
    (hs : ∀ m' acc, Ext m m' → W i acc → EvT K tt r' m' fun b m2 => m2 = m' ∧ (b = true → Ev K te r' m' fun x m3 => m3 = m' ∧ ∃ y, x = .d y ∧ W (i + 1) (acc ++ [y])) ∧ (b = false → W (i + 1) acc))
    (h : LcW K m G D W i H') : tt σ H' fun b H3 => if b = true then te σ H3 fun y H4 => ∃ acc, H4 D = some (.lst acc) ∧ acc.length < sizeLine ∧ LcW K m G D W (i + 1) (upd H4 D (.lst (acc ++ [y]))) else LcW K m G D W (i + 1) H3 := by
  obtain ⟨G', acc, hw, hl, S, e⟩ := h
  have hx : Ext m (put m D (.lst (acc.map Val.d))) := fun a o ha => by
    rw [put_ne (ne_of_get ha hm)]; exact ha
  refine hs _ acc hx hw σ H' G' S (L G' e) _ fun H3 G3 b m3 ⟨e3, h1, h2⟩ S3 l3 => ?_
  subst e3
  cases b with
  | true =>
    show te σ H3 _
    refine h1 rfl σ H3 G3 S3 (L G3 (e.trans l3)) _ fun v H4 G4 x m4 ⟨e4, y, hy, hw'⟩ S4 l4 r4 => ?_
    subst e4 hy
    obtain ⟨xs, g1, g2⟩ := S4.mem D _ put_same
    have hlen := g2.length
    rw [List.length_map] at hlen
    refine ⟨xs, g1, Nat.lt_of_lt_of_le (show xs.length < 100000 by omega) (by decide), G4, acc ++ [y], hw', by rw [List.length_append]; show acc.length + 1 ≤ i + 1; omega, ?_, e.trans (l3.trans l4)⟩
    have S5 := S4.chg (u := .lst ((acc ++ [y]).map Val.d)) (o := .lst (xs ++ [v])) put_same ⟨_, upd_same, by
      rw [List.map_append]
      exact g2.append ⟨v, [], rfl, r4, rfl⟩⟩
    rw [put_put] at S5
    exact S5
  | false =>
    show LcW K m G D W (i + 1) H3
    exact ⟨G3, acc, h2 rfl, by omega, S3, e.trans l3⟩
theorem wipe1 (σ : L2.St) (j : Nat) (x : V) : wipe ((wipe σ [j]).set j (some x)) [j] = wipe σ [j] := by
  show ((σ.set j none).set j (some x)).set j none = σ.set j none
  rw [List.set_set, List.set_set]
theorem sl_in {G : Hp} {σ : L2.St} {j : Nat} {d : PyData} {x : V} (L : Sl K G r σ) {G' : Hp} (e : Le G G') (h : Rp K G' d x) : Sl K G' (r.set j (.d d)) ((wipe σ [j]).set j (some x)) := by
  have := (L.mono e).set (r := .d d) (.d h) j
  show Sl K G' (r.set j (.d d)) ((σ.set j none).set j (some x))
  rw [List.set_set]
  exact this
theorem lc_end {G : Hp} {D : Addr} {W : Nat → List PyData → Prop} {n : Nat} {H' : Hp} {R : VK} (hm : m D = none) (h : LcW K m G D W n H') (hd : ∀ acc, W n acc → Q (.d (.list acc)) m)
    (k : ∀ v H' G' x m', Q x m' → Sta K m' H' G' → Le G G' → VR K G' x v → R v H') : R (.ref D) H' := by
  obtain ⟨G', acc, hw, hl, S, e⟩ := h
  obtain ⟨xs, g1, g2⟩ := S.mem D _ put_same
  have hg := S.dis D _ put_same
  have S2 := S.freeze put_same g1
  have e2 : del (put m D (.lst (acc.map Val.d))) D = m := by
    funext b
    unfold del put
    by_cases hb : b = D
    · rw [if_pos hb, hb, hm]
    · rw [if_neg hb, if_neg hb]
  rw [e2] at S2
  exact k _ H' _ _ m (hd acc hw) S2 (e.trans (Le.new hg)) (.d (rp_list.mpr ⟨D, xs, rfl, Rd.of upd_same, RpAll.mono (Le.new hg) acc xs g2.toAll⟩))
theorem lc_start {H G : Hp} {D : Addr} {W : Nat → List PyData → Prop} (S : Sta K m H G) (hD : H D = none) (h0 : W 0 []) : LcW K m G D W 0 (upd H D (.lst [])) :=
  ⟨G, [], h0, Nat.le_refl _, S.new hD ⟨[], upd_same, rfl⟩, Le.refl G⟩
theorem ev_lcT {tl : TE} {j : Nat} {ds : List PyData} (h : Ev K tl r m fun x m1 => x = .d (.tuple ds) ∧ m1 = m) (hn : ds.length ≤ 100000) (W : Nat → List PyData → Prop) (h0 : W 0 [])
    (hs : ∀ i d m' acc, ds[i]? = some d → Ext m m' → W i acc → EvT K tt (r.set j (.d d)) m' fun b m2 => m2 = m' ∧ (b = true → Ev K te (r.set j (.d d)) m' fun x m3 => m3 = m' ∧ ∃ y, x = .d y ∧ W (i + 1) (acc ++ [y])) ∧ (b = false → W (i + 1) acc))
    (hd : ∀ acc, W ds.length acc → Q (.d (.list acc)) m) : Ev K (tLc (iTup K tl) (gName j) tt te [j]) r m Q := fun σ H G S L R k =>
  h σ H G S L _ fun v H1 G1 x m1 ⟨hx, hm⟩ S1 e1 r1 => by
    subst hx hm
    obtain ⟨p, xs, hv, hs1, hA⟩ := rp_tuple.mp r1.rp
    refine ⟨p, hv, ⟨xs, S1.sqT hs1⟩, fun D hD => ?_⟩
    have hmD := S1.freeM hD
    refine lc_tup (xs := xs) (LcW K m1 G1 D W) (lc_start S1 hD h0) ?_ ?_ ?_
    · rintro i H' hi ⟨G', acc, _, _, S', e'⟩
      exact S'.sqT (e'.sqT hs1)
    · intro i y H' hy hP
      obtain ⟨d, hd1, hd2⟩ := hA.get hy
      have hi : i < 100000 := by
        have := (List.getElem?_eq_some_iff.mp hy).1
        rw [hA.length] at this
        omega
      exact ⟨wipe1 σ j y, lc_turn hmD hi (fun G' e' => sl_in (L.mono e1) e' (Rp.mono e' d y hd2)) (fun m' acc hx hw => hs i d m' acc hd1 hx hw) hP⟩
    · intro H' hP
      rw [hA.length] at hP
      exact lc_end hmD hP hd fun v H' G' x m' q S' e' r' => k v H' G' x m' q S' (e1.trans e') r'
theorem ev_lcL {tl : TE} {j : Nat} {ds : List PyData} (h : Ev K tl r m fun x m1 => x = .d (.list ds) ∧ m1 = m) (hn : ds.length ≤ 100000) (W : Nat → List PyData → Prop) (h0 : W 0 [])
    (hs : ∀ i d m' acc, ds[i]? = some d → Ext m m' → W i acc → EvT K tt (r.set j (.d d)) m' fun b m2 => m2 = m' ∧ (b = true → Ev K te (r.set j (.d d)) m' fun x m3 => m3 = m' ∧ ∃ y, x = .d y ∧ W (i + 1) (acc ++ [y])) ∧ (b = false → W (i + 1) acc))
    (hd : ∀ acc, W ds.length acc → Q (.d (.list acc)) m) : Ev K (tLc (iList K tl) (gName j) tt te [j]) r m Q := fun σ H G S L R k =>
  h σ H G S L _ fun v H1 G1 x m1 ⟨hx, hm⟩ S1 e1 r1 => by
    subst hx hm
    obtain ⟨p, xs, hv, hs1, hA⟩ := rp_list.mp r1.rp
    have hs1 : SqL K G1 p xs := Or.inl hs1
    refine ⟨p, hv, ⟨xs, S1.sqL hs1⟩, fun D hD => ?_⟩
    have hmD := S1.freeM hD
    refine lc_list (xs := xs) (LcW K m1 G1 D W) (lc_start S1 hD h0) ?_ ?_ ?_
    · rintro i H' hi ⟨G', acc, _, _, S', e'⟩
      exact S'.sqL (e'.sqL hs1)
    · intro i y H' hy hP
      obtain ⟨d, hd1, hd2⟩ := hA.get hy
      have hi : i < 100000 := by
        have := (List.getElem?_eq_some_iff.mp hy).1
        rw [hA.length] at this
        omega
      exact ⟨wipe1 σ j y, lc_turn hmD hi (fun G' e' => sl_in (L.mono e1) e' (Rp.mono e' d y hd2)) (fun m' acc hx hw => hs i d m' acc hd1 hx hw) hP⟩
    · intro H' hP
      rw [hA.length] at hP
      exact lc_end hmD hP hd fun v H' G' x m' q S' e' r' => k v H' G' x m' q S' (e1.trans e') r'
theorem ev_lcR1 {ta : TA} {j : Nat} {n : Nat} (h : EvA K ta r m fun xs m1 => xs = [.d (.int (n : Int))] ∧ m1 = m) (hn : n ≤ 100000) (W : Nat → List PyData → Prop) (h0 : W 0 [])
    (hs : ∀ (i : Nat) m' acc, i < n → Ext m m' → W i acc → EvT K tt (r.set j (.d (.int (i : Int)))) m' fun b m2 => m2 = m' ∧ (b = true → Ev K te (r.set j (.d (.int (i : Int)))) m' fun x m3 => m3 = m' ∧ ∃ y, x = .d y ∧ W (i + 1) (acc ++ [y])) ∧ (b = false → W (i + 1) acc))
    (hd : ∀ acc, W n acc → Q (.d (.list acc)) m) : Ev K (tLc (iRng1 ta) (gName j) tt te [j]) r m Q := fun σ H G S L R k =>
  h σ H G S L _ fun vs H1 G1 xs m1 ⟨hx, hm⟩ S1 e1 r1 => by
    subst hx hm
    obtain ⟨v1, rfl, a1⟩ := vrs1 r1
    have a1 := int_of a1
    subst a1
    have en : ((n : Int)).toNat = n := by omega
    refine ⟨(n : Int), rfl, by omega, by omega, ?_⟩
    rw [en]
    intro D hD
    have hmD := S1.freeM hD
    refine lc_range (lo := 0) (n := n) (LcW K m1 G1 D W) (lc_start S1 hD h0) ?_ ?_
    · intro i H' hi hP
      rw [Int.zero_add]
      exact ⟨wipe1 σ j _, lc_turn hmD (by omega) (fun G' e' => sl_in (L.mono e1) e' (rp_int.mpr rfl)) (fun m' acc hx hw => hs i m' acc hi hx hw) hP⟩
    · intro H' hP
      exact lc_end hmD hP hd fun v H' G' x m' q S' e' r' => k v H' G' x m' q S' (e1.trans e') r'
theorem ev_lcR2 {ta : TA} {j : Nat} {lo n : Nat} (h : EvA K ta r m fun xs m1 => xs = [.d (.int (lo : Int)), .d (.int ((lo + n : Nat) : Int))] ∧ m1 = m) (hn : lo + n ≤ 100000) (W : Nat → List PyData → Prop) (h0 : W 0 [])
    (hs : ∀ (i : Nat) m' acc, i < n → Ext m m' → W i acc → EvT K tt (r.set j (.d (.int ((lo + i : Nat) : Int)))) m' fun b m2 => m2 = m' ∧ (b = true → Ev K te (r.set j (.d (.int ((lo + i : Nat) : Int)))) m' fun x m3 => m3 = m' ∧ ∃ y, x = .d y ∧ W (i + 1) (acc ++ [y])) ∧ (b = false → W (i + 1) acc))
    (hd : ∀ acc, W n acc → Q (.d (.list acc)) m) : Ev K (tLc (iRng2 ta) (gName j) tt te [j]) r m Q := fun σ H G S L R k =>
  h σ H G S L _ fun vs H1 G1 xs m1 ⟨hx, hm⟩ S1 e1 r1 => by
    subst hx hm
    obtain ⟨v1, v2, rfl, a1, a2⟩ := vrs2 r1
    have a1 := int_of a1
    have a2 := int_of a2
    subst a1 a2
    have en : (((lo + n : Nat) : Int) - (lo : Int)).toNat = n := by omega
    refine ⟨(lo : Int), ((lo + n : Nat) : Int), rfl, ⟨by omega, by omega, by omega, by omega⟩, ?_⟩
    rw [en]
    intro D hD
    have hmD := S1.freeM hD
    refine lc_range (lo := (lo : Int)) (n := n) (LcW K m1 G1 D W) (lc_start S1 hD h0) ?_ ?_
    · intro i H' hi hP
      rw [show (lo : Int) + (i : Int) = ((lo + i : Nat) : Int) from (Int.natCast_add lo i).symm]
      exact ⟨wipe1 σ j _, lc_turn hmD (by omega) (fun G' e' => sl_in (L.mono e1) e' (rp_int.mpr rfl)) (fun m' acc hx hw => hs i m' acc hi hx hw) hP⟩
    · intro H' hP
      exact lc_end hmD hP hd fun v H' G' x m' q S' e' r' => k v H' G' x m' q S' (e1.trans e') r'
theorem ev_cTy {T : String} (q : Q (.v (.ty T)) m) : Ev K (tC (.ty T)) r m Q := ev_cV q
theorem evt_yes {Q : Bool → Mm → Prop} (q : Q true m) : EvT K tYes r m Q := fun σ H G S L R k => k H G true m q S (Le.refl G)

/-! a[i] = e -/
variable {N : List Val → Mm → Prop} {E : Val → Mm → Prop}
theorem w_setB {to ti : TE} {p : Addr} (h : Ev K te r m fun x m1 => ∃ n : Int, x = .d (.int n) ∧ Ev K to r m1 fun y m2 => y = .v (.ref p) ∧ Ev K ti r m2 fun z m3 => z = .d (.int 0) ∧ m3 p = some .box ∧ N r m3) :
    Wp K (tAsg te (gSub to ti rSetL)) r m N E := fun σ H G D S L a b =>
  h σ H G S L _ fun v H1 G1 x m1 ⟨n, hx, h1⟩ S1 e1 r1 => h1 σ H1 G1 S1 (L.mono e1) _ fun w H2 G2 y m2 ⟨hy, h2⟩ S2 e2 r2 => h2 σ H2 G2 S2 (L.mono (e1.trans e2)) _ fun u H3 G3 z m3 ⟨hz, hb, q⟩ S3 e3 r3 => by
    subst hx hy hz
    have a1 := int_of r1
    have a2 := r2.eq
    have a3 := int_of r3
    subst a1 a2 a3
    obtain ⟨n0, g1⟩ := S3.mem p _ hb
    refine ⟨p, [.int n0], 0, 0, rfl, rfl, g1, rfl, ?_⟩
    have S4 := S3.chg (u := .box) (o := .lst [.int n]) hb ⟨n, upd_same⟩
    have e4 : put m3 p .box = m3 := by
      funext c
      unfold put
      by_cases hc : c = p
      · rw [if_pos hc, hc, hb]
      · rw [if_neg hc]
    rw [e4] at S4
    exact a σ _ G3 r m3 q S4 (e1.trans (e2.trans e3)) (L.mono (e1.trans (e2.trans e3)))
/-- a box made -/
theorem ev_lstB {t : TA} (h : EvA K t r m fun xs m1 => ∃ n : Int, xs = [.d (.int n)] ∧ ∀ p, m1 p = none → Q (.v (.ref p)) (put m1 p .box)) : Ev K (tLst t) r m Q := fun σ H G S L R k =>
  h σ H G S L _ fun vs H1 G1 xs m1 ⟨n, hx, q⟩ S1 e1 r1 => by
    subst hx
    obtain ⟨v1, rfl, a1⟩ := vrs1 r1
    have a1 := int_of a1
    subst a1
    refine ⟨by rw [sizeLine_eq]; show 1 ≤ 16777216; decide, fun p hp => ?_⟩
    exact k (.ref p) _ G1 _ _ (q p (S1.freeM hp)) (S1.new hp ⟨n, upd_same⟩) e1 .v
/-! what grew is data from now on -/
theorem w_freeze {t : TS} {i : Nat} {p : Addr} {ds : List PyData} (hi : r[i]? = some (.v (.ref p))) (hm : m p = some (.lst (ds.map Val.d))) (h : Wp K t (r.set i (.d (.list ds))) (del m p) N E) : Wp K t r m N E := fun σ H G D S L a b => by
  obtain ⟨xs, h1, h2⟩ := S.mem p _ hm
  have hg := S.dis p _ hm
  obtain ⟨v, hv, hr⟩ := L.get hi (fun h => nomatch h)
  have hr := hr.eq
  subst hr
  have L2 := (L.mono (Le.new hg)).set (r := .d (.list ds)) (.d (rp_list.mpr ⟨p, xs, rfl, Rd.of upd_same, RpAll.mono (Le.new (o := .lst xs) hg) ds xs h2.toAll⟩)) i
  have e : σ.set i (some (.ref p)) = σ := by
    refine List.ext_getElem? fun k => ?_
    by_cases hk : k = i
    · subst hk
      rw [List.getElem?_set_self (List.getElem?_eq_some_iff.mp hv).1, hv]
    · rw [List.getElem?_set_ne (Ne.symm hk)]
  rw [e] at L2
  exact h σ H _ D (S.freeze hm h1) L2 (fun σ' H' G' r' m' n S' e' L' => a σ' H' G' r' m' n S' ((Le.new hg).trans e') L') (fun v H' G' x m' n S' e' L' => b v H' G' x m' n S' ((Le.new hg).trans e') L')
/-- xs.append(e) -/
theorem ev_app {to : TE} {p : Addr} {rs : List Val} (h : Ev K to r m fun x m1 => x = .v (.ref p) ∧ m1 p = some (.lst rs) ∧ Ev K te r m1 fun y m2 => m2 p = some (.lst rs) ∧ rs.length < 100000 ∧ Q (.d .none) (put m2 p (.lst (rs ++ [y])))) :
    Ev K (tBM K "list" rAppend to (tCons te tNil)) r m Q := fun σ H G S L R k =>
  h σ H G S L _ fun v H1 G1 x m1 ⟨hx, hm, h1⟩ S1 e1 r1 => by
    subst hx
    have r1 := r1.eq
    subst r1
    obtain ⟨xs, g1, g2⟩ := S1.mem p _ hm
    refine ⟨Or.inl ⟨rfl, xs, Or.inl (Or.inl g1)⟩, ?_⟩
    refine h1 σ H1 G1 S1 (L.mono e1) _ fun w H2 G2 y m2 ⟨hm2, hl, q⟩ S2 e2 r2 => ?_
    obtain ⟨ys, g3, g4⟩ := S2.mem p _ hm2
    refine ⟨p, ys, w, rfl, rfl, g3, Nat.lt_of_lt_of_le (by rw [g4.length]; exact hl) (by decide), ?_⟩
    exact k .non _ G2 _ _ q (S2.chg hm2 ⟨_, upd_same, g4.append ⟨w, [], rfl, r2, rfl⟩⟩) (e1.trans e2) vr_none
/-- a list that may change, as an operand of + -/
theorem o2_addM {p : Addr} {ds es : List PyData} (hm : m p = some (.lst (ds.map Val.d))) (hz : ds.length + es.length ≤ 100000) (q : Q (.d (.list (ds ++ es))) m) : Op2 K (rAdd K) (.v (.ref p)) (.d (.list es)) m Q := fun H G v w S a b R k => by
  have a := a.eq
  subst a
  obtain ⟨xs, g1, g2⟩ := S.mem p _ hm
  obtain ⟨p', ys, rfl, h4, h5⟩ := rp_list.mp b.rp
  have h3 := g2.toAll
  refine Or.inr (Or.inr (Or.inl ⟨p, p', xs, ys, rfl, rfl, Or.inl g1, Le.rd S.sub h4, ?_, fun l hl => ?_⟩))
  · rw [h3.length, h5.length]; exact Nat.le_trans hz (by decide)
  · have hg := S.free hl
    exact k _ _ (upd G l (.lst (xs ++ ys))) _ m q (S.fix hl) (Le.new hg) (.d (rp_list.mpr ⟨l, _, rfl, Rd.of upd_same, RpAll.mono (Le.new hg) _ _ (h3.append h5)⟩))
theorem o2_pow {i j : Int} (c : CPow i j) (q : Q (.d (.int (i ^ j.toNat))) m) : Op2 K rPow (.d (.int i)) (.d (.int j)) m Q := o2_I (C := CPow) (g := fun i j => i ^ j.toNat) c q
end
end DL


namespace DL
open PySem L2

/-- a def of the text that keeps a word of this level -/
structure Cl (P : Program) (w : World) (K : PySem.W.Frag) (mg : Str → Option Value) (base : Heap) (k : Nat) (x : Str) (sp : FSp) : Prop where
  ex : ∃ f fd ps, FnOk P w K mg base CX0 k f fd ps (spD K sp) ∧ mg x = some (.ref f) ∧ PySem.W.keepIn K (.ref f) = true ∧ Binds K fd ps []
section
variable {X : Cx} {k j n0 : Nat} {x : Str} {sp : FSp} {e : Expr} {es : List Expr} {t : TA} {p pos : Pos} {P : Program} {w : World} {K : PySem.W.Frag} {mg : Str → Option Value} {base : Heap}
theorem pe_cl (c : Cl P w K mg base k x sp) (hr : Room j X.A) (hk : k ≤ j) (hg : Gl X x) (ha : PA X (e :: es) t) (hP : X.prog = P := by rfl) (hw : X.w = w := by rfl) (hK : X.K = K := by rfl) (hmg : X.mg = mg := by rfl) (hbs : X.base = base := by rfl)
    (hdb : (x == ("__debug__" : Str)) = false := by decide)
    (he : starEach (e :: es) X.env = (false, eval e X.env) :: starEach es X.env := by rfl) (hpl : (backTo pos (starEach es X.env)).any (·.1) = false := by rfl) :
    PE X (.Call (.Name x p) (e :: es) [] pos) (tCall (spD K sp) [] E0 t) := by
  subst hP hw hK hmg hbs
  obtain ⟨f, fd, ps, F, hm, hkp, hb⟩ := c.ex
  exact pe_call F (hr.mono hk) hg hm hkp hb .nil pass0 ha hdb he hpl
theorem pe_gi {i : Int} (h : ∃ t, mg x = some (.int i t)) (hg : Gl X x) (hmg : X.mg = mg := by rfl) (hd : (x == ("__debug__" : Str)) = false := by decide) : PE X (.Name x pos) (tC (.int i)) := by
  subst hmg
  obtain ⟨t, h⟩ := h
  exact pe_glob hg h ⟨_, rfl⟩ hd
theorem pe_gs {i : Str} (h : ∃ t, mg x = some (.str i t)) (hg : Gl X x) (hmg : X.mg = mg := by rfl) (hd : (x == ("__debug__" : Str)) = false := by decide) : PE X (.Name x pos) (tC (.str i)) := by
  subst hmg
  obtain ⟨t, h⟩ := h
  exact pe_glob hg h ⟨_, rfl⟩ hd
/-! the joined rules, the written part by name -/
theorem kAdd (K : PySem.W.Frag) (h : X.K = K := by rfl) : OpR X (binaryOp .Add) (rAdd K) := h ▸ oAdd
theorem kMul (K : PySem.W.Frag) (h : X.K = K := by rfl) : OpR X (binaryOp .Mult) (rMul K) := h ▸ oMul
theorem kEq (K : PySem.W.Frag) (hr : Room j X.A) (h : X.K = K := by rfl) : OpR X (compareOp .Eq) (rEqA K) := h ▸ oEq hr
theorem kNe (K : PySem.W.Frag) (hr : Room j X.A) (h : X.K = K := by rfl) : OpR X (compareOp .NotEq) (rNeA K) := h ▸ oNe hr
theorem kIx (K : PySem.W.Frag) (h : X.K = K := by rfl) : IxR X (rIx K) := h ▸ ix_seq
theorem kLen (K : PySem.W.Frag) (h : X.K = K := by rfl) : CallR X (.builtin "len") (rLen K) := h ▸ cLen
theorem kSum (K : PySem.W.Frag) (hc : X.calm = true := by rfl) (h : X.K = K := by rfl) : CallR X (.builtin "sum") (rSumA K) := h ▸ cSum hc
theorem kAll (K : PySem.W.Frag) (hc : X.calm = true := by rfl) (h : X.K = K := by rfl) : CallR X (.builtin "all") (rAll K) := h ▸ cAll hc
theorem kAny (K : PySem.W.Frag) (hc : X.calm = true := by rfl) (h : X.K = K := by rfl) : CallR X (.builtin "any") (rAny K) := h ▸ cAny hc
theorem kTup (K : PySem.W.Frag) (h : X.K = K := by rfl) : CallR X (.type "tuple") (rTupO K) := h ▸ cTup
theorem kLst (K : PySem.W.Frag) (h : X.K = K := by rfl) : CallR X (.type "list") (rLstO K) := h ▸ cLst
theorem kIsi (K : PySem.W.Frag) (h : X.K = K := by rfl) : CallR X (.builtin "isinstance") (rIsi K) := h ▸ cIsi
theorem kRepr (K : PySem.W.Frag) (hr : Room j X.A) (hg : X.A.guards = some []) (h : X.K = K := by rfl) : CallR X (.builtin "repr") (rRepr K) := h ▸ cRepr hr hg
theorem kSlT (K : PySem.W.Frag) (h : X.K = K := by rfl) : SlR X (rSlA K) := h ▸ sl_tupA
theorem kSlL (K : PySem.W.Frag) (h : X.K = K := by rfl) : SlR X (rSlL K) := h ▸ sl_list
theorem kBM (K : PySem.W.Frag) {e : Expr} {T : String} {r : V → List V → Hp → VK → Prop} {to : TE} {ta : TA} (hp : PE X e (tBM X.K T r to ta)) (h : X.K = K := by rfl) : PE X e (tBM K T r to ta) := h ▸ hp
theorem kgT (K : PySem.W.Frag) {tg : Expr} {t : TGs} (hp : PG X tg (gTup X.K n0 t)) (h : X.K = K := by rfl) : PG X tg (gTup K n0 t) := h ▸ hp
theorem kiT (K : PySem.W.Frag) {tg l : Expr} {tl : TE} (hl : PE X l tl) (h : X.K = K := by rfl) : PI X tg l (iTup K tl) := h ▸ pi_tup hl
theorem kiL (K : PySem.W.Frag) {tg l : Expr} {tl : TE} (hl : PE X l tl) (h : X.K = K := by rfl) : PI X tg l (iList K tl) := h ▸ pi_list hl
end

/-! defs that want to know that nothing is being shown around them -/
structure FnG (P : Program) (w : World) (K : PySem.W.Frag) (mg : Str → Option Value) (base : Heap) (k : Nat) (f : Addr) (fd : FuncData) (ps : List Str) (sp : Sp) : Prop where
  len : ∀ vs H Q E, sp vs H Q E → vs.length = ps.length
  run : ∀ (A : Around) (outer : List Env) (s : Shared) (H : Hp) (args : Args) (us : List Value) (vs : List V) (Q : VK) (E : XK), A.guards = some [] → Room k A →
    Env0 P w K mg base A outer s H → BindsTo s fd args (ps.zip us) → Vals vs us → sp vs H Q E → codeAny (model P w) A (.call (.ref f) args) (CR CX0 outer P w H s Q E) s
section
variable {P : Program} {w : World} {K : PySem.W.Frag} {mg : Str → Option Value} {base : Heap}
theorem deeper_guards (A : Around) (env : Env) : (A.deeper env).guards = A.guards := by
  first
    | rfl
    | simp [Around.deeper]
theorem fnG_of {x qual : Str} {st : Stmt} {f : Addr} {fd : FuncData} {N ps : List Str} {k : Nat} {sp : Sp} (F : Fun K x qual st f fd) (S : FnScope N ps (defScope st)) (len : ∀ vs H Q E, sp vs H Q E → vs.length = ps.length)
    (hbody : ∀ (cdv : Value) (A : Around) (outer : List Env) (s : Shared) (H : Hp) (vs : List V) (Q : VK) (E : XK), (A.deeper (PyProof.Rows.envOfC qual (defScope st) s.heap.objs.size f cdv)).guards = some [] →
      Room k (A.deeper (PyProof.Rows.envOfC qual (defScope st) s.heap.objs.size f cdv)) → sp vs H Q E →
      ∃ t, PSs (cxOf CX0 P w K mg base N qual (defScope st) f cdv A outer s H E).nox (defBody st) t ∧ t { nx := fun _ H' => Q .non H', rt := Q } (L2.start N vs) H) : FnG P w K mg base (k + 1) f fd ps sp := by
  obtain ⟨oc, od, kV, doc, pm, an, cdv, ct, osl, rfl, lk, hcd⟩ := F.ex
  refine ⟨len, fun A outer s H args us vs Q E hgd hr e0 hb r hsp => ?_⟩
  have hl := len _ _ _ _ hsp
  have KX : K.In s.heap := e0.mod.kin.keeps fun b o e => (e0.bs b o e).1
  have lim : s.heap.NoLimit := e0.mod.nolimit.keeps fun b o e => (e0.bs b o e).1
  refine codeAny_call_function hr.depth (KX _ _ lk) rfl S.co S.gen rfl (PySem.W.codeRec_of KX hcd) (hb _ _ _ _ ?_)
  refine wpAny_newFunctionEnv_cells S.kind (fun y hy => ?_) fun env he s1 z => ?_
  · obtain ⟨n, v⟩ := y
    rcases S.par n (List.of_mem_zip hy).1 with q | q
    · exact Or.inl q
    · exact Or.inr ⟨q, PySem.W.cellsFrom_some _ _ _ (.inl q)⟩
  subst he
  refine ⟨lim.keeps z.toInCall.keep, codeAny_func ?_⟩
  obtain ⟨t, ht, hq⟩ := hbody cdv A outer s H vs Q E ((deeper_guards A _).trans hgd) (hr.deeper _) hsp
  have ht := ht.nox
  have I : Inv (cxOf CX0 P w K mg base N qual (defScope st) f cdv A outer s H E) [] (L2.start N vs) H s1 := inv_start S hr.hd e0 hl r z
  refine wpAny_mono (ht.run [] s1 (L2.start N vs) H _ I hq) (fun fl s' hs => ?_) fun e s' hs => hs
  cases fl with
  | ret u =>
    obtain ⟨v, σ', H', J, rv, q⟩ := hs
    exact ⟨v, H', J.os, J.bare, J.base, J.hok, rv, q⟩
  | next =>
    obtain ⟨σ', H', J, q⟩ := hs
    exact ⟨.non, H', J.os, J.bare, J.base, J.hok, rfl, q⟩
  | brk =>
    obtain ⟨_, _, _, q⟩ := hs
    exact q.elim
  | cont =>
    obtain ⟨_, _, _, q⟩ := hs
    exact q.elim
theorem fnG_ok {x qual : Str} {st : Stmt} {f : Addr} {fd : FuncData} {N ps : List Str} {k : Nat} {sp : FSp} (F : Fun K x qual st f fd) (S : FnScope N ps (defScope st)) (hl : ∀ args m R, sp args m R → args.length = ps.length)
    (hb : ∀ (cdv : Value) (A : Around) (outer : List Env) (s : Shared) (H : Hp) (E : XK), (A.deeper (PyProof.Rows.envOfC qual (defScope st) s.heap.objs.size f cdv)).guards = some [] →
      Room k (A.deeper (PyProof.Rows.envOfC qual (defScope st) s.heap.objs.size f cdv)) →
      ∃ t, PSs (cxOf CX0 P w K mg base N qual (defScope st) f cdv A outer s H E).nox (defBody st) t ∧
        ∀ args m R, sp args m R → Wp K t (args ++ List.replicate (N.length - args.length) .any) m (fun _ m' => R (.d .none) m') R) : FnG P w K mg base (k + 1) f fd ps (spD K sp) := by
  refine fnG_of F S (fun vs H Q E h => ?_) (fun cdv A outer s H vs Q E hg hr h => ?_)
  · obtain ⟨m, G, args, R, S1, r1, h1, _⟩ := h
    rw [r1.length]; exact hl args m R h1
  · obtain ⟨m, G, args, R, S1, r1, h1, k1⟩ := h
    obtain ⟨t, ht, hw⟩ := hb cdv A outer s H E hg hr
    refine ⟨t, ht, ?_⟩
    refine hw args m R h1 _ H G _ S1 ?_ (fun σ' H' G' r' m' hn S' e' L' => ?_) (fun v H' G' x m' hn S' e' L' => k1 v H' G' x m' hn S' e' L')
    · unfold L2.start
      rw [r1.length]
      exact Sl.start _ r1
    · exact k1 .non H' G' (.d .none) m' hn S' e' (.d (rp_none.mpr rfl))
end
end DL


namespace DL
open PySem L2

section
variable {P : Program} {w : World} {K : PySem.W.Frag} {mg mb : Str → Option Value} {k : Nat} {fa a : Addr} {fd : FuncData} {x : Str} {sp : FSp} {s1 : Shared} {vs : List Value} {ns : List Int}
/-- what the law's def is asked at the heap behind the top: the script alone is known -/
theorem law_core (KX : K.In s1.heap) (hns : s1.heap.Ns mainGlobals mg) (hb : s1.heap.Ns builtinsNs mb) (hbb : ∀ x : Str, x ≠ "__name__" → mb x = bootBuiltins x) (hlim : s1.heap.NoLimit) (hgs : s1.gens = #[])
    (ha : s1.heap.get? a = some { cls := .type "list", data := .seq vs.toArray }) (hr : Room k callerA)
    (F : ∀ base : Heap, K.In base → base.Ns mainGlobals mg → FnG P w K mg base k fa fd [x] (spD K sp)) (hbind : ∀ (s : Shared) (u : Value), BindsTo s fd ⟨[u], []⟩ [(x, u)])
    (hsp : sp [.scr ns] (fun _ => none) fun y _ => y = .d (.bool true))
    (H : Hp) (hO : Only H) (hS : SqL K H a (ns.map V.int)) (hok : HOk P w H s1.heap) (hA : ∀ b, H b ≠ none → b = a) (hK : H a ≠ none → K.lookup a = none) :
    codeAny (model P w) callerA (.call (.ref fa) ⟨[.ref a], []⟩) (fun r s' => r = .ok (.ret (.bool true)) ∧ OldK s1.heap s'.heap ∧ s'.os = s1.os ∧ PyProof.Rows.AllBare s'.gens) s1 := by
  have baseOf : ∀ {b : Addr} {o : Obj}, s1.heap.get? b = some o → H b = none → (hidT s1.heap H).get? b = some o := hidT_get
  have free : ∀ {b : Addr} {o : Obj} {es : Array DictEntry} {ep : Nat}, s1.heap.get? b = some o → o.data = .dict es ep → H b = none := fun {b o es ep} e d => by
    cases q : H b with
    | none => rfl
    | some u =>
      obtain rfl : b = a := hA b fun z => by rw [q] at z; cases z
      rw [ha] at e
      cases e
      exact absurd d fun z => nomatch z
  have nsK : ∀ {b : Addr} {m : Str → Option Value}, s1.heap.Ns b m → (hidT s1.heap H).Ns b m := fun ⟨o, es, ep, e, d, z⟩ => ⟨o, es, ep, baseOf e (free e d), d, z⟩
  have kB : K.In (hidT s1.heap H) := fun b o e => baseOf (KX b o e) (by
    cases q : H b with
    | none => rfl
    | some u =>
      obtain rfl : b = a := hA b fun z => by rw [q] at z; cases z
      rw [hK fun z => by rw [q] at z; cases z] at e
      cases e)
  have e0 : Env0 P w K mg (hidT s1.heap H) callerA [] s1 H := by
    refine ⟨rfl, ⟨kB, nsK hns, ⟨mb, nsK hb, hbb⟩, ?_⟩, fun b o e => of_hidT e, Nat.le_of_eq (hidT_size _ _), trivial, fun b z => ?_, hok, .of_eq hgs⟩
    · obtain ⟨mc, z1, z2⟩ := hlim
      exact ⟨mc, nsK z1, z2⟩
    · exact nomatch (show b ∈ ([] : List Addr) from z)
  have hs : spD K sp [.ref a] H (fun v _ => v = .bl true) fun _ _ _ => False := by
    refine ⟨fun _ => none, H, [.scr ns], fun y _ => y = .d (.bool true), ⟨fun _ _ e => e, (fun _ _ e => nomatch e), (fun _ _ e => nomatch e)⟩, ⟨_, [], rfl, .scr hS, rfl⟩, hsp, ?_⟩
    intro v H' G' y m' hy _ _ hv
    subst hy
    exact rp_bool.mp hv.rp
  refine codeAny_mono ((F _ kB (nsK hns)).run callerA [] s1 H ⟨[.ref a], []⟩ [.ref a] [.ref a] _ _ rfl hr e0 (hbind s1 (.ref a)) (.cons rfl .nil) hs) fun r s' h => ?_
  cases r with
  | error e => exact False.elim h
  | ok fl =>
    cases fl with
    | next => exact False.elim h
    | brk => exact False.elim h
    | cont => exact False.elim h
    | ret u =>
      obtain ⟨v, H', os, bare, un, hok', rv, q⟩ := h
      have q : v = .bl true := q
      subst q
      obtain rfl : u = Value.bool true := rv
      refine ⟨rfl, OldK.of_keep fun b o e => ?_, os, bare⟩
      cases q : H b with
      | none => exact un.keep b o e q (fun z => nomatch (show b ∈ ([] : List Addr) from z)) (fun z => nomatch z)
      | some y =>
        rcases hO b with z | ⟨ob, xs, z⟩
        · rw [q] at z; cases z
        · obtain ⟨e1, _⟩ := hok b _ z
          obtain ⟨e2, _⟩ := hok' b _ (un.frzs b ob _ z)
          rw [e] at e1
          cases e1
          exact e2
theorem law_run (KX : K.In s1.heap) (hns : s1.heap.Ns mainGlobals mg) (hb : s1.heap.Ns builtinsNs mb) (hbb : ∀ x : Str, x ≠ "__name__" → mb x = bootBuiltins x) (hlim : s1.heap.NoLimit) (hgs : s1.gens = #[])
    (ha : s1.heap.get? a = some { cls := .type "list", data := .seq vs.toArray }) (hi : PyProof.Rows.IntsAre vs ns) (hl : ns.length ≤ sizeLine) (hr : Room k callerA)
    (F : ∀ base : Heap, K.In base → base.Ns mainGlobals mg → FnG P w K mg base k fa fd [x] (spD K sp)) (hbind : ∀ (s : Shared) (u : Value), BindsTo s fd ⟨[u], []⟩ [(x, u)])
    (hsp : sp [.scr ns] (fun _ => none) fun y _ => y = .d (.bool true)) :
    codeAny (model P w) callerA (.call (.ref fa) ⟨[.ref a], []⟩) (fun r s' => r = .ok (.ret (.bool true)) ∧ OldK s1.heap s'.heap ∧ s'.os = s1.os ∧ PyProof.Rows.AllBare s'.gens) s1 := by
  have rv := vals_ints hi
  have hlen := hi.length
  cases hk : K.lookup a with
  | some o =>
    have e := KX a o hk
    rw [ha] at e
    cases e
    refine law_core KX hns hb hbb hlim hgs ha hr F hbind hsp (fun _ => none) (fun _ => Or.inl rfl) (Or.inr ⟨_, vs.toArray, _, hk, rfl, rfl, rfl, ?_, ?_⟩) (fun b u z => nomatch (show (none : Option HO) = some u from z)) (fun b z => absurd rfl z) fun z => absurd rfl z
    · rw [List.size_toArray, hlen]; exact hl
    · simpa using rv
  | none =>
    refine law_core KX hns hb hbb hlim hgs ha hr F hbind hsp (fun b => if b = a then some (.frz { cls := .type "list", data := .seq vs.toArray } (.lst (ns.map V.int))) else none) (fun b => ?_) (Or.inl (Or.inr ⟨{ cls := .type "list", data := .seq vs.toArray }, if_pos rfl⟩)) (fun b u z => ?_) (fun b z => ?_) fun _ => hk
    · by_cases h : b = a
      · exact Or.inr ⟨_, _, if_pos h⟩
      · exact Or.inl (if_neg h)
    · by_cases h : b = a
      · have z := (if_pos h).symm.trans z
        cases z
        subst h
        exact ⟨ha, by rw [List.length_map]; exact hl, vs, _, rv, ha⟩
      · exact nomatch (if_neg h).symm.trans z
    · by_cases h : b = a
      · exact h
      · exact absurd (if_neg h) z
end
/-- from the law's def to the row -/
theorem walkG {l : PySem.W.OpenLaw} {n k : Nat} {q : Program} {loose : List Str} {XP : (Str → Option Value) → Heap → Prop} {YP : World → Heap → Prop} {d : DefRec} {K : Params → PySem.W.Frag} {sp : FSp} {x : Str}
    (hn : l.most = some n) (hn2 : n ≤ sizeLine) (hdf : d.params.defaults = []) (hr : Room k callerA) (hY : ∀ (w : World) (h : Heap), YP w h → (K w.params).In h)
    (F : ∀ (w : World) (mg : Str → Option Value) (fa : Addr) (h : Heap), (K w.params).In h → h.Ns mainGlobals mg → mg d.name = some (.ref fa) →
      ∃ fd : FuncData, (∀ (s : Shared) (u : Value), BindsTo s fd ⟨[u], []⟩ [(x, u)]) ∧
        ∀ base : Heap, (K w.params).In base → base.Ns mainGlobals mg → FnG l.prog w (K w.params) mg base k fa fd [x] (spD (K w.params) sp))
    (hsp : ∀ ns : List Int, ns.length ≤ n → (∀ z ∈ ns, Builtin.Int.intBits z ≤ 1048576) → sp [.scr ns] (fun _ => none) fun y _ => y = .d (.bool true)) :
    PySem.W.WalkO q loose XP YP l.row.toRowW d [] (fun f vs => PySem.call f vs) := by
  refine Att.attach_callB hn hdf fun w s0 s1 mg mb fa o pm cd doc a vs ns G Y ho hd hcd hmg hobj hints hlen hbits hg => ?_
  have KX := hY w _ Y
  obtain ⟨fd, hb, hF⟩ := F w mg fa _ KX G.T.g hmg
  exact law_run KX G.T.g G.T.b G.T.builtins G.T.nolimit hg hobj hints (Nat.le_trans hlen hn2) hr hF hb (hsp ns hlen hbits)
end DL


namespace DL
open PySem L2

/-! bits -/
def Bt (i : Int) (k : Nat) : Prop := i.natAbs < 2 ^ k
theorem Bt.mono {i : Int} {a b : Nat} (h : Bt i a) (hb : a ≤ b) : Bt i b := Nat.lt_of_lt_of_le h (Nat.pow_le_pow_right (by decide) hb)
theorem Bt.mul {i j : Int} {a b : Nat} (h : Bt i a) (g : Bt j b) : Bt (i * j) (a + b) := wide_lt h g
theorem Bt.add {i j : Int} {a b c : Nat} (h : Bt i a) (g : Bt j b) (h1 : a ≤ c) (h2 : b ≤ c) : Bt (i + j) (c + 1) := by
  have h := h.mono h1
  have g := g.mono h2
  unfold Bt at *
  rw [Nat.pow_succ]
  have : (i + j).natAbs ≤ i.natAbs + j.natAbs := Int.natAbs_add_le i j
  omega
theorem Bt.neg {i : Int} {a : Nat} (h : Bt i a) : Bt (-i) a := by
  unfold Bt at *; rw [Int.natAbs_neg]; exact h
theorem Bt.le {i j : Int} {a : Nat} (h : Bt j a) (hi : i.natAbs ≤ j.natAbs) : Bt i a := Nat.lt_of_le_of_lt hi h
theorem bt_small {i : Int} {a : Nat} (h : i.natAbs < 2 ^ a) : Bt i a := h
theorem Bt.cmul {i j : Int} {a b : Nat} (h : Bt i a) (g : Bt j b) (c : a + b + 2 ≤ 1000000) : CMulW i j := wide_mul (h.mono (Nat.le_succ a)) (g.mono (Nat.le_succ b)) (Nat.succ_pos a) (Nat.succ_pos b) (by omega)
theorem Bt.cdiv {i j : Int} {b : Nat} (g : Bt j b) (h0 : 0 < j) (c : b < 9000) : CDivW i j := wide_div h0 (g.mono (Nat.le_succ b)) (Nat.succ_pos b) (by omega)
theorem cdiv_small {i j : Int} (h0 : 0 < j) (h : j < 1073741824) : CDivW i j := wide_div (b := 30) h0 (by
  have e : (2 : Nat) ^ 30 = 1073741824 := by decide
  rw [e]; omega) (by decide) (by decide)
theorem cmul_small {i j : Int} (h0 : i.natAbs < 18446744073709551616) (h : j.natAbs < 18446744073709551616) : CMulW i j := by
  have e : (2 : Nat) ^ 64 = 18446744073709551616 := by decide
  exact wide_mul (a := 64) (b := 64) (by rw [e]; exact h0) (by rw [e]; exact h) (by decide) (by decide) (by decide)

/-! fractions -/
def frac (q : Rat) : PyData := .tuple [.int q.num, .int (q.den : Int)]
theorem frac_mk (t : Int) (b : Nat) (hb : b ≠ 0) : frac (mkRat t b) = .tuple [.int (t / (Nat.gcd b t.natAbs : Nat)), .int ((b / Nat.gcd b t.natAbs : Nat) : Int)] := by
  unfold frac
  rw [Rat.num_mkRat, Rat.den_mkRat, if_neg hb, if_neg hb]
theorem frac_int (n : Int) : frac (n : Rat) = .tuple [.int n, .int 1] := rfl
theorem depth_frac (q : Rat) : (frac q).depth = 1 := by simp [frac, PyData.depth, PyData.depthAll]
theorem shaped_frac (q : Rat) : SeqAt.shaped (frac q) = true := by simp [SeqAt.shaped, frac, PyData.canLay0, PyData.canLayAll0, PyData.depth, PyData.depthAll]
theorem noDict_frac (q : Rat) : (frac q).hasDict = false := by simp [frac, PyData.hasDict, PyData.hasDictAll]
theorem frac_inj {p q : Rat} (h : frac p = frac q) : p = q := by
  unfold frac at h
  have h1 : p.num = q.num := by injection h with h; injection h with h1 h2; injection h1
  have h2 : (p.den : Int) = q.den := by injection h with h; injection h with h1 h2; injection h2 with h2; injection h2
  exact Rat.ext h1 (by omega)

/-! ints of bounded size are shown -/
theorem log2_of_bt {i : Int} {a : Nat} (h : Bt i a) (h0 : 0 < a) : i.natAbs.log2 < a := PySem.Flt.log2_lt_of h0 h
theorem showable_int {i : Int} {a : Nat} (h : Bt i a) (h0 : 0 < a) (ha : a ≤ 1920) : (PyData.int i).showable = true := by
  simp only [PyData.showable]
  exact decide_eq_true (Nat.lt_of_lt_of_le (log2_of_bt h h0) ha)

/-! what may be shown: how deep, how long -/
structure Sh (d : PyData) (k n : Nat) : Prop where
  nd : d.hasDict = false
  dp : d.depth ≤ k
  sh : d.showable = true
  ln : d.shown.length ≤ n
theorem Sh.mono {d : PyData} {k n k' n' : Nat} (h : Sh d k n) (h1 : k ≤ k') (h2 : n ≤ n') : Sh d k' n' := ⟨h.nd, Nat.le_trans h.dp h1, h.sh, Nat.le_trans h.ln h2⟩
theorem sh_int {i : Int} {a : Nat} (h : Bt i a) (h0 : 0 < a) (ha : a ≤ 1920) : Sh (.int i) 0 (a + 1) := by
  refine ⟨by simp only [PyData.hasDict], by simp only [PyData.depth]; exact Nat.le_refl 0, showable_int h h0 ha, ?_⟩
  simp only [PyData.shown]
  rw [ofString_length]
  exact int_text_length_le h0 (log2_of_bt h h0)
theorem sh_bool (b : Bool) : Sh (.bool b) 0 5 := by
  refine ⟨by simp only [PyData.hasDict], by simp only [PyData.depth]; exact Nat.le_refl 0, by simp only [PyData.showable], ?_⟩
  simp only [PyData.shown]
  cases b <;> decide
theorem sh_none : Sh .none 0 4 := by
  refine ⟨by simp only [PyData.hasDict], by simp only [PyData.depth]; exact Nat.le_refl 0, by simp only [PyData.showable], ?_⟩
  simp only [PyData.shown]
  decide
theorem shAll {k n : Nat} : ∀ {ds : List PyData}, (∀ d ∈ ds, Sh d k n) → PyData.hasDictAll ds = false ∧ PyData.depthAll ds ≤ k ∧ PyData.showableAll ds = true ∧ ((PyData.shownAll ds).map (·.length)).sum ≤ n * ds.length ∧ (PyData.shownAll ds).length = ds.length
  | [], _ => ⟨by simp only [PyData.hasDictAll], by simp only [PyData.depthAll]; exact Nat.zero_le _, by simp only [PyData.showableAll], by simp [PyData.shownAll], by simp [PyData.shownAll]⟩
  | d :: ds, h => by
    have h1 := h d (List.mem_cons_self ..)
    obtain ⟨a, b, c, e, f⟩ := shAll (ds := ds) fun x hx => h x (List.mem_cons_of_mem _ hx)
    refine ⟨by simp only [PyData.hasDictAll, h1.nd, a]; rfl, ?_, by simp only [PyData.showableAll, h1.sh, c]; rfl, ?_, ?_⟩
    · simp only [PyData.depthAll]
      exact Nat.max_le.mpr ⟨h1.dp, b⟩
    · have := h1.ln
      simp only [PyData.shownAll, List.map_cons, List.sum_cons, List.length_cons]
      rw [Nat.mul_succ]
      omega
    · simp only [PyData.shownAll, List.length_cons, f]
theorem sh_tuple {ds : List PyData} {k n c : Nat} (h : ∀ d ∈ ds, Sh d k n) (hc : ds.length ≤ c) : Sh (.tuple ds) (k + 1) ((n + 2) * c + 3) := by
  obtain ⟨a, b, e, f, g⟩ := shAll h
  refine ⟨by simp only [PyData.hasDict, a], by simp only [PyData.depth]; omega, by simp only [PyData.showable, e], ?_⟩
  simp only [PyData.shown]
  have := tupleText_len_le (PyData.shownAll ds)
  have h1 : n * ds.length ≤ n * c := Nat.mul_le_mul_left n hc
  have h2 : (n + 2) * c = n * c + 2 * c := Nat.add_mul n 2 c
  omega
theorem sh_list {ds : List PyData} {k n c : Nat} (h : ∀ d ∈ ds, Sh d k n) (hc : ds.length ≤ c) : Sh (.list ds) (k + 1) ((n + 2) * c + 3) := by
  obtain ⟨a, b, e, f, g⟩ := shAll h
  refine ⟨by simp only [PyData.hasDict, a], by simp only [PyData.depth]; omega, by simp only [PyData.showable, e], ?_⟩
  simp only [PyData.shown]
  have := listText_len_le (PyData.shownAll ds)
  have h1 : n * ds.length ≤ n * c := Nat.mul_le_mul_left n hc
  have h2 : (n + 2) * c = n * c + 2 * c := Nat.add_mul n 2 c
  omega
theorem on_show {K : PySem.W.Frag} {m : Mm} {Q : Val → Mm → Prop} {x : PyData} {k n : Nat} (h : Sh x k n) (h1 : k ≤ 64) (h2 : n ≤ 16777216) (q : Q (.d (.str x.shown)) m) : OpN K (rRepr K) [.d x] m Q :=
  on_repr h.nd (Nat.le_trans h.dp h1) h.sh (Nat.le_trans h.ln (by rw [sizeLine_eq]; exact h2)) q
/-- a fraction of small enough parts -/
def FrB (q : Rat) (a : Nat) : Prop := Bt q.num a ∧ Bt (q.den : Int) a
theorem sh_frac {q : Rat} {a : Nat} (h : FrB q a) (h0 : 0 < a) (ha : a ≤ 1920) : Sh (frac q) 1 4000 := by
  unfold frac
  refine (sh_tuple (ds := [.int q.num, .int (q.den : Int)]) (k := 0) (n := a + 1) (c := 2) (fun d hd => ?_) (Nat.le_refl 2)).mono (Nat.le_refl _) (by omega)
  rcases List.mem_cons.mp hd with e | hd
  · rw [e]; exact sh_int h.1 h0 ha
  · rw [List.mem_singleton.mp hd]; exact sh_int h.2 h0 ha
end DL


namespace DL
open PySem L2

theorem br_t {c : Bool} {A B : Prop} (h : c = true) (a : A) : (c = true → A) ∧ (c = false → B) := ⟨fun _ => a, fun g => by rw [h] at g; cases g⟩
theorem br_f {c : Bool} {A B : Prop} (h : c = false) (b : B) : (c = true → A) ∧ (c = false → B) := ⟨(fun g => by rw [h] at g; cases g), (fun _ => b)⟩
theorem take_one {α : Type} {ds : List α} {i : Nat} {d : α} (h : ds[i]? = some d) : ds.take (i + 1) = ds.take i ++ [d] := by
  rw [List.take_succ, h]; rfl
theorem range_one (i : Nat) : List.range (i + 1) = List.range i ++ [i] := List.range_succ

section
variable {K : PySem.W.Frag} {r : List Val} {m : Mm} {Q : Val → Mm → Prop} {te tl : TE} {tt : TT} {j : Nat} {ds : List PyData}
theorem ev_mapT (h : Ev K tl r m fun x m1 => x = .d (.tuple ds) ∧ m1 = m) (hn : ds.length ≤ 100000) (f : PyData → PyData)
    (hs : ∀ (i : Nat) (d : PyData) m', ds[i]? = some d → Ext m m' → Ev K te (r.set j (.d d)) m' fun x m3 => x = .d (f d) ∧ m3 = m') (q : Q (.d (.list (ds.map f))) m) : Ev K (tLc (iTup K tl) (gName j) tYes te [j]) r m Q :=
  ev_lcT h hn (fun i acc => acc = (ds.take i).map f) (by simp) (fun i d m' acc hd hx hw => evt_yes ⟨rfl, fun _ => (hs i d m' hd hx).imp fun x m3 e => ⟨e.2, f d, e.1, by rw [hw, take_one hd, List.map_append]; rfl⟩, (fun g => nomatch g)⟩)
    (fun acc hw => by rw [hw, List.take_length]; exact q)
theorem ev_mapL (h : Ev K tl r m fun x m1 => x = .d (.list ds) ∧ m1 = m) (hn : ds.length ≤ 100000) (f : PyData → PyData)
    (hs : ∀ (i : Nat) (d : PyData) m', ds[i]? = some d → Ext m m' → Ev K te (r.set j (.d d)) m' fun x m3 => x = .d (f d) ∧ m3 = m') (q : Q (.d (.list (ds.map f))) m) : Ev K (tLc (iList K tl) (gName j) tYes te [j]) r m Q :=
  ev_lcL h hn (fun i acc => acc = (ds.take i).map f) (by simp) (fun i d m' acc hd hx hw => evt_yes ⟨rfl, fun _ => (hs i d m' hd hx).imp fun x m3 e => ⟨e.2, f d, e.1, by rw [hw, take_one hd, List.map_append]; rfl⟩, (fun g => nomatch g)⟩)
    (fun acc hw => by rw [hw, List.take_length]; exact q)
theorem ev_filT (h : Ev K tl r m fun x m1 => x = .d (.tuple ds) ∧ m1 = m) (hn : ds.length ≤ 100000) (p : PyData → Bool) (f : PyData → PyData)
    (ht : ∀ (i : Nat) (d : PyData) m', ds[i]? = some d → Ext m m' → EvT K tt (r.set j (.d d)) m' fun b m3 => b = p d ∧ m3 = m')
    (hs : ∀ (i : Nat) (d : PyData) m', ds[i]? = some d → Ext m m' → p d = true → Ev K te (r.set j (.d d)) m' fun x m3 => x = .d (f d) ∧ m3 = m') (q : Q (.d (.list ((ds.filter p).map f))) m) : Ev K (tLc (iTup K tl) (gName j) tt te [j]) r m Q :=
  ev_lcT h hn (fun i acc => acc = ((ds.take i).filter p).map f) (by simp) (fun i d m' acc hd hx hw => (ht i d m' hd hx).imp fun b m2 e => ⟨e.2, fun hb => (hs i d m' hd hx (e.1.symm.trans hb)).imp fun x m3 e2 => ⟨e2.2, f d, e2.1, by
      rw [hw, take_one hd, List.filter_append, List.map_append, List.filter_cons, if_pos (e.1.symm.trans hb)]; rfl⟩, fun hb => by
      rw [hw, take_one hd, List.filter_append, List.map_append, List.filter_cons, if_neg (by rw [← e.1, hb]; decide)]; simp⟩)
    (fun acc hw => by rw [hw, List.take_length]; exact q)
theorem ev_filL (h : Ev K tl r m fun x m1 => x = .d (.list ds) ∧ m1 = m) (hn : ds.length ≤ 100000) (p : PyData → Bool) (f : PyData → PyData)
    (ht : ∀ (i : Nat) (d : PyData) m', ds[i]? = some d → Ext m m' → EvT K tt (r.set j (.d d)) m' fun b m3 => b = p d ∧ m3 = m')
    (hs : ∀ (i : Nat) (d : PyData) m', ds[i]? = some d → Ext m m' → p d = true → Ev K te (r.set j (.d d)) m' fun x m3 => x = .d (f d) ∧ m3 = m') (q : Q (.d (.list ((ds.filter p).map f))) m) : Ev K (tLc (iList K tl) (gName j) tt te [j]) r m Q :=
  ev_lcL h hn (fun i acc => acc = ((ds.take i).filter p).map f) (by simp) (fun i d m' acc hd hx hw => (ht i d m' hd hx).imp fun b m2 e => ⟨e.2, fun hb => (hs i d m' hd hx (e.1.symm.trans hb)).imp fun x m3 e2 => ⟨e2.2, f d, e2.1, by
      rw [hw, take_one hd, List.filter_append, List.map_append, List.filter_cons, if_pos (e.1.symm.trans hb)]; rfl⟩, fun hb => by
      rw [hw, take_one hd, List.filter_append, List.map_append, List.filter_cons, if_neg (by rw [← e.1, hb]; decide)]; simp⟩)
    (fun acc hw => by rw [hw, List.take_length]; exact q)
theorem ev_mapR1 {ta : TA} {n : Nat} (h : EvA K ta r m fun xs m1 => xs = [.d (.int (n : Int))] ∧ m1 = m) (hn : n ≤ 100000) (f : Nat → PyData)
    (hs : ∀ i m', i < n → Ext m m' → Ev K te (r.set j (.d (.int (i : Int)))) m' fun x m3 => x = .d (f i) ∧ m3 = m') (q : Q (.d (.list ((List.range n).map f))) m) : Ev K (tLc (iRng1 ta) (gName j) tYes te [j]) r m Q :=
  ev_lcR1 h hn (fun i acc => acc = (List.range i).map f) (by simp) (fun i m' acc hi hx hw => evt_yes ⟨rfl, fun _ => (hs i m' hi hx).imp fun x m3 e => ⟨e.2, f i, e.1, by rw [hw, range_one, List.map_append]; rfl⟩, (fun g => nomatch g)⟩)
    (fun acc hw => by rw [hw]; exact q)
theorem ev_mapR2 {ta : TA} {lo n : Nat} (h : EvA K ta r m fun xs m1 => xs = [.d (.int (lo : Int)), .d (.int ((lo + n : Nat) : Int))] ∧ m1 = m) (hn : lo + n ≤ 100000) (f : Nat → PyData)
    (hs : ∀ i m', i < n → Ext m m' → Ev K te (r.set j (.d (.int ((lo + i : Nat) : Int)))) m' fun x m3 => x = .d (f i) ∧ m3 = m') (q : Q (.d (.list ((List.range n).map f))) m) : Ev K (tLc (iRng2 ta) (gName j) tYes te [j]) r m Q :=
  ev_lcR2 h hn (fun i acc => acc = (List.range i).map f) (by simp) (fun i m' acc hi hx hw => evt_yes ⟨rfl, fun _ => (hs i m' hi hx).imp fun x m3 e => ⟨e.2, f i, e.1, by rw [hw, range_one, List.map_append]; rfl⟩, (fun g => nomatch g)⟩)
    (fun acc hw => by rw [hw]; exact q)
/-- a range that is none -/
theorem ev_lcR2' {ta : TA} (h : EvA K ta r m fun xs m1 => xs = [.d (.int 1), .d (.int 0)] ∧ m1 = m) (q : Q (.d (.list [])) m) : Ev K (tLc (iRng2 ta) (gName j) tt te [j]) r m Q := fun σ H G S L R k =>
  h σ H G S L _ fun vs H1 G1 xs m1 ⟨hx, hm⟩ S1 e1 r1 => by
    subst hx hm
    obtain ⟨v1, v2, rfl, a1, a2⟩ := vrs2 r1
    have a1 := int_of a1
    have a2 := int_of a2
    subst a1 a2
    refine ⟨1, 0, rfl, ⟨by omega, by omega, by omega, by omega⟩, fun D hD => ?_⟩
    have hmD := S1.freeM hD
    refine lc_range (lo := 1) (n := 0) (LcW K m1 G1 D (fun _ acc => acc = [])) (lc_start S1 hD rfl) (fun i H' hi => absurd hi (Nat.not_lt_zero i)) fun H' hP => ?_
    exact lc_end hmD hP (fun acc hw => by rw [hw]; exact q) fun v H' G' x m' q S' e' r' => k v H' G' x m' q S' (e1.trans e') r'
/-- drawn items: each may be any that P allows -/
theorem ev_anyR1 {ta : TA} {n : Nat} (h : EvA K ta r m fun xs m1 => xs = [.d (.int (n : Int))] ∧ m1 = m) (hn : n ≤ 100000) (P : Nat → PyData → Prop)
    (hs : ∀ i m', i < n → Ext m m' → Ev K te (r.set j (.d (.int (i : Int)))) m' fun x m3 => (∃ y, x = .d y ∧ P i y) ∧ m3 = m') (q : ∀ ds : List PyData, ds.length = n → (∀ (i : Nat) (d : PyData), ds[i]? = some d → P i d) → Q (.d (.list ds)) m) : Ev K (tLc (iRng1 ta) (gName j) tYes te [j]) r m Q :=
  ev_lcR1 h hn (fun i acc => acc.length = i ∧ ∀ (k : Nat) (d : PyData), acc[k]? = some d → P k d) ⟨rfl, fun k d hk => by simp at hk⟩ (fun i m' acc hi hx hw => evt_yes ⟨rfl, fun _ => (hs i m' hi hx).imp fun x m3 e => ⟨e.2, by
      obtain ⟨y, hy, hp⟩ := e.1
      refine ⟨y, hy, by rw [List.length_append, hw.1]; rfl, fun k d hk => ?_⟩
      by_cases hki : k < i
      · rw [List.getElem?_append_left (by omega)] at hk
        exact hw.2 k d hk
      · have e2 : k = i := by
          have := (List.getElem?_eq_some_iff.mp hk).1
          rw [List.length_append, hw.1] at this
          simp at this
          omega
        subst e2
        rw [List.getElem?_append_right (by omega), hw.1] at hk
        simp at hk
        subst hk
        exact hp⟩, (fun g => nomatch g)⟩)
    (fun acc hw => q acc hw.1 hw.2)
end
end DL


namespace DL
open PySem L2

def f_gcd : FSp := fun args m R => ∃ a b : Nat, args = [.d (.int (a : Int)), .d (.int (b : Int))] ∧ R (.d (.int ((Nat.gcd a b : Nat) : Int))) m

def f_made : FSp := fun args m R => ∃ (t : Int) (b : Nat), args = [.d (.int t), .d (.int (b : Int))] ∧ 0 < b ∧ Bt (b : Int) 8000 ∧ R (.d (frac (mkRat t b))) m

def isInt : PyData → Bool
  | .int _ => true
  | _ => false
def f_isWhole : FSp := fun args m R => ∃ x, args = [.d x] ∧ R (.d (.bool (isInt x))) m

def okS : PyData → Bool
  | .int i => decide (1 ≤ i) && decide (i ≤ 9)
  | _ => false
def isShares : PyData → Bool
  | .tuple ds => decide (1 ≤ ds.length) && (decide (ds.length ≤ 5) && ds.all okS)
  | _ => false
structure Shares (ss : List Int) : Prop where
  pos : 1 ≤ ss.length
  few : ss.length ≤ 5
  each : ∀ s ∈ ss, 1 ≤ s ∧ s ≤ 9
def tupI (ns : List Int) : PyData := .tuple (ns.map PyData.int)
def tupN (ks : List Nat) : PyData := .tuple ((ks.map fun (k : Nat) => (k : Int)).map PyData.int)
theorem isShares_of {ss : List Int} (h : Shares ss) : isShares (tupI ss) = true := by
  unfold isShares tupI
  dsimp only
  rw [List.length_map, decide_eq_true h.pos, decide_eq_true h.few, Bool.true_and, Bool.true_and, List.all_eq_true]
  intro d hd
  obtain ⟨i, hi, rfl⟩ := List.mem_map.mp hd
  obtain ⟨a, b⟩ := h.each i hi
  show (decide (1 ≤ i) && decide (i ≤ 9)) = true
  rw [decide_eq_true a, decide_eq_true b]; rfl
theorem int_shape {d : PyData} (h : isInt d = true) : ∃ i, d = .int i := by
  cases d with
  | int i => exact ⟨i, rfl⟩
  | _ => cases h
theorem tup_shape {d : PyData} (h : isTup d = true) : ∃ ds, d = .tuple ds := by
  cases d with
  | tuple i => exact ⟨i, rfl⟩
  | _ => cases h
def f_isShares : FSp := fun args m R => ∃ x, args = [.d x] ∧ R (.d (.bool (isShares x))) m

def f_needShares : FSp := fun args m R => ∃ x, args = [.d x] ∧ isShares x = true ∧ R (.d .none) m

def okK (n : Int) : PyData → Bool
  | .int i => decide (0 ≤ i) && decide (i < n)
  | _ => false
def intOf : PyData → Int
  | .int i => i
  | _ => 0
def rising (ds : List PyData) : Bool := (List.range (ds.length - 1)).all fun i => decide (intOf (ds.getD i .none) < intOf (ds.getD (i + 1) .none))
def areKinds (x : PyData) (n : Int) : Bool := match x with
  | .tuple ds => ds.all (okK n) && rising ds
  | _ => false
def shortD : PyData → Prop
  | .tuple ds => ds.length ≤ 90000
  | _ => True
def f_areKinds : FSp := fun args m R => ∃ x n, args = [.d x, .d (.int n)] ∧ shortD x ∧ R (.d (.bool (areKinds x n))) m

def f_needKinds : FSp := fun args m R => ∃ ds x, args = [.d (.tuple ds), .d x] ∧ shortD x ∧ areKinds x (ds.length : Int) = true ∧ R (.d .none) m

def sumP (ss : List Int) (ks : List Nat) : Int := (ks.map fun k => ss.getD k 0).sum
def f_sumPart : FSp := fun args m R => ∃ (ss : List Int) (ks : List Nat), args = [.d (tupI ss), .d (tupN ks)] ∧ ks.length ≤ 1000 ∧ (∀ k ∈ ks, k < ss.length) ∧ R (.d (.int (sumP ss ks))) m
theorem tupI_at {ss : List Int} {k : Nat} (h : k < ss.length) : atI (ss.map PyData.int) (k : Int) = some (.int (ss.getD k 0)) := by
  rw [atI_nth, List.getElem?_map, List.getD_eq_getElem?_getD, List.getElem?_eq_getElem h]; rfl

def f_total : FSp := fun args m R => ∃ ss : List Int, args = [.d (tupI ss)] ∧ Shares ss ∧ R (.d (.int ss.sum)) m

theorem shares_sum {ss : List Int} (h : Shares ss) : 1 ≤ ss.sum ∧ ss.sum ≤ 45 := by
  obtain ⟨h1, h2, h3⟩ := h
  match ss, h1, h2 with
  | [a], _, _ => have := h3 a (by simp); simp; omega
  | [a, b], _, _ => have := h3 a (by simp); have := h3 b (by simp); simp; omega
  | [a, b, c], _, _ => have := h3 a (by simp); have := h3 b (by simp); have := h3 c (by simp); simp; omega
  | [a, b, c, d], _, _ => have := h3 a (by simp); have := h3 b (by simp); have := h3 c (by simp); have := h3 d (by simp); simp; omega
  | [a, b, c, d, e], _, _ => have := h3 a (by simp); have := h3 b (by simp); have := h3 c (by simp); have := h3 d (by simp); have := h3 e (by simp); simp; omega
/-- some kinds of so many -/
structure Kinds (n : Nat) (ks : List Nat) : Prop where
  up : ks.Pairwise (· < ·)
  lt : ∀ k ∈ ks, k < n
theorem Kinds.len {n : Nat} {ks : List Nat} (h : Kinds n ks) : ks.length ≤ n := by
  have h1 : ks.Sublist (List.range n) := by
    have : ∀ (ks : List Nat) (m : Nat), ks.Pairwise (· < ·) → (∀ k ∈ ks, m ≤ k ∧ k < n) → ks.Sublist ((List.range n).drop m) := by
      intro ks
      induction ks with
      | nil => intro m _ _; exact List.nil_sublist _
      | cons k t ih =>
        intro m hp hl
        have hk := hl k (by simp)
        have hkn : k < (List.range n).length := by rw [List.length_range]; exact hk.2
        have hd : (List.range n).drop k = k :: (List.range n).drop (k + 1) := by
          rw [List.drop_eq_getElem_cons hkn, List.getElem_range]
        have h1 : (k :: t).Sublist ((List.range n).drop k) := by
          rw [hd]
          refine (ih (k + 1) (List.pairwise_cons.mp hp).2 fun x hx => ⟨?_, (hl x (by simp [hx])).2⟩).cons_cons k
          exact (List.pairwise_cons.mp hp).1 x hx
        refine h1.trans ?_
        have e : (List.range n).drop k = ((List.range n).drop m).drop (k - m) := by rw [List.drop_drop]; congr 1; omega
        rw [e]
        exact List.drop_sublist _ _
    exact this ks 0 h.up fun k hk => ⟨Nat.zero_le _, h.lt k hk⟩
  have := h1.length_le
  rw [List.length_range] at this
  exact this
theorem areKinds_of {n : Nat} {ks : List Nat} (h : Kinds n ks) : areKinds (tupN ks) (n : Int) = true := by
  show (((ks.map fun (k : Nat) => (k : Int)).map PyData.int).all (okK n) && rising ((ks.map fun (k : Nat) => (k : Int)).map PyData.int)) = true
  rw [Bool.and_eq_true]
  constructor
  · rw [List.all_eq_true]
    intro d hd
    rw [List.map_map] at hd
    obtain ⟨k, hk, rfl⟩ := List.mem_map.mp hd
    have := h.lt k hk
    show (decide ((0 : Int) ≤ (k : Int)) && decide ((k : Int) < (n : Int))) = true
    rw [decide_eq_true (by omega), decide_eq_true (by omega)]; rfl
  · unfold rising
    rw [List.all_eq_true]
    intro i hi
    rw [List.mem_range, List.length_map, List.length_map] at hi
    apply decide_eq_true
    have g : ∀ j, j < ks.length → intOf (((ks.map fun (k : Nat) => (k : Int)).map PyData.int).getD j .none) = (ks.getD j 0 : Nat) := by
      intro j hj
      rw [List.getD_eq_getElem?_getD, List.getElem?_map, List.getElem?_map, List.getD_eq_getElem?_getD, List.getElem?_eq_getElem hj]; rfl
    rw [g i (by omega), g (i + 1) (by omega)]
    have := List.pairwise_iff_getElem.mp h.up i (i + 1) (by omega) (by omega) (by omega)
    rw [List.getD_eq_getElem?_getD, List.getD_eq_getElem?_getD, List.getElem?_eq_getElem (by omega), List.getElem?_eq_getElem (by omega)]
    simp only [Option.getD_some]
    omega
theorem sumP_nonneg {ss : List Int} (h : Shares ss) : ∀ ks : List Nat, 0 ≤ sumP ss ks
  | [] => Int.le_refl 0
  | k :: t => by
    have ih := sumP_nonneg h t
    have e : sumP ss (k :: t) = ss.getD k 0 + sumP ss t := rfl
    have : 0 ≤ ss.getD k 0 := by
      rw [List.getD_eq_getElem?_getD]
      cases hk : ss[k]? with
      | none => decide
      | some s => have := h.each s (List.mem_of_getElem? hk); simp; omega
    omega
def f_part : FSp := fun args m R => ∃ (ss : List Int) (ks : List Nat), args = [.d (tupI ss), .d (tupN ks)] ∧ Shares ss ∧ Kinds ss.length ks ∧ R (.d (frac (mkRat (sumP ss ks) ss.sum.toNat))) m

theorem getD_bounds {ss : List Int} (h : Shares ss) (k : Nat) : 0 ≤ ss.getD k 0 ∧ ss.getD k 0 ≤ 9 := by
  rw [List.getD_eq_getElem?_getD]
  cases hk : ss[k]? with
  | none => exact ⟨by decide, by decide⟩
  | some s => have := h.each s (List.mem_of_getElem? hk); simp; omega
theorem sumP_le9 {ss : List Int} (h : Shares ss) : ∀ ks : List Nat, sumP ss ks ≤ 9 * (ks.length : Int)
  | [] => Int.le_refl 0
  | k :: t => by
    have ih := sumP_le9 h t
    have e : sumP ss (k :: t) = ss.getD k 0 + sumP ss t := rfl
    have := getD_bounds h k
    rw [List.length_cons]
    omega
theorem sumP_le {ss : List Int} (h : Shares ss) {ks : List Nat} (hk : Kinds ss.length ks) : sumP ss ks ≤ 45 := by
  have := sumP_le9 h ks
  have := hk.len
  have := h.few
  omega
theorem frB_mk {t : Int} {b a : Nat} (h1 : Bt t a) (h2 : Bt (b : Int) a) (h0 : 0 < b) : FrB (mkRat t b) a := by
  refine ⟨?_, ?_⟩
  · rw [Rat.num_mkRat, if_neg (by omega)]
    refine h1.le ?_
    rw [Int.natAbs_ediv_of_dvd (Int.ofNat_dvd_left.mpr (Nat.gcd_dvd_right b t.natAbs)), Int.natAbs_natCast]
    exact Nat.div_le_self _ _
  · rw [Rat.den_mkRat, if_neg (by omega)]
    exact h2.le (by simp only [Int.natAbs_natCast]; exact Nat.div_le_self _ _)
theorem on_lenI {K : PySem.W.Frag} {m : Mm} {Q : Val → Mm → Prop} {ss : List Int} (q : Q (.d (.int (ss.length : Int))) m) : OpN K (rLen K) [.d (tupI ss)] m Q := on_lenT (by rw [List.length_map]; exact q)
theorem on_lenN {K : PySem.W.Frag} {m : Mm} {Q : Val → Mm → Prop} {ks : List Nat} (q : Q (.d (.int (ks.length : Int))) m) : OpN K (rLen K) [.d (tupN ks)] m Q := on_lenT (by rw [List.length_map, List.length_map]; exact q)
theorem on_sumI {K : PySem.W.Frag} {m : Mm} {Q : Val → Mm → Prop} {ss : List Int} (q : Q (.d (.int ss.sum)) m) : OpN K (rSumA K) [.d (tupI ss)] m Q := on_sumT q
/-! fractions reckoned -/
theorem o2_ixF0 {K : PySem.W.Frag} {m : Mm} {Q : Val → Mm → Prop} {q : Rat} (h : Q (.d (.int q.num)) m) : Op2 K (rIx K) (.d (frac q)) (.d (.int 0)) m Q := o2_ixT (d := .int q.num) rfl h
theorem o2_ixF1 {K : PySem.W.Frag} {m : Mm} {Q : Val → Mm → Prop} {q : Rat} (h : Q (.d (.int (q.den : Int))) m) : Op2 K (rIx K) (.d (frac q)) (.d (.int 1)) m Q := o2_ixT (d := .int (q.den : Int)) rfl h
def f_sumOf : FSp := fun args m R => ∃ p q : Rat, args = [.d (frac p), .d (frac q)] ∧ FrB p 3900 ∧ FrB q 3900 ∧ R (.d (frac (p + q))) m
def f_timesOf : FSp := fun args m R => ∃ p q : Rat, args = [.d (frac p), .d (frac q)] ∧ FrB p 3900 ∧ FrB q 3900 ∧ R (.d (frac (p * q))) m
def f_below : FSp := fun args m R => ∃ p q : Rat, args = [.d (frac p), .d (frac q)] ∧ FrB p 3900 ∧ FrB q 3900 ∧ R (.d (.bool (decide (p < q)))) m
theorem FrB.mono {q : Rat} {a b : Nat} (h : FrB q a) (hb : a ≤ b) : FrB q b := ⟨h.1.mono hb, h.2.mono hb⟩
theorem den_pos (q : Rat) : 0 < q.den := Nat.pos_of_ne_zero q.den_nz
theorem FrB.add {p q : Rat} {a b c : Nat} (h : FrB p a) (g : FrB q b) (hc : a + b + 1 ≤ c) : FrB (p + q) c := by
  rw [Rat.add_def']
  refine frB_mk (((h.1.mul g.2).add (g.1.mul h.2) (c := a + b) (Nat.le_refl _) (by omega)).mono hc) (Bt.mono (a := a + b) ?_ (by omega)) (Nat.mul_pos (den_pos p) (den_pos q))
  rw [Int.natCast_mul]
  exact h.2.mul g.2
theorem FrB.mul {p q : Rat} {a b c : Nat} (h : FrB p a) (g : FrB q b) (hc : a + b ≤ c) : FrB (p * q) c := by
  rw [Rat.mul_def']
  refine frB_mk ((h.1.mul g.1).mono hc) (Bt.mono (a := a + b) ?_ hc) (Nat.mul_pos (den_pos p) (den_pos q))
  rw [Int.natCast_mul]
  exact h.2.mul g.2
theorem FrB.neg {p : Rat} {a : Nat} (h : FrB p a) : FrB (-p) a := ⟨h.1.neg, h.2⟩
theorem frac_neg (q : Rat) : (.tuple [.int (0 - q.num), .int (q.den : Int)] : PyData) = frac (-q) := by
  unfold frac
  rw [Rat.neg_num, Rat.neg_den, Int.zero_sub]
/-- whether a thing is a fraction -/
def isFrac : PyData → Bool
  | .tuple [.int t, .int b] => decide (1 ≤ b) && decide (Nat.gcd b.toNat t.natAbs = 1)
  | _ => false
def szFrac : PyData → Prop
  | .tuple [.int _, .int b] => Bt b 8000
  | _ => True
def f_isFrac : FSp := fun args m R => ∃ x, args = [.d x] ∧ szFrac x ∧ R (.d (.bool (isFrac x))) m
def f_needFrac : FSp := fun args m R => ∃ q : Rat, args = [.d (frac q)] ∧ FrB q 3900 ∧ R (.d .none) m
theorem isFrac_frac (q : Rat) : isFrac (frac q) = true := by
  show (decide (1 ≤ (q.den : Int)) && decide (Nat.gcd ((q.den : Int)).toNat q.num.natAbs = 1)) = true
  have h := q.reduced
  have hd := den_pos q
  rw [decide_eq_true (by omega), decide_eq_true (by rw [Int.toNat_natCast, Nat.gcd_comm]; exact h)]; rfl
theorem eqv_frac2 (t : Int) (b : Nat) (hb : 0 < b) : PyData.eqv (frac (mkRat t b)) (.tuple [.int t, .int (b : Int)]) = decide (Nat.gcd b t.natAbs = 1) := by
  rw [frac_mk t b (by omega)]
  simp only [PyData.eqv, PyData.eqvAll, Bool.and_true]
  by_cases h : Nat.gcd b t.natAbs = 1
  · rw [decide_eq_true h]
    simp [h]
  · rw [decide_eq_false h]
    have hg : 0 < Nat.gcd b t.natAbs := Nat.gcd_pos_of_pos_left _ hb
    have hlt : b / Nat.gcd b t.natAbs < b := Nat.div_lt_self hb (by omega)
    have e : ((((b / Nat.gcd b t.natAbs : Nat) : Int)) == (b : Int)) = false := beq_eq_false_iff_ne.mpr (by omega)
    rw [e, Bool.and_false]
def f_lowest : FSp := fun args m R => ∃ (t : Int) (b : Nat), args = [.d (.int t), .d (.int (b : Int))] ∧ 0 < b ∧ Bt (b : Int) 8000 ∧ R (.d (frac (mkRat t b))) m
def f_added : FSp := f_sumOf
def f_lessened : FSp := fun args m R => ∃ p q : Rat, args = [.d (frac p), .d (frac q)] ∧ FrB p 3900 ∧ FrB q 3900 ∧ R (.d (frac (p - q))) m
def f_drawnNumber : FSp := fun args m R => ∃ p : Addr, args = [.v (.ref p)] ∧ m p = some .box ∧ ∀ z : Int, z.natAbs ≤ 10000000000000000000 → R (.d (.int z)) m
def f_truth : FSp := fun args m R => ∃ a b : Bool, args = [.d (.bool a), .d (.bool b)] ∧ R (.d (.bool (decide (a = b)))) m
/-! a law's own helpers -/
theorem bt_lit {i : Int} {n a : Nat} (h : i.natAbs < 2 ^ n) (ha : n ≤ a) : Bt i a := Bt.mono (show Bt i n from h) ha
def f_cell : FSp := fun args m R => ∃ (ns : List Int) (k : Nat), args = [.scr ns, .d (.int (k : Int))] ∧ ∀ z : Int, R (.d (.int z)) m
def f_mix : FSp := fun args m R => ∃ (c : Int) (k : Nat), args = [.d (.int c), .d (.int (k : Int))] ∧ k ≤ 1000 ∧ ∀ z : Int, 0 ≤ z → z < 1073741824 → R (.d (.int z)) m
def f_box : FSp := fun args m R => ∃ (ns : List Int) (k : Nat), args = [.scr ns, .d (.int (k : Int))] ∧ ∀ p, m p = none → R (.v (.ref p)) (put m p .box)
def f_take : FSp := fun args m R => ∃ (p : Addr) (k : Int), args = [.v (.ref p), .d (.int k)] ∧ m p = some .box ∧ 0 < k ∧ Bt k 8000 ∧ ∀ z : Int, 0 ≤ z → z < k → R (.d (.int z)) m
def f_drawnShares : FSp := fun args m R => ∃ (p : Addr) (a b : Int), args = [.v (.ref p), .d (.int a), .d (.int b)] ∧ m p = some .box ∧ 1 ≤ a ∧ a ≤ 5 ∧ 2 ≤ b ∧ b ≤ 9 ∧ ∀ ss : List Int, Shares ss → (ss.length : Int) ≤ a → R (.d (tupI ss)) m
def f_some : FSp := fun args m R => ∃ (p : Addr) (n : Nat), args = [.v (.ref p), .d (.int (n : Int))] ∧ m p = some .box ∧ n ≤ 1000 ∧ ∀ ks : List Nat, Kinds n ks → R (.d (tupN ks)) m
def f_law : FSp := fun args m R => ∃ ns : List Int, args = [.scr ns] ∧ ∀ m', R (.d (.bool true)) m'
theorem mem_tupN {ks : List Nat} {i : Nat} {d : PyData} (h : ((ks.map fun (k : Nat) => (k : Int)).map PyData.int)[i]? = some d) : ∃ k, k ∈ ks ∧ d = .int (k : Int) := by
  have := List.mem_of_getElem? h
  rw [List.map_map] at this
  obtain ⟨k, h1, h2⟩ := List.mem_map.mp this
  exact ⟨k, h1, h2.symm⟩
theorem rngD_eq (n : Nat) : PyData.tuple (rngD 0 n) = tupN (List.range n) := by
  unfold rngD tupN
  rw [List.map_map]
  congr 1
  exact List.map_congr_left fun i _ => by rw [Nat.zero_add]; rfl
theorem kinds_all (n : Nat) : Kinds n (List.range n) := ⟨List.pairwise_lt_range, fun k hk => List.mem_range.mp hk⟩
theorem kinds_nil (n : Nat) : Kinds n [] := ⟨List.Pairwise.nil, (fun k hk => nomatch hk)⟩
section
variable {K : PySem.W.Frag} {r : List Val} {m : Mm} {Q : Val → Mm → Prop} {te tl : TE} {t : TS} {j : Nat} {N : List Val → Mm → Prop} {E : Val → Mm → Prop}
/-- [shares[kind] for kind in some] -/
theorem ev_pick {a b : Nat} {ss : List Int} {ks : List Nat} (ha : r[a]? = some (.d (tupN ks))) (hb : r[b]? = some (.d (tupI ss))) (hj : j < r.length) (h2 : j ≠ b) (hz : ks.length ≤ 1000) (hk : ∀ k ∈ ks, k < ss.length) (q : Q (.d (.list ((ks.map fun k => ss.getD k 0).map PyData.int))) m) :
    Ev K (tLc (iTup K (tVar a)) (gName j) tYes (tOp (rIx K) (tVar b) (tVar j)) [j]) r m Q := by
  refine ev_mapT (ds := (ks.map fun (k : Nat) => (k : Int)).map PyData.int) (ev_var ha (fun h => nomatch h) ⟨rfl, rfl⟩) (by rw [List.length_map, List.length_map]; omega) (fun d => .int (ss.getD (intOf d).toNat 0)) (fun i d m' hd hx => ?_) ?_
  · obtain ⟨k, hk1, rfl⟩ := mem_tupN hd
    refine ev_op (ev_var (x := .d (tupI ss)) (by rw [List.getElem?_set_ne h2]; exact hb) (fun h => nomatch h) (ev_var (x := .d (.int (k : Int))) (by rw [List.getElem?_set_self hj]) (fun h => nomatch h) (o2_ixT (tupI_at (hk k hk1)) ⟨rfl, rfl⟩)))
  · have e : ((ks.map fun (k : Nat) => (k : Int)).map PyData.int).map (fun d => PyData.int (ss.getD (intOf d).toNat 0)) = (ks.map fun k => ss.getD k 0).map PyData.int := by
      rw [List.map_map, List.map_map, List.map_map]
      exact List.map_congr_left fun k _ => rfl
    rw [e]
    exact q
end
end DL


namespace DL
open PySem L2

section
variable {K : PySem.W.Frag} {r : List Val} {m : Mm} {Q : Val → Mm → Prop} {ta tb tc te : TE} {tt : TT}
/-! a list that may change, so many times -/
theorem VRs.rep {G : Hp} {rs : List Val} {xs : List V} (h : VRs K G rs xs) : ∀ n : Nat, VRs K G (List.replicate n rs).flatten (List.replicate n xs).flatten
  | 0 => rfl
  | n + 1 => by
    rw [List.replicate_succ, List.replicate_succ, List.flatten_cons, List.flatten_cons]
    exact h.append (VRs.rep h n)
theorem o2_mulM {p : Addr} {rs : List Val} {n : Nat} (hm : m p = some (.lst rs)) (hl : rs.length ≤ 100) (hn : n ≤ 1000) (q : ∀ l, m l = none → Q (.v (.ref l)) (put m l (.lst (List.replicate n rs).flatten))) : Op2 K (rMul K) (.v (.ref p)) (.d (.int (n : Int))) m Q := fun H G v w S a b R k => by
  rw [int_of b, a.eq]
  obtain ⟨xs, g1, g2⟩ := S.mem p _ hm
  have hlen := g2.length
  have en : ((n : Int)).toNat = n := by omega
  refine Or.inr (Or.inr (Or.inr ⟨p, (n : Int), xs, rfl, rfl, g1, by omega, by omega, ?_, fun l hl => ?_⟩))
  · rw [en, hlen]
    exact Nat.le_trans (Nat.mul_le_mul hl hn) (by decide)
  · rw [en]
    exact k _ _ G _ _ (q l (S.freeM hl)) (S.new hl ⟨_, upd_same, g2.rep n⟩) (Le.refl G) .v
/-! parts -/
def EvO (K : PySem.W.Frag) (t : TO) (r : List Val) (m : Mm) (Q : Option Int → Mm → Prop) : Prop :=
  ∀ σ H G, Sta K m H G → Sl K G r σ → ∀ R : Option Int → Hp → Prop, (∀ H' G' x m', Q x m' → Sta K m' H' G' → Le G G' → R x H') → t σ H R
theorem evo_none {Q : Option Int → Mm → Prop} (q : Q none m) : EvO K tNoPart r m Q := fun σ H G S L R k => k H G none m q S (Le.refl G)
theorem evo_some {Q : Option Int → Mm → Prop} (h : Ev K te r m fun x m1 => ∃ i : Int, x = .d (.int i) ∧ Q (some i) m1) : EvO K (tPart te) r m Q := fun σ H G S L R k =>
  h σ H G S L _ fun v H1 G1 x m1 ⟨i, hx, q⟩ S1 e1 r1 => by
    subst hx
    exact ⟨i, int_of r1, k H1 G1 _ m1 q S1 e1⟩
def cutD (ds : List PyData) (lo hi : Option Int) : List PyData := (ds.drop (HT.sIx ds.length 0 lo)).take (HT.sIx ds.length ds.length hi - HT.sIx ds.length 0 lo)
theorem RpAll.drop {G : Hp} : ∀ {ds : List PyData} {xs : List V} (n : Nat), RpAll K G ds xs → RpAll K G (ds.drop n) (xs.drop n)
  | ds, xs, 0, h => h
  | [], xs, n + 1, h => by rw [rpa_nil.mp h]; exact rpa_nil.mpr rfl
  | d :: ds, xs, n + 1, h => by
    obtain ⟨x, r, rfl, h2, h3⟩ := rpa_cons.mp h
    exact RpAll.drop n h3
theorem RpAll.take {G : Hp} : ∀ {ds : List PyData} {xs : List V} (n : Nat), RpAll K G ds xs → RpAll K G (ds.take n) (xs.take n)
  | ds, xs, 0, h => rpa_nil.mpr rfl
  | [], xs, n + 1, h => by rw [rpa_nil.mp h]; exact rpa_nil.mpr rfl
  | d :: ds, xs, n + 1, h => by
    obtain ⟨x, r, rfl, h2, h3⟩ := rpa_cons.mp h
    exact rpa_cons.mpr ⟨x, r.take n, rfl, h2, RpAll.take n h3⟩
theorem RpAll.cut {G : Hp} {ds : List PyData} {xs : List V} (h : RpAll K G ds xs) (lo hi : Option Int) : RpAll K G (cutD ds lo hi) (cutV xs lo hi) := by
  unfold cutD cutV
  rw [h.length]
  exact RpAll.take _ (RpAll.drop _ h)
theorem ev_slL {tl th : TO} (h : Ev K te r m fun x m1 => ∃ ds, x = .d (.list ds) ∧ EvO K tl r m1 fun lo m2 => EvO K th r m2 fun hi m3 => Q (.d (.list (cutD ds lo hi))) m3) : Ev K (tSl (rSlL K) te tl th) r m Q := fun σ H G S L R k =>
  h σ H G S L _ fun v H1 G1 x m1 ⟨ds, hx, h1⟩ S1 e1 r1 => h1 σ H1 G1 S1 (L.mono e1) _ fun H2 G2 lo m2 h2 S2 e2 => h2 σ H2 G2 S2 (L.mono (e1.trans e2)) _ fun H3 G3 hi m3 q S3 e3 => by
    subst hx
    obtain ⟨p, xs, hv, g1, g2⟩ := rp_list.mp (Rp.mono (e2.trans e3) _ _ r1.rp)
    refine ⟨p, xs, hv, Or.inl (Le.rd S3.sub g1), fun l hl => ?_⟩
    have hg := S3.free hl
    exact k _ _ (upd G3 l _) _ m3 q (S3.fix hl) (e1.trans (e2.trans (e3.trans (Le.new hg)))) (.d (rp_list.mpr ⟨l, _, rfl, Rd.of upd_same, RpAll.mono (Le.new hg) _ _ (g2.cut lo hi)⟩))
theorem cut_whole {α : Type} (ds : List α) {a b : Nat} (h : a = 0 ∧ b = ds.length) : (ds.drop a).take (b - a) = ds := by
  rw [h.1, h.2, List.drop_zero, Nat.sub_zero, List.take_length]
theorem ev_slT {tl th : TO} (h : Ev K te r m fun x m1 => ∃ ds, x = .d (.tuple ds) ∧ EvO K tl r m1 fun lo m2 => EvO K th r m2 fun hi m3 => Q (.d (.tuple (cutD ds lo hi))) m3) : Ev K (tSl (rSlA K) te tl th) r m Q := fun σ H G S L R k =>
  h σ H G S L _ fun v H1 G1 x m1 ⟨ds, hx, h1⟩ S1 e1 r1 => h1 σ H1 G1 S1 (L.mono e1) _ fun H2 G2 lo m2 h2 S2 e2 => h2 σ H2 G2 S2 (L.mono (e1.trans e2)) _ fun H3 G3 hi m3 q S3 e3 => by
    subst hx
    obtain ⟨p, xs, hv, g1, g2⟩ := rp_tuple.mp (Rp.mono (e2.trans e3) _ _ r1.rp)
    refine ⟨p, xs, hv, S3.sqT g1, fun hw => ?_, fun _ l hl => ?_⟩
    · rw [g2.length] at hw
      have e : cutD ds lo hi = ds := cut_whole ds hw
      have q : Q (.d (.tuple (cutD ds lo hi))) m3 := q
      rw [e] at q
      exact k _ H3 G3 _ m3 q S3 (e1.trans (e2.trans e3)) (.d (rp_tuple.mpr ⟨p, xs, rfl, g1, g2⟩))
    · have hg := S3.free hl
      exact k _ _ (upd G3 l _) _ m3 q (S3.fix hl) (e1.trans (e2.trans (e3.trans (Le.new hg)))) (.d (rp_tuple.mpr ⟨l, _, rfl, SqT.of upd_same, RpAll.mono (Le.new hg) _ _ (g2.cut lo hi)⟩))
theorem cutD_mem {ds : List PyData} {lo hi : Option Int} {d : PyData} (h : d ∈ cutD ds lo hi) : d ∈ ds := List.mem_of_mem_drop (List.mem_of_mem_take h)
theorem cutD_len (ds : List PyData) (lo hi : Option Int) : (cutD ds lo hi).length ≤ ds.length := by
  unfold cutD
  rw [List.length_take, List.length_drop]; omega
/-! truth, and what is the very same -/
def rIsBl : R2 := fun x y H Q => ∃ a b, x = .bl a ∧ y = .bl b ∧ Q (.bl (decide (a = b))) H
def rIsNotBl : R2 := fun x y H Q => ∃ a b, x = .bl a ∧ y = .bl b ∧ Q (.bl (!decide (a = b))) H
theorem oIs {X : Cx} : OpR X (compareOp .Is) rIsBl := op_is_bl
theorem oIsNot {X : Cx} : OpR X (compareOp .IsNot) rIsNotBl := op_isnot_bl
theorem o2_isB {a b : Bool} (q : Q (.d (.bool (decide (a = b)))) m) : Op2 K rIsBl (.d (.bool a)) (.d (.bool b)) m Q := fun H G v w S x y R k => by
  rw [bool_of x, bool_of y]
  exact ⟨a, b, rfl, rfl, k _ H G _ m q S (Le.refl G) vr_bool⟩
theorem o2_isNotB {a b : Bool} (q : Q (.d (.bool (!decide (a = b)))) m) : Op2 K rIsNotBl (.d (.bool a)) (.d (.bool b)) m Q := fun H G v w S x y R k => by
  rw [bool_of x, bool_of y]
  exact ⟨a, b, rfl, rfl, k _ H G _ m q S (Le.refl G) vr_bool⟩
/-! in -/
theorem oInS {X : Cx} (K : PySem.W.Frag) (h : X.K = K := by rfl) : OpR X (compareOp .In) (rIn K false) := h ▸ op_in_seq
theorem oNotInS {X : Cx} (K : PySem.W.Frag) (h : X.K = K := by rfl) : OpR X (compareOp .NotIn) (rIn K true) := h ▸ op_notIn_seq
theorem inV_ints (i : Int) (ns : List Int) : inV (.int i) (ns.map V.int) = decide (i ∈ ns) := by
  unfold inV
  rw [List.any_map]
  induction ns with
  | nil => rfl
  | cons n ns ih =>
    rw [List.any_cons, ih]
    by_cases h : i = n
    · subst h; simp [eqV]
    · have h2 : ¬ n = i := fun e => h e.symm
      simp [eqV, h, h2]
theorem flat_ints (ns : List Int) : (ns.map V.int).all flatV = true := by
  rw [List.all_map, List.all_eq_true]; intro x _; rfl
theorem o2_inI {i : Int} {ns : List Int} {neg : Bool} (q : Q (.d (.bool (if neg then !decide (i ∈ ns) else decide (i ∈ ns)))) m) : Op2 K (rIn K neg) (.d (.int i)) (.d (.tuple (ns.map PyData.int))) m Q := fun H G v w S x y R k => by
  rw [int_of x]
  obtain ⟨p, xs, rfl, g1, g2⟩ := rp_tuple.mp y.rp
  rw [g2.ints] at g1
  refine ⟨p, _, rfl, Or.inr (S.sqT g1), rfl, flat_ints ns, ?_⟩
  rw [inV_ints]
  exact k _ H G _ m q S (Le.refl G) vr_bool
theorem mem_natI {k : Nat} {ks : List Nat} : ((k : Int) ∈ ks.map fun (k : Nat) => (k : Int)) ↔ k ∈ ks := by
  constructor
  · intro h
    obtain ⟨j, h1, h2⟩ := List.mem_map.mp h
    have : j = k := by omega
    rw [← this]; exact h1
  · intro h
    exact List.mem_map.mpr ⟨k, h, rfl⟩
theorem o2_inN {i : Nat} {ks : List Nat} (q : Q (.d (.bool (decide (i ∈ ks)))) m) : Op2 K (rIn K false) (.d (.int (i : Int))) (.d (tupN ks)) m Q := o2_inI (neg := false) (by
  have e : decide ((i : Int) ∈ ks.map fun (k : Nat) => (k : Int)) = decide (i ∈ ks) := decide_eq_decide.mpr mem_natI
  show Q (.d (.bool (decide ((i : Int) ∈ ks.map fun (k : Nat) => (k : Int))))) m
  rw [e]; exact q)
theorem o2_notInN {i : Nat} {ks : List Nat} (q : Q (.d (.bool (!decide (i ∈ ks)))) m) : Op2 K (rIn K true) (.d (.int (i : Int))) (.d (tupN ks)) m Q := o2_inI (neg := true) (by
  have e : decide ((i : Int) ∈ ks.map fun (k : Nat) => (k : Int)) = decide (i ∈ ks) := decide_eq_decide.mpr mem_natI
  show Q (.d (.bool (!decide ((i : Int) ∈ ks.map fun (k : Nat) => (k : Int))))) m
  rw [e]; exact q)
/-! xs[i] = e -/
variable {N : List Val → Mm → Prop} {E : Val → Mm → Prop} {t : TS}
theorem VRs.set {G : Hp} {y : Val} {v : V} (hv : VR K G y v) : ∀ {rs : List Val} {xs : List V} (i : Nat), VRs K G rs xs → VRs K G (rs.set i y) (xs.set i v)
  | [], xs, i, h => by
    have h : xs = [] := h
    subst h; exact rfl
  | r :: rs, xs, 0, h => by
    obtain ⟨x, t, rfl, h1, h2⟩ := h
    exact ⟨v, t, rfl, hv, h2⟩
  | r :: rs, xs, i + 1, h => by
    obtain ⟨x, t, rfl, h1, h2⟩ := h
    exact ⟨x, t.set i v, rfl, h1, VRs.set hv i h2⟩
theorem ixN_nat {n i : Nat} (h : i < n) : ixN n (i : Int) = some i := by
  unfold ixN
  rw [if_pos (Int.natCast_nonneg i), if_pos (by omega), show ((i : Int)).toNat = i by omega]
theorem w_setM {to ti : TE} {p : Addr} (h : Ev K te r m fun x m1 => Ev K to r m1 fun y m2 => y = .v (.ref p) ∧ Ev K ti r m2 fun z m3 => ∃ (i : Nat) (rs : List Val), z = .d (.int (i : Int)) ∧ m3 p = some (.lst rs) ∧ i < rs.length ∧ N r (put m3 p (.lst (rs.set i x)))) :
    Wp K (tAsg te (gSub to ti rSetL)) r m N E := fun σ H G D S L a b =>
  h σ H G S L _ fun v H1 G1 x m1 h1 S1 e1 r1 => h1 σ H1 G1 S1 (L.mono e1) _ fun w H2 G2 y m2 ⟨hy, h2⟩ S2 e2 r2 => h2 σ H2 G2 S2 (L.mono (e1.trans e2)) _ fun u H3 G3 z m3 ⟨i, rs, hz, hb, hi, q⟩ S3 e3 r3 => by
    subst hy hz
    have a2 := r2.eq
    have a3 := int_of r3
    subst a2 a3
    obtain ⟨xs, g1, g2⟩ := S3.mem p _ hb
    refine ⟨p, xs, (i : Int), i, rfl, rfl, g1, ixN_nat (by rw [g2.length]; exact hi), ?_⟩
    have S4 := S3.chg (u := .lst (rs.set i x)) (o := .lst (xs.set i v)) hb ⟨_, upd_same, VRs.set (r1.mono (e2.trans e3)) i g2⟩
    exact a σ _ G3 r _ q S4 (e1.trans (e2.trans e3)) (L.mono (e1.trans (e2.trans e3)))
/-- for a, b in a list of pairs -/
theorem w_forLA2 {tl : TE} {j1 j2 : Nat} (P : List PyData → Prop) (h : Ev K tl r m fun x m1 => m1 = m ∧ ∃ ds, x = .d (.list ds) ∧ P ds) (W : List PyData → Nat → List Val → Mm → Prop) (h0 : ∀ ds, P ds → W ds 0 r m)
    (hs : ∀ (ds : List PyData) (i : Nat) (d : PyData) r' m', P ds → ds[i]? = some d → W ds i r' m' → ∃ d1 d2, d = .tuple [d1, d2] ∧ Wp K t ((r'.set j1 (.d d1)).set j2 (.d d2)) m' (W ds (i + 1)) E) (hd : ∀ (ds : List PyData) r' m', P ds → W ds ds.length r' m' → N r' m') : Wp K (tFor (iList K tl) (gTup K 2 (gCons (gName j1) (gCons (gName j2) gNil))) t) r m N E := fun σ H G D S L a b =>
  h σ H G S L _ fun v H1 G1 x m1 ⟨hm, ds, hx, hP⟩ S1 e1 r1 => by
    subst hx hm
    obtain ⟨p, xs, hv, hs1, hA⟩ := rp_list.mp r1.rp
    have hs1 : SqL K G1 p xs := Or.inl hs1
    refine ⟨p, hv, ⟨xs, S1.sqL hs1⟩, for_list (xs := xs) (fun i σ' H' => ∃ G' r' m', W ds i r' m' ∧ Sta K m' H' G' ∧ Le G1 G' ∧ Sl K G' r' σ') ⟨G1, r, _, h0 ds hP, S1, Le.refl G1, L.mono e1⟩ ?_ ?_ ?_⟩
    · rintro i σ' H' hi ⟨G', r', m', _, S', e', _⟩
      exact S'.sqL (e'.sqL hs1)
    · rintro i y σ' H' hy ⟨G', r', m', hw, S', e', L'⟩
      obtain ⟨d, hd1, hd2⟩ := hA.get hy
      obtain ⟨d1, d2, rfl, hW⟩ := hs ds i d r' m' hP hd1 hw
      obtain ⟨q, ys, rfl, g1, g2⟩ := rp_tuple.mp (Rp.mono e' _ _ hd2)
      have hl := g2.length
      obtain ⟨x1, t1, rfl, a1, g2⟩ := rpa_cons.mp g2
      obtain ⟨x2, t2, rfl, a2, g2⟩ := rpa_cons.mp g2
      obtain rfl := rpa_nil.mp g2
      refine ⟨q, _, rfl, S'.sqT g1, rfl, x1, [x2], rfl, x2, [], rfl, rfl, ?_⟩
      exact hW _ H' G' _ S' ((L'.set (r := .d d1) (.d a1) j1).set (r := .d d2) (.d a2) j2) (fun σ3 H3 G3 r3 m3 h3 S3 e3 L3 => ⟨G3, r3, m3, h3, S3, e'.trans e3, L3⟩) (fun v H3 G3 x m3 n3 S3 e3 L3 => b v H3 G3 x m3 n3 S3 (e1.trans (e'.trans e3)) L3)
    · rintro σ' H' ⟨G', r', m', hw, S', e', L'⟩
      rw [hA.length] at hw
      exact a σ' H' G' r' m' (hd ds r' m' hP hw) S' (e1.trans e') L'
end
/-! lists of one kind of thing -/
theorem map_at {α : Type} {f : α → PyData} {xs : List α} {i : Nat} {d : PyData} (h : (xs.map f)[i]? = some d) : ∃ x, xs[i]? = some x ∧ d = f x := by
  rw [List.getElem?_map] at h
  cases hx : xs[i]? with
  | none => rw [hx] at h; cases h
  | some x => rw [hx] at h; cases h; exact ⟨x, rfl, rfl⟩
section
variable {K : PySem.W.Frag} {r : List Val} {m : Mm} {Q : Val → Mm → Prop} {te tl : TE} {tt : TT} {j : Nat} {α : Type} {xs : List α} {f : α → PyData} {N : List Val → Mm → Prop} {E : Val → Mm → Prop} {t : TS}
theorem ev_mapLf (h : Ev K tl r m fun x m1 => x = .d (.list (xs.map f)) ∧ m1 = m) (hn : xs.length ≤ 100000) (g : α → PyData)
    (hs : ∀ (x : α) m', x ∈ xs → Ext m m' → Ev K te (r.set j (.d (f x))) m' fun y m3 => y = .d (g x) ∧ m3 = m') (q : Q (.d (.list (xs.map g))) m) : Ev K (tLc (iList K tl) (gName j) tYes te [j]) r m Q :=
  ev_lcL h (by rw [List.length_map]; exact hn) (fun i acc => acc = (xs.take i).map g) (by simp) (fun i d m' acc hd hx hw => by
    obtain ⟨x, h1, rfl⟩ := map_at hd
    exact evt_yes ⟨rfl, fun _ => (hs x m' (List.mem_of_getElem? h1) hx).imp fun y m3 e => ⟨e.2, g x, e.1, by rw [hw, take_one h1, List.map_append]; rfl⟩, (fun g => nomatch g)⟩)
    (fun acc hw => by rw [hw, List.length_map, List.take_length]; exact q)
theorem ev_mapTf (h : Ev K tl r m fun x m1 => x = .d (.tuple (xs.map f)) ∧ m1 = m) (hn : xs.length ≤ 100000) (g : α → PyData)
    (hs : ∀ (x : α) m', x ∈ xs → Ext m m' → Ev K te (r.set j (.d (f x))) m' fun y m3 => y = .d (g x) ∧ m3 = m') (q : Q (.d (.list (xs.map g))) m) : Ev K (tLc (iTup K tl) (gName j) tYes te [j]) r m Q :=
  ev_lcT h (by rw [List.length_map]; exact hn) (fun i acc => acc = (xs.take i).map g) (by simp) (fun i d m' acc hd hx hw => by
    obtain ⟨x, h1, rfl⟩ := map_at hd
    exact evt_yes ⟨rfl, fun _ => (hs x m' (List.mem_of_getElem? h1) hx).imp fun y m3 e => ⟨e.2, g x, e.1, by rw [hw, take_one h1, List.map_append]; rfl⟩, (fun g => nomatch g)⟩)
    (fun acc hw => by rw [hw, List.length_map, List.take_length]; exact q)
theorem fil_step {p : α → Bool} {g : α → PyData} {i : Nat} {x : α} (h : xs[i]? = some x) : ((xs.take (i + 1)).filter p).map g = ((xs.take i).filter p).map g ++ (if p x then [g x] else []) := by
  rw [take_one h, List.filter_append, List.map_append]
  cases hp : p x with
  | true => rw [List.filter_cons, if_pos hp]; rfl
  | false => rw [List.filter_cons, if_neg (by rw [hp]; decide)]; rfl
theorem ev_filLf (h : Ev K tl r m fun x m1 => x = .d (.list (xs.map f)) ∧ m1 = m) (hn : xs.length ≤ 100000) (p : α → Bool) (g : α → PyData)
    (ht : ∀ (x : α) m', x ∈ xs → Ext m m' → EvT K tt (r.set j (.d (f x))) m' fun b m3 => b = p x ∧ m3 = m')
    (hs : ∀ (x : α) m', x ∈ xs → Ext m m' → p x = true → Ev K te (r.set j (.d (f x))) m' fun y m3 => y = .d (g x) ∧ m3 = m') (q : Q (.d (.list ((xs.filter p).map g))) m) : Ev K (tLc (iList K tl) (gName j) tt te [j]) r m Q :=
  ev_lcL h (by rw [List.length_map]; exact hn) (fun i acc => acc = ((xs.take i).filter p).map g) (by simp) (fun i d m' acc hd hx hw => by
    obtain ⟨x, h1, rfl⟩ := map_at hd
    have hm := List.mem_of_getElem? h1
    exact (ht x m' hm hx).imp fun b m2 e => ⟨e.2, fun hb => (hs x m' hm hx (e.1.symm.trans hb)).imp fun y m3 e2 => ⟨e2.2, g x, e2.1, by rw [hw, fil_step h1, if_pos (e.1.symm.trans hb)]⟩, fun hb => by rw [hw, fil_step h1, if_neg (by rw [← e.1, hb]; decide), List.append_nil]⟩)
    (fun acc hw => by rw [hw, List.length_map, List.take_length]; exact q)
theorem ev_filTf (h : Ev K tl r m fun x m1 => x = .d (.tuple (xs.map f)) ∧ m1 = m) (hn : xs.length ≤ 100000) (p : α → Bool) (g : α → PyData)
    (ht : ∀ (x : α) m', x ∈ xs → Ext m m' → EvT K tt (r.set j (.d (f x))) m' fun b m3 => b = p x ∧ m3 = m')
    (hs : ∀ (x : α) m', x ∈ xs → Ext m m' → p x = true → Ev K te (r.set j (.d (f x))) m' fun y m3 => y = .d (g x) ∧ m3 = m') (q : Q (.d (.list ((xs.filter p).map g))) m) : Ev K (tLc (iTup K tl) (gName j) tt te [j]) r m Q :=
  ev_lcT h (by rw [List.length_map]; exact hn) (fun i acc => acc = ((xs.take i).filter p).map g) (by simp) (fun i d m' acc hd hx hw => by
    obtain ⟨x, h1, rfl⟩ := map_at hd
    have hm := List.mem_of_getElem? h1
    exact (ht x m' hm hx).imp fun b m2 e => ⟨e.2, fun hb => (hs x m' hm hx (e.1.symm.trans hb)).imp fun y m3 e2 => ⟨e2.2, g x, e2.1, by rw [hw, fil_step h1, if_pos (e.1.symm.trans hb)]⟩, fun hb => by rw [hw, fil_step h1, if_neg (by rw [← e.1, hb]; decide), List.append_nil]⟩)
    (fun acc hw => by rw [hw, List.length_map, List.take_length]; exact q)
theorem ev_filR1 {ta : TA} {n : Nat} (h : EvA K ta r m fun xs m1 => xs = [.d (.int (n : Int))] ∧ m1 = m) (hn : n ≤ 100000) (p : Nat → Bool) (g : Nat → PyData)
    (ht : ∀ (i : Nat) m', i < n → Ext m m' → EvT K tt (r.set j (.d (.int (i : Int)))) m' fun b m3 => b = p i ∧ m3 = m')
    (hs : ∀ (i : Nat) m', i < n → Ext m m' → p i = true → Ev K te (r.set j (.d (.int (i : Int)))) m' fun y m3 => y = .d (g i) ∧ m3 = m') (q : Q (.d (.list (((List.range n).filter p).map g))) m) : Ev K (tLc (iRng1 ta) (gName j) tt te [j]) r m Q :=
  ev_lcR1 h hn (fun i acc => acc = ((List.range i).filter p).map g) (by simp) (fun i m' acc hi hx hw => (ht i m' hi hx).imp fun b m2 e => ⟨e.2, fun hb => (hs i m' hi hx (e.1.symm.trans hb)).imp fun y m3 e2 => ⟨e2.2, g i, e2.1, by
      rw [hw, range_one, List.filter_append, List.map_append, List.filter_cons, if_pos (e.1.symm.trans hb)]; rfl⟩, fun hb => by
      rw [hw, range_one, List.filter_append, List.map_append, List.filter_cons, if_neg (by rw [← e.1, hb]; decide)]; simp⟩)
    (fun acc hw => by rw [hw]; exact q)
theorem w_forLf (h : Ev K tl r m fun x m1 => x = .d (.list (xs.map f)) ∧ m1 = m) (W : Nat → List Val → Mm → Prop) (h0 : W 0 r m)
    (hs : ∀ (i : Nat) (x : α) r' m', xs[i]? = some x → W i r' m' → Wp K t (r'.set j (.d (f x))) m' (W (i + 1)) E) (hd : ∀ r' m', W xs.length r' m' → N r' m') : Wp K (tFor (iList K tl) (gName j) t) r m N E :=
  w_forL h W h0 (fun i d r' m' hd hw => by
    obtain ⟨x, h1, rfl⟩ := map_at hd
    exact hs i x r' m' h1 hw) (fun r' m' hw => hd r' m' (by rw [List.length_map] at hw; exact hw))
theorem w_forTf (h : Ev K tl r m fun x m1 => x = .d (.tuple (xs.map f)) ∧ m1 = m) (W : Nat → List Val → Mm → Prop) (h0 : W 0 r m)
    (hs : ∀ (i : Nat) (x : α) r' m', xs[i]? = some x → W i r' m' → Wp K t (r'.set j (.d (f x))) m' (W (i + 1)) E) (hd : ∀ r' m', W xs.length r' m' → N r' m') : Wp K (tFor (iTup K tl) (gName j) t) r m N E :=
  w_forT h W h0 (fun i d r' m' hd hw => by
    obtain ⟨x, h1, rfl⟩ := map_at hd
    exact hs i x r' m' h1 hw) (fun r' m' hw => hd r' m' (by rw [List.length_map] at hw; exact hw))
end
abbrev intN (k : Nat) : PyData := .int (k : Int)
theorem tupN_eq (ks : List Nat) : tupN ks = .tuple (ks.map intN) := by
  unfold tupN
  rw [List.map_map]; rfl
theorem tupI_eq (ns : List Int) : tupI ns = .tuple (ns.map PyData.int) := rfl
/-! less told of what may change -/
section
variable {K : PySem.W.Frag} {r : List Val} {m : Mm} {Q : Val → Mm → Prop} {te tb : TE} {N : List Val → Mm → Prop} {E : Val → Mm → Prop} {t : TS} {ta : TA}
theorem ev_forget (h : Ev K te r m fun x m1 => ∃ m2, (∀ a o, m2 a = some o → m1 a = some o) ∧ Q x m2) : Ev K te r m Q := fun σ H G S L R k =>
  h σ H G S L R fun v H1 G1 x m1 ⟨m2, hl, q⟩ S1 e1 r1 => k v H1 G1 x m2 q (S1.less hl) e1 r1
theorem del_put {l : Addr} {o : MO} (h : m l = none) : del (put m l o) l = m := by
  funext b
  unfold del put
  by_cases hb : b = l
  · rw [if_pos hb, hb, h]
  · rw [if_neg hb, if_neg hb]
theorem put_less {l : Addr} {o : MO} (h : m l = none) : ∀ a u, m a = some u → put m l o a = some u := fun a u e => by
  rw [put_ne (ne_of_get e h)]; exact e
/-- [e, ..] * n: a list that may change -/
theorem ev_lstMul (h : EvA K ta r m fun xs m1 => ∃ ds : List PyData, xs = ds.map Val.d ∧ ds.length ≤ 100 ∧ Ev K tb r m1 fun y m2 => ∃ n : Nat, y = .d (.int (n : Int)) ∧ n ≤ 1000 ∧ ∀ l, m2 l = none → Q (.v (.ref l)) (put m2 l (.lst ((List.replicate n ds).flatten.map Val.d)))) : Ev K (tOp (rMul K) (tLst ta) tb) r m Q := fun σ H G S L R k =>
  h σ H G S L _ fun vs H1 G1 xs m1 ⟨ds, hx, hl, h1⟩ S1 e1 r1 => by
    subst hx
    have hA := r1.toAll
    refine ⟨by rw [hA.length]; exact Nat.le_trans hl (by decide), fun p hp => ?_⟩
    have hg := S1.free hp
    refine h1 σ _ (upd G1 p (.lst vs)) (S1.fix hp) (L.mono (e1.trans (Le.new hg))) _ fun w H2 G2 y m2 ⟨n, hy, hn, q⟩ S2 e2 r2 => ?_
    subst hy
    have r2 := int_of r2
    subst r2
    have en : ((n : Int)).toNat = n := by omega
    refine Or.inr (Or.inr (Or.inr ⟨p, (n : Int), vs, rfl, rfl, S2.sub _ _ (e2 _ _ upd_same), by omega, by omega, ?_, fun l hl => ?_⟩))
    · rw [en, hA.length]
      exact Nat.le_trans (Nat.mul_le_mul hl hn) (by decide)
    · rw [en]
      have hB : RpAll K G2 ds vs := RpAll.mono ((Le.new hg).trans e2) ds vs hA
      exact k _ _ G2 _ _ (q l (S2.freeM hl)) (S2.new hl ⟨_, upd_same, VRs.ofAll (hB.rep n)⟩) (e1.trans ((Le.new hg).trans e2)) .v
/-- repr of a list that may change -/
theorem on_showM {p : Addr} {ds : List PyData} {k n : Nat} (hm : m p = some (.lst (ds.map Val.d))) (h : Sh (.list ds) k n) (h1 : k ≤ 64) (h2 : n ≤ 16777216) (q : Q (.d (.str (PyData.list ds).shown)) m) : OpN K (rRepr K) [.v (.ref p)] m Q := fun H G vs S a R kk => by
  obtain ⟨v, rfl, hv⟩ := vrs1 a
  have hv := hv.eq
  subst hv
  obtain ⟨xs, g1, g2⟩ := S.mem p _ hm
  refine ⟨_, _, rfl, rp_list.mpr ⟨p, xs, rfl, Or.inl g1, RpAll.mono S.sub _ _ g2.toAll⟩, h.nd, Nat.le_trans h.dp h1, h.sh, Nat.le_trans h.ln (by rw [sizeLine_eq]; exact h2), kk _ H G _ m q S (Le.refl G) vr_str⟩
end
end DL


namespace DL
open PySem L2

def f_needNumber : FSp := fun args m R => ∃ i lo hi : Int, args = [.d (.int i), .d (.int lo), .d (.int hi)] ∧ lo ≤ i ∧ i ≤ hi ∧ R (.d .none) m
def f_raised : FSp := fun args m R => ∃ (b : Int) (n : Nat), args = [.d (.int b), .d (.int (n : Int))] ∧ n ≤ 100 ∧ Bt b 60 ∧ R (.d (.int (b ^ n))) m
theorem Bt.pow {b : Int} {a : Nat} (h : Bt b a) : ∀ n : Nat, Bt (b ^ n) (a * n + 1)
  | 0 => by rw [Int.pow_zero]; exact bt_lit (n := 1) (by decide) (by omega)
  | n + 1 => by
    rw [Int.pow_succ]
    exact ((h.pow n).mul h).mono (by rw [Nat.mul_succ]; omega)
/-- so many of so many, as it is reckoned -/
def chT (n : Nat) : Nat → Nat
  | 0 => 1
  | t + 1 => chT n t * (n - t) / (t + 1)
def chP (n k : Nat) : Nat := if k ≤ n then chT n k else 0
theorem chT_le : ∀ n : Fin 6, ∀ t : Fin 6, chT n t ≤ 10 := by decide +kernel
theorem chT_le' {n t : Nat} (h : n ≤ 5) (g : t ≤ 5) : chT n t ≤ 10 := chT_le ⟨n, by omega⟩ ⟨t, by omega⟩
theorem chP_le {n k : Nat} (h : n ≤ 5) : chP n k ≤ 10 := by
  unfold chP
  split
  · exact chT_le' h (by omega)
  · omega
def f_choices : FSp := fun args m R => ∃ n k : Nat, args = [.d (.int (n : Int)), .d (.int (k : Int))] ∧ n ≤ 5 ∧ R (.d (.int ((chP n k : Nat) : Int))) m
/-- a pack's size fits -/
def Pk (m s : Nat) : Prop := 1 ≤ m ∧ m ≤ 5 ∧ 1 ≤ s ∧ s ≤ m ∧ s ≤ 3
def f_needPack : FSp := fun args m R => ∃ a s : Nat, args = [.d (.int (a : Int)), .d (.int (s : Int))] ∧ Pk a s ∧ R (.d .none) m
def f_packMany : FSp := fun args m R => ∃ a s : Nat, args = [.d (.int (a : Int)), .d (.int (s : Int))] ∧ Pk a s ∧ R (.d (.int ((chP a s : Nat) : Int))) m
def pcT (a s n : Nat) (out : Nat) : Int := (1 - 2 * ((out : Int) % 2)) * (chP a out : Nat) * ((chP (a - out) s : Nat) : Int) ^ n
def pcF (a s n : Nat) : Nat → Int
  | 0 => 0
  | i + 1 => pcF a s n i + pcT a s n i
def f_packCases : FSp := fun args m R => ∃ a s n : Nat, args = [.d (.int (a : Int)), .d (.int (s : Int)), .d (.int (n : Int))] ∧ Pk a s ∧ n ≤ 8 ∧ R (.d (.int (pcF a s n (a + 1)))) m
/-- all some of so many -/
def allS : Nat → List (List Nat)
  | 0 => [[]]
  | n + 1 => allS n ++ (allS n).map fun s => s ++ [n]
theorem allS_len : ∀ n, (allS n).length = 2 ^ n
  | 0 => rfl
  | n + 1 => by rw [allS, List.length_append, List.length_map, allS_len n, Nat.pow_succ]; omega
theorem allS_mem : ∀ n, ∀ s ∈ allS n, s.length ≤ n ∧ ∀ k ∈ s, k < n
  | 0, s, h => by
    have : s = [] := by simpa [allS] using h
    subst this
    exact ⟨Nat.le_refl _, fun k hk => nomatch hk⟩
  | n + 1, s, h => by
    rw [allS] at h
    rcases List.mem_append.mp h with h | h
    · obtain ⟨a, b⟩ := allS_mem n s h
      exact ⟨by omega, fun k hk => by have := b k hk; omega⟩
    · obtain ⟨t, ht, rfl⟩ := List.mem_map.mp h
      obtain ⟨a, b⟩ := allS_mem n t ht
      refine ⟨by rw [List.length_append]; show t.length + 1 ≤ n + 1; omega, fun k hk => ?_⟩
      rcases List.mem_append.mp hk with hk | hk
      · have := b k hk; omega
      · rw [List.mem_singleton.mp hk]; omega
theorem tupN_snoc (s : List Nat) (n : Nat) : PyData.tuple ((s.map fun (k : Nat) => (k : Int)).map PyData.int ++ [.int (n : Int)]) = tupN (s ++ [n]) := by
  unfold tupN
  rw [List.map_append, List.map_append]; rfl
theorem o2_addNi {K : PySem.W.Frag} {m : Mm} {Q : Val → Mm → Prop} {s : List Nat} {n : Nat} (h : s.length ≤ 1000) (q : Q (.d (tupN (s ++ [n]))) m) : Op2 K (rAdd K) (.d (tupN s)) (.d (.tuple [.int (n : Int)])) m Q :=
  o2_addT (by rw [List.length_map, List.length_map]; show s.length + 1 ≤ 100000; omega) (by rw [tupN_snoc]; exact q)
def f_lawAllSome : FSp := fun args m R => ∃ n : Nat, args = [.d (.int (n : Int))] ∧ n ≤ 8 ∧ R (.d (.list ((allS n).map tupN))) m
def setsF (a s : Nat) : List (List Nat) := (allS a).filter fun t => decide (t.length = s)
def f_lawSets : FSp := fun args m R => ∃ a s : Nat, args = [.d (.int (a : Int)), .d (.int (s : Int))] ∧ a ≤ 8 ∧ R (.d (.list ((setsF a s).map tupN))) m
theorem setsF_mem {a s : Nat} {t : List Nat} (h : t ∈ setsF a s) : t ∈ allS a ∧ t.length = s := by
  obtain ⟨h1, h2⟩ := List.mem_filter.mp h
  exact ⟨h1, of_decide_eq_true h2⟩
/-! rows by turns -/
def addAt (l : List Int) (i : Nat) (x : Int) : List Int := l.set i (l.getD i 0 + x)
theorem addAt_len (l : List Int) (i : Nat) (x : Int) : (addAt l i x).length = l.length := List.length_set ..
def thereF (come : Nat) (p : List Nat) : Nat := come + (p.filter fun k => decide (come ≤ k)).length
def rowIn (cs : List Int) (come : Nat) (ps : List (List Nat)) (l : List Int) : List Int := ps.foldl (fun l p => addAt l (thereF come p) (cs.getD come 0)) l
def rowOut (cs : List Int) (ps : List (List Nat)) (n : Nat) (l : List Int) : List Int := (List.range n).foldl (fun l come => rowIn cs come ps l) l
theorem rowIn_len (cs : List Int) (come : Nat) : ∀ (ps : List (List Nat)) (l : List Int), (rowIn cs come ps l).length = l.length
  | [], l => rfl
  | p :: ps, l => (rowIn_len cs come ps _).trans (addAt_len ..)
theorem rowOut_len (cs : List Int) (ps : List (List Nat)) : ∀ (n : Nat) (l : List Int), (rowOut cs ps n l).length = l.length
  | 0, l => rfl
  | n + 1, l => by
    unfold rowOut
    rw [range_one, List.foldl_append]
    exact (rowIn_len ..).trans (rowOut_len cs ps n l)
def rowT (a : Nat) (ps : List (List Nat)) (cs : List Int) : List Int := rowOut cs ps (a + 1) (List.replicate (a + 1) 0)
def rowsF (a s : Nat) : Nat → List Int
  | 0 => 1 :: List.replicate a 0
  | n + 1 => rowT a (setsF a s) (rowsF a s n)
theorem rowsF_len (a s : Nat) : ∀ n, (rowsF a s n).length = a + 1
  | 0 => by simp [rowsF]
  | n + 1 => by
    unfold rowsF rowT
    rw [rowOut_len, List.length_replicate]
theorem there_le : ∀ a : Fin 6, ∀ come : Fin 6, come ≤ a → ∀ p ∈ allS a, thereF come p ≤ a := by decide +kernel
theorem there_le' {a come : Nat} (h : a ≤ 5) (g : come ≤ a) {p : List Nat} (hp : p ∈ allS a) : thereF come p ≤ a := there_le ⟨a, by omega⟩ ⟨come, by omega⟩ g p hp
def f_lawRows : FSp := fun args m R => ∃ a s n : Nat, args = [.d (.int (a : Int)), .d (.int (s : Int)), .d (.int (n : Int))] ∧ Pk a s ∧ n ≤ 8 ∧ R (.d (.int ((rowsF a s n).getD a 0))) m
def pairsT : List (Nat × Nat) := [(1, 1), (2, 1), (2, 2), (3, 1), (3, 2), (3, 3), (4, 1), (4, 2), (4, 3), (5, 1), (5, 2), (5, 3)]
theorem pk_pairs : ∀ p ∈ pairsT, 1 ≤ p.1 ∧ p.1 ≤ 5 ∧ 1 ≤ p.2 ∧ p.2 ≤ p.1 ∧ p.2 ≤ 3 := by decide +kernel
theorem pairs_of {a s : Nat} (h : Pk a s) : (a, s) ∈ pairsT := by
  obtain ⟨h1, h2, h3, h4, h5⟩ := h
  have : a = 1 ∨ a = 2 ∨ a = 3 ∨ a = 4 ∨ a = 5 := by omega
  have : s = 1 ∨ s = 2 ∨ s = 3 := by omega
  rcases ‹a = 1 ∨ _› with rfl | rfl | rfl | rfl | rfl <;> rcases ‹s = 1 ∨ _› with rfl | rfl | rfl <;> first | (exfalso; omega) | simp [pairsT]
theorem many_all : ∀ p ∈ pairsT, chP p.1 p.2 = (setsF p.1 p.2).length ∧ (setsF p.1 p.2).length ≤ 10 := by decide +kernel
theorem cases_all : ∀ p ∈ pairsT, ∀ n : Fin 9, pcF p.1 p.2 n (p.1 + 1) = (rowsF p.1 p.2 n).getD p.1 0 ∧ (pcF p.1 p.2 n (p.1 + 1)).natAbs < 2 ^ 60 := by decide +kernel
def pairD (p : Nat × Nat) : PyData := .tuple [.int (p.1 : Int), .int (p.2 : Int)]
def pairsF : Nat → List (Nat × Nat)
  | 0 => []
  | i + 1 => pairsF i ++ (List.range (min (i + 1) 3)).map fun s => (i + 1, s + 1)
theorem pairsF_len : pairsF 5 = pairsT := by decide
end DL


namespace DL
open PySem L2

section
variable {K : PySem.W.Frag} {r : List Val} {m : Mm} {Q : Val → Mm → Prop} {ta tb tc te to tl : TE} {tt : TT} {N : List Val → Mm → Prop} {E : Val → Mm → Prop} {t : TS}
/-! texts cut and joined -/
def rJoin (K : PySem.W.Frag) : V → List V → Hp → VK → Prop := fun x xs H Q => ∃ a p, ∃ ys : List Str, x = .str a ∧ xs = [.ref p] ∧ (SqL K H p (ys.map V.str) ∨ SqT K H p (ys.map V.str)) ∧ (ys.map (·.length)).sum + ys.length * a.length ≤ 16777216 ∧ Q (.str (Txt.join a ys)) H
theorem kJoin {X : Cx} (K : PySem.W.Frag) {e : Expr} {to te : TE} (hp : PE X e (tM1 (rJoin X.K) to te)) (h : X.K = K := by rfl) : PE X e (tM1 (rJoin K) to te) := h ▸ hp
def rSplit : V → List V → Hp → VK → Prop := fun x xs H Q => ∃ a b, x = .str a ∧ xs = [.str b] ∧ (b.length == 0) = false ∧ a.length + 2 ≤ sizeLine ∧ rNewStrs (Txt.split a b) H Q
theorem kSplit {X : Cx} {e : Expr} {to te : TE} (hp : PE X e (tM1 rSplit to te)) : PE X e (tM1 rSplit to te) := hp
theorem kiE {X : Cx} (K : PySem.W.Frag) {tg e : Expr} {ta : TA} (hp : PI X tg e (iEnum X.K ta)) (h : X.K = K := by rfl) : PI X tg e (iEnum K ta) := h ▸ hp
theorem ev_join {a : Str} {ys : List Str} (h : Ev K to r m fun x m1 => x = .d (.str a) ∧ Ev K te r m1 fun y m2 => y = .d (.list (ys.map PyData.str)) ∧ (ys.map (·.length)).sum + ys.length * a.length ≤ 16777216 ∧ Q (.d (.str (Txt.join a ys))) m2) : Ev K (tM1 (rJoin K) to te) r m Q := fun σ H G S L R k =>
  h σ H G S L _ fun v H1 G1 x m1 ⟨hx, h1⟩ S1 e1 r1 => by
    subst hx
    have r1 := str_of r1
    subst r1
    refine ⟨⟨a, rfl⟩, ?_⟩
    refine h1 σ H1 G1 S1 (L.mono e1) _ fun w H2 G2 y m2 ⟨hy, hz, q⟩ S2 e2 r2 => ?_
    subst hy
    obtain ⟨p, xs, rfl, g1, g2⟩ := rp_list.mp r2.rp
    rw [g2.strs] at g1
    exact ⟨a, p, ys, rfl, rfl, Or.inl (Or.inl (Le.rd S2.sub g1)), hz, k _ H2 G2 _ m2 q S2 (e1.trans e2) vr_str⟩
theorem rpa_strs {G : Hp} : ∀ (ns : List Str), RpAll K G (ns.map PyData.str) (ns.map V.str)
  | [] => by rw [List.map_nil, RpAll]; rfl
  | n :: ns => by
    rw [List.map_cons, List.map_cons, RpAll]
    exact ⟨_, _, rfl, by rw [Rp], rpa_strs ns⟩
theorem ev_split (h : Ev K to r m fun x m1 => ∃ a, x = .d (.str a) ∧ Ev K te r m1 fun y m2 => ∃ b, y = .d (.str b) ∧ (b.length == 0) = false ∧ a.length ≤ 100000 ∧ Q (.d (.list ((Txt.split a b).map PyData.str))) m2) : Ev K (tM1 rSplit to te) r m Q := fun σ H G S L R k =>
  h σ H G S L _ fun v H1 G1 x m1 ⟨a, hx, h1⟩ S1 e1 r1 => by
    subst hx
    have r1 := str_of r1
    subst r1
    refine ⟨⟨a, rfl⟩, ?_⟩
    refine h1 σ H1 G1 S1 (L.mono e1) _ fun w H2 G2 y m2 ⟨b, hy, hb, hz, q⟩ S2 e2 r2 => ?_
    subst hy
    have r2 := str_of r2
    subst r2
    refine ⟨a, b, rfl, rfl, hb, ?_, fun l hl => ?_⟩
    · exact Nat.le_trans (show a.length + 2 ≤ 100002 by omega) (by decide)
    have hg := S2.free hl
    exact k _ _ (upd G2 l _) _ m2 q (S2.fix hl) (e1.trans (e2.trans (Le.new hg))) (.d (rp_list.mpr ⟨l, _, rfl, Rd.of upd_same, rpa_strs _⟩))
/-! str(i), int(x) -/
def rStrI : List V → Hp → VK → Prop := fun xs H Q => ∃ i : Int, xs = [.int i] ∧ i.natAbs.log2 < 1920 ∧ Q (.str (toString i)) H
theorem cStr {X : Cx} : CallR X (.type "str") rStrI := call_str_int
def rInt0 : List V → Hp → VK → Prop := fun xs H Q => (∃ i, xs = [.int i] ∧ Q (.int i) H) ∨ ∃ k, xs = [.bl k] ∧ Q (.int (if k then 1 else 0)) H
def rIntS : List V → Hp → VK → Prop := fun xs H Q => ∃ a n, xs = [.str a] ∧ PySem.intText? a = some n ∧ a.length ≤ 640 ∧ Q (.int n) H
def rIntA : List V → Hp → VK → Prop := fun xs H Q => rInt0 xs H Q ∨ rIntS xs H Q
theorem cInt {X : Cx} : CallR X (.type "int") rIntA := (call_int1).or call_int_str
theorem on_str {i : Int} {a : Nat} (hb : Bt i a) (h0 : 0 < a) (ha : a ≤ 1920) (q : Q (.d (.str (toString i))) m) : OpN K rStrI [.d (.int i)] m Q := fun H G vs S x R k => by
  obtain ⟨v, rfl, h⟩ := vrs1 x
  rw [int_of h]
  exact ⟨i, rfl, Nat.lt_of_lt_of_le (log2_of_bt hb h0) ha, k _ H G _ m q S (Le.refl G) vr_str⟩
theorem on_intS {x : Str} {n : Int} (h : PySem.intText? x = some n) (hz : x.length ≤ 640) (q : Q (.d (.int n)) m) : OpN K rIntA [.d (.str x)] m Q := fun H G vs S a R k => by
  obtain ⟨v, rfl, hv⟩ := vrs1 a
  rw [str_of hv]
  exact Or.inr ⟨x, n, rfl, h, hz, k _ H G _ m q S (Le.refl G) vr_int⟩
theorem on_intB {b : Bool} (q : Q (.d (.int (if b then 1 else 0))) m) : OpN K rIntA [.d (.bool b)] m Q := fun H G vs S a R k => by
  obtain ⟨v, rfl, hv⟩ := vrs1 a
  rw [bool_of hv]
  exact Or.inl (Or.inr ⟨b, rfl, k _ H G _ m q S (Le.refl G) vr_int⟩)
def rNotInStr : R2 := fun x y H Q => ∃ i j, x = .str i ∧ y = .str j ∧ Q (.bl (!(!(Builtin.Str.occurrences j i 0 j.length 1).isEmpty))) H
theorem oNotInStr {X : Cx} : OpR X (compareOp .NotIn) rNotInStr := op_notin_str
theorem o2_notInStr {x y : Str} (q : Q (.d (.bool (Builtin.Str.occurrences y x 0 y.length 1).isEmpty)) m) : Op2 K rNotInStr (.d (.str x)) (.d (.str y)) m Q := fun H G v w S a b R k => by
  rw [str_of a, str_of b]
  refine ⟨x, y, rfl, rfl, ?_⟩
  rw [Bool.not_not]
  exact k _ H G _ m q S (Le.refl G) vr_bool
/-- for i, x in enumerate(a list) -/
theorem w_forE {ta : TA} {j1 j2 : Nat} {α : Type} {xs : List α} {f : α → PyData} (h : EvA K ta r m fun ys m1 => ys = [.d (.list (xs.map f))] ∧ m1 = m) (W : Nat → List Val → Mm → Prop) (h0 : W 0 r m)
    (hs : ∀ (i : Nat) (x : α) r' m', xs[i]? = some x → W i r' m' → Wp K t ((r'.set j1 (.d (.int (i : Int)))).set j2 (.d (f x))) m' (W (i + 1)) E) (hd : ∀ r' m', W xs.length r' m' → N r' m') : Wp K (tFor (iEnum K ta) (gTup K 2 (gCons (gName j1) (gCons (gName j2) gNil))) t) r m N E := fun σ H G D S L a b =>
  h σ H G S L _ fun vs H1 G1 ys m1 ⟨hx, hm⟩ S1 e1 r1 => by
    subst hx hm
    obtain ⟨v, rfl, rv⟩ := vrs1 r1
    obtain ⟨p, zs, rfl, hs1, hA⟩ := rp_list.mp rv.rp
    have hs1 : SqL K G1 p zs := Or.inl hs1
    have hlen := hA.length
    rw [List.length_map] at hlen
    refine ⟨p, zs, rfl, S1.sqL hs1, for_it (walk_enum (xs := zs)) (fun i σ' H' => ∃ G' r' m', W i r' m' ∧ Sta K m' H' G' ∧ Le G1 G' ∧ Sl K G' r' σ') ⟨G1, r, _, h0, S1, Le.refl G1, L.mono e1⟩ ?_ ?_ ?_⟩
    · rintro i σ' H' hi ⟨G', r', m', _, S', e', _⟩
      exact S'.sqL (e'.sqL hs1)
    · rintro i x σ' H' H2 hi ⟨G', r', m', hw, S', e', L'⟩ ⟨T, x1, x2, rfl, hT, rfl, hx1, hx2⟩
      have hx1 : V.int (i : Int) = x1 := by simpa using hx1
      subst hx1
      obtain ⟨d, hd1, hd2⟩ := hA.get hx2
      obtain ⟨y, hy, rfl⟩ := map_at hd1
      have hg := S'.free hT
      have e2 : Le G' (upd G' T (.tup [.int (i : Int), x2])) := Le.new hg
      refine ⟨T, _, rfl, SqT.of upd_same, rfl, _, [x2], rfl, x2, [], rfl, rfl, ?_⟩
      exact hs i y r' m' hy hw _ _ (upd G' T (.tup [.int (i : Int), x2])) _ (S'.fix hT) (((L'.mono e2).set (r := .d (.int (i : Int))) vr_int j1).set (r := .d (f y)) (.d (Rp.mono (e'.trans e2) _ _ hd2)) j2)
        (fun σ3 H3 G3 r3 m3 h3 S3 e3 L3 => ⟨G3, r3, m3, h3, S3, e'.trans (e2.trans e3), L3⟩) (fun v H3 G3 x m3 n3 S3 e3 L3 => b v H3 G3 x m3 n3 S3 (e1.trans (e'.trans (e2.trans e3))) L3)
    · rintro σ' H' ⟨G', r', m', hw, S', e', L'⟩
      rw [hlen] at hw
      exact a σ' H' G' r' m' (hd r' m' hw) S' (e1.trans e') L'
end
/-! shares as a text -/
def dg (s : Int) : Str := toString s
theorem dg_all : ∀ s : Fin 10, 1 ≤ s.val → (dg (s.val : Int)).length = 1 ∧ (Builtin.Str.occurrences "123456789" (dg (s.val : Int)) 0 (Str.ofString "123456789").length 1).isEmpty = false ∧ PySem.intText? (dg (s.val : Int)) = some (s.val : Int) ∧ 32 ∉ TL.tl (dg (s.val : Int)) := by decide +kernel
def showS (ss : List Int) : Str := Txt.join " " (ss.map dg)
theorem dg_ok {s : Int} (h : 1 ≤ s ∧ s ≤ 9) : (dg s).length = 1 ∧ (Builtin.Str.occurrences "123456789" (dg s) 0 (Str.ofString "123456789").length 1).isEmpty = false ∧ PySem.intText? (dg s) = some s ∧ 32 ∉ TL.tl (dg s) := by
  have := dg_all ⟨s.toNat, by omega⟩ (by show 1 ≤ s.toNat; omega)
  have e : ((⟨s.toNat, by omega⟩ : Fin 10).val : Int) = s := by show ((s.toNat : Nat) : Int) = s; omega
  rw [e] at this
  exact this
theorem split_show {ss : List Int} (h : Shares ss) : Txt.split (showS ss) " " = ss.map dg := by
  refine TL.split_join (s := 32) (S := []) (by decide +kernel) (by decide +kernel) ?_ ?_
  · intro e
    have := h.pos
    have e := List.map_eq_nil_iff.mp e
    rw [e] at this
    exact absurd this (by decide)
  · intro p hp
    obtain ⟨s, hs, rfl⟩ := List.mem_map.mp hp
    exact (dg_ok (h.each s hs)).2.2.2
theorem dg_lens {ss : List Int} (h : ∀ s ∈ ss, 1 ≤ s ∧ s ≤ 9) : ((ss.map dg).map (·.length)).sum = ss.length := by
  induction ss with
  | nil => rfl
  | cons s ss ih =>
    rw [List.map_cons, List.map_cons, List.sum_cons, ih fun x hx => h x (List.mem_cons_of_mem _ hx), (dg_ok (h s (List.mem_cons_self ..))).1, List.length_cons]
    omega
theorem show_len {ss : List Int} (h : Shares ss) : (showS ss).length ≤ 1000 := by
  unfold showS Txt.join
  rw [StrLaws.glued_eq_join]
  refine Nat.le_trans (StrLaws.join_length_le _ _) ?_
  rw [dg_lens h.each, List.length_map]
  have := h.few
  have e : (Str.ofString " ").length = 1 := by decide +kernel
  rw [e]
  omega
def f_show : FSp := fun args m R => ∃ ss : List Int, args = [.d (tupI ss)] ∧ Shares ss ∧ R (.d (.str (showS ss))) m
def f_read : FSp := fun args m R => ∃ ss : List Int, args = [.d (.str (showS ss))] ∧ Shares ss ∧ R (.d (tupI ss)) m
end DL


namespace DL
open PySem L2

theorem Kinds.sub {n : Nat} {ks : List Nat} (h : Kinds n ks) : ks.Sublist (List.range n) := by
  have : ∀ (ks : List Nat) (m : Nat), ks.Pairwise (· < ·) → (∀ k ∈ ks, m ≤ k ∧ k < n) → ks.Sublist ((List.range n).drop m) := by
    intro ks
    induction ks with
    | nil => intro m _ _; exact List.nil_sublist _
    | cons k t ih =>
      intro m hp hl
      have hk := hl k (by simp)
      have hkn : k < (List.range n).length := by rw [List.length_range]; exact hk.2
      have hd : (List.range n).drop k = k :: (List.range n).drop (k + 1) := by
        rw [List.drop_eq_getElem_cons hkn, List.getElem_range]
      have h1 : (k :: t).Sublist ((List.range n).drop k) := by
        rw [hd]
        refine (ih (k + 1) (List.pairwise_cons.mp hp).2 fun x hx => ⟨?_, (hl x (by simp [hx])).2⟩).cons_cons k
        exact (List.pairwise_cons.mp hp).1 x hx
      refine h1.trans ?_
      have e : (List.range n).drop k = ((List.range n).drop m).drop (k - m) := by rw [List.drop_drop]; congr 1; omega
      rw [e]
      exact List.drop_sublist _ _
  exact this ks 0 h.up fun k hk => ⟨Nat.zero_le _, h.lt k hk⟩
theorem sub_filter {ks l : List Nat} (h : ks.Sublist l) : l.Nodup → (l.filter fun k => decide (k ∈ ks)) = ks := by
  induction h with
  | slnil => intro _; rfl
  | @cons l1 l2 a h ih =>
    intro nd
    have nd := List.nodup_cons.mp nd
    have ha : a ∉ l1 := fun hm => nd.1 (h.subset hm)
    rw [List.filter_cons, if_neg (by simp [ha])]
    exact ih nd.2
  | @cons_cons l1 l2 a h ih =>
    intro nd
    have nd := List.nodup_cons.mp nd
    rw [List.filter_cons, if_pos (by simp)]
    congr 1
    refine Eq.trans ?_ (ih nd.2)
    refine List.filter_congr fun x hx => ?_
    have hxa : x ≠ a := fun e => nd.1 (e ▸ hx)
    simp [hxa]
theorem Kinds.filter_eq {n : Nat} {ks : List Nat} (h : Kinds n ks) : (List.range n).filter (fun k => decide (k ∈ ks)) = ks := sub_filter h.sub List.nodup_range
theorem sumP_cons (ss : List Int) (k : Nat) (ks : List Nat) : sumP ss (k :: ks) = ss.getD k 0 + sumP ss ks := rfl
theorem sumP_split (ss : List Int) (p : Nat → Bool) : ∀ l : List Nat, sumP ss (l.filter p) + sumP ss (l.filter fun k => !p k) = sumP ss l
  | [] => rfl
  | a :: l => by
    have ih := sumP_split ss p l
    rw [sumP_cons]
    cases h : p a with
    | true =>
      rw [List.filter_cons, List.filter_cons, if_pos h, if_neg (by rw [h]; decide), sumP_cons]; omega
    | false =>
      rw [List.filter_cons, List.filter_cons, if_neg (by rw [h]; decide), if_pos (by rw [h]; rfl), sumP_cons]; omega
theorem sumP_range (ss : List Int) : sumP ss (List.range ss.length) = ss.sum := by
  unfold sumP
  congr 1
  refine List.ext_getElem (by simp) fun i h1 h2 => ?_
  rw [List.getElem_map, List.getElem_range, List.getD_eq_getElem?_getD, List.getElem?_eq_getElem h2]; rfl
def othersF (n : Nat) (ks : List Nat) : List Nat := (List.range n).filter fun k => !decide (k ∈ ks)
theorem othersF_kinds (n : Nat) (ks : List Nat) : Kinds n (othersF n ks) := ⟨List.pairwise_lt_range.filter _, fun k hk => List.mem_range.mp (List.mem_filter.mp hk).1⟩
theorem sumP_others {ss : List Int} {ks : List Nat} (h : Kinds ss.length ks) : sumP ss ks + sumP ss (othersF ss.length ks) = ss.sum := by
  have := sumP_split ss (fun k => decide (k ∈ ks)) (List.range ss.length)
  rw [h.filter_eq, sumP_range] at this
  exact this
theorem nat_ne {t : Nat} (ht : 0 < t) : ((t : Nat) : Rat) ≠ 0 := by
  intro e
  have e2 : (((t : Nat) : Int) : Rat) = ((0 : Int) : Rat) := by rw [Rat.intCast_natCast]; exact e
  have e3 : ((t : Nat) : Int) = 0 := Rat.intCast_inj.mp e2
  omega
theorem part_sum {a b : Int} {t : Nat} (ht : 0 < t) (h : a + b = (t : Int)) : mkRat a t + mkRat b t = 1 := by
  rw [Rat.mkRat_eq_div, Rat.mkRat_eq_div]
  have h1 := nat_ne ht
  have h2 : ((a : Int) : Rat) + ((b : Int) : Rat) = ((t : Nat) : Rat) := by rw [← Rat.intCast_add, h, Rat.intCast_natCast]
  generalize ((t : Nat) : Rat) = T at *
  generalize ((a : Int) : Rat) = A at *
  generalize ((b : Int) : Rat) = B at *
  grind
theorem part_mul {a : Int} {t : Nat} (ht : 0 < t) : mkRat a t * ((t : Int) : Rat) = (a : Rat) := by
  rw [Rat.mkRat_eq_div, Rat.intCast_natCast]
  have h1 := nat_ne ht
  generalize ((t : Nat) : Rat) = T at *
  generalize ((a : Int) : Rat) = A at *
  grind
theorem eqv_data {d : PyData} (h : SeqAt.shaped d = true) : PyData.eqv d d = true := by
  have h : (d.canLay0 && decide (d.depth ≤ 64)) = true := h
  rw [Bool.and_eq_true] at h
  exact SeqAt.eqv_refl d h.1
theorem canLay_ints (ns : List Int) : PyData.canLayAll0 (ns.map PyData.int) = true := by
  induction ns with
  | nil => simp [PyData.canLayAll0]
  | cons n ns ih => rw [List.map_cons]; simp [PyData.canLayAll0, PyData.canLay0, ih]
theorem depth_ints (ns : List Int) : PyData.depthAll (ns.map PyData.int) = 0 := by
  induction ns with
  | nil => simp [PyData.depthAll]
  | cons n ns ih => rw [List.map_cons]; simp [PyData.depthAll, PyData.depth, ih]
theorem shaped_tupI (ns : List Int) : SeqAt.shaped (tupI ns) = true := by
  simp [SeqAt.shaped, tupI, PyData.canLay0, canLay_ints, PyData.depth, depth_ints]
theorem frac_unit {d : Nat} (h : 0 < d) : frac (mkRat 1 d) = .tuple [.int 1, .int (d : Int)] := by
  rw [frac_mk 1 d (by omega)]
  simp
section
variable {K : PySem.W.Frag} {r : List Val} {m : Mm} {Q : Val → Mm → Prop} {te : TE} {N : List Val → Mm → Prop} {E : Val → Mm → Prop}
/-- != of what is the same -/
theorem o2_neSame {d : PyData} (h : SeqAt.shaped d = true) (q : Q (.d (.bool false)) m) : Op2 K (rNeA K) (.d d) (.d d) m Q := o2_ne h h (by rw [eqv_data h]; exact q)
theorem kgL {X : Cx} {n0 : Nat} (K : PySem.W.Frag) {tg : Expr} {t : TGs} (hp : PG X tg (gLst X.K n0 t)) (h : X.K = K := by rfl) : PG X tg (gLst K n0 t) := h ▸ hp
/-- a, b, c = a list of three -/
theorem w_asg3L {i j l : Nat} (h : Ev K te r m fun x m1 => ∃ d1 d2 d3, x = .d (.list [d1, d2, d3]) ∧ N (((r.set i (.d d1)).set j (.d d2)).set l (.d d3)) m1) : Wp K (tAsg te (gLst K 3 (gCons (gName i) (gCons (gName j) (gCons (gName l) gNil))))) r m N E := fun σ H G D S L a b =>
  h σ H G S L _ fun v H1 G1 x m1 ⟨d1, d2, d3, hx, q⟩ S1 e1 r1 => by
    subst hx
    obtain ⟨p, xs, hv, hs, hA⟩ := rp_list.mp r1.rp
    obtain ⟨x1, t1, rfl, a1, hA⟩ := rpa_cons.mp hA
    obtain ⟨x2, t2, rfl, a2, hA⟩ := rpa_cons.mp hA
    obtain ⟨x3, t3, rfl, a3, hA⟩ := rpa_cons.mp hA
    obtain rfl := rpa_nil.mp hA
    refine ⟨p, _, hv, Or.inl (Le.rd S1.sub hs), rfl, x1, _, rfl, x2, _, rfl, x3, [], rfl, rfl, ?_⟩
    exact a _ H1 G1 _ m1 q S1 e1 ((((L.mono e1).set (r := .d d1) (.d a1) i).set (r := .d d2) (.d a2) j).set (r := .d d3) (.d a3) l)
end
end DL


namespace DL
open PySem L2 PySem.W

/-- sorted(e, key=len), the items tuples of ints -/
def tSortLen (K : PySem.W.Frag) (ta : TA) : TE := fun σ H Q => ta σ H fun vs H1 => ∃ (a : Addr) (bs : List (V × List Int)), vs = [.ref a] ∧ SqL K H1 a (bs.map (·.1)) ∧ (∀ b ∈ bs, ∃ t, b.1 = .ref t ∧ SqT K H1 t (b.2.map V.int)) ∧
  ∀ p, H1 p = none → Q (.ref p) (upd H1 p (.lst ((bs.mergeSort fun a b => decide ((a.2.length : Int) ≤ (b.2.length : Int))).map (·.1))))
theorem each_of {bs : List (V × List Int)} : ∀ {us : List Value}, Vals (bs.map (·.1)) us → EachIs (fun (v : Value) (b : V × List Int) => RelV b.1 v) us bs := by
  induction bs with
  | nil => intro us r; rw [List.map_nil] at r; cases r; exact .nil
  | cons b bs ih =>
    intro us r
    rw [List.map_cons] at r
    cases r with
    | cons r1 r2 => exact .cons r1 (ih r2)
theorem vals_each {bs : List (V × List Int)} : ∀ {us : List Value}, EachIs (fun (v : Value) (b : V × List Int) => RelV b.1 v) us bs → Vals (bs.map (·.1)) us := by
  induction bs with
  | nil => intro us r; cases r; exact .nil
  | cons b bs ih =>
    intro us r
    cases r with
    | cons r1 r2 => rw [List.map_cons]; exact .cons r1 (ih r2)
theorem pe_sortLen {X : Cx} {e : Expr} {ta : TA} {p pos p2 kpos : Pos} {k : Nat} (hr : Room k X.A) (hg : Gl X "sorted") (hm : X.mg "sorted" = none) (hgl : Gl X "len") (hml : X.mg "len" = none) (hpa : PA X [e] ta)
    (he : backTo pos (starEach [e] X.env) = (false, eval e X.env) :: backTo pos (starEach [] X.env) := by rfl) (hpl : (backTo pos (starEach [e] X.env)).any (·.1) = false := by rfl)
    (hall : (backToKw pos (keywordEach [⟨some "key", .Name "len" p2, kpos⟩] X.env)).all (·.1.isSome) = true := by rfl) (hnone : (backToKw pos (keywordEach [⟨some "key", .Name "len" p2, kpos⟩] X.env)).any (·.1.isNone) = false := by rfl)
    (hks : (backToKw pos (keywordEach [⟨some "key", .Name "len" p2, kpos⟩] X.env)).filterMap (·.1) = [Str.ofString "key"] := by rfl) :
    PE X (.Call (.Name "sorted" p) [e] [⟨some "key", .Name "len" p2, kpos⟩] pos) (tSortLen X.K ta) := by
  refine ⟨fun pins s σ H Q I h => ?_⟩
  refine wpAny_Call_Name_kw (ld_blt I hg hm (u := .builtin "sorted") (by decide +kernel) ?_)
  refine PyProof.Rows.callWith_kw (thn (hpa.run pos pins s σ H _ I h) fun us s1 ⟨vs, H1, I1, r1, q1⟩ => ?_) he hpl hall hnone
  obtain ⟨a, bs, ev, hs, ht, q⟩ := q1
  subst ev
  obtain ⟨u, rfl, rx⟩ := vals1 r1
  cases rx
  show wpAny _ _ (evalAll ((do let v ← eval (.Name "len" p2) X.env; standAt pos; pure v) :: [])) _ _ s1
  refine wpAny_evalAll_cons (wpAny_bind (ld_blt I1 hgl hml (u := .builtin "len") (by decide +kernel) (wpAny_bind (wpAny_standAt (wpAny_pure ?_)))))
  refine wpAny_evalAll_nil ?_
  rw [hks]
  show wpAny _ _ (call (.builtin "sorted") [.ref a] [(Str.ofString "key", .builtin "len")]) _ _ s1
  obtain ⟨its, rv, hl, hz⟩ := I1.list hs
  have hlen := rv.length
  rw [List.length_map] at hlen
  have hun := hr.un
  refine sorted_key_data (k := fun b : V × List Int => PyData.int (b.2.length : Int)) hl.isList (each_of rv) ?_ ?_ ?_ ?_ (PyProof.Rows.ksk_s1 _ _) (fun x => PyProof.Rows.ksk_l1 _ _) (fun x => PyProof.Rows.ksk_t4 "len" x) ?_ ?_
  · intro d hd d' hd'
    obtain ⟨b, _, rfl⟩ := List.mem_map.mp hd
    obtain ⟨b', _, rfl⟩ := List.mem_map.mp hd'
    rfl
  · refine Or.inr fun d hd => ?_
    obtain ⟨b, _, rfl⟩ := List.mem_map.mp hd
    exact ⟨(fun z => nomatch z), fun xs z => nomatch z⟩
  · rw [List.length_map] at hz; exact hz
  · intro b _
    show X.A.units + 2 + (PyData.int _).depth < cLine
    simp only [PyData.depth]
    omega
  · intro v b hR hb h tk hk
    obtain ⟨t, e1, hq⟩ := ht b hb
    rw [e1] at hR
    obtain rfl : v = Value.ref t := hR
    obtain ⟨its2, rv2, ht2, hz2⟩ := I1.tuple hq
    have hl2 := rv2.length
    rw [List.length_map] at hl2 hz2
    have hn := line63
    obtain ⟨o, ho, hc, n, hd⟩ := ht2
    refine PyProof.Rows.len_tuple (s := { s1 with heap := h, toks := tk }) (items := its2.toArray) ⟨o, hk _ _ ho, hc, n, hd⟩ (by simp only [List.size_toArray] <;> omega) ?_
    refine ⟨h, _, rfl, fun _ _ q => q, ?_⟩
    rw [List.size_toArray, ← hl2]
    exact .int _ _
  · intro out c h' tk hk hn0 hg' hlen' hE
    rw [dataLe_int] at hE
    have hp := I1.hok.fresh (Nat.le_succ s1.heap.objs.size)
    refine ⟨.ref _, upd H1 (s1.heap.objs.size + 1) (.lst ((bs.mergeSort fun a b => decide ((a.2.length : Int) ≤ (b.2.length : Int))).map (·.1))), I1.laid (t' := tk) hk (Nat.le_succ _) ⟨?_, out, c, vals_each hE, hg'⟩, rfl, q _ hp⟩
    rw [List.length_map, List.length_mergeSort]
    rw [List.length_map] at hz; exact hz
theorem kSortLen {X : Cx} (K : PySem.W.Frag) {e : Expr} {ta : TA} (h : PE X e (tSortLen X.K ta)) (hK : X.K = K := by rfl) : PE X e (tSortLen K ta) := hK ▸ h
end DL


namespace DL
open PySem L2

/-! a display of one pair, its key a tuple -/
section
variable {prog : Program} {w : World} {A : Around} {E : Value → Shared → Prop} {s : Shared}
theorem wpAny_Dict_one {κ : Type} [DecidableEq κ] {knd : HeapKind prog w κ} {env : Env} {k v : Expr} {pos : Pos} {Q : Value → Shared → Prop} (hu : knd.room A)
    (h : wpAny (model prog w) A (evalPairs (pairTrees [some k] [v] env pos)) (fun vs s₁ => ∃ ps, CarriesH knd s₁.heap vs ps ∧ s₁.heap.DictOfH knd s.heap.objs.size [] ∧
      ∀ h' tk, h'.DictOfH knd s.heap.objs.size (storedAllH [] ps) → Heap.SameBut s.heap.objs.size s₁.heap h' → Q (.ref s.heap.objs.size) { s₁ with heap := h', toks := tk }) E
      { s with heap := s.heap.push { cls := .type "dict", data := .dict #[] } }) :
    wpAny (model prog w) A (eval (.Dict [some k] [v] pos) env) Q E s := by
  have hn := pairTrees_length [some k] [v] env pos rfl rfl
  rw [arm_eval_Dict, zip_pairTrees [some k] [v] env pos rfl rfl, dictDisplay_pairs _ (fun e => by rw [e] at hn; cases hn) (by rw [hn]; show 1 < 17; decide)]
  exact wpAny_bind (wpAny_standAt (wpAny_bind (wpAny_subDictH (knd := knd) (Q := fun d s' => wpAny (model prog w) A (pure (Value.ref d)) Q E s') hu (by rw [hn]; show 1 ≤ 15; decide)
    (wpAny_mono h (fun vs s₁ h₁ => by obtain ⟨ps, hc, hm, hq⟩ := h₁; exact ⟨ps, hc, hm, fun h' tk a b => wpAny_pure (hq h' tk a b)⟩) fun _ _ e => e))))
end
def tDisp1 (tk tv : TE) : TE := fun σ H Q => ∀ p, H p = none → tk σ (upd H p (.dT [])) fun x H1 => tv σ H1 fun y H2 => ∃ (b : Addr) (k : List Key), x = .ref b ∧ H2 b = some (.tup (k.map kV)) ∧ H2 p = some (.dT []) ∧ Q (.ref p) (upd H2 p (.dT [(k, y)]))
theorem pe_disp1 {X : Cx} {pos : Pos} {k v : Expr} {tk tv : TE} {j : Nat} (hr : Room j X.A) (hk : PE X k tk) (hv : PE X v tv) : PE X (.Dict [some k] [v] pos) (tDisp1 tk tv) := by
  refine ⟨fun pins s σ H Q I q => ?_⟩
  have hn := I.hok.fresh (Nat.le_refl s.heap.objs.size)
  have hun := hr.un
  have I1 := I.laid (a := s.heap.objs.size) (o := .dT []) (h' := s.heap.push { cls := .type "dict", data := .dict #[] }) (t' := s.toks) (fun _ _ q => Heap.get?_push_of_some _ q) (Nat.le_refl _) (dt_empty s.heap I.big)
  refine wpAny_Dict_one (knd := tupleKind (mixKind X.prog X.w)) (show X.A.units < cLine by omega) ?_
  refine pairTrees_cons_walk (thn (hk.run pins _ σ _ _ I1 (q _ hn)) fun u s1 ⟨x, H1, I2, rx, q1⟩ => thn (hv.run pins s1 σ H1 _ I2 q1) fun u2 s2 ⟨y, H2, I3, ry, q2⟩ => pairTrees_nil_walk ?_)
  obtain ⟨b, ks, rfl, hb, hp, q3⟩ := q2
  cases rx
  obtain ⟨z, hd, xs, rel, dd⟩ := dt_of I3.hok hp
  cases rel
  refine ⟨[(ks, b, u2)], ⟨rfl, rfl, key_of I3.hok hb, trivial⟩, dd, fun h' tk dd' hs => ⟨.ref s.heap.objs.size, _, ?_, rfl, q3⟩⟩
  obtain ⟨qo, es, ep, hq, h2, h3, h4, _, h5⟩ := dd'
  refine d_write (t' := tk) I3 (by rw [hp]; exact True.intro) hs ⟨qo, hq⟩ ⟨by show 1 ≤ sizeLine; decide, hd, _, ?_, qo, es, ep, hq, h2, h3, h4, h5⟩
  refine .cons ⟨rfl, ?_, ry⟩ .nil
  have hne : b ≠ s.heap.objs.size := fun e => by rw [e, hp] at hb; cases hb
  show upd H2 s.heap.objs.size (.dT [(ks, y)]) b = _
  rw [upd_ne hne]
  exact hb

/-! dicts at the level of data -/
def getV {κ : Type} [DecidableEq κ] (kvs : List (κ × Val)) (k : κ) : Option Val := (kvs.find? fun kv => decide (kv.1 = k)).map (·.2)
def putV {κ : Type} [DecidableEq κ] (kvs : List (κ × Val)) (k : κ) (v : Val) : List (κ × Val) :=
  if (kvs.any fun kv => decide (kv.1 = k)) then kvs.map (fun kv => if kv.1 = k then (kv.1, v) else kv) else kvs ++ [(k, v)]
section
variable {K : PySem.W.Frag} {G : Hp} {κ : Type} [DecidableEq κ]
theorem KVs.len : ∀ {kvs : List (κ × Val)} {es : List (κ × V)}, KVs K G kvs es → es.length = kvs.length
  | [], es, h => by
    have h : es = [] := h
    rw [h]; rfl
  | (k, r) :: t, es, h => by
    obtain ⟨v, u, rfl, _, h3⟩ := h
    rw [List.length_cons, List.length_cons, KVs.len h3]
theorem KVs.get (k : κ) : ∀ {kvs : List (κ × Val)} {es : List (κ × V)}, KVs K G kvs es → (∀ r, getV kvs k = some r → ∃ v, valV es k = some v ∧ VR K G r v) ∧ (getV kvs k = none → valV es k = none)
  | [], es, h => by
    have h : es = [] := h
    subst h
    exact ⟨(fun r e => nomatch e), fun _ => rfl⟩
  | (j, x) :: t, es, h => by
    obtain ⟨v, u, rfl, h2, h3⟩ := h
    obtain ⟨ih1, ih2⟩ := KVs.get k h3
    by_cases e : j = k
    · have e1 : getV ((j, x) :: t) k = some x := by simp [getV, List.find?_cons, e]
      rw [e1, valV_pos (p := (j, v)) e]
      exact ⟨fun r hr => ⟨v, rfl, by cases hr; exact h2⟩, fun z => nomatch z⟩
    · have e1 : getV ((j, x) :: t) k = getV t k := by simp [getV, List.find?_cons, e]
      rw [e1, valV_neg (p := (j, v)) e]
      exact ⟨ih1, ih2⟩
theorem KVs.any (k : κ) : ∀ {kvs : List (κ × Val)} {es : List (κ × V)}, KVs K G kvs es → (es.any fun kv => decide (kv.1 = k)) = (kvs.any fun kv => decide (kv.1 = k))
  | [], es, h => by
    have h : es = [] := h
    subst h; rfl
  | (j, x) :: t, es, h => by
    obtain ⟨v, u, rfl, h2, h3⟩ := h
    rw [List.any_cons, List.any_cons, KVs.any k h3]
theorem KVs.repl (k : κ) {y : Val} {v : V} (hv : VR K G y v) : ∀ {kvs : List (κ × Val)} {es : List (κ × V)}, KVs K G kvs es → KVs K G (kvs.map fun kv => if kv.1 = k then (kv.1, y) else kv) (es.map fun kv => if kv.1 = k then (kv.1, v) else kv)
  | [], es, h => by
    have h : es = [] := h
    subst h; exact rfl
  | (j, x) :: t, es, h => by
    obtain ⟨w, u, rfl, h2, h3⟩ := h
    rw [List.map_cons, List.map_cons]
    by_cases e : j = k
    · simp only [e, if_true]
      exact ⟨v, _, rfl, hv, by simpa [e] using KVs.repl k hv h3⟩
    · simp only [e, if_false]
      exact ⟨w, _, rfl, h2, by simpa [e] using KVs.repl k hv h3⟩
theorem KVs.snoc (k : κ) {y : Val} {v : V} (hv : VR K G y v) : ∀ {kvs : List (κ × Val)} {es : List (κ × V)}, KVs K G kvs es → KVs K G (kvs ++ [(k, y)]) (es ++ [(k, v)])
  | [], es, h => by
    have h : es = [] := h
    subst h; exact ⟨v, [], rfl, hv, rfl⟩
  | (j, x) :: t, es, h => by
    obtain ⟨w, u, rfl, h2, h3⟩ := h
    exact ⟨w, u ++ [(k, v)], rfl, h2, KVs.snoc k hv h3⟩
theorem KVs.put (k : κ) {y : Val} {v : V} {kvs : List (κ × Val)} {es : List (κ × V)} (h : KVs K G kvs es) (hv : VR K G y v) : KVs K G (putV kvs k y) (putK es k v) := by
  unfold putV putK
  rw [h.any k]
  split
  · exact h.repl k hv
  · exact h.snoc k hv
theorem getV_put (kvs : List (κ × Val)) (k j : κ) (y : Val) : getV (putV kvs k y) j = if j = k then some y else getV kvs j := by
  unfold putV
  by_cases h : (kvs.any fun kv => decide (kv.1 = k)) = true
  · rw [if_pos h]
    have aux : ∀ kvs : List (κ × Val), getV (kvs.map fun kv => if kv.1 = k then (kv.1, y) else kv) j = if j = k then (getV kvs k).map (fun _ => y) else getV kvs j := by
      intro kvs
      induction kvs with
      | nil => simp [getV]
      | cons p t ih =>
        obtain ⟨a, b⟩ := p
        rw [List.map_cons]
        by_cases e : a = k
        · subst e
          by_cases e2 : j = a
          · subst e2; simp [getV, List.find?_cons]
          · have : ¬ a = j := fun z => e2 z.symm
            simp only [if_true]
            have l1 : getV ((a, y) :: t.map fun kv => if kv.1 = a then (kv.1, y) else kv) j = getV (t.map fun kv => if kv.1 = a then (kv.1, y) else kv) j := by simp [getV, List.find?_cons, this]
            have l2 : getV ((a, b) :: t) j = getV t j := by simp [getV, List.find?_cons, this]
            rw [l1, ih, if_neg e2, if_neg e2, l2]
        · simp only [e, if_false]
          by_cases e2 : a = j
          · subst e2
            have l1 : ∀ t', getV ((a, b) :: t') a = some b := fun t' => by simp [getV, List.find?_cons]
            rw [l1, l1, if_neg e]
          · have l1 : ∀ t', getV ((a, b) :: t') j = getV t' j := fun t' => by simp [getV, List.find?_cons, e2]
            have l2 : getV ((a, b) :: t) k = getV t k := by simp [getV, List.find?_cons, e]
            rw [l1, l1, l2, ih]
    rw [aux]
    by_cases e : j = k
    · rw [if_pos e, if_pos e]
      have : ∃ r, getV kvs k = some r := by
        obtain ⟨p, hp1, hp2⟩ := List.any_eq_true.mp h
        unfold getV
        cases hf : kvs.find? fun kv => decide (kv.1 = k) with
        | none => exact absurd hp2 (by have := List.find?_eq_none.mp hf p hp1; simpa using this)
        | some q => exact ⟨_, rfl⟩
      obtain ⟨r, hr⟩ := this
      rw [hr]; rfl
    · rw [if_neg e, if_neg e]
  · rw [if_neg h]
    have hno : ∀ p ∈ kvs, ¬ p.1 = k := fun p hp e => h (List.any_eq_true.mpr ⟨p, hp, decide_eq_true e⟩)
    unfold getV
    rw [List.find?_append]
    by_cases e : j = k
    · subst e
      have : (kvs.find? fun kv => decide (kv.1 = j)) = none := List.find?_eq_none.mpr fun p hp => by simpa using hno p hp
      rw [this]
      simp
    · have : ¬ k = j := fun z => e z.symm
      rw [if_neg e]
      cases hf : kvs.find? fun kv => decide (kv.1 = j) with
      | none => simp [this]
      | some q => rfl
theorem putV_new {kvs : List (κ × Val)} {k : κ} (y : Val) (h : ∀ p ∈ kvs, p.1 ≠ k) : putV kvs k y = kvs ++ [(k, y)] := by
  unfold putV
  rw [if_neg]
  intro e
  obtain ⟨p, h1, h2⟩ := List.any_eq_true.mp e
  exact h p h1 (of_decide_eq_true h2)
theorem putV_len (kvs : List (κ × Val)) (k : κ) (y : Val) : (putV kvs k y).length ≤ kvs.length + 1 := by
  unfold putV
  split
  · rw [List.length_map]; omega
  · rw [List.length_append]; exact Nat.le_refl _
end
/-- a key of whole numbers -/
def kI (ns : List Int) : List Key := ns.map Sum.inl
theorem kI_kV (ns : List Int) : (kI ns).map kV = ns.map V.int := by
  unfold kI
  rw [List.map_map]; rfl
theorem kI_inj {a b : List Int} (h : kI a = kI b) : a = b := List.map_inj_right (fun _ _ e => Sum.inl.inj e) |>.mp h
section
variable {K : PySem.W.Frag} {r : List Val} {m : Mm} {Q : Val → Mm → Prop} {ta tb tc te td ty tv tx : TE} {tt : TT} {N : List Val → Mm → Prop} {E : Val → Mm → Prop} {t : TS}
/-- the dict at p, as it may be read -/
def Dat (m : Mm) (p : Addr) (kvs : List (List Key × Val)) : Prop := m p = some (.dT kvs) ∨ ∃ od es, m p = some (.lk od es kvs)
theorem Dat.rd {p : Addr} {kvs : List (List Key × Val)} {H G : Hp} (h : Dat m p kvs) (S : Sta K m H G) : ∃ es, Rd H p (.dT es) ∧ KVs K G kvs es := by
  rcases h with h | ⟨od, es, h⟩
  · obtain ⟨es, h1, h2⟩ := S.mem p _ h
    exact ⟨es, Or.inl h1, h2⟩
  · obtain ⟨h1, h2⟩ := S.mem p _ h
    exact ⟨es, Or.inr ⟨od, h1⟩, h2⟩
theorem t_of {G : Hp} {ns : List Int} {v : V} (h : VR K G (.t ns) v) : ∃ b, v = .ref b ∧ G b = some (.tup ((kI ns).map kV)) := by
  cases h with
  | t h => exact ⟨_, rfl, by rw [kI_kV]; exact h⟩
theorem t_d {G : Hp} {ns : List Int} {v : V} (h : VR K G (.t ns) v) : VR K G (.d (tupI ns)) v := by
  cases h with
  | t h => exact .d (rp_tuple.mpr ⟨_, _, rfl, SqT.of h, rpa_ints ns⟩)
theorem lt_d {G : Hp} {nss : List (List Int)} {v : V} (h : VR K G (.lt nss) v) : VR K G (.d (.list (nss.map tupI))) v := by
  cases h with
  | lt h h2 => exact .d (rp_list.mpr ⟨_, _, rfl, h, h2.all⟩)
theorem ev_t2d (h : Ev K te r m fun x m1 => ∃ ns, x = .t ns ∧ Q (.d (tupI ns)) m1) : Ev K te r m Q := fun σ H G S L R k =>
  h σ H G S L R fun v H1 G1 x m1 ⟨ns, hx, q⟩ S1 e1 r1 => by
    subst hx
    exact k v H1 G1 _ m1 q S1 e1 (t_d r1)
theorem ev_lt2d (h : Ev K te r m fun x m1 => ∃ nss, x = .lt nss ∧ Q (.d (.list (nss.map tupI))) m1) : Ev K te r m Q := fun σ H G S L R k =>
  h σ H G S L R fun v H1 G1 x m1 ⟨ns, hx, q⟩ S1 e1 r1 => by
    subst hx
    exact k v H1 G1 _ m1 q S1 e1 (lt_d r1)
theorem ev_varT {i : Nat} {ns : List Int} (h : r[i]? = some (.t ns)) (q : Q (.d (tupI ns)) m) : Ev K (tVar i) r m Q := ev_t2d (ev_var h (fun z => nomatch z) ⟨ns, rfl, q⟩)
theorem ev_varTN {i : Nat} {ks : List Nat} (h : r[i]? = some (.t (ks.map fun (k : Nat) => (k : Int)))) (q : Q (.d (tupN ks)) m) : Ev K (tVar i) r m Q := ev_varT h q
theorem ev_varL {i : Nat} {nss : List (List Int)} (h : r[i]? = some (.lt nss)) (q : Q (.d (.list (nss.map tupI))) m) : Ev K (tVar i) r m Q := ev_lt2d (ev_var h (fun z => nomatch z) ⟨nss, rfl, q⟩)
theorem ev_dget (h : Ev K td r m fun x m1 => ∃ p, x = .v (.ref p) ∧ Ev K ty r m1 fun y m2 => ∃ ns kvs z, y = .t ns ∧ Dat m2 p kvs ∧ getV kvs (kI ns) = some z ∧ Q z m2) : Ev K (tDGet td ty) r m Q := fun σ H G S L R k =>
  h σ H G S L _ fun v H1 G1 x m1 ⟨p, hx, h1⟩ S1 e1 r1 => h1 σ H1 G1 S1 (L.mono e1) _ fun w H2 G2 y m2 ⟨ns, kvs, z, hy, hd, hg, q⟩ S2 e2 r2 => by
    subst hx hy
    have r1 := r1.eq
    subst r1
    obtain ⟨b, rfl, hb⟩ := t_of r2
    obtain ⟨es, g1, g2⟩ := hd.rd S2
    obtain ⟨u, hu, ru⟩ := (g2.get (kI ns)).1 z hg
    exact ⟨p, u, rfl, Or.inr ⟨es, kI ns, b, g1, rfl, S2.sub _ _ hb, hu.symm⟩, k u H2 G2 z m2 q S2 (e1.trans e2) ru⟩
theorem ev_din (h : Ev K ty r m fun y m1 => ∃ ns, y = .t ns ∧ Ev K td r m1 fun x m2 => ∃ p kvs, x = .v (.ref p) ∧ Dat m2 p kvs ∧ Q (.d (.bool (getV kvs (kI ns)).isSome)) m2) : Ev K (tDIn ty td) r m Q := fun σ H G S L R k =>
  h σ H G S L _ fun v H1 G1 x m1 ⟨ns, hx, h1⟩ S1 e1 r1 => h1 σ H1 G1 S1 (L.mono e1) _ fun w H2 G2 y m2 ⟨p, kvs, hy, hd, q⟩ S2 e2 r2 => by
    subst hx hy
    have r2 := r2.eq
    subst r2
    obtain ⟨b, rfl, hb⟩ := t_of r1
    obtain ⟨es, g1, g2⟩ := hd.rd S2
    have e : (valV es (kI ns)).isSome = (getV kvs (kI ns)).isSome := by
      cases hg : getV kvs (kI ns) with
      | none => rw [(g2.get (kI ns)).2 hg]; rfl
      | some z => obtain ⟨u, hu, _⟩ := (g2.get (kI ns)).1 z hg; rw [hu]; rfl
    refine ⟨p, valV es (kI ns), rfl, Or.inr ⟨es, kI ns, b, g1, rfl, S2.sub _ _ (e2 _ _ hb), rfl⟩, ?_⟩
    rw [e]
    exact k _ H2 G2 _ m2 q S2 (e1.trans e2) vr_bool
theorem ev_dnotin (h : Ev K ty r m fun y m1 => ∃ ns, y = .t ns ∧ Ev K td r m1 fun x m2 => ∃ p kvs, x = .v (.ref p) ∧ Dat m2 p kvs ∧ Q (.d (.bool (!(getV kvs (kI ns)).isSome))) m2) : Ev K (tDNotIn ty td) r m Q := fun σ H G S L R k =>
  h σ H G S L _ fun v H1 G1 x m1 ⟨ns, hx, h1⟩ S1 e1 r1 => h1 σ H1 G1 S1 (L.mono e1) _ fun w H2 G2 y m2 ⟨p, kvs, hy, hd, q⟩ S2 e2 r2 => by
    subst hx hy
    have r2 := r2.eq
    subst r2
    obtain ⟨b, rfl, hb⟩ := t_of r1
    obtain ⟨es, g1, g2⟩ := hd.rd S2
    have e : (valV es (kI ns)).isSome = (getV kvs (kI ns)).isSome := by
      cases hg : getV kvs (kI ns) with
      | none => rw [(g2.get (kI ns)).2 hg]; rfl
      | some z => obtain ⟨u, hu, _⟩ := (g2.get (kI ns)).1 z hg; rw [hu]; rfl
    refine ⟨p, valV es (kI ns), rfl, Or.inr ⟨es, kI ns, b, g1, rfl, S2.sub _ _ (e2 _ _ hb), rfl⟩, ?_⟩
    rw [e]
    exact k _ H2 G2 _ m2 q S2 (e1.trans e2) vr_bool
theorem dat_isD {p : Addr} {kvs : List (List Key × Val)} {H G : Hp} (h : Dat m p kvs) (S : Sta K m H G) : IsD H p := by
  obtain ⟨es, h1, _⟩ := h.rd S
  exact Or.inr ⟨es, h1⟩
/-- d.get(k, e) -/
theorem ev_dget2 (h : Ev K td r m fun x m1 => ∃ p kvs, x = .v (.ref p) ∧ Dat m1 p kvs ∧ Ev K ty r m1 fun y m2 => ∃ ns, y = .t ns ∧ Ev K tx r m2 fun z m3 => ∃ kvs', Dat m3 p kvs' ∧ Q ((getV kvs' (kI ns)).getD z) m3) : Ev K (tDGet2 td ty tx) r m Q := fun σ H G S L R k =>
  h σ H G S L _ fun v H1 G1 x m1 ⟨p, kvs, hx, hd1, h1⟩ S1 e1 r1 => by
    subst hx
    have r1 := r1.eq
    subst r1
    refine ⟨p, rfl, dat_isD hd1 S1, ?_⟩
    refine h1 σ H1 G1 S1 (L.mono e1) _ fun w H2 G2 y m2 ⟨ns, hy, h2⟩ S2 e2 r2 => h2 σ H2 G2 S2 (L.mono (e1.trans e2)) _ fun u H3 G3 z m3 ⟨kvs', hd, q⟩ S3 e3 r3 => ?_
    subst hy
    obtain ⟨b, rfl, hb⟩ := t_of r2
    obtain ⟨es, g1, g2⟩ := hd.rd S3
    refine ⟨valV es (kI ns), Or.inr ⟨es, kI ns, b, g1, rfl, S3.sub _ _ (e3 _ _ hb), rfl⟩, ?_⟩
    have e0 := e1.trans (e2.trans e3)
    cases hg : getV kvs' (kI ns) with
    | none =>
      rw [hg] at q
      rw [(g2.get (kI ns)).2 hg]
      exact k _ H3 G3 _ m3 q S3 e0 r3
    | some y =>
      rw [hg] at q
      obtain ⟨u', hu, ru⟩ := (g2.get (kI ns)).1 y hg
      rw [hu]
      exact k _ H3 G3 _ m3 q S3 e0 ru
theorem ev_dnew (q : ∀ p, m p = none → Q (.v (.ref p)) (put m p (.dT []))) : Ev K tDNewT r m Q := fun σ H G S L R k p hp =>
  k (.ref p) _ G _ _ (q p (S.freeM hp)) (S.new hp ⟨[], upd_same, rfl⟩) (Le.refl G) .v
/-- {k: e} -/
theorem ev_disp1 (h : ∀ p, m p = none → Ev K ta r (put m p (.dT [])) fun x m1 => ∃ ns, x = .t ns ∧ Ev K tv r m1 fun y m2 => m2 p = some (.dT []) ∧ Q (.v (.ref p)) (put m2 p (.dT [(kI ns, y)]))) : Ev K (tDisp1 ta tv) r m Q := fun σ H G S L R k p hp =>
  h p (S.freeM hp) σ _ G (S.new hp ⟨[], upd_same, rfl⟩) L _ fun v H1 G1 x m1 ⟨ns, hx, h1⟩ S1 e1 r1 => h1 σ H1 G1 S1 (L.mono e1) _ fun w H2 G2 y m2 ⟨hm, q⟩ S2 e2 r2 => by
    subst hx
    obtain ⟨b, rfl, hb⟩ := t_of r1
    obtain ⟨es, g1, g2⟩ := S2.mem p _ hm
    have g2 : es = [] := g2
    subst g2
    exact ⟨b, kI ns, rfl, S2.sub _ _ (e2 _ _ hb), g1, k (.ref p) _ G2 _ _ q (S2.chg hm ⟨_, upd_same, w, [], rfl, r2, rfl⟩) (e1.trans e2) .v⟩
/-- d[k] = e -/
theorem w_dput (h : Ev K tv r m fun x m1 => Ev K td r m1 fun y m2 => ∃ p, y = .v (.ref p) ∧ Ev K ty r m2 fun z m3 => ∃ ns kvs, z = .t ns ∧ m3 p = some (.dT kvs) ∧ kvs.length < 100000 ∧ N r (put m3 p (.dT (putV kvs (kI ns) x)))) : Wp K (sDPut td ty tv) r m N E := fun σ H G D S L a b =>
  h σ H G S L _ fun v H1 G1 x m1 h1 S1 e1 r1 => h1 σ H1 G1 S1 (L.mono e1) _ fun w H2 G2 y m2 ⟨p, hy, h2⟩ S2 e2 r2 => h2 σ H2 G2 S2 (L.mono (e1.trans e2)) _ fun u H3 G3 z m3 ⟨ns, kvs, hz, hm, hl, q⟩ S3 e3 r3 => by
    subst hy hz
    have r2 := r2.eq
    subst r2
    obtain ⟨bk, rfl, hb⟩ := t_of r3
    obtain ⟨es, g1, g2⟩ := S3.mem p _ hm
    have hput : KVs K G3 (putV kvs (kI ns) x) (putK es (kI ns) v) := g2.put (kI ns) (r1.mono (e2.trans e3))
    refine ⟨p, upd H3 p (.dT (putK es (kI ns) v)), rfl, DPut.t g1 (S3.sub _ _ hb) (Nat.lt_of_lt_of_le (by rw [g2.len]; exact hl) (by decide)), ?_⟩
    exact a σ _ G3 r _ q (S3.chg hm ⟨_, upd_same, hput⟩) (e1.trans (e2.trans e3)) (L.mono (e1.trans (e2.trans e3)))
/-- a tuple that is there, taken as one that stays -/
theorem Sta.adopt {H G : Hp} {q : Addr} {xs : List V} (S : Sta K m H G) (h : H q = some (.tup xs)) : Sta K m H (upd G q (.tup xs)) ∧ Le G (upd G q (.tup xs)) := by
  have le : Le G (upd G q (.tup xs)) := fun a o e => by
    by_cases ha : a = q
    · subst ha
      have := S.sub _ _ e
      rw [h] at this
      cases this
      exact upd_same
    · rw [upd_ne ha]; exact e
  have hm : m q = none := by
    cases e : m q with
    | none => rfl
    | some o =>
      have hM := S.mem q o e
      cases o with
      | lst rs => obtain ⟨_, g, _⟩ := hM; rw [h] at g; cases g
      | dT rs => obtain ⟨_, g, _⟩ := hM; rw [h] at g; cases g
      | dK rs => obtain ⟨_, g, _⟩ := hM; rw [h] at g; cases g
      | lk a b c => obtain ⟨g, _⟩ := hM; rw [h] at g; cases g
      | box => obtain ⟨_, g⟩ := hM; rw [h] at g; cases g
      | g P => exact absurd h (hM.2.2.2 xs)
  refine ⟨⟨fun a o e => ?_, fun a o e => (S.mem a o e).mono le rfl, fun a o e => ?_⟩, le⟩
  · by_cases ha : a = q
    · subst ha; rw [upd_same] at e; cases e; exact h
    · rw [upd_ne ha] at e; exact S.sub a o e
  · rw [upd_ne (fun z => by rw [z, hm] at e; cases e)]; exact S.dis a o e
/-- for k in a dict -/
theorem w_forD {j : Nat} {p : Addr} {kvs : List (List Int × Val)} (hm : m p = some (.dT (kvs.map fun kv => (kI kv.1, kv.2))))
    (h : ∀ od es, Ev K td r (put m p (.lk od es (kvs.map fun kv => (kI kv.1, kv.2)))) fun x m1 => x = .v (.ref p) ∧ m1 = put m p (.lk od es (kvs.map fun kv => (kI kv.1, kv.2))))
    (W : Nat → List Val → Mm → Prop) (h0 : W 0 r m)
    (hs : ∀ (i : Nat) (k : List Int) (z : Val) r' m' od es, kvs[i]? = some (k, z) → W i r' m' → m' p = some (.dT (kvs.map fun kv => (kI kv.1, kv.2))) →
      Wp K t (r'.set j (.t k)) (put m' p (.lk od es (kvs.map fun kv => (kI kv.1, kv.2)))) (fun r2 m2 => m2 p = some (.lk od es (kvs.map fun kv => (kI kv.1, kv.2))) ∧ W (i + 1) r2 (put m2 p (.dT (kvs.map fun kv => (kI kv.1, kv.2))))) (fun x m2 => m2 p = some (.lk od es (kvs.map fun kv => (kI kv.1, kv.2))) ∧ E x (put m2 p (.dT (kvs.map fun kv => (kI kv.1, kv.2))))))
    (hd : ∀ r' m', W kvs.length r' m' → N r' m') : Wp K (tLock (tFor (iKeys td) (gName j) t)) r m N E := fun σ H G D S L a b => by
  generalize hkk : kvs.map (fun kv => (kI kv.1, kv.2)) = kk at *
  obtain ⟨es, g1, g2⟩ := S.mem p _ hm
  have hlen : es.length = kvs.length := by rw [g2.len, ← hkk, List.length_map]
  have keyAt : ∀ (i : Nat) (k : List Key) (v : V), es[i]? = some (k, v) → ∃ kz, kvs[i]? = some kz ∧ k = kI kz.1 := by
    have aux : ∀ (kk : List (List Key × Val)) (es : List (List Key × V)) (i : Nat) (k : List Key) (v : V), KVs K G kk es → es[i]? = some (k, v) → ∃ z, kk[i]? = some (k, z) := by
      intro kk
      induction kk with
      | nil => intro es i k v h e; have h : es = [] := h; subst h; simp at e
      | cons p t ih =>
        intro es i k v h e
        obtain ⟨k0, r0⟩ := p
        obtain ⟨v0, u, rfl, _, h3⟩ := h
        cases i with
        | zero => simp at e; exact ⟨r0, by simp [e.1]⟩
        | succ i => simpa using ih u i k v h3 (by simpa using e)
    intro i k v he
    obtain ⟨z, hz⟩ := aux kk es i k v g2 he
    rw [← hkk, List.getElem?_map] at hz
    cases hx : kvs[i]? with
    | none => rw [hx] at hz; cases hz
    | some kz => rw [hx] at hz; cases hz; exact ⟨kz, rfl, rfl⟩
  refine ⟨p, .dT es, g1, trivial, fun od => ?_⟩
  have S1 : Sta K (put m p (.lk od es kk)) (upd H p (.frz od (.dT es))) G := S.chg hm ⟨upd_same, g2⟩
  refine h od es σ _ G S1 L _ fun v H1 G1 x m1 ⟨hx, hm1⟩ S2 e1 r1 => ?_
  subst hx hm1
  have r1 := r1.eq
  subst r1
  obtain ⟨g3, g4⟩ := S2.mem p _ put_same
  have back : ∀ {m' : Mm} {H' G' : Hp}, Sta K m' H' G' → m' p = some (.lk od es kk) → Sta K (put m' p (.dT kk)) (upd H' p (.dT es)) G' := fun {m' H' G'} S' hm' => S'.chg hm' ⟨es, upd_same, (S'.mem p _ hm').2⟩
  refine ⟨p, od, rfl, Or.inr ⟨es, g3, for_it (walk_keysT (kvs := es)) (fun i σ' H' => ∃ G' r' m', W i r' (put m' p (.dT kk)) ∧ m' p = some (.lk od es kk) ∧ Sta K m' H' G' ∧ Le G G' ∧ Sl K G' r' σ') ⟨G1, r, _, ?_, put_same, S2, e1, L.mono e1⟩ ?_ ?_ ?_⟩⟩
  · rw [put_put]
    have e : put m p (.dT kk) = m := by
      funext c
      unfold put
      by_cases hc : c = p
      · rw [if_pos hc, hc, hm]
      · rw [if_neg hc]
    rw [e]; exact h0
  · rintro i σ' H' hi ⟨G', r', m', _, hm', S', _, _⟩
    exact (S'.mem p _ hm').1
  · rintro i y σ' H' H2 hi ⟨G', r', m', hw, hm', S', e', L'⟩ ⟨rfl, k, v, q, hk, rfl, hq⟩
    obtain ⟨⟨ki, z⟩, hkz, rfl⟩ := keyAt i k v hk
    rw [kI_kV] at hq
    obtain ⟨S3, e3⟩ := S'.adopt hq
    have hmm : put (put m' p (.dT kk)) p (.lk od es kk) = m' := by
      rw [put_put]
      funext c
      unfold put
      by_cases hc : c = p
      · rw [if_pos hc, hc, hm']
      · rw [if_neg hc]
    have hW := hs i ki z r' (put m' p (.dT kk)) od es hkz hw put_same
    rw [hmm] at hW
    refine hW (σ'.set j (some (.ref q))) _ _ _ S3 ((L'.mono e3).set (r := .t ki) (.t upd_same) j) (fun σ3 H3 G3 r3 m3 ⟨h3, hw3⟩ S3 e4 L3 => ⟨G3, r3, m3, hw3, h3, S3, e'.trans (e3.trans e4), L3⟩) (fun v H3 G3 x m3 ⟨h3, hE⟩ S3 e4 L3 => ?_)
    exact ⟨(S3.mem p _ h3).1, b v _ G3 x _ hE (back S3 h3) (e'.trans (e3.trans e4)) L3⟩
  · rintro σ' H' ⟨G', r', m', hw, hm', S', e', L'⟩
    rw [hlen] at hw
    exact ⟨(S'.mem p _ hm').1, a σ' _ G' r' _ (hd r' _ hw) (back S' hm') e' L'⟩
end
end DL


namespace DL
open PySem L2

section
variable {K : PySem.W.Frag} {r : List Val} {m : Mm} {Q : Val → Mm → Prop} {ta tb tc te tl : TE} {tt : TT} {N : List Val → Mm → Prop} {E : Val → Mm → Prop} {t : TS}
/-! tuples of ints that the code makes -/
theorem VRs.ints {G : Hp} : ∀ {ns : List Int} {xs : List V}, VRs K G (ns.map fun n => .d (.int n)) xs → xs = ns.map V.int
  | [], xs, h => h
  | n :: ns, xs, h => by
    obtain ⟨x, u, rfl, h1, h2⟩ := h
    rw [int_of h1, VRs.ints h2]; rfl
theorem ev_tupT {t : TA} (h : EvA K t r m fun xs m1 => ∃ ns : List Int, xs = ns.map (fun n => Val.d (.int n)) ∧ ns.length ≤ 100000 ∧ Q (.t ns) m1) : Ev K (tTup t) r m Q := fun σ H G S L R k =>
  h σ H G S L _ fun vs H1 G1 xs m1 ⟨ns, hx, hl, q⟩ S1 e1 r1 => by
    subst hx
    have hv := r1.ints
    subst hv
    refine ⟨by rw [List.length_map]; exact Nat.le_trans hl (by decide), fun p hp => ?_⟩
    have hg := S1.free hp
    exact k (.ref p) _ (upd G1 p _) _ m1 q (S1.fix hp) (e1.trans (Le.new hg)) (.t upd_same)
theorem on_tupLt {ns : List Int} (q : Q (.t ns) m) : OpN K (rTupO K) [.d (.list (ns.map PyData.int))] m Q := fun H G vs S a R k => by
  obtain ⟨v, rfl, h⟩ := vrs1 a
  obtain ⟨p, xs, hv, h2, h3⟩ := rp_list.mp h.rp
  have hx := h3.ints
  subst hx
  refine ⟨p, _, by rw [hv], Or.inl ⟨Or.inl (Le.rd S.sub h2), fun l hl => ?_⟩⟩
  have hg := S.free hl
  exact k _ _ (upd G l _) _ m q (S.fix hl) (Le.new hg) (.t upd_same)
theorem on_tupLtN {ks : List Nat} (q : Q (.t (ks.map fun (k : Nat) => (k : Int))) m) : OpN K (rTupO K) [.d (.list (ks.map intN))] m Q := by
  have e : ks.map intN = (ks.map fun (k : Nat) => (k : Int)).map PyData.int := by rw [List.map_map]; rfl
  rw [e]
  exact on_tupLt q
theorem ev_tupR1t {n : Nat} (hn : n ≤ 100000) (h : Ev K ta r m fun x m1 => x = .d (.int (n : Int)) ∧ Q (.t ((List.range n).map fun (k : Nat) => (k : Int))) m1) : Ev K (tTupRg (tRg1 ta)) r m Q := fun σ H G S L R k =>
  h σ H G S L _ fun v H1 G1 x m1 ⟨hx, q⟩ S1 e1 r1 => by
    subst hx
    rw [int_of r1]
    have e : (n : Int) = ((0 + n : Nat) : Int) := by omega
    refine ⟨(n : Int), rfl, by rw [e]; exact rgok (a := 0) (n := n) (by omega), fun p hp => ?_⟩
    have hg := S1.free hp
    have e2 : rgV 0 (n : Int) = ((List.range n).map fun (k : Nat) => (k : Int)).map V.int := by
      unfold rgV
      rw [show ((n : Int) - 0).toNat = n by omega, List.map_map]
      exact List.map_congr_left fun i _ => by show V.int (0 + (i : Int)) = V.int (i : Int); rw [Int.zero_add]
    rw [e2]
    exact k _ _ (upd G1 p _) _ m1 q (S1.fix hp) (e1.trans (Le.new hg)) (.t upd_same)
theorem o2_addTt {a b : List Int} (hz : a.length + b.length ≤ 100000) (q : Q (.t (a ++ b)) m) : Op2 K (rAdd K) (.t a) (.t b) m Q := fun H G v w S x y R k => by
  cases x with
  | @t _ p h1 =>
    cases y with
    | @t _ p' h2 =>
      refine Or.inr (Or.inl ⟨p, p', a.map V.int, b.map V.int, rfl, rfl, S.sqT (SqT.of h1), S.sqT (SqT.of h2), ?_, fun e => ?_, fun _ e => ?_, fun _ _ l hl => ?_⟩)
      · rw [List.length_map, List.length_map]; exact Nat.le_trans hz (by decide)
      · have e := List.map_eq_nil_iff.mp e
        subst e
        exact k _ H G _ m q S (Le.refl G) (.t h2)
      · have e := List.map_eq_nil_iff.mp e
        subst e
        rw [List.append_nil] at q
        exact k _ H G _ m q S (Le.refl G) (.t h1)
      · have hg := S.free hl
        exact k _ _ (upd G l _) _ m q (S.fix hl) (Le.new hg) (.t (by rw [List.map_append]; exact upd_same))
/-! lists of them -/
theorem VRs.toT {G : Hp} : ∀ {nss : List (List Int)} {xs : List V}, VRs K G (nss.map Val.t) xs → TAll G nss xs
  | [], xs, h => h
  | ns :: r, xs, h => by
    obtain ⟨x, u, rfl, h1, h2⟩ := h
    obtain ⟨b, rfl, hb⟩ := t_of h1
    rw [kI_kV] at hb
    exact ⟨b, u, rfl, hb, VRs.toT h2⟩
theorem TAll.len {G : Hp} : ∀ {nss : List (List Int)} {xs : List V}, TAll G nss xs → xs.length = nss.length
  | [], xs, h => by
    have h : xs = [] := h
    rw [h]; rfl
  | ns :: r, xs, h => by
    obtain ⟨b, t, rfl, _, h3⟩ := h
    rw [List.length_cons, List.length_cons, TAll.len h3]
theorem TAll.at {G : Hp} : ∀ {nss : List (List Int)} {xs : List V} {i : Nat} {x : V}, TAll G nss xs → xs[i]? = some x → ∃ ns b, nss[i]? = some ns ∧ x = .ref b ∧ G b = some (.tup (ns.map V.int))
  | [], xs, i, x, h, e => by
    have h : xs = [] := h
    subst h; simp at e
  | ns :: r, xs, 0, x, h, e => by
    obtain ⟨b, t, rfl, h2, h3⟩ := h
    have e : V.ref b = x := by simpa using e
    exact ⟨ns, b, rfl, e.symm, h2⟩
  | ns :: r, xs, i + 1, x, h, e => by
    obtain ⟨b, t, rfl, h2, h3⟩ := h
    obtain ⟨n2, b2, e1, e2, e3⟩ := TAll.at (i := i) (x := x) h3 (by simpa using e)
    exact ⟨n2, b2, by simpa using e1, e2, e3⟩
theorem TAll.append {G : Hp} : ∀ {a b : List (List Int)} {xs ys : List V}, TAll G a xs → TAll G b ys → TAll G (a ++ b) (xs ++ ys)
  | [], b, xs, ys, h, g => by
    have h : xs = [] := h
    subst h; exact g
  | ns :: r, b, xs, ys, h, g => by
    obtain ⟨c, t, rfl, h2, h3⟩ := h
    exact ⟨c, t ++ ys, rfl, h2, TAll.append h3 g⟩
theorem ev_lstT {t : TA} (h : EvA K t r m fun xs m1 => ∃ nss : List (List Int), xs = nss.map Val.t ∧ nss.length ≤ 100000 ∧ Q (.lt nss) m1) : Ev K (tLst t) r m Q := fun σ H G S L R k =>
  h σ H G S L _ fun vs H1 G1 xs m1 ⟨nss, hx, hl, q⟩ S1 e1 r1 => by
    subst hx
    have hv := r1.toT
    refine ⟨by rw [hv.len]; exact Nat.le_trans hl (by decide), fun p hp => ?_⟩
    have hg := S1.free hp
    exact k (.ref p) _ (upd G1 p _) _ m1 q (S1.fix hp) (e1.trans (Le.new hg)) (.lt (Rd.of upd_same) (hv.mono (Le.new hg)))
theorem o2_addLt {a b : List (List Int)} (hz : a.length + b.length ≤ 100000) (q : Q (.lt (a ++ b)) m) : Op2 K (rAdd K) (.lt a) (.lt b) m Q := fun H G v w S x y R k => by
  cases x with
  | @lt _ p xs h1 h1' =>
    cases y with
    | @lt _ p' ys h2 h2' =>
      refine Or.inr (Or.inr (Or.inl ⟨p, p', xs, ys, rfl, rfl, Le.rd S.sub h1, Le.rd S.sub h2, ?_, fun l hl => ?_⟩))
      · rw [h1'.len, h2'.len]; exact Nat.le_trans hz (by decide)
      · have hg := S.free hl
        exact k _ _ (upd G l (.lst (xs ++ ys))) _ m q (S.fix hl) (Le.new hg) (.lt (Rd.of upd_same) ((h1'.append h2').mono (Le.new hg)))
theorem w_forLt {j : Nat} {nss : List (List Int)} (h : Ev K tl r m fun x m1 => x = .lt nss ∧ m1 = m) (W : Nat → List Val → Mm → Prop) (h0 : W 0 r m)
    (hs : ∀ (i : Nat) (ns : List Int) r' m', nss[i]? = some ns → W i r' m' → Wp K t (r'.set j (.t ns)) m' (W (i + 1)) E) (hd : ∀ r' m', W nss.length r' m' → N r' m') : Wp K (tFor (iList K tl) (gName j) t) r m N E := fun σ H G D S L a b =>
  h σ H G S L _ fun v H1 G1 x m1 ⟨hx, hm⟩ S1 e1 r1 => by
    subst hx hm
    cases r1 with
    | @lt _ p xs hs1 hA =>
      have hs1 : SqL K G1 p xs := Or.inl hs1
      refine ⟨p, rfl, ⟨xs, S1.sqL hs1⟩, for_list (xs := xs) (fun i σ' H' => ∃ G' r' m', W i r' m' ∧ Sta K m' H' G' ∧ Le G1 G' ∧ Sl K G' r' σ') ⟨G1, r, _, h0, S1, Le.refl G1, L.mono e1⟩ ?_ ?_ ?_⟩
      · rintro i σ' H' hi ⟨G', r', m', _, S', e', _⟩
        exact S'.sqL (e'.sqL hs1)
      · rintro i y σ' H' hy ⟨G', r', m', hw, S', e', L'⟩
        obtain ⟨ns, c, hns, rfl, hc⟩ := hA.at hy
        refine hs i ns r' m' hns hw (σ'.set j (some (.ref c))) H' G' _ S' (L'.set (r := .t ns) (.t (e' _ _ hc)) j) (fun σ3 H3 G3 r3 m3 h3 S3 e3 L3 => ⟨G3, r3, m3, h3, S3, e'.trans e3, L3⟩) (fun v H3 G3 x m3 n3 S3 e3 L3 => b v H3 G3 x m3 n3 S3 (e1.trans (e'.trans e3)) L3)
      · rintro σ' H' ⟨G', r', m', hw, S', e', L'⟩
        rw [hA.len] at hw
        exact a σ' H' G' r' m' (hd r' m' hw) S' (e1.trans e') L'
/-! comprehensions whose items are any values -/
def LcV (K : PySem.W.Frag) (m : Mm) (G : Hp) (D : Addr) (W : Nat → List Val → Prop) (i : Nat) (H' : Hp) : Prop :=
  ∃ G' acc, W i acc ∧ acc.length ≤ i ∧ Sta K (put m D (.lst acc)) H' G' ∧ Le G G'
theorem lcv_turn {G : Hp} {D : Addr} {W : Nat → List Val → Prop} {i : Nat} {σ : L2.St} {H' : Hp} {r' : List Val} (hm : m D = none) (hi : i < 100000) (L : ∀ G', Le G G' → Sl K G' r' σ)
    (hs : ∀ m' acc, Ext m m' → W i acc → EvT K tt r' m' fun b m2 => m2 = m' ∧ (b = true → Ev K te r' m' fun x m3 => m3 = m' ∧ W (i + 1) (acc ++ [x])) ∧ (b = false → W (i + 1) acc))
    (h : LcV K m G D W i H') : tt σ H' fun b H3 => if b = true then te σ H3 fun y H4 => ∃ acc, H4 D = some (.lst acc) ∧ acc.length < sizeLine ∧ LcV K m G D W (i + 1) (upd H4 D (.lst (acc ++ [y]))) else LcV K m G D W (i + 1) H3 := by
  obtain ⟨G', acc, hw, hl, S, e⟩ := h
  have hx : Ext m (put m D (.lst acc)) := fun a o ha => by
    rw [put_ne (ne_of_get ha hm)]; exact ha
  refine hs _ acc hx hw σ H' G' S (L G' e) _ fun H3 G3 b m3 ⟨e3, h1, h2⟩ S3 l3 => ?_
  subst e3
  cases b with
  | true =>
    show te σ H3 _
    refine h1 rfl σ H3 G3 S3 (L G3 (e.trans l3)) _ fun v H4 G4 x m4 ⟨e4, hw'⟩ S4 l4 r4 => ?_
    subst e4
    obtain ⟨xs, g1, g2⟩ := S4.mem D _ put_same
    have hlen := g2.length
    refine ⟨xs, g1, Nat.lt_of_lt_of_le (show xs.length < 100000 by omega) (by decide), G4, acc ++ [x], hw', by rw [List.length_append]; show acc.length + 1 ≤ i + 1; omega, ?_, e.trans (l3.trans l4)⟩
    have S5 := S4.chg (u := .lst (acc ++ [x])) (o := .lst (xs ++ [v])) put_same ⟨_, upd_same, g2.append ⟨v, [], rfl, r4, rfl⟩⟩
    rw [put_put] at S5
    exact S5
  | false =>
    show LcV K m G D W (i + 1) H3
    exact ⟨G3, acc, h2 rfl, by omega, S3, e.trans l3⟩
theorem lcv_end {G : Hp} {D : Addr} {W : Nat → List Val → Prop} {n : Nat} {H' : Hp} {R : VK} (hm : m D = none) (h : LcV K m G D W n H') (hd : ∀ acc, W n acc → ∃ nss, acc = nss.map Val.t ∧ Q (.lt nss) m)
    (k : ∀ v H' G' x m', Q x m' → Sta K m' H' G' → Le G G' → VR K G' x v → R v H') : R (.ref D) H' := by
  obtain ⟨G', acc, hw, hl, S, e⟩ := h
  obtain ⟨nss, rfl, q⟩ := hd acc hw
  obtain ⟨xs, g1, g2⟩ := S.mem D _ put_same
  have hg := S.dis D _ put_same
  have S2 := S.freeze put_same g1
  rw [del_put hm] at S2
  exact k _ H' _ _ m q S2 (e.trans (Le.new hg)) (.lt (Rd.of upd_same) (g2.toT.mono (Le.new hg)))
theorem lcv_start {H G : Hp} {D : Addr} {W : Nat → List Val → Prop} (S : Sta K m H G) (hD : H D = none) (h0 : W 0 []) : LcV K m G D W 0 (upd H D (.lst [])) :=
  ⟨G, [], h0, Nat.le_refl _, S.new hD ⟨[], upd_same, rfl⟩, Le.refl G⟩
theorem ev_lcLt {j : Nat} {nss : List (List Int)} (h : Ev K tl r m fun x m1 => x = .lt nss ∧ m1 = m) (hn : nss.length ≤ 100000) (W : Nat → List Val → Prop) (h0 : W 0 [])
    (hs : ∀ (i : Nat) (ns : List Int) m' acc, nss[i]? = some ns → Ext m m' → W i acc → EvT K tt (r.set j (.t ns)) m' fun b m2 => m2 = m' ∧ (b = true → Ev K te (r.set j (.t ns)) m' fun x m3 => m3 = m' ∧ W (i + 1) (acc ++ [x])) ∧ (b = false → W (i + 1) acc))
    (hd : ∀ acc, W nss.length acc → ∃ out, acc = out.map Val.t ∧ Q (.lt out) m) : Ev K (tLc (iList K tl) (gName j) tt te [j]) r m Q := fun σ H G S L R k =>
  h σ H G S L _ fun v H1 G1 x m1 ⟨hx, hm⟩ S1 e1 r1 => by
    subst hx hm
    cases r1 with
    | @lt _ p xs hs1 hA =>
      have hs1 : SqL K G1 p xs := Or.inl hs1
      refine ⟨p, rfl, ⟨xs, S1.sqL hs1⟩, fun D hD => ?_⟩
      have hmD := S1.freeM hD
      refine lc_list (xs := xs) (LcV K m1 G1 D W) (lcv_start S1 hD h0) ?_ ?_ ?_
      · rintro i H' hi ⟨G', acc, _, _, S', e'⟩
        exact S'.sqL (e'.sqL hs1)
      · intro i y H' hy hP
        obtain ⟨ns, c, hns, rfl, hc⟩ := hA.at hy
        have hi : i < 100000 := by
          have := (List.getElem?_eq_some_iff.mp hy).1
          rw [hA.len] at this
          omega
        refine ⟨wipe1 σ j _, lcv_turn hmD hi (fun G' e' => ?_) (fun m' acc hx hw => hs i ns m' acc hns hx hw) hP⟩
        have := (L.mono (e1.trans e')).set (r := .t ns) (.t (e' _ _ hc)) j
        show Sl K G' (r.set j (.t ns)) ((σ.set j none).set j (some (.ref c)))
        rw [List.set_set]
        exact this
      · intro H' hP
        rw [hA.len] at hP
        exact lcv_end hmD hP hd fun v H' G' x m' q S' e' r' => k v H' G' x m' q S' (e1.trans e') r'
theorem ev_mapLt {j : Nat} {nss : List (List Int)} (h : Ev K tl r m fun x m1 => x = .lt nss ∧ m1 = m) (hn : nss.length ≤ 100000) (f : List Int → List Int)
    (hs : ∀ (ns : List Int) m', ns ∈ nss → Ext m m' → Ev K te (r.set j (.t ns)) m' fun x m3 => x = .t (f ns) ∧ m3 = m') (q : Q (.lt (nss.map f)) m) : Ev K (tLc (iList K tl) (gName j) tYes te [j]) r m Q :=
  ev_lcLt h hn (fun i acc => acc = ((nss.take i).map f).map Val.t) (by simp) (fun i ns m' acc hd hx hw => evt_yes ⟨rfl, fun _ => (hs ns m' (List.mem_of_getElem? hd) hx).imp fun x m3 e => ⟨e.2, by rw [hw, take_one hd, List.map_append, List.map_append, e.1]; rfl⟩, (fun g => nomatch g)⟩)
    (fun acc hw => ⟨_, hw.trans (by rw [List.take_length]), q⟩)
theorem ev_filLt {j : Nat} {nss : List (List Int)} (h : Ev K tl r m fun x m1 => x = .lt nss ∧ m1 = m) (hn : nss.length ≤ 100000) (p : List Int → Bool)
    (ht : ∀ (ns : List Int) m', ns ∈ nss → Ext m m' → EvT K tt (r.set j (.t ns)) m' fun b m3 => b = p ns ∧ m3 = m')
    (hs : ∀ (ns : List Int) m', ns ∈ nss → Ext m m' → Ev K te (r.set j (.t ns)) m' fun x m3 => x = .t ns ∧ m3 = m') (q : Q (.lt (nss.filter p)) m) : Ev K (tLc (iList K tl) (gName j) tt te [j]) r m Q :=
  ev_lcLt h hn (fun i acc => acc = ((nss.take i).filter p).map Val.t) (by simp) (fun i ns m' acc hd hx hw => by
    have hm := List.mem_of_getElem? hd
    exact (ht ns m' hm hx).imp fun b m2 e => ⟨e.2, fun hb => (hs ns m' hm hx).imp fun x m3 e2 => ⟨e2.2, by rw [hw, take_one hd, List.filter_append, List.filter_cons, if_pos (e.1.symm.trans hb), List.map_append, e2.1]; rfl⟩, fun hb => by rw [hw, take_one hd, List.filter_append, List.filter_cons, if_neg (by rw [← e.1, hb]; decide)]; simp⟩)
    (fun acc hw => ⟨_, hw.trans (by rw [List.take_length]), q⟩)
/-- sorted(.., key=len) -/
def byLen (nss : List (List Int)) : List (List Int) := nss.mergeSort fun a b => decide ((a.length : Int) ≤ (b.length : Int))
theorem TAll.zip {G : Hp} : ∀ {nss : List (List Int)} {xs : List V}, TAll G nss xs → ((xs.zip nss).map (·.1) = xs ∧ (xs.zip nss).map (·.2) = nss ∧ ∀ b ∈ xs.zip nss, ∃ t, b.1 = .ref t ∧ G t = some (.tup (b.2.map V.int)))
  | [], xs, h => by
    have h : xs = [] := h
    subst h
    exact ⟨rfl, rfl, fun b hb => nomatch hb⟩
  | ns :: r, xs, h => by
    obtain ⟨c, t, rfl, h2, h3⟩ := h
    obtain ⟨a1, a2, a3⟩ := TAll.zip h3
    refine ⟨by rw [List.zip_cons_cons, List.map_cons, a1], by rw [List.zip_cons_cons, List.map_cons, a2], fun b hb => ?_⟩
    rw [List.zip_cons_cons] at hb
    rcases List.mem_cons.mp hb with rfl | hb
    · exact ⟨c, rfl, h2⟩
    · exact a3 b hb
theorem tall_of {G : Hp} : ∀ (bs : List (V × List Int)), (∀ b ∈ bs, ∃ t, b.1 = .ref t ∧ G t = some (.tup (b.2.map V.int))) → TAll G (bs.map (·.2)) (bs.map (·.1))
  | [], _ => rfl
  | b :: bs, h => by
    obtain ⟨t, h1, h2⟩ := h b (List.mem_cons_self ..)
    exact ⟨t, bs.map (·.1), by rw [List.map_cons, h1], h2, tall_of bs fun c hc => h c (List.mem_cons_of_mem _ hc)⟩
theorem ev_sortLen {t : TA} (h : EvA K t r m fun xs m1 => ∃ nss, xs = [.lt nss] ∧ nss.length ≤ 100000 ∧ Q (.lt (byLen nss)) m1) : Ev K (tSortLen K t) r m Q := fun σ H G S L R k =>
  h σ H G S L _ fun vs H1 G1 xs m1 ⟨nss, hx, hl, q⟩ S1 e1 r1 => by
    subst hx
    obtain ⟨v, rfl, rv⟩ := vrs1 r1
    cases rv with
    | @lt _ p xs hs1 hA =>
      obtain ⟨z1, z2, z3⟩ := hA.zip
      refine ⟨p, xs.zip nss, rfl, by rw [z1]; exact S1.sqL (Or.inl hs1), fun b hb => ?_, fun l hl => ?_⟩
      · obtain ⟨t, e1, e2⟩ := z3 b hb
        exact ⟨t, e1, S1.sqT (SqT.of e2)⟩
      · have hg := S1.free hl
        have hperm : ∀ b ∈ (xs.zip nss).mergeSort fun a b => decide ((a.2.length : Int) ≤ (b.2.length : Int)), ∃ t, b.1 = .ref t ∧ G1 t = some (.tup (b.2.map V.int)) := fun b hb => z3 b ((List.mergeSort_perm _ _).mem_iff.mp hb)
        have hT := tall_of _ hperm
        have e2 : ((xs.zip nss).mergeSort fun a b => decide ((a.2.length : Int) ≤ (b.2.length : Int))).map (·.2) = byLen nss := by
          unfold byLen
          rw [List.map_mergeSort (s := fun a b : List Int => decide ((a.length : Int) ≤ (b.length : Int))) (fun a _ b _ => rfl), z2]
        rw [e2] at hT
        exact k _ _ (upd G1 l _) _ m1 q (S1.fix hl) (e1.trans (Le.new hg)) (.lt (Rd.of upd_same) (hT.mono (Le.new hg)))
/-! a key that a name holds -/
theorem ev_dgetV {td : TE} {i : Nat} {ns : List Int} (hk : r[i]? = some (.t ns)) (h : Ev K td r m fun x m1 => ∃ p kvs z, x = .v (.ref p) ∧ Dat m1 p kvs ∧ getV kvs (kI ns) = some z ∧ Q z m1) : Ev K (tDGet td (tVar i)) r m Q :=
  ev_dget (h.imp fun x m1 ⟨p, kvs, z, hx, hd, hg, q⟩ => ⟨p, hx, ev_var hk (fun h => nomatch h) ⟨ns, kvs, z, rfl, hd, hg, q⟩⟩)
theorem ev_dget2V {td tx : TE} {i : Nat} {ns : List Int} (hk : r[i]? = some (.t ns)) (h : Ev K td r m fun x m1 => ∃ p kvs, x = .v (.ref p) ∧ Dat m1 p kvs ∧ Ev K tx r m1 fun z m3 => ∃ kvs', Dat m3 p kvs' ∧ Q ((getV kvs' (kI ns)).getD z) m3) : Ev K (tDGet2 td (tVar i) tx) r m Q :=
  ev_dget2 (h.imp fun x m1 ⟨p, kvs, hx, hd, h2⟩ => ⟨p, kvs, hx, hd, ev_var hk (fun h => nomatch h) ⟨ns, rfl, h2⟩⟩)
theorem w_dputV {td tv : TE} {i : Nat} {ns : List Int} (hk : r[i]? = some (.t ns)) (h : Ev K tv r m fun x m1 => Ev K td r m1 fun y m2 => ∃ p kvs, y = .v (.ref p) ∧ m2 p = some (.dT kvs) ∧ kvs.length < 100000 ∧ N r (put m2 p (.dT (putV kvs (kI ns) x)))) : Wp K (sDPut td (tVar i) tv) r m N E :=
  w_dput (h.imp fun x m1 h1 => h1.imp fun y m2 ⟨p, kvs, hy, hm, hl, q⟩ => ⟨p, hy, ev_var hk (fun h => nomatch h) ⟨ns, kvs, rfl, hm, hl, q⟩⟩)
end
end DL


namespace DL
open PySem L2

abbrev kn (ks : List Nat) : List Int := ks.map fun (k : Nat) => (k : Int)
theorem kn_inj {a b : List Nat} (h : kn a = kn b) : a = b := List.map_inj_right (fun _ _ e => by omega) |>.mp h
/-! fractions from nought on, bounded -/
structure QB (q : Rat) (d v : Nat) : Prop where
  nn : 0 ≤ q
  le : q ≤ (v : Rat)
  den : q.den ≤ 2 ^ d
theorem QB.mono {q : Rat} {d v d' v' : Nat} (h : QB q d v) (hd : d ≤ d') (hv : v ≤ v') : QB q d' v' :=
  ⟨h.nn, Rat.le_trans h.le (Rat.natCast_le_natCast.mpr hv), Nat.le_trans h.den (Nat.pow_le_pow_right (by decide) hd)⟩
theorem QB.frB {q : Rat} {d v e : Nat} (h : QB q d v) (hv : v < 2 ^ e) : FrB q (d + e + 1) := by
  have hden := den_pos q
  refine ⟨?_, ?_⟩
  · have h0 : 0 ≤ q.num := Rat.num_nonneg.mpr h.nn
    have h1 : q.num ≤ (v : Int) * (q.den : Int) := by
      have := (Rat.le_iff q ((v : Nat) : Rat)).mp h.le
      have e1 : ((v : Nat) : Rat).den = 1 := rfl
      have e2 : ((v : Nat) : Rat).num = (v : Int) := rfl
      rw [e1, e2] at this
      simpa using this
    have h2 : q.num.natAbs ≤ v * q.den := by
      have : ((q.num.natAbs : Nat) : Int) ≤ ((v * q.den : Nat) : Int) := by rw [Int.natAbs_of_nonneg h0, Int.natCast_mul]; exact h1
      omega
    show q.num.natAbs < 2 ^ (d + e + 1)
    have h3 : v * q.den ≤ 2 ^ e * 2 ^ d := Nat.mul_le_mul (by omega) h.den
    rw [← Nat.pow_add] at h3
    refine Nat.lt_of_le_of_lt (Nat.le_trans h2 h3) ?_
    exact Nat.pow_lt_pow_right (by decide) (by omega)
  · show ((q.den : Nat) : Int).natAbs < 2 ^ (d + e + 1)
    rw [Int.natAbs_natCast]
    exact Nat.lt_of_le_of_lt h.den (Nat.pow_lt_pow_right (by decide) (by omega))
theorem den_mk_le (t : Int) (b : Nat) (hb : 0 < b) : (mkRat t b).den ≤ b := by
  rw [Rat.den_mkRat, if_neg (by omega)]
  exact Nat.div_le_self _ _
theorem QB.add {p q : Rat} {a b u v : Nat} (h : QB p a u) (g : QB q b v) : QB (p + q) (a + b) (u + v) := by
  refine ⟨Rat.add_nonneg h.nn g.nn, ?_, ?_⟩
  · have h1 := h.le
    have h2 := g.le
    rw [Rat.natCast_add]
    grind
  · rw [Rat.add_def']
    refine Nat.le_trans (den_mk_le _ _ (Nat.mul_pos (den_pos p) (den_pos q))) ?_
    rw [Nat.pow_add]
    exact Nat.mul_le_mul h.den g.den
theorem QB.mulN {q : Rat} {d v : Nat} (h : QB q d v) (n : Nat) : QB (((n : Int) : Rat) * q) d (n * v) := by
  have hn : (0 : Rat) ≤ ((n : Nat) : Rat) := Rat.natCast_nonneg
  refine ⟨?_, ?_, ?_⟩
  · rw [Rat.intCast_natCast]; exact Rat.mul_nonneg hn h.nn
  · rw [Rat.intCast_natCast, Rat.natCast_mul]
    exact Rat.mul_le_mul_of_nonneg_left h.le hn
  · rw [Rat.mul_def']
    have e : (((n : Int) : Rat)).den = 1 := rfl
    rw [e, Nat.one_mul]
    exact Nat.le_trans (den_mk_le _ _ (den_pos q)) h.den
theorem QB.over {q : Rat} {d v : Nat} (h : QB q d v) {n e w : Nat} (h0 : 0 < n) (he : n ≤ 2 ^ e) (hv : v ≤ w * n) : QB (q * mkRat 1 n) (d + e) w := by
  have hn : ((n : Nat) : Rat) ≠ 0 := nat_ne h0
  have hn0 : (0 : Rat) < ((n : Nat) : Rat) := Rat.natCast_pos.mpr h0
  have e1 : mkRat 1 n = 1 / ((n : Nat) : Rat) := by rw [Rat.mkRat_eq_div]; rfl
  have hinv : (0 : Rat) ≤ mkRat 1 n := Rat.num_nonneg.mp (by rw [Rat.num_mkRat, if_neg (by omega)]; exact Int.ediv_nonneg (by decide) (Int.natCast_nonneg _))
  refine ⟨Rat.mul_nonneg h.nn hinv, ?_, ?_⟩
  · have h1 : q ≤ ((w : Nat) : Rat) * ((n : Nat) : Rat) := by
      rw [← Rat.natCast_mul]
      exact Rat.le_trans h.le (Rat.natCast_le_natCast.mpr hv)
    rw [e1]
    generalize ((n : Nat) : Rat) = N at *
    generalize ((w : Nat) : Rat) = W at *
    have h2 : q * (1 / N) * N ≤ W * N := by
      have : q * (1 / N) * N = q := by grind
      rw [this]; exact h1
    exact Rat.le_of_mul_le_mul_right h2 hn0
  · rw [Rat.mul_def']
    refine Nat.le_trans (den_mk_le _ _ (Nat.mul_pos (den_pos q) (den_pos _))) ?_
    rw [Nat.pow_add]
    exact Nat.mul_le_mul h.den (Nat.le_trans (den_mk_le 1 n h0) he)
theorem QB.nat (n : Nat) : QB ((n : Int) : Rat) 0 n := by
  refine ⟨?_, ?_, ?_⟩
  · rw [Rat.intCast_natCast]; exact Rat.natCast_nonneg
  · rw [Rat.intCast_natCast]; exact Rat.le_refl
  · exact Nat.le_refl 1
/-! the time paper -/
def dueAcc (ss : List Int) (P : List Nat → Rat) (s : List Nat) (l : List Nat) : Rat := l.foldl (fun acc k => acc + ((ss.getD k 0 : Int) : Rat) * P (s.filter fun x => !decide (x = k))) ((ss.sum : Int) : Rat)
def dueT (ss : List Int) (P : List Nat → Rat) (s : List Nat) : Rat := dueAcc ss P s s * mkRat 1 (sumP ss s).toNat
def timeF (ss : List Int) : Nat → List Nat → Rat
  | 0, _ => 0
  | n + 1, s => dueT ss (timeF ss n) s
def timeT (ss : List Int) (s : List Nat) : Rat := timeF ss s.length s
theorem without_len {s : List Nat} (hs : s.Pairwise (· < ·)) {k : Nat} (hk : k ∈ s) : (s.filter fun x => !decide (x = k)).length + 1 = s.length := by
  induction s with
  | nil => cases hk
  | cons a t ih =>
    obtain ⟨h1, h2⟩ := List.pairwise_cons.mp hs
    rcases List.mem_cons.mp hk with rfl | hk
    · rw [List.filter_cons, if_neg (by simp)]
      have : (t.filter fun x => !decide (x = k)) = t := List.filter_eq_self.mpr fun x hx => by have := h1 x hx; simp; omega
      rw [this]; rfl
    · have : a ≠ k := by have := h1 k hk; omega
      rw [List.filter_cons, if_pos (by simp [this]), List.length_cons, List.length_cons, ih h2 hk]
theorem dueAcc_congr {ss : List Int} {P P' : List Nat → Rat} {s : List Nat} (h : ∀ k ∈ s, P (s.filter fun x => !decide (x = k)) = P' (s.filter fun x => !decide (x = k))) : ∀ l : List Nat, (∀ k ∈ l, k ∈ s) → dueAcc ss P s l = dueAcc ss P' s l := by
  intro l hl
  unfold dueAcc
  generalize ((ss.sum : Int) : Rat) = a
  induction l generalizing a with
  | nil => rfl
  | cons k t ih =>
    rw [List.foldl_cons, List.foldl_cons, h k (hl k (List.mem_cons_self ..))]
    exact ih (fun x hx => hl x (List.mem_cons_of_mem _ hx)) _
theorem timeT_step (ss : List Int) {s : List Nat} (hs : s.Pairwise (· < ·)) (h0 : s ≠ []) : timeT ss s = dueT ss (timeT ss) s := by
  unfold timeT
  cases hn : s.length with
  | zero => exact absurd (List.length_eq_zero_iff.mp hn) h0
  | succ n =>
    show dueT ss (timeF ss n) s = _
    unfold dueT
    rw [dueAcc_congr (P' := fun o => timeF ss o.length o) (fun k hk => ?_) s (fun _ h => h)]
    have := without_len hs hk
    have e : (s.filter fun x => !decide (x = k)).length = n := by omega
    show timeF ss n _ = timeF ss _ _
    rw [e]
theorem timeT_nil (ss : List Int) : timeT ss [] = 0 := rfl
/-- bits of the paper's bottoms -/
def dB : Nat → Nat
  | 0 => 0
  | n + 1 => (n + 1) * dB n + 6
theorem acc_bound {ss : List Int} (hs : Shares ss) {P : List Nat → Rat} {s : List Nat} {d n : Nat} (hP : ∀ k ∈ s, QB (P (s.filter fun x => !decide (x = k))) d (45 * n)) : ∀ l : List Nat, (∀ k ∈ l, k ∈ s) → QB (dueAcc ss P s l) (l.length * d) (45 + 45 * n * (sumP ss l).toNat) := by
  intro l
  have hsum := shares_sum hs
  have gen : ∀ (l : List Nat) (a : Rat) (c v : Nat), QB a c v → (∀ k ∈ l, k ∈ s) → QB (l.foldl (fun acc k => acc + ((ss.getD k 0 : Int) : Rat) * P (s.filter fun x => !decide (x = k))) a) (c + l.length * d) (v + 45 * n * (sumP ss l).toNat) := by
    intro l
    induction l with
    | nil =>
      intro a c v h _
      exact h.mono (by simp) (by simp)
    | cons k t ih =>
      intro a c v h hl
      rw [List.foldl_cons]
      have hb := getD_bounds hs k
      have e1 : ss.getD k 0 = (((ss.getD k 0).toNat : Nat) : Int) := by omega
      have h1 := (hP k (hl k (List.mem_cons_self ..))).mulN (ss.getD k 0).toNat
      rw [← e1] at h1
      have h2 := ih _ _ _ (h.add h1) fun x hx => hl x (List.mem_cons_of_mem _ hx)
      refine h2.mono ?_ ?_
      · rw [List.length_cons, Nat.succ_mul]; omega
      · have e2 : (sumP ss (k :: t)).toNat = (ss.getD k 0).toNat + (sumP ss t).toNat := by
          have := sumP_nonneg hs t
          rw [sumP_cons]; omega
        rw [e2, Nat.mul_add]
        have e3 : (ss.getD k 0).toNat * (45 * n) = 45 * n * (ss.getD k 0).toNat := Nat.mul_comm _ _
        omega
  intro hl
  have e : ss.sum = ((ss.sum.toNat : Nat) : Int) := by omega
  have h0 : QB ((ss.sum : Int) : Rat) 0 45 := by
    rw [e]
    exact (QB.nat _).mono (Nat.le_refl _) (by omega)
  exact (gen l _ 0 45 h0 hl).mono (by omega) (Nat.le_refl _)
theorem sumP_pos {ss : List Int} (hs : Shares ss) {s : List Nat} (h0 : s ≠ []) (hk : ∀ k ∈ s, k < ss.length) : 1 ≤ sumP ss s := by
  cases s with
  | nil => exact absurd rfl h0
  | cons k t =>
    have := sumP_nonneg hs t
    rw [sumP_cons]
    have : 1 ≤ ss.getD k 0 := by
      rw [List.getD_eq_getElem?_getD, List.getElem?_eq_getElem (hk k (by simp))]
      exact (hs.each _ (List.getElem_mem _)).1
    omega
theorem due_bound {ss : List Int} (hs : Shares ss) {P : List Nat → Rat} {s : List Nat} (hk : Kinds ss.length s) (h0 : s ≠ []) {d n : Nat} (hl : s.length = n + 1) (hP : ∀ k ∈ s, QB (P (s.filter fun x => !decide (x = k))) d (45 * n)) : QB (dueT ss P s) ((n + 1) * d + 6) (45 * (n + 1)) := by
  have h1 := acc_bound hs hP s (fun _ h => h)
  have hp := sumP_pos hs h0 hk.lt
  have hle := sumP_le hs hk
  unfold dueT
  refine (h1.over (n := (sumP ss s).toNat) (e := 6) (w := 45 * (n + 1)) (by omega) (by show _ ≤ 64; omega) ?_).mono (by rw [hl]; exact Nat.le_refl _) (Nat.le_refl _)
  generalize hS : (sumP ss s).toNat = S
  have : 1 ≤ S := by omega
  rw [Nat.mul_add, Nat.add_mul, Nat.mul_one]
  have : 45 ≤ 45 * S := by omega
  omega
theorem kinds_without {n : Nat} {s : List Nat} (h : Kinds n s) (k : Nat) : Kinds n (s.filter fun x => !decide (x = k)) := ⟨h.up.filter _, fun x hx => h.lt x (List.mem_filter.mp hx).1⟩
theorem time_bound {ss : List Int} (hs : Shares ss) : ∀ (n : Nat) (s : List Nat), s.length = n → Kinds ss.length s → QB (timeT ss s) (dB n) (45 * n)
  | 0, s, hl, hk => by
    have : s = [] := List.length_eq_zero_iff.mp hl
    subst this
    rw [timeT_nil]
    exact ⟨Rat.le_refl, Rat.le_refl, Nat.le_refl 1⟩
  | n + 1, s, hl, hk => by
    have h0 : s ≠ [] := fun e => by rw [e] at hl; cases hl
    rw [timeT_step ss hk.up h0]
    exact due_bound hs hk h0 hl fun k hks => time_bound hs n _ (by have := without_len hk.up hks; omega) (kinds_without hk k)
theorem dB_le {n : Nat} (h : n ≤ 5) : dB n ≤ 1236 := by
  have : n = 0 ∨ n = 1 ∨ n = 2 ∨ n = 3 ∨ n = 4 ∨ n = 5 := by omega
  rcases this with rfl | rfl | rfl | rfl | rfl | rfl <;> decide
theorem time_fr {ss : List Int} (hs : Shares ss) {s : List Nat} (hk : Kinds ss.length s) : FrB (timeT ss s) 1300 := by
  have h1 := hk.len
  have h2 := hs.few
  have h3 := dB_le (n := s.length) (by omega)
  exact ((time_bound hs s.length s rfl hk).frB (e := 10) (by show _ < 1024; omega)).mono (by omega)
theorem acc_fr {ss : List Int} (hs : Shares ss) {s : List Nat} (hk : Kinds ss.length s) (i : Nat) : FrB (dueAcc ss (timeT ss) s (s.take i)) 1300 := by
  have h1 := hk.len
  have h2 := hs.few
  cases hn : s.length with
  | zero =>
    have : s = [] := List.length_eq_zero_iff.mp hn
    subst this
    have := shares_sum hs
    have e : ss.sum = ((ss.sum.toNat : Nat) : Int) := by omega
    have : dueAcc ss (timeT ss) [] (List.take i []) = ((ss.sum : Int) : Rat) := by simp [dueAcc]
    rw [this, e]
    exact ((QB.nat ss.sum.toNat).frB (e := 10) (by show _ < 1024; omega)).mono (by decide)
  | succ n =>
    have hP : ∀ k ∈ s, QB (timeT ss (s.filter fun x => !decide (x = k))) (dB n) (45 * n) := fun k hks => time_bound hs n _ (by have := without_len hk.up hks; omega) (kinds_without hk k)
    have hb := acc_bound hs hP (s.take i) fun k hk => List.mem_of_mem_take hk
    have hl : (s.take i).length ≤ n + 1 := by rw [List.length_take]; omega
    have hsl : sumP ss (s.take i) ≤ 45 := by
      have := sumP_le9 hs (s.take i)
      omega
    have hd : (s.take i).length * dB n + 6 ≤ dB (n + 1) := by
      show _ ≤ (n + 1) * dB n + 6
      exact Nat.add_le_add_right (Nat.mul_le_mul_right _ hl) 6
    have hd2 := dB_le (n := n + 1) (by omega)
    have hv : 45 + 45 * n * (sumP ss (s.take i)).toNat ≤ 45 + 45 * 4 * 45 := by
      refine Nat.add_le_add_left (Nat.mul_le_mul (Nat.mul_le_mul_left _ (by omega)) (by omega)) _
    exact (hb.frB (e := 15) (by show _ < 32768; omega)).mono (by omega)
end DL


namespace DL
open PySem L2

def allSL (ks : List Nat) : List (List Nat) := ks.foldl (fun acc k => acc ++ acc.map fun s => s ++ [k]) [[]]
theorem allSL_snoc (ks : List Nat) (k : Nat) : allSL (ks ++ [k]) = allSL ks ++ (allSL ks).map fun s => s ++ [k] := by
  unfold allSL; rw [List.foldl_append]; rfl
theorem allSL_range : ∀ n, allSL (List.range n) = allS n
  | 0 => rfl
  | n + 1 => by rw [range_one, allSL_snoc, allSL_range n, allS]
theorem allSL_len (ks : List Nat) : (allSL ks).length = 2 ^ ks.length := by
  have gen : ∀ (ks : List Nat) (acc : List (List Nat)), (ks.foldl (fun acc k => acc ++ acc.map fun s => s ++ [k]) acc).length = acc.length * 2 ^ ks.length := by
    intro ks
    induction ks with
    | nil => intro acc; simp
    | cons k t ih => intro acc; rw [List.foldl_cons, ih, List.length_append, List.length_map, List.length_cons, Nat.pow_succ, ← Nat.mul_two, Nat.mul_assoc, Nat.mul_comm 2]
  have := gen ks [[]]
  simpa [allSL] using this
theorem allSL_mem_len {ks : List Nat} : ∀ s ∈ allSL ks, s.length ≤ ks.length := by
  have gen : ∀ (ks : List Nat) (acc : List (List Nat)) (c : Nat), (∀ a ∈ acc, a.length ≤ c) → ∀ s ∈ ks.foldl (fun acc k => acc ++ acc.map fun s => s ++ [k]) acc, s.length ≤ c + ks.length := by
    intro ks
    induction ks with
    | nil => intro acc c h s hs; exact h s hs
    | cons k t ih =>
      intro acc c h s hs
      rw [List.foldl_cons] at hs
      have := ih _ (c + 1) (fun a ha => by
        rcases List.mem_append.mp ha with ha | ha
        · have := h a ha; omega
        · obtain ⟨u, hu, rfl⟩ := List.mem_map.mp ha
          have := h u hu
          rw [List.length_append, List.length_singleton]; omega) s hs
      rw [List.length_cons]; omega
  intro s hs
  have := gen ks [[]] 0 (fun a ha => by rw [List.mem_singleton.mp ha]; exact Nat.le_refl _) s hs
  omega
theorem rngD_intN (n : Nat) : rngD 0 n = (List.range n).map intN := by
  unfold rngD
  exact List.map_congr_left fun i _ => by rw [Nat.zero_add]
def f_allSome : FSp := fun args m R => ∃ ks : List Nat, args = [.d (.list (ks.map intN))] ∧ ks.length ≤ 8 ∧ R (.lt ((allSL ks).map kn)) m
def f_lawAllSomeT : FSp := fun args m R => ∃ n : Nat, args = [.d (.int (n : Int))] ∧ n ≤ 8 ∧ R (.lt ((allS n).map kn)) m
def f_every : FSp := fun args m R => ∃ ss : List Int, args = [.d (tupI ss)] ∧ ss.length ≤ 1000 ∧ R (.t (kn (List.range ss.length))) m
/-- the same, by their lengths -/
def ordS (n : Nat) : List (List Nat) := (allS n).mergeSort fun a b => decide ((a.length : Int) ≤ (b.length : Int))
theorem byLen_kn (n : Nat) : byLen ((allS n).map kn) = (ordS n).map kn := by
  unfold byLen ordS
  rw [List.map_mergeSort (s := fun a b : List Int => decide ((a.length : Int) ≤ (b.length : Int))) (fun a _ b _ => by simp)]
theorem ordS_perm (n : Nat) : (ordS n).Perm (allS n) := List.mergeSort_perm _ _
theorem ordS_sorted (n : Nat) : (ordS n).Pairwise fun a b => a.length ≤ b.length := by
  have h := List.pairwise_mergeSort (le := fun a b : List Nat => decide ((a.length : Int) ≤ (b.length : Int))) (fun a b c h1 h2 => by simp at *; omega) (fun a b => by simp; omega) (allS n)
  exact h.imp fun h => by simpa using h
theorem ordS_ahead {n i : Nat} {s o : List Nat} (hs : (ordS n)[i]? = some s) (ho : o ∈ allS n) (hl : o.length < s.length) : o ∈ (ordS n).take i := by
  have ho := (ordS_perm n).mem_iff.mpr ho
  obtain ⟨j, hj⟩ := List.getElem?_of_mem ho
  obtain ⟨hi1, hi2⟩ := List.getElem?_eq_some_iff.mp hs
  obtain ⟨hj1, hj2⟩ := List.getElem?_eq_some_iff.mp hj
  have hji : j < i := by
    rcases Nat.lt_trichotomy j i with h | h | h
    · exact h
    · subst h
      rw [hi2] at hj2
      rw [hj2] at hl
      omega
    · have := List.pairwise_iff_getElem.mp (ordS_sorted n) i j hi1 hj1 h
      rw [hi2, hj2] at this
      omega
  refine List.mem_of_getElem? (i := j) ?_
  rw [List.getElem?_take, if_pos hji]; exact hj
theorem allS_nodup : ∀ n : Fin 6, (allS n).Nodup := by decide +kernel
theorem ordS_nodup {n : Nat} (h : n ≤ 5) : (ordS n).Nodup := (ordS_perm n).nodup_iff.mpr (allS_nodup ⟨n, by omega⟩)
theorem allS_without : ∀ n : Fin 6, ∀ s ∈ allS n, ∀ k ∈ s, (s.filter fun x => !decide (x = k)) ∈ allS n := by decide +kernel
theorem allS_kinds {n : Nat} {s : List Nat} (h : s ∈ allS n) : Kinds n s := ⟨allSup n s h, fun k hk => (allS_mem n s h).2 k hk⟩
  where allSup : ∀ n, ∀ s ∈ allS n, s.Pairwise (· < ·)
  | 0, s, h => by
    have : s = [] := by simpa [allS] using h
    subst this; exact List.Pairwise.nil
  | n + 1, s, h => by
    rw [allS] at h
    rcases List.mem_append.mp h with h | h
    · exact allSup n s h
    · obtain ⟨t, ht, rfl⟩ := List.mem_map.mp h
      exact List.pairwise_append.mpr ⟨allSup n t ht, List.pairwise_singleton .., fun x hx y hy => by rw [List.mem_singleton.mp hy]; exact (allS_mem n t ht).2 x hx⟩
theorem allS_range : ∀ n : Fin 6, List.range n ∈ allS n := by decide +kernel
theorem allS_nil : ∀ n, [] ∈ allS n
  | 0 => by simp [allS]
  | n + 1 => by rw [allS]; exact List.mem_append_left _ (allS_nil n)
/-! tables -/
def tabT (f : List Nat → Rat) (l : List (List Nat)) : List (List Key × Val) := l.map fun s => (kI (kn s), .d (frac (f s)))
theorem getV_tab {f : List Nat → Rat} {s : List Nat} : ∀ {l : List (List Nat)}, s ∈ l → getV (tabT f l) (kI (kn s)) = some (.d (frac (f s)))
  | [], h => nomatch h
  | a :: l, h => by
    unfold tabT
    rw [List.map_cons]
    by_cases e : a = s
    · subst e
      simp [getV, List.find?_cons]
    · have e2 : ¬ kI (kn a) = kI (kn s) := fun z => e (kn_inj (kI_inj z))
      have h2 : s ∈ l := by
        rcases List.mem_cons.mp h with h | h
        · exact absurd h.symm e
        · exact h
      have := getV_tab (f := f) h2
      unfold tabT at this
      simp only [getV, List.find?_cons, e2, decide_false] at this ⊢
      exact this
theorem putV_tab {f : List Nat → Rat} {s : List Nat} {l : List (List Nat)} (h : s ∉ l) : putV (tabT f l) (kI (kn s)) (.d (frac (f s))) = tabT f (l ++ [s]) := by
  rw [putV_new]
  · unfold tabT
    rw [List.map_append]; rfl
  · intro p hp e
    obtain ⟨a, ha, rfl⟩ := List.mem_map.mp hp
    exact h (kn_inj (kI_inj e) ▸ ha)
theorem tab_len (f : List Nat → Rat) (l : List (List Nat)) : (tabT f l).length = l.length := List.length_map ..
def noNil (s : List Nat) : Bool := !decide (s = [])
def doneL (L : List (List Nat)) (i : Nat) : List (List Nat) := [] :: (L.take i).filter noNil
theorem doneL_step {L : List (List Nat)} {i : Nat} {s : List Nat} (h : L[i]? = some s) : doneL L (i + 1) = if s = [] then doneL L i else doneL L i ++ [s] := by
  unfold doneL
  rw [take_one h, List.filter_append]
  by_cases e : s = []
  · rw [if_pos e, List.filter_cons, if_neg (by simp [noNil, e])]; simp
  · rw [if_neg e, List.filter_cons, if_pos (by simp [noNil, e])]; rfl
theorem doneL_fresh {L : List (List Nat)} (hn : L.Nodup) {i : Nat} {s : List Nat} (h : L[i]? = some s) (h0 : s ≠ []) : s ∉ doneL L i := by
  intro hm
  rcases List.mem_cons.mp hm with e | hm
  · exact h0 e
  · have hm := (List.mem_filter.mp hm).1
    obtain ⟨j, hj⟩ := List.getElem?_of_mem hm
    rw [List.getElem?_take] at hj
    split at hj
    · rename_i hji
      obtain ⟨a1, a2⟩ := List.getElem?_eq_some_iff.mp hj
      obtain ⟨b1, b2⟩ := List.getElem?_eq_some_iff.mp h
      have := List.pairwise_iff_getElem.mp hn j i a1 b1 hji
      exact this (a2.trans b2.symm)
    · cases hj
theorem doneL_mem {L : List (List Nat)} {i : Nat} {o : List Nat} (h : o ∈ L.take i) : o ∈ doneL L i := by
  by_cases e : o = []
  · rw [e]; exact List.mem_cons_self ..
  · exact List.mem_cons_of_mem _ (List.mem_filter.mpr ⟨h, by simp [noNil, e]⟩)
theorem doneL_len (L : List (List Nat)) (i : Nat) : (doneL L i).length ≤ L.length + 1 := by
  unfold doneL
  rw [List.length_cons]
  have h1 := List.length_filter_le noNil (L.take i)
  rw [List.length_take] at h1
  omega
theorem doneL_all {L : List (List Nat)} {o : List Nat} (h : o ∈ L) : o ∈ doneL L L.length := doneL_mem (by rw [List.take_length]; exact h)
def f_dueNumber : FSp := fun args m R => ∃ (ss : List Int) (s : List Nat) (p : Addr) (kvs : List (List Key × Val)), args = [.d (tupI ss), .v (.ref p), .d (tupN s)] ∧ Shares ss ∧ Kinds ss.length s ∧ s ≠ [] ∧ Dat m p kvs ∧
  (∀ k ∈ s, getV kvs (kI (kn (s.filter fun x => !decide (x = k)))) = some (.d (frac (timeT ss (s.filter fun x => !decide (x = k)))))) ∧ R (.d (frac (timeT ss s))) m
def f_paperT : FSp := fun args m R => ∃ ss : List Int, args = [.d (tupI ss)] ∧ Shares ss ∧ ∀ p, m p = none → R (.v (.ref p)) (put m p (.dT (tabT (timeT ss) (doneL (ordS ss.length) (ordS ss.length).length))))
def f_meanAll : FSp := fun args m R => ∃ ss : List Int, args = [.d (tupI ss)] ∧ Shares ss ∧ R (.d (frac (timeT ss (List.range ss.length)))) m
def f_lawPaper : FSp := fun args m R => ∃ ss : List Int, args = [.d (tupI ss)] ∧ Shares ss ∧ ∀ p, m p = none → R (.v (.ref p)) (put m p (.dT (tabT (timeT ss) (doneL (allS ss.length) (allS ss.length).length))))
theorem allS_ahead : ∀ n : Fin 6, ∀ i : Fin 32, ∀ s, (allS n)[i.val]? = some s → ∀ k ∈ s, (s.filter fun x => !decide (x = k)) ∈ (allS n).take i.val := by
  have h : ∀ n : Fin 6, ∀ i : Fin 32, ((allS n)[i.val]?).all (fun s => s.all fun k => decide ((s.filter fun x => !decide (x = k)) ∈ (allS n).take i.val)) = true := by decide +kernel
  intro n i s hs k hk
  have h1 := h n i
  rw [hs] at h1
  exact of_decide_eq_true (List.all_eq_true.mp h1 k hk)
theorem eqv_nilT (ns : List Int) : PyData.eqv (tupI ns) (.tuple []) = decide (ns = []) := by
  cases ns with
  | nil => rfl
  | cons a t => simp [tupI, PyData.eqv, PyData.eqvAll]
def f_plusG : FSp := fun args m R => ∃ (t1 : Int) (b1 : Nat) (t2 : Int) (b2 : Nat), args = [.d (.tuple [.int t1, .int (b1 : Int)]), .d (.tuple [.int t2, .int (b2 : Int)])] ∧ 0 < b1 ∧ 0 < b2 ∧ Bt t1 3900 ∧ Bt (b1 : Int) 3900 ∧ Bt t2 3900 ∧ Bt (b2 : Int) 3900 ∧ R (.d (frac (mkRat t1 b1 + mkRat t2 b2))) m
theorem mk_self (q : Rat) : mkRat q.num q.den = q := Rat.mkRat_self q
theorem mk_mul (q : Rat) (a : Int) : mkRat (q.num * a) q.den = (a : Rat) * q := by
  rw [Rat.mkRat_eq_div, Rat.intCast_mul, Rat.mul_comm]
  have h := Rat.mkRat_self q
  rw [Rat.mkRat_eq_div] at h
  have : (a : Rat) * q = (a : Rat) * ((q.num : Rat) / (q.den : Rat)) := by rw [h]
  rw [this]
  have hn := nat_ne (den_pos q)
  generalize ((q.den : Nat) : Rat) = D at *
  grind
theorem mk_over (q : Rat) {n : Nat} (h : 0 < n) : mkRat q.num (q.den * n) = q * mkRat 1 n := by
  have h1 := Rat.mkRat_self q
  rw [Rat.mkRat_eq_div] at h1 ⊢
  rw [Rat.mkRat_eq_div]
  have hn := nat_ne (den_pos q)
  have hm := nat_ne h
  have e : q * (((1 : Int) : Rat) / ((n : Nat) : Rat)) = ((q.num : Rat) / (q.den : Rat)) * (((1 : Int) : Rat) / ((n : Nat) : Rat)) := by rw [h1]
  rw [e, Rat.natCast_mul]
  have e1 : ((1 : Int) : Rat) = 1 := rfl
  rw [e1]
  generalize ((q.den : Nat) : Rat) = D at *
  generalize ((n : Nat) : Rat) = N at *
  grind
end DL


namespace DL
open PySem L2 PyProof.Rows

section
variable {prog : Program} {w : World} {A : Around} {E : Value → Shared → Prop} {s : Shared}
/-- sorted of a tuple: what was collected stands in a heap of its own, the new list is laid behind it -/
theorem sorted_of_tup {l : Addr} {vs : List Value} {ltv : Value → Value → Bool} {Q : Value → Shared → Prop} (O : SrtO.Swo ltv) (hl : IsTup s.heap l vs.toArray) (hz : vs.length ≤ sizeLine)
    (hS : 2 ≤ vs.length → ∀ (h₁ : Heap) (a : Addr), SrtO.SortableO prog w A.in1.in1 { s with heap := h₁ } a vs ltv)
    (h : ∀ (h1 h2 : Heap) (out : List Value) (e : Nat), (∀ b o, s.heap.get? b = some o → h1.get? b = some o) → (∀ b o, h1.get? b = some o → h2.get? b = some o) → h2.get? h1.objs.size = some (seqObj "list" out.toArray e) →
      SrtO.Srtd ltv out → SrtO.Stb ltv out vs → Q (.ref h1.objs.size) { s with heap := h2 }) : wpAny (model prog w) A (call (.builtin "sorted") [.ref l]) Q E s := by
  obtain ⟨o, ho, hc, n, hd⟩ := hl
  apply Calls.call_function_entry kind_sorted plain_sorted entry_sorted (args_sorted1 _)
  unfold Builtin.«sorted»
  refine wpAny_bind (m := checkCount "sorted" 1 1 _) (wpAny_pure (wpAny_bind ?_))
  refine wpAny_collect_seq (T := "tuple") l (Or.inr rfl) ho hc hd (fun h1 hk => wpAny_bind (wpAny_newList ?_ (by rw [List.toList_toArray]; exact hz))) (by rw [List.size_toArray]; exact hz)
  have atL : (h1.push (seqObj "list" vs.toArray 0)).get? h1.objs.size = some (seqObj "list" vs.toArray 0) := Heap.get?_push_size _ rfl
  have sort := SrtO.list_sort_ord (prog := prog) (w := w) (A := A.in1.in1) (E := E) (s := { s with heap := h1.push (seqObj "list" vs.toArray 0) }) (R := fun fin s' => ∃ v, fin = .done (.ret v) ∧ Q (.ref h1.objs.size) s') O atL hz (fun h2 => hS h2 _ _) fun out hs hb => by
    obtain ⟨e, he⟩ := sortedHeap_at (out := out.toArray) atL
    refine ⟨_, rfl, h h1 _ out e hk (fun b ob hb1 => ?_) he hs hb⟩
    have hlt : b < h1.objs.size := Heap.lt_size hb1
    exact (sortedHeap_old (Nat.ne_of_lt hlt) (by rw [size_push']; exact Nat.lt_succ_of_lt hlt)).trans (Heap.get?_push_of_some _ hb1)
  exact wpAny_bind (wpAny_holding (wpAny_call_entry slot_list_sort ⟨_, atL, rfl⟩ entry_list_sort (wpAny_mono sort (fun fin s' hq => by
    obtain ⟨v, e1, e2⟩ := hq
    exact ⟨v, e1, wpAny_pure ⟨_, rfl, e2⟩⟩) fun _ _ e => e) (args_list_sort _)))
end
def rSortTup (K : PySem.W.Frag) : List V → Hp → VK → Prop := fun vs H Q => ∃ (a : Addr) (ns : List Int), vs = [V.ref a] ∧ SqT K H a (ns.map V.int) ∧
  ∀ (ns' : List Int) (p : Addr), ns'.Perm ns → ns'.Pairwise (· ≤ ·) → H p = none → Q (.ref p) (upd H p (.lst (ns'.map V.int)))
theorem cr_sortTup {X : Cx} : CallR X (.builtin "sorted") (rSortTup X.K) := by
  rintro pins s σ H vs us Q I r ⟨a, ns, rfl, hs, q⟩
  obtain ⟨its, rv, hl, hz⟩ := I.tuple hs
  rw [Vals.ref1 r]
  have hi := rv.ints
  rw [List.length_map] at hz
  have hil := rv.length
  rw [List.length_map] at hil
  refine sorted_of_tup SrtO.swo_int hl (by omega) (fun h2 _ _ => SrtO.ints_sortable hi h2) fun h1 h2 out e keep1 keep2 he h3 h4 => ?_
  obtain ⟨k1, k2, k3⟩ := SrtO.ints_out hi h3 h4
  have I1 := I.kept (h' := h1) (t' := s.toks) keep1
  have hfr := I1.hok.fresh (Nat.le_refl h1.objs.size)
  refine ⟨.ref h1.objs.size, _, I1.laid (t' := s.toks) (o := .lst ((out.map SrtO.iv).map V.int)) keep2 (Nat.le_refl _) ⟨?_, out, e, vals_of_ints k1, he⟩, rfl, q _ _ k2 k3 hfr⟩
  rw [List.length_map, k2.length_eq]
  exact hz
def rSortA (K : PySem.W.Frag) : List V → Hp → VK → Prop := fun vs H Q => rSortedI K vs H Q ∨ rSortTup K vs H Q
theorem kSorted {X : Cx} (K : PySem.W.Frag) (h : X.K = K := by rfl) : CallR X (.builtin "sorted") (rSortA K) := h ▸ (cr_sortedI.or cr_sortTup)
section
variable {K : PySem.W.Frag} {r : List Val} {m : Mm} {Q : Val → Mm → Prop}
theorem on_sortT {ns ns' : List Int} (hp : ns'.Perm ns) (hs : ns'.Pairwise (· ≤ ·)) (q : Q (.d (.list (ns'.map PyData.int))) m) : OpN K (rSortA K) [.d (tupI ns)] m Q := fun H G vs S a R k => by
  obtain ⟨v, rfl, h⟩ := vrs1 a
  obtain ⟨p, xs, rfl, h2, h3⟩ := rp_tuple.mp h.rp
  have hx := h3.ints
  subst hx
  refine Or.inr ⟨p, ns, rfl, S.sqT h2, fun n2 l hp2 hs2 hl => ?_⟩
  have e : n2 = ns' := (hp2.trans hp.symm).eq_of_pairwise (fun a b _ _ h1 h2 => Int.le_antisymm h1 h2) hs2 hs
  subst e
  have hg := S.free hl
  exact k _ _ (upd G l _) _ m q (S.fix hl) (Le.new hg) (.d (rp_list.mpr ⟨l, _, rfl, Rd.of upd_same, rpa_ints _⟩))
end
end DL


namespace DL
open PySem L2

def sgn (d : Nat) : Int := 1 - 2 * ((d : Int) % 2)
theorem sgn_succ (d : Nat) : sgn (d + 1) = - sgn d := by
  unfold sgn
  omega
def casesO (ss : List Int) (t : List Nat) (a : Int) (n : Nat) : Int := ((allSL t).map fun few => sgn (t.length - few.length) * (a + sumP ss few) ^ n).sum
def casesJ (ss : List Int) (t : List Nat) (n : Nat) : Int := ((allSL t).map fun few => sgn (t.length - few.length) * (sumP ss few) ^ n).sum
theorem casesJ_eq (ss : List Int) (t : List Nat) (n : Nat) : casesJ ss t n = casesO ss t 0 n := by
  unfold casesJ casesO
  congr 1
  exact List.map_congr_left fun few _ => by rw [Int.zero_add]
theorem sumP_snoc (ss : List Int) (t : List Nat) (k : Nat) : sumP ss (t ++ [k]) = sumP ss t + ss.getD k 0 := by
  unfold sumP
  rw [List.map_append, List.sum_append]; simp
theorem sum_map_sub {α : Type} (f g : α → Int) : ∀ l : List α, (l.map fun x => f x - g x).sum = (l.map f).sum - (l.map g).sum
  | [] => rfl
  | a :: l => by simp only [List.map_cons, List.sum_cons]; rw [sum_map_sub f g l]; omega
theorem sum_map_neg {α : Type} (f : α → Int) : ∀ l : List α, (l.map fun x => - f x).sum = - (l.map f).sum
  | [] => rfl
  | a :: l => by simp only [List.map_cons, List.sum_cons]; rw [sum_map_neg f l]; omega
theorem casesO_snoc (ss : List Int) (t : List Nat) (k : Nat) (a : Int) (n : Nat) : casesO ss (t ++ [k]) a n = casesO ss t (a + ss.getD k 0) n - casesO ss t a n := by
  unfold casesO
  rw [allSL_snoc, List.map_append, List.sum_append, List.map_map]
  have e1 : (allSL t).map (fun few => sgn ((t ++ [k]).length - few.length) * (a + sumP ss few) ^ n) = (allSL t).map fun few => - (sgn (t.length - few.length) * (a + sumP ss few) ^ n) := List.map_congr_left fun few hf => by
    have := allSL_mem_len few hf
    rw [List.length_append, List.length_singleton, show t.length + 1 - few.length = (t.length - few.length) + 1 by omega, sgn_succ, Int.neg_mul]
  have e2 : (allSL t).map ((fun few => sgn ((t ++ [k]).length - few.length) * (a + sumP ss few) ^ n) ∘ fun s => s ++ [k]) = (allSL t).map fun few => sgn (t.length - few.length) * (a + ss.getD k 0 + sumP ss few) ^ n := List.map_congr_left fun few hf => by
    show sgn ((t ++ [k]).length - (few ++ [k]).length) * (a + sumP ss (few ++ [k])) ^ n = _
    rw [List.length_append, List.length_append, sumP_snoc, List.length_singleton, show t.length + 1 - (few.length + 1) = t.length - few.length by omega, show a + (sumP ss few + ss.getD k 0) = a + ss.getD k 0 + sumP ss few by omega]
  rw [e1, e2, sum_map_neg]
  omega
theorem casesO_nil (ss : List Int) (a : Int) (n : Nat) : casesO ss [] a n = a ^ n := by
  simp [casesO, allSL, sgn, sumP]
def wo (t : List Nat) (k : Nat) : List Nat := t.filter fun x => !decide (x = k)
theorem wo_snoc {t : List Nat} {j k : Nat} (h : k ≠ j) : wo (t ++ [k]) j = wo t j ++ [k] := by
  unfold wo
  rw [List.filter_append, List.filter_cons, if_pos (by simp [h])]; rfl
theorem wo_last {t : List Nat} {k : Nat} (h : k ∉ t) : wo (t ++ [k]) k = t := by
  unfold wo
  rw [List.filter_append, List.filter_cons, if_neg (by simp), List.filter_eq_self.mpr fun x hx => by
    have : x ≠ k := fun e => h (e ▸ hx)
    simp [this]]
  simp
theorem casesO_rec (ss : List Int) : ∀ (r : List Nat), r.Nodup → ∀ (a : Int) (n : Nat),
    casesO ss r.reverse a (n + 1) = (a + sumP ss r.reverse) * casesO ss r.reverse a n + (r.reverse.map fun k => ss.getD k 0 * casesO ss (wo r.reverse k) a n).sum
  | [], _, a, n => by
    simp [casesO_nil, sumP, Int.pow_succ]
    rw [Int.mul_comm]
  | k :: r, nd, a, n => by
    obtain ⟨hk, nd⟩ := List.nodup_cons.mp nd
    have ih := casesO_rec ss r nd
    rw [List.reverse_cons]
    have hk2 : k ∉ r.reverse := fun h => hk (List.mem_reverse.mp h)
    generalize r.reverse = t at *
    rw [casesO_snoc, casesO_snoc, ih (a + ss.getD k 0) n, ih a n, sumP_snoc, List.map_append, List.sum_append]
    have e1 : t.map (fun j => ss.getD j 0 * casesO ss (wo (t ++ [k]) j) a n) = t.map fun j => ss.getD j 0 * casesO ss (wo t j) (a + ss.getD k 0) n - ss.getD j 0 * casesO ss (wo t j) a n := List.map_congr_left fun j hj => by
      have : k ≠ j := fun e => hk2 (e ▸ hj)
      rw [wo_snoc this, casesO_snoc, Int.mul_sub]
    rw [e1, sum_map_sub]
    simp only [List.map_cons, List.map_nil, List.sum_cons, List.sum_nil, wo_last hk2]
    generalize (t.map fun j => ss.getD j 0 * casesO ss (wo t j) (a + ss.getD k 0) n).sum = X
    generalize (t.map fun j => ss.getD j 0 * casesO ss (wo t j) a n).sum = Y
    generalize casesO ss t (a + ss.getD k 0) n = P
    generalize casesO ss t a n = R
    generalize sumP ss t = S
    generalize ss.getD k 0 = w
    grind
theorem casesJ_rec (ss : List Int) {t : List Nat} (h : t.Nodup) (n : Nat) : casesJ ss t (n + 1) = sumP ss t * casesJ ss t n + (t.map fun k => ss.getD k 0 * casesJ ss (wo t k) n).sum := by
  have := casesO_rec ss t.reverse (List.pairwise_reverse.mpr (h.imp fun h e => h e.symm)) 0 n
  rw [List.reverse_reverse] at this
  simp only [casesJ_eq]
  rw [this, Int.zero_add]
theorem casesO_zero (ss : List Int) : ∀ (r : List Nat) (a : Int), casesO ss r.reverse a 0 = if r = [] then 1 else 0
  | [], a => by simp [casesO_nil]
  | k :: r, a => by
    have h0 : ¬ (k :: r = []) := by simp
    rw [List.reverse_cons, casesO_snoc, casesO_zero ss r, casesO_zero ss r, Int.sub_self, if_neg h0]
theorem casesJ_zero (ss : List Int) (t : List Nat) : casesJ ss t 0 = if t = [] then 1 else 0 := by
  have := casesO_zero ss t.reverse 0
  rw [List.reverse_reverse] at this
  rw [casesJ_eq, this]
  simp
/-! bounds -/
theorem allSL_sub {ks : List Nat} : ∀ s ∈ allSL ks, s.Sublist ks := by
  have gen : ∀ (ks : List Nat) (acc : List (List Nat)), ∀ s ∈ ks.foldl (fun acc k => acc ++ acc.map fun s => s ++ [k]) acc, ∃ a ∈ acc, ∃ u, s = a ++ u ∧ u.Sublist ks := by
    intro ks
    induction ks with
    | nil => intro acc s hs; exact ⟨s, hs, [], by simp, List.Sublist.refl _⟩
    | cons k t ih =>
      intro acc s hs
      rw [List.foldl_cons] at hs
      obtain ⟨a, ha, u, rfl, hu⟩ := ih _ s hs
      rcases List.mem_append.mp ha with ha | ha
      · exact ⟨a, ha, u, rfl, hu.cons k⟩
      · obtain ⟨b, hb, rfl⟩ := List.mem_map.mp ha
        exact ⟨b, hb, k :: u, by simp, hu.cons_cons k⟩
  intro s hs
  obtain ⟨a, ha, u, rfl, hu⟩ := gen ks [[]] s hs
  rw [List.mem_singleton.mp ha]
  exact hu
theorem kinds_sub {n : Nat} {s t : List Nat} (h : Kinds n t) (hs : s.Sublist t) : Kinds n s := ⟨h.up.sublist hs, fun k hk => h.lt k (hs.subset hk)⟩
theorem natAbs_sum_le {α : Type} (f : α → Int) (B : Nat) : ∀ l : List α, (∀ x ∈ l, (f x).natAbs ≤ B) → ((l.map f).sum).natAbs ≤ l.length * B
  | [], _ => by simp
  | a :: l, h => by
    have h1 := h a (List.mem_cons_self ..)
    have h2 := natAbs_sum_le f B l fun x hx => h x (List.mem_cons_of_mem _ hx)
    simp only [List.map_cons, List.sum_cons, List.length_cons]
    have := Int.natAbs_add_le (f a) ((l.map f).sum)
    rw [Nat.succ_mul]
    omega
theorem pow_bt {x : Int} (h0 : 0 ≤ x) (h1 : x ≤ 45) {n : Nat} (hn : n ≤ 12) : Bt (x ^ n) 73 := by
  have hb : Bt x 6 := bt_lit (n := 6) (by show _ < 64; omega) (by decide)
  exact (hb.pow n).mono (by omega)
theorem sgn_bt (d : Nat) : Bt (sgn d) 1 := by
  show (sgn d).natAbs < 2
  unfold sgn; omega
theorem casesJ_bt {ss : List Int} (hs : Shares ss) {t : List Nat} (hk : Kinds ss.length t) {n : Nat} (hn : n ≤ 12) : Bt (casesJ ss t n) 80 := by
  have hl : (allSL t).length ≤ 32 := by
    rw [allSL_len]
    have h1 := hk.len
    have h2 := hs.few
    exact Nat.le_trans (Nat.pow_le_pow_right (by decide) (show t.length ≤ 5 by omega)) (by decide)
  have h := natAbs_sum_le (fun few => sgn (t.length - few.length) * (sumP ss few) ^ n) (2 ^ 74) (allSL t) fun few hf => by
    have hkf := kinds_sub hk (allSL_sub few hf)
    exact Nat.le_of_lt (Bt.mono ((sgn_bt _).mul (pow_bt (sumP_nonneg hs few) (sumP_le hs hkf) hn)) (by decide))
  refine Nat.lt_of_le_of_lt h (Nat.lt_of_le_of_lt (Nat.mul_le_mul_right _ hl) ?_)
  decide
/-! the turns -/
def insS (s : List Nat) (k : Nat) : List Nat := if k ∈ s then s else (s.filter fun x => decide (x < k)) ++ k :: s.filter fun x => decide (k < x)
theorem ins_all : ∀ n : Fin 6, ∀ s ∈ allS n, ∀ k : Fin 5, k.val < n.val → insS s k.val ∈ allS n ∧ (k.val ∉ s → (insS s k.val).isPerm (s ++ [k.val]) = true ∧ (insS s k.val).Pairwise (· ≤ ·)) := by decide +kernel
theorem ins_from : ∀ n : Fin 6, ∀ t ∈ allS n, ∀ k : Fin 5, k.val < n.val → (allS n).filter (fun s => decide (insS s k.val = t)) = if k.val ∈ t then [wo t k.val, t] else [] := by decide +kernel
def addF (G : List Nat → Int) (p : List Nat × Int) : List Nat → Int := fun u => if u = p.1 then G u + p.2 else G u
theorem addF_sum (u : List Nat) : ∀ (ps : List (List Nat × Int)) (G : List Nat → Int), (ps.foldl addF G) u = G u + (ps.map fun p => if u = p.1 then p.2 else 0).sum
  | [], G => by simp
  | p :: ps, G => by
    rw [List.foldl_cons, addF_sum u ps, List.map_cons, List.sum_cons]
    unfold addF
    split <;> omega
def rowP (ss : List Int) (F : List Nat → Int) (n : Nat) (s : List Nat) : List (List Nat × Int) := (List.range n).map fun k => (insS s k, F s * ss.getD k 0)
def turnP (ss : List Int) (F : List Nat → Int) (n : Nat) (l : List (List Nat)) : List (List Nat × Int) := (l.map (rowP ss F n)).flatten
theorem sum_flat {α : Type} (f : α → Int) : ∀ ls : List (List α), (ls.flatten.map f).sum = (ls.map fun l => (l.map f).sum).sum
  | [] => rfl
  | l :: ls => by rw [List.flatten_cons, List.map_append, List.sum_append, List.map_cons, List.sum_cons, sum_flat f ls]
theorem sum_swap {α β : Type} (f : α → β → Int) : ∀ (l : List α) (l2 : List β), (l.map fun a => (l2.map fun b => f a b).sum).sum = (l2.map fun b => (l.map fun a => f a b).sum).sum
  | [], l2 => by
    simp only [List.map_nil, List.sum_nil]
    induction l2 with
    | nil => rfl
    | cons b t ih => simp only [List.map_cons, List.sum_cons]; rw [← ih]; rfl
  | a :: l, l2 => by
    simp only [List.map_cons, List.sum_cons]
    rw [sum_swap f l l2]
    have gen : ∀ (g h : β → Int) (l2 : List β), (l2.map g).sum + (l2.map h).sum = (l2.map fun b => g b + h b).sum := by
      intro g h l2
      induction l2 with
      | nil => rfl
      | cons b t ih => simp only [List.map_cons, List.sum_cons]; rw [← ih]; omega
    exact gen _ _ l2
theorem sum_perm {l l' : List Int} (h : l.Perm l') : l.sum = l'.sum := by
  induction h with
  | nil => rfl
  | cons x _ ih => simp only [List.sum_cons, ih]
  | swap x y l => simp only [List.sum_cons]; omega
  | trans _ _ a b => exact a.trans b
theorem sum_ite_filter {α : Type} (p : α → Bool) (f : α → Int) : ∀ l : List α, (l.map fun x => if p x = true then f x else 0).sum = ((l.filter p).map f).sum
  | [] => rfl
  | a :: l => by
    rw [List.map_cons, List.sum_cons, sum_ite_filter p f l, List.filter_cons]
    cases h : p a with
    | true => simp
    | false => simp
/-- sums over those that are there are sums over all -/
theorem sum_support {A l : List (List Nat)} (hA : A.Nodup) (hl : l.Nodup) (hsub : ∀ s ∈ l, s ∈ A) (f : List Nat → Int) (h0 : ∀ s, s ∉ l → f s = 0) : (l.map f).sum = (A.map f).sum := by
  have e1 : (A.map f).sum = ((A.filter fun s => decide (s ∈ l)).map f).sum := by
    rw [← sum_ite_filter (fun s => decide (s ∈ l))]
    congr 1
    exact List.map_congr_left fun s _ => by
      by_cases h : s ∈ l
      · simp [h]
      · simp [h, h0 s h]
  rw [e1]
  refine sum_perm (List.Perm.map f ?_)
  refine (List.perm_ext_iff_of_nodup hl (hA.filter _)).mpr fun s => ?_
  rw [List.mem_filter]
  constructor
  · intro h; exact ⟨hsub s h, decide_eq_true h⟩
  · intro h; exact of_decide_eq_true h.2
theorem turn_eq {ss : List Int} (hs : Shares ss) {F : List Nat → Int} {l : List (List Nat)} (hl : l.Nodup) (hsub : ∀ s ∈ l, s ∈ allS ss.length) (h0 : ∀ s, s ∉ l → F s = 0) {t : List Nat} (ht : t ∈ allS ss.length) :
    ((turnP ss F ss.length l).foldl addF fun _ => 0) t = sumP ss t * F t + (t.map fun k => ss.getD k 0 * F (wo t k)).sum := by
  have hfew := hs.few
  have hkt := allS_kinds ht
  rw [addF_sum, Int.zero_add]
  unfold turnP
  rw [sum_flat, List.map_map]
  have e1 : l.map ((fun l => (l.map fun p => if t = p.1 then p.2 else 0).sum) ∘ rowP ss F ss.length) = l.map fun s => ((List.range ss.length).map fun k => if t = insS s k then F s * ss.getD k 0 else 0).sum := List.map_congr_left fun s _ => by
    show ((rowP ss F ss.length s).map _).sum = _
    unfold rowP
    rw [List.map_map]; rfl
  rw [e1, sum_support (allS_nodup ⟨ss.length, by omega⟩) hl hsub _ (fun s hs => by
    have hz := h0 s hs
    simp only [hz, Int.zero_mul, ite_self]
    induction List.range ss.length with
    | nil => rfl
    | cons a t ih => simp only [List.map_cons, List.sum_cons, ih]; rfl), sum_swap]
  have e2 : (List.range ss.length).map (fun k => ((allS ss.length).map fun s => if t = insS s k then F s * ss.getD k 0 else 0).sum) = (List.range ss.length).map fun k => if decide (k ∈ t) = true then ss.getD k 0 * F t + ss.getD k 0 * F (wo t k) else 0 := List.map_congr_left fun k hk => by
    have hk := List.mem_range.mp hk
    have e3 : (allS ss.length).map (fun s => if t = insS s k then F s * ss.getD k 0 else 0) = (allS ss.length).map fun s => if decide (insS s k = t) = true then F s * ss.getD k 0 else 0 := List.map_congr_left fun s _ => by
      by_cases h : t = insS s k
      · simp [h]
      · have : ¬ insS s k = t := fun e => h e.symm
        simp [h, this]
    rw [e3, sum_ite_filter (fun s => decide (insS s k = t)), ins_from ⟨ss.length, by omega⟩ t ht ⟨k, by omega⟩ hk]
    by_cases h : k ∈ t
    · simp only [h, if_true, decide_true, List.map_cons, List.map_nil, List.sum_cons, List.sum_nil]
      rw [Int.mul_comm (F (wo t k)), Int.mul_comm (F t)]; omega
    · simp only [h, if_false, decide_false]; rfl
  rw [e2, sum_ite_filter (fun k => decide (k ∈ t)), hkt.filter_eq]
  have e4 : ∀ l : List Nat, (l.map fun k => ss.getD k 0 * F t + ss.getD k 0 * F (wo t k)).sum = sumP ss l * F t + (l.map fun k => ss.getD k 0 * F (wo t k)).sum := by
    intro l
    induction l with
    | nil => simp [sumP]
    | cons a l ih => simp only [List.map_cons, List.sum_cons]; rw [ih, sumP_cons, Int.add_mul]; omega
  exact e4 t
/-! tables of whole numbers -/
def tabI (G : List Nat → Int) (l : List (List Nat)) : List (List Int × Val) := l.map fun s => (kn s, .d (.int (G s)))
def insL (l : List (List Nat)) (t : List Nat) : List (List Nat) := if t ∈ l then l else l ++ [t]
abbrev dI (kvs : List (List Int × Val)) : List (List Key × Val) := kvs.map fun kv => (kI kv.1, kv.2)
theorem getV_tabI {G : List Nat → Int} {l : List (List Nat)} (h0 : ∀ s, s ∉ l → G s = 0) (t : List Nat) : (getV (dI (tabI G l)) (kI (kn t))).getD (.d (.int 0)) = .d (.int (G t)) := by
  induction l with
  | nil => rw [h0 t (by simp)]; rfl
  | cons a l ih =>
    by_cases e : a = t
    · subst e
      simp [dI, tabI, getV, List.find?_cons]
    · have e2 : ¬ kI (kn a) = kI (kn t) := fun z => e (kn_inj (kI_inj z))
      have : getV (dI (tabI G (a :: l))) (kI (kn t)) = getV (dI (tabI G l)) (kI (kn t)) := by simp [dI, tabI, getV, List.find?_cons, e2]
      rw [this]
      by_cases hG : ∀ s, s ∉ l → G s = 0
      · exact ih hG
      · -- t itself
        by_cases ht : t ∈ l
        · have : ∀ (l : List (List Nat)), t ∈ l → getV (dI (tabI G l)) (kI (kn t)) = some (.d (.int (G t))) := by
            intro l
            induction l with
            | nil => intro h; cases h
            | cons b l ih2 =>
              intro h
              by_cases e3 : b = t
              · subst e3; simp [dI, tabI, getV, List.find?_cons]
              · have e4 : ¬ kI (kn b) = kI (kn t) := fun z => e3 (kn_inj (kI_inj z))
                have h5 : t ∈ l := by
                  rcases List.mem_cons.mp h with h | h
                  · exact absurd h.symm e3
                  · exact h
                have : getV (dI (tabI G (b :: l))) (kI (kn t)) = getV (dI (tabI G l)) (kI (kn t)) := by simp [dI, tabI, getV, List.find?_cons, e4]
                rw [this]; exact ih2 h5
          rw [this l ht]; rfl
        · have hz : G t = 0 := h0 t (by
            intro h
            rcases List.mem_cons.mp h with h | h
            · exact e h.symm
            · exact ht h)
          have : ∀ (l : List (List Nat)), t ∉ l → getV (dI (tabI G l)) (kI (kn t)) = none := by
            intro l
            induction l with
            | nil => intro _; rfl
            | cons b l ih2 =>
              intro h
              have e3 : b ≠ t := fun z => h (z ▸ List.mem_cons_self ..)
              have e4 : ¬ kI (kn b) = kI (kn t) := fun z => e3 (kn_inj (kI_inj z))
              have : getV (dI (tabI G (b :: l))) (kI (kn t)) = getV (dI (tabI G l)) (kI (kn t)) := by simp [dI, tabI, getV, List.find?_cons, e4]
              rw [this]; exact ih2 fun hm => h (List.mem_cons_of_mem _ hm)
          rw [this l ht, hz]; rfl
theorem getV_tabI_mem {G : List Nat → Int} {t : List Nat} : ∀ {l : List (List Nat)}, t ∈ l → getV (dI (tabI G l)) (kI (kn t)) = some (.d (.int (G t)))
  | [], h => nomatch h
  | b :: l, h => by
    by_cases e3 : b = t
    · subst e3; simp [dI, tabI, getV, List.find?_cons]
    · have e4 : ¬ kI (kn b) = kI (kn t) := fun z => e3 (kn_inj (kI_inj z))
      have h5 : t ∈ l := by
        rcases List.mem_cons.mp h with h | h
        · exact absurd h.symm e3
        · exact h
      have : getV (dI (tabI G (b :: l))) (kI (kn t)) = getV (dI (tabI G l)) (kI (kn t)) := by simp [dI, tabI, getV, List.find?_cons, e4]
      rw [this]; exact getV_tabI_mem h5
theorem putV_tabI {G : List Nat → Int} {l : List (List Nat)} (t : List Nat) (x : Int) : putV (dI (tabI G l)) (kI (kn t)) (.d (.int (G t + x))) = dI (tabI (addF G (t, x)) (insL l t)) := by
  unfold insL
  by_cases h : t ∈ l
  · rw [if_pos h]
    unfold putV
    have hany : ((dI (tabI G l)).any fun kv => decide (kv.1 = kI (kn t))) = true := List.any_eq_true.mpr ⟨(kI (kn t), Val.d (.int (G t))), List.mem_map.mpr ⟨(kn t, Val.d (.int (G t))), List.mem_map.mpr ⟨t, h, rfl⟩, rfl⟩, by simp⟩
    rw [if_pos hany]
    unfold dI tabI
    rw [List.map_map, List.map_map, List.map_map]
    refine List.map_congr_left fun s _ => ?_
    show (if kI (kn s) = kI (kn t) then (kI (kn s), Val.d (.int (G t + x))) else (kI (kn s), Val.d (.int (G s)))) = (kI (kn s), Val.d (.int (addF G (t, x) s)))
    by_cases e : s = t
    · subst e; simp [addF]
    · have e2 : ¬ kI (kn s) = kI (kn t) := fun z => e (kn_inj (kI_inj z))
      simp [addF, e, e2]
  · rw [if_neg h, putV_new]
    · unfold dI tabI
      rw [List.map_append, List.map_append]
      have e1 : l.map (fun s => (kn s, Val.d (.int (addF G (t, x) s)))) = l.map fun s => (kn s, Val.d (.int (G s))) := List.map_congr_left fun s hs => by
        have : s ≠ t := fun e => h (e ▸ hs)
        simp [addF, this]
      rw [e1]
      simp [addF]
    · intro p hp e
      obtain ⟨q, hq, rfl⟩ := List.mem_map.mp hp
      obtain ⟨s, hs, rfl⟩ := List.mem_map.mp hq
      exact h (kn_inj (kI_inj e) ▸ hs)
structure TabOk (n : Nat) (G : List Nat → Int) (l : List (List Nat)) : Prop where
  nd : l.Nodup
  sub : ∀ s ∈ l, s ∈ allS n
  off : ∀ s, s ∉ l → G s = 0
theorem TabOk.add {n : Nat} {G : List Nat → Int} {l : List (List Nat)} (h : TabOk n G l) {t : List Nat} (ht : t ∈ allS n) (x : Int) : TabOk n (addF G (t, x)) (insL l t) := by
  unfold insL
  by_cases hm : t ∈ l
  · rw [if_pos hm]
    refine ⟨h.nd, h.sub, fun s hs => ?_⟩
    have : s ≠ t := fun e => hs (e ▸ hm)
    simp [addF, this, h.off s hs]
  · rw [if_neg hm]
    refine ⟨List.nodup_append.mpr ⟨h.nd, List.pairwise_singleton .., fun a ha b hb => by rw [List.mem_singleton.mp hb]; exact fun e => hm (e ▸ ha)⟩, fun s hs => ?_, fun s hs => ?_⟩
    · rcases List.mem_append.mp hs with hs | hs
      · exact h.sub s hs
      · rw [List.mem_singleton.mp hs]; exact ht
    · have h1 : s ∉ l := fun z => hs (List.mem_append_left _ z)
      have h2 : s ≠ t := fun e => hs (List.mem_append_right _ (by rw [e]; simp))
      simp [addF, h2, h.off s h1]
theorem TabOk.len {n : Nat} {G : List Nat → Int} {l : List (List Nat)} (h : TabOk n G l) (hn : n ≤ 5) : l.length ≤ 32 := by
  have h1 : l.Perm ((allS n).filter fun s => decide (s ∈ l)) := (List.perm_ext_iff_of_nodup h.nd ((allS_nodup ⟨n, by omega⟩).filter _)).mpr fun s => by
    rw [List.mem_filter]
    constructor
    · intro z; exact ⟨h.sub s z, decide_eq_true z⟩
    · intro z; exact of_decide_eq_true z.2
  have h2 := h1.length_eq
  have h3 := List.length_filter_le (fun s => decide (s ∈ l)) (allS n)
  have h4 := allS_len n
  have h5 : 2 ^ n ≤ 2 ^ 5 := Nat.pow_le_pow_right (by decide) hn
  omega
/-! words -/
def GJ (ss : List Int) (n : Nat) : List Nat → Int := fun s => if s ∈ allS ss.length then casesJ ss s n else 0
theorem GJ_next {ss : List Int} (hs : Shares ss) {n : Nat} {l : List (List Nat)} (h : TabOk ss.length (GJ ss n) l) {G : List Nat → Int} {l' : List (List Nat)} (h' : TabOk ss.length G l')
    (e : G = (turnP ss (GJ ss n) ss.length l).foldl addF fun _ => 0) : G = GJ ss (n + 1) := by
  have hfew := hs.few
  funext t
  by_cases ht : t ∈ allS ss.length
  · rw [e, turn_eq hs h.nd h.sub h.off ht]
    have hkt := allS_kinds ht
    unfold GJ
    rw [if_pos ht, if_pos ht, casesJ_rec ss (hkt.up.imp fun h => Nat.ne_of_lt h)]
    congr 2
    exact List.map_congr_left fun k hk => by
      have hw : wo t k ∈ allS ss.length := allS_without ⟨ss.length, by omega⟩ t ht k hk
      rw [if_pos hw]
  · have : t ∉ l' := fun z => ht (h'.sub t z)
    rw [h'.off t this]
    unfold GJ
    rw [if_neg ht]
theorem GJ_bt {ss : List Int} (hs : Shares ss) {n : Nat} (hn : n ≤ 12) (s : List Nat) : Bt (GJ ss n s) 80 := by
  unfold GJ
  split
  · rename_i h; exact casesJ_bt hs (allS_kinds h) hn
  · exact bt_lit (n := 1) (by decide) (by decide)
theorem GJ_zero (ss : List Int) : TabOk ss.length (GJ ss 0) [[]] := by
  refine ⟨List.pairwise_singleton .., fun s h => by rw [List.mem_singleton.mp h]; exact allS_nil _, fun s h => ?_⟩
  unfold GJ
  split
  · rw [casesJ_zero, if_neg (fun e => h (by rw [e]; simp))]
  · rfl
def f_allSomeU : FSp := fun args m R => ∃ ks : List Nat, args = [.d (tupN ks)] ∧ ks.length ≤ 8 ∧ R (.lt ((allSL ks).map kn)) m
def f_casesOf : FSp := fun args m R => ∃ (ss : List Int) (s : List Nat) (n : Nat) (x : Val), args = [.d (tupI ss), x, .d (.int (n : Int))] ∧ (x = .d (tupN s) ∨ x = .t (kn s)) ∧ Shares ss ∧ Kinds ss.length s ∧ n ≤ 12 ∧ R (.d (.int (casesJ ss s n))) m
def f_justCases : FSp := fun args m R => ∃ (ss : List Int) (s : List Nat) (n : Nat), args = [.d (tupI ss), .d (tupN s), .d (.int (n : Int))] ∧ Shares ss ∧ Kinds ss.length s ∧ n ≤ 12 ∧ R (.d (.int (casesJ ss s n))) m
def f_shareBy : FSp := fun args m R => ∃ (ss : List Int) (n : Nat), args = [.d (tupI ss), .d (.int (n : Int))] ∧ Shares ss ∧ n ≤ 12 ∧ R (.d (frac (mkRat (casesJ ss (List.range ss.length) n) (ss.sum.toNat ^ n)))) m
def f_lawCases : FSp := fun args m R => ∃ (ss : List Int) (n : Nat), args = [.d (tupI ss), .d (.int (n : Int))] ∧ Shares ss ∧ n ≤ 12 ∧ ∀ p l, m p = none → TabOk ss.length (GJ ss n) l → R (.v (.ref p)) (put m p (.dT (dI (tabI (GJ ss n) l))))
def f_lawAllCases : FSp := fun args m R => ∃ (ss : List Int) (n : Nat), args = [.d (tupI ss), .d (.int (n : Int))] ∧ Shares ss ∧ n ≤ 12 ∧ R (.d (.int (ss.sum ^ n))) m
section
variable {K : PySem.W.Frag} {r : List Val} {m : Mm} {N : List Val → Mm → Prop} {E : Val → Mm → Prop} {t : TS}
theorem w_t2d {i : Nat} {ns : List Int} (hi : r[i]? = some (.t ns)) (h : Wp K t (r.set i (.d (tupI ns))) m N E) : Wp K t r m N E := fun σ H G D S L a b => by
  obtain ⟨v, hv, hr⟩ := L.get hi (fun z => nomatch z)
  have L2 := L.set (r := .d (tupI ns)) (t_d hr) i
  have e : σ.set i (some v) = σ := by
    refine List.ext_getElem? fun k => ?_
    by_cases hk : k = i
    · subst hk
      rw [List.getElem?_set_self (List.getElem?_eq_some_iff.mp hv).1, hv]
    · rw [List.getElem?_set_ne (Ne.symm hk)]
  rw [e] at L2
  exact h σ H G D S L2 a b
/-- less told of what may change -/
theorem w_less {m' : Mm} (hl : ∀ a o, m' a = some o → m a = some o) (h : Wp K t r m' N E) : Wp K t r m N E := fun σ H G D S L a b => h σ H G D (S.less hl) L a b
end
theorem pow_pos' {b n : Nat} (h : 0 < b) : 0 < b ^ n := Nat.pow_pos h
theorem tot_pow {ss : List Int} (hs : Shares ss) (n : Nat) : ss.sum ^ n = ((ss.sum.toNat ^ n : Nat) : Int) := by
  have := shares_sum hs
  have e : ss.sum = ((ss.sum.toNat : Nat) : Int) := by omega
  rw [Int.natCast_pow, ← e]
end DL


namespace DL
open PySem L2

section
variable {K : PySem.W.Frag} {r : List Val} {m : Mm} {Q : Val → Mm → Prop} {te td : TE} {tt : TT}
/-- [e for k in a dict] -/
theorem ev_lcD {j : Nat} {p : Addr} {kvs : List (List Int × Val)} (hm : m p = some (.dT (dI kvs)))
    (htd : ∀ m', Ev K td r m' fun x m1 => x = .v (.ref p) ∧ m1 = m') (hn : kvs.length ≤ 100000) (g : List Int × Val → PyData)
    (hs : ∀ (kv : List Int × Val) m', kv ∈ kvs → Dat m' p (dI kvs) → (∀ a o, a ≠ p → m a = some o → m' a = some o) → Ev K te (r.set j (.t kv.1)) m' fun x m3 => x = .d (g kv) ∧ m3 = m')
    (q : Q (.d (.list (kvs.map g))) m) : Ev K (tLockE (tLc (iKeys td) (gName j) tYes te [j])) r m Q := fun σ H G S L R k => by
  obtain ⟨es, g1, g2⟩ := S.mem p _ hm
  have hlen : es.length = kvs.length := by rw [g2.len]; show (kvs.map _).length = _; rw [List.length_map]
  have keyAt : ∀ (i : Nat) (k : List Key) (v : V), es[i]? = some (k, v) → ∃ kz, kvs[i]? = some kz ∧ k = kI kz.1 := by
    have aux : ∀ (kk : List (List Key × Val)) (es : List (List Key × V)) (i : Nat) (k : List Key) (v : V), KVs K G kk es → es[i]? = some (k, v) → ∃ z, kk[i]? = some (k, z) := by
      intro kk
      induction kk with
      | nil => intro es i k v h e; have h : es = [] := h; subst h; simp at e
      | cons p t ih =>
        intro es i k v h e
        obtain ⟨k0, r0⟩ := p
        obtain ⟨v0, u, rfl, _, h3⟩ := h
        cases i with
        | zero => simp at e; exact ⟨r0, by simp [e.1]⟩
        | succ i => simpa using ih u i k v h3 (by simpa using e)
    intro i k v he
    obtain ⟨z, hz⟩ := aux (dI kvs) es i k v g2 he
    unfold dI at hz
    rw [List.getElem?_map] at hz
    cases hx : kvs[i]? with
    | none => rw [hx] at hz; cases hz
    | some kz => rw [hx] at hz; cases hz; exact ⟨kz, rfl, rfl⟩
  refine ⟨p, .dT es, g1, trivial, fun od => ?_⟩
  have S1 : Sta K (put m p (.lk od es (dI kvs))) (upd H p (.frz od (.dT es))) G := S.chg hm ⟨upd_same, g2⟩
  refine htd _ σ _ G S1 L _ fun v H1 G1 x m1 ⟨hx, hm1⟩ S2 e1 r1 => ?_
  subst hx hm1
  have r1 := r1.eq
  subst r1
  obtain ⟨g3, g4⟩ := S2.mem p _ put_same
  refine ⟨p, od, rfl, Or.inr ⟨es, g3, fun D hD => ?_⟩⟩
  have hmD := S2.freeM hD
  have hpD : p ≠ D := ne_of_get (m := put m p (.lk od es (dI kvs))) put_same hmD
  refine lc_it (walk_keysT (kvs := es)) (LcW K (put m p (.lk od es (dI kvs))) G1 D (fun i acc => acc = (kvs.take i).map g)) (lc_start S2 hD (by simp)) ?_ ?_ ?_
  · rintro i H' hi ⟨G', acc, _, _, S', e'⟩
    exact (S'.mem p (.lk od es (dI kvs)) (by rw [put_ne hpD]; exact put_same)).1
  · rintro i y H' H2 hi hP ⟨rfl, ky, v, qa, hk, rfl, hq⟩
    obtain ⟨kz, hkz, rfl⟩ := keyAt i ky v hk
    rw [kI_kV] at hq
    have hkm := List.mem_of_getElem? hkz
    obtain ⟨G', acc, hw, hl, S', e'⟩ := hP
    obtain ⟨S3, e3⟩ := S'.adopt hq
    refine ⟨wipe1 σ j _, ?_⟩
    show te _ H2 _
    have hsl : Sl K (upd G' qa (.tup (kz.1.map V.int))) (r.set j (.t kz.1)) ((wipe σ [j]).set j (some (.ref qa))) := by
      have := (L.mono (e1.trans (e'.trans e3))).set (r := .t kz.1) (.t upd_same) j
      show Sl K _ (r.set j (.t kz.1)) ((σ.set j none).set j (some (.ref qa)))
      rw [List.set_set]
      exact this
    have hmD0 : m D = none := by rw [put_ne hpD.symm] at hmD; exact hmD
    refine hs kz _ hkm (Or.inr ⟨od, es, by rw [put_ne hpD]; exact put_same⟩) (fun a o ha ho => by rw [put_ne (ne_of_get ho hmD0), put_ne ha]; exact ho) _ H2 _ S3 hsl _ fun v4 H4 G4 x m4 ⟨hx4, hm4⟩ S4 l4 r4 => ?_
    subst hx4 hm4
    obtain ⟨xs, b1, b2⟩ := S4.mem D _ put_same
    have hlen4 := b2.length
    rw [List.length_map] at hlen4
    refine ⟨xs, b1, Nat.lt_of_lt_of_le (show xs.length < 100000 by omega) (by decide), G4, acc ++ [g kz], by show acc ++ [g kz] = (kvs.take (i + 1)).map g; rw [hw, take_one hkz, List.map_append]; rfl, by rw [List.length_append]; show acc.length + 1 ≤ i + 1; omega, ?_, e'.trans (e3.trans l4)⟩
    have S5 := S4.chg (u := .lst ((acc ++ [g kz]).map Val.d)) (o := .lst (xs ++ [v4])) put_same ⟨_, upd_same, by
      rw [List.map_append]
      exact b2.append ⟨v4, [], rfl, r4, rfl⟩⟩
    rw [put_put] at S5
    exact S5
  · intro H' hP
    rw [hlen] at hP
    obtain ⟨G', acc, hw, hl, S', e'⟩ := hP
    obtain ⟨xs, b1, b2⟩ := S'.mem D _ put_same
    have hg := S'.dis D _ put_same
    have S3 := S'.freeze put_same b1
    rw [del_put hmD] at S3
    obtain ⟨b3, b4⟩ := S3.mem p _ put_same
    have S4 := S3.chg (u := .dT (dI kvs)) (o := .dT es) put_same ⟨es, upd_same, b4⟩
    have em : put (put m p (.lk od es (dI kvs))) p (.dT (dI kvs)) = m := by
      rw [put_put]
      funext c
      unfold put
      by_cases hc : c = p
      · rw [if_pos hc, hc, hm]
      · rw [if_neg hc]
    rw [em] at S4
    refine ⟨b3, k _ _ _ _ m ?_ S4 (e1.trans (e'.trans (Le.new hg))) (.d (rp_list.mpr ⟨D, xs, rfl, Rd.of upd_same, RpAll.mono (Le.new hg) acc xs b2.toAll⟩))⟩
    have hw : acc = (kvs.take kvs.length).map g := hw
    rw [hw, List.take_length]
    exact q
end
/-! all together -/
theorem cases_sum_rev (ss : List Int) (n : Nat) : ∀ (r : List Nat) (a : Int), ((allSL r.reverse).map fun s => casesO ss s a n).sum = (a + sumP ss r.reverse) ^ n
  | [], a => by simp [allSL, casesO_nil, sumP]
  | k :: r, a => by
    rw [List.reverse_cons, allSL_snoc, List.map_append, List.sum_append, List.map_map]
    have e : (allSL r.reverse).map ((fun s => casesO ss s a n) ∘ fun s => s ++ [k]) = (allSL r.reverse).map fun s => casesO ss s (a + ss.getD k 0) n - casesO ss s a n := List.map_congr_left fun s _ => casesO_snoc ss s k a n
    rw [e, sum_map_sub, cases_sum_rev ss n r (a + ss.getD k 0), sumP_snoc]
    rw [show a + (sumP ss r.reverse + ss.getD k 0) = a + ss.getD k 0 + sumP ss r.reverse by omega]
    omega
theorem cases_sum (ss : List Int) (A : List Nat) (n : Nat) : ((allSL A).map fun s => casesJ ss s n).sum = (sumP ss A) ^ n := by
  have := cases_sum_rev ss n A.reverse 0
  rw [List.reverse_reverse, Int.zero_add] at this
  rw [← this]
  congr 1
  exact List.map_congr_left fun s _ => casesJ_eq ss s n
theorem without_all : ∀ n : Fin 6, ∀ k : Fin 5, k.val < n.val → (allS n).filter (fun s => !decide (k.val ∈ s)) = allSL (wo (List.range n) k.val) := by decide +kernel
theorem sumP_wo {ss : List Int} {k : Nat} (hk : k < ss.length) : sumP ss (wo (List.range ss.length) k) = ss.sum - ss.getD k 0 := by
  have h := sumP_split ss (fun x => !decide (x = k)) (List.range ss.length)
  rw [sumP_range] at h
  have e : (List.range ss.length).filter (fun x => !!decide (x = k)) = [k] := by
    have h1 : Kinds ss.length [k] := ⟨List.pairwise_singleton .., fun x hx => by rw [List.mem_singleton.mp hx]; exact hk⟩
    have h2 := h1.filter_eq
    rw [← h2]
    exact List.filter_congr fun x _ => by simp
  rw [e] at h
  have e2 : sumP ss [k] = ss.getD k 0 := by simp [sumP]
  unfold wo
  omega
theorem lack_count {n : Nat} {s : List Nat} (h : Kinds n s) : (n : Int) - (s.length : Int) = ((List.range n).map fun k => if (!decide (k ∈ s)) = true then (1 : Int) else 0).sum := by
  rw [sum_ite_filter (fun k => !decide (k ∈ s))]
  have h1 : ∀ l : List Nat, (l.map fun _ => (1 : Int)).sum = (l.length : Int) := by
    intro l
    induction l with
    | nil => rfl
    | cons a l ih => simp only [List.map_cons, List.sum_cons, ih, List.length_cons]; omega
  rw [h1]
  have h2 : ∀ l : List Nat, (l.filter fun k => decide (k ∈ s)).length + (l.filter fun k => !decide (k ∈ s)).length = l.length := by
    intro l
    induction l with
    | nil => rfl
    | cons a l ih =>
      rw [List.filter_cons, List.filter_cons]
      by_cases h : a ∈ s
      · simp only [h, decide_true, if_true, Bool.not_true, List.length_cons]; simp; omega
      · simp only [h, decide_false, Bool.not_false, if_true, List.length_cons]; simp; omega
  have h3 := h2 (List.range n)
  rw [h.filter_eq, List.length_range] at h3
  omega
/-- the lacking, told by the sets -/
theorem lack_eq {ss : List Int} (hs : Shares ss) {n : Nat} {l : List (List Nat)} (hT : TabOk ss.length (GJ ss n) l) :
    (l.map fun s => GJ ss n s * ((ss.length : Int) - (s.length : Int))).sum = ((List.range ss.length).map fun k => (ss.sum - ss.getD k 0) ^ n).sum := by
  have hfew := hs.few
  rw [sum_support (allS_nodup ⟨ss.length, by omega⟩) hT.nd hT.sub (fun s => GJ ss n s * ((ss.length : Int) - (s.length : Int))) (fun s h => by rw [hT.off s h, Int.zero_mul])]
  have e1 : (allS ss.length).map (fun s => GJ ss n s * ((ss.length : Int) - (s.length : Int))) = (allS ss.length).map fun s => ((List.range ss.length).map fun k => if (!decide (k ∈ s)) = true then casesJ ss s n else 0).sum := List.map_congr_left fun s hsa => by
    have hg : GJ ss n s = casesJ ss s n := if_pos hsa
    rw [hg, lack_count (allS_kinds hsa)]
    have gen : ∀ (c : Int) (l : List Nat), c * (l.map fun k => if (!decide (k ∈ s)) = true then (1 : Int) else 0).sum = (l.map fun k => if (!decide (k ∈ s)) = true then c else 0).sum := by
      intro c l
      induction l with
      | nil => simp
      | cons a l ih =>
        simp only [List.map_cons, List.sum_cons]
        rw [Int.mul_add, ih]
        split <;> simp
    exact gen _ _
  rw [e1, sum_swap]
  congr 1
  refine List.map_congr_left fun k hk => ?_
  have hk := List.mem_range.mp hk
  rw [sum_ite_filter (fun s => !decide (k ∈ s)), without_all ⟨ss.length, by omega⟩ ⟨k, by omega⟩ hk, cases_sum, sumP_wo hk]
theorem last_eq {ss : List Int} (hs : Shares ss) (n : Nat) : casesJ ss (List.range ss.length) (n + 1) = ss.sum * casesJ ss (List.range ss.length) n + ((List.range ss.length).map fun k => casesJ ss (wo (List.range ss.length) k) n * ss.getD k 0).sum := by
  rw [casesJ_rec ss List.nodup_range, sumP_range]
  congr 2
  exact List.map_congr_left fun k _ => Int.mul_comm _ _
theorem last_frac {a b c : Int} {t n : Nat} (ht : 0 < t) (h : a = (t : Int) * b + c) : mkRat a (t ^ (n + 1)) + -(mkRat b (t ^ n)) = mkRat c (t ^ (n + 1)) := by
  rw [Rat.mkRat_eq_div, Rat.mkRat_eq_div, Rat.mkRat_eq_div, h, Rat.intCast_add, Rat.intCast_mul, Rat.intCast_natCast, Nat.pow_succ, Rat.natCast_mul]
  have h1 := nat_ne ht
  have h2 := nat_ne (Nat.pow_pos (n := n) ht)
  generalize ((t : Nat) : Rat) = T at *
  generalize ((t ^ n : Nat) : Rat) = P at *
  generalize ((b : Int) : Rat) = B at *
  generalize ((c : Int) : Rat) = C at *
  grind
def f_lastShare : FSp := fun args m R => ∃ (ss : List Int) (n : Nat), args = [.d (tupI ss), .d (.int (n : Int))] ∧ Shares ss ∧ n ≤ 12 ∧ R (.d (frac (if n = 0 then 0 else mkRat ((List.range ss.length).map fun k => casesJ ss (wo (List.range ss.length) k) (n - 1) * ss.getD k 0).sum (ss.sum.toNat ^ n)))) m
def f_lacking : FSp := fun args m R => ∃ (ss : List Int) (n : Nat), args = [.d (tupI ss), .d (.int (n : Int))] ∧ Shares ss ∧ n ≤ 12 ∧ R (.d (frac (mkRat ((List.range ss.length).map fun k => (ss.sum - ss.getD k 0) ^ n).sum (ss.sum.toNat ^ n)))) m
theorem mk_add {a b : Int} {t : Nat} (h : 0 < t) : mkRat a t + mkRat b t = mkRat (a + b) t := by
  rw [Rat.mkRat_eq_div, Rat.mkRat_eq_div, Rat.mkRat_eq_div, Rat.intCast_add]
  have h1 := nat_ne h
  generalize ((t : Nat) : Rat) = T at *
  grind
theorem getD_map_range (ss : List Int) : (List.range ss.length).map (fun k => ss.getD k 0) = ss := by
  refine List.ext_getElem (by simp) fun i h1 h2 => ?_
  rw [List.getElem_map, List.getElem_range, List.getD_eq_getElem?_getD, List.getElem?_eq_getElem h2]; rfl
end DL


namespace DL
open PySem L2

/-- what is walked is a list, or it is a tuple -/
def iSeq (K : PySem.W.Frag) (tl : TE) : TI := fun σ H R => iList K tl σ H R ∨ iTup K tl σ H R
theorem pi_either {X : Cx} {tg l : Expr} {w1 w2 : TI} (a : PI X tg l w1) (b : PI X tg l w2) : PI X tg l (fun σ H R => w1 σ H R ∨ w2 σ H R) :=
  ⟨fun pins s σ H R I h => h.elim (fun h => a.run pins s σ H R I h) (fun h => b.run pins s σ H R I h)⟩
theorem kiA {X : Cx} (K : PySem.W.Frag) {tg l : Expr} {tl : TE} (hl : PE X l tl) (h : X.K = K := by rfl) : PI X tg l (iSeq K tl) := h ▸ pi_either (pi_list hl) (pi_tup hl)
section
variable {K : PySem.W.Frag} {r : List Val} {m : Mm} {N : List Val → Mm → Prop} {E : Val → Mm → Prop} {t : TS} {tl : TE} {j : Nat} {α : Type} {xs : List α} {f : α → PyData}
theorem w_forS (h : Ev K tl r m (fun x m1 => x = .d (.list (xs.map f)) ∧ m1 = m) ∨ Ev K tl r m (fun x m1 => x = .d (.tuple (xs.map f)) ∧ m1 = m)) (W : Nat → List Val → Mm → Prop) (h0 : W 0 r m)
    (hs : ∀ (i : Nat) (x : α) r' m', xs[i]? = some x → W i r' m' → Wp K t (r'.set j (.d (f x))) m' (W (i + 1)) E) (hd : ∀ r' m', W xs.length r' m' → N r' m') : Wp K (tFor (iSeq K tl) (gName j) t) r m N E := fun σ H G D S L a b => by
  rcases h with h | h
  · exact Or.inl (w_forLf h W h0 hs hd σ H G D S L a b)
  · exact Or.inr (w_forTf h W h0 hs hd σ H G D S L a b)
end
def f_allSomeB : FSp := fun args m R => ∃ (ks : List Nat) (x : Val), args = [x] ∧ (x = .d (.list (ks.map intN)) ∨ x = .d (tupN ks)) ∧ ks.length ≤ 8 ∧ R (.lt ((allSL ks).map kn)) m
end DL


namespace DL
open PySem L2

def f_box2 : FSp := fun args m R => ∃ (ns : List Int) (k : Nat), args = [.scr ns, .d (.int (k : Int))] ∧ k ≤ 1000 ∧ ∀ p, m p = none → R (.v (.ref p)) (put m p .box)
def f_shares2 : FSp := fun args m R => ∃ (p : Addr) (a : Int), args = [.v (.ref p), .d (.int a)] ∧ m p = some .box ∧ 1 ≤ a ∧ a ≤ 5 ∧ ∀ ss : List Int, Shares ss → (ss.length : Int) ≤ a → R (.d (tupI ss)) m
def f_timesG : FSp := fun args m R => ∃ (q : Rat) (t : Int) (b : Nat), args = [.d (frac q), .d (.int t), .d (.int (b : Int))] ∧ 0 < b ∧ FrB q 3900 ∧ Bt t 3900 ∧ Bt (b : Int) 3900 ∧ R (.d (frac (q * mkRat t b))) m
theorem mk_times (q : Rat) (t : Int) {b : Nat} (hb : 0 < b) : mkRat (q.num * t) (q.den * b) = q * mkRat t b := by
  have h := Rat.mkRat_mul_mkRat q.num t q.den b
  rw [Rat.mkRat_self] at h
  exact h.symm
end DL

/-! enumerate over a tuple -/
namespace DL
open PySem L2

def etObj (i : Addr) : Obj := { cls := .type "enumerate", data := .fields #[.none, .bool false, .ref i, rawInt 0, .none, .none] }
def etIt (t : Addr) : Obj := { cls := .type "tuple_iterator", data := .fields #[.ref t, .int 0 0] }
theorem et_new (t : Addr) (its : Array Value) : Meets (Builtin.«enumerate.__new__» ⟨[.type "enumerate", .ref t], []⟩) (fun _ R s =>
    s.heap.IsTuple t its ∧ R (.ok (.ret (.ref (s.heap.push (etIt t)).objs.size))) { s with heap := (s.heap.push (etIt t)).push (etObj s.heap.objs.size) }) :=
  .of_wp fun prog w A R s hh => by
    obtain ⟨hT, fin⟩ := hh
    obtain ⟨h0, g0, d0, k0, o0⟩ := s
    have sub := sub_enumerate
    have step : ∀ {B : Around} {E : Value → Shared → Prop} {Q : Value → Shared → Prop}, Q (.ref h0.objs.size) ⟨h0.push (etIt t), g0, d0, k0, o0⟩ →
        wpAny (model prog w) B (pyIter (.ref t)) Q E ⟨h0, g0, d0, k0, o0⟩ := fun q => (begins_tuple t its).iter prog w _ _ ⟨h0, g0, d0, k0, o0⟩ _ hT q
    wp_walk using step
    refine wpAny_stack_any fun z => wpAny_pure ?_
    split
    next c _ _ _ _ _ => cases (c == Value.type "enumerate") <;> (wp_walk using step; exact ⟨_, rfl, fin⟩)
    next => wp_walk using step; exact ⟨_, rfl, fin⟩
theorem et_call {prog : Program} {w : World} {A : Around} {E : Value → Shared → Prop} {s : Shared} {t : Addr} {its : Array Value} {Q : Value → Shared → Prop} (hT : s.heap.IsTuple t its)
    (q : Q (.ref (s.heap.objs.size + 1)) { s with heap := (s.heap.push (etIt t)).push (etObj s.heap.objs.size) }) : wpAny (model prog w) A (call (.type "enumerate") [.ref t]) Q E s := by
  have hz : (s.heap.push (etIt t)).objs.size = s.heap.objs.size + 1 := Heap.size_push ..
  have hg : ((s.heap.push (etIt t)).push (etObj s.heap.objs.size)).get? (s.heap.push (etIt t)).objs.size = some (etObj s.heap.objs.size) := Heap.get?_push_size _ rfl
  rw [← hz] at q
  exact callType_new F.called_enumerate (by decide) (F.typeCall_enumerate_1 _) (F.newCall_enumerate_1 _) (fun o => F.args_object_init_2 o _) F.entry_enumerate_new (et_new t its) ⟨hT, ⟨_, hg, rfl⟩, q⟩

/-- pairs of place and item -/
def ItEt (K : PySem.W.Frag) (a : Addr) (xs : List V) : It where
  go := fun i H => SqT K H a xs ∧ i < xs.length
  yld := fun i H v H' => ∃ T x, v = .ref T ∧ H T = none ∧ H' = upd H T (.tup [.int (i : Nat), x]) ∧ xs[i]? = some x
  stop := fun i H => SqT K H a xs ∧ xs.length ≤ i
def etTn (a e it : Addr) (its : Array Value) (i : Nat) (h : Heap) : Prop := (∃ old, IsEnum h e it ((i : Nat) : Int) old) ∧ h.IsTupleIter it a i ∧ i ≤ its.size
theorem et_turn {P : Program} {w : World} {K : PySem.W.Frag} {elts : List Expr} {kk : Nat} {tpos : Pos} (a e it : Addr) (hne : e ≠ it) (hae : a ≠ e) (hai : a ≠ it) (xs : List V) :
    Turn P w K (.Tuple elts kk tpos) (ItEt K a xs) [e, it] e (fun i h => (∃ old, IsEnum h e it ((i : Nat) : Int) old) ∧ h.IsTupleIter it a i ∧ i ≤ xs.length) where
  mem := List.mem_cons_self
  obj := fun i h st b hb => by
    obtain ⟨⟨old, he⟩, ⟨o, ho, _, hd⟩, _⟩ := st
    rcases List.mem_cons.mp hb with rfl | hb
    · exact ⟨_, he, fun v q => nomatch q⟩
    · obtain rfl := List.mem_singleton.mp hb
      exact ⟨o, ho, fun v q => by rw [hd] at q; cases q⟩
  keep := fun i h h' st k => by
    obtain ⟨⟨old, he⟩, hi, hn⟩ := st
    exact ⟨⟨old, k e List.mem_cons_self _ he⟩, hi.at fun o q => k it (List.mem_cons_of_mem _ List.mem_cons_self) o q, hn⟩
  item := by
    rintro X rfl rfl rfl hc i pins s σ H E I hf ⟨⟨old, he⟩, hit, hn⟩ ⟨hq, hlt⟩
    obtain ⟨its, rv, p, _⟩ := I.tuple hq
    have hsz : its.toArray.size = xs.length := by have := rv.length; simpa using this.symm
    have D : Draws X.prog X.w X.A.in1 it [it, a] its.toArray.size (fun i v => its.toArray[i]? = some v) (fun i h => h.IsTupleIter it a i ∧ h.IsTuple a its.toArray) := .tuple (show X.A.in1.handled = none from I.ok.hd hc) it a hai its.toArray
    have hel : e < s.heap.objs.size := Heap.lt_size he
    have hil : it < s.heap.objs.size := by obtain ⟨_, q, _⟩ := hit; exact Heap.lt_size q
    refine wpAny_pyNext_enum_itemD D he ⟨hit, p⟩ (by rw [hsz]; exact hlt) hne (by simp [hne, Ne.symm hae]) fun u h' tk hu ho st' hT _ hk => ?_
    refine ⟨_, rfl, wpAny_letOwnedTupleGo_enum (s := { s with heap := h', toks := tk + 1 }) ho fun h2 he' sb => ?_⟩
    have hx : ∃ x, xs[i]? = some x := ⟨xs[i], by simp [hlt]⟩
    obtain ⟨x, hx⟩ := hx
    obtain ⟨u', hu', ru⟩ := rv.get hx
    have eu : u' = u := by
      have h1 : its[i]? = some u := by simpa using hu
      rw [h1] at hu'; exact (Option.some.inj hu').symm
    subst eu
    have hT2 := (sb.2 _ (Nat.ne_of_gt hel)).trans hT
    have new : ObjOk X.prog X.w (upd H s.heap.objs.size (.tup [.int (i : Nat), x])) h2 s.heap.objs.size (.tup [.int (i : Nat), x]) :=
      ⟨by show 2 ≤ sizeLine; decide, _, .cons ⟨tk, rfl⟩ (.cons ru .nil), ⟨_, hT2, rfl, _, rfl⟩⟩
    have I1 := I.turnedNew (t' := tk + 1) (h' := h2) (ch := [e, it]) (fun b ob hb q => (sb.2 b (fun z => hb (by simp [z]))).trans (hk b ob (fun z => hb (by simp [z])) (fun z => hb (by simp [z])) q)) hf (Nat.le_refl _) new
    refine ⟨.ref s.heap.objs.size, _, I1, rfl, ⟨_, x, rfl, I.hok.fresh (Nat.le_refl _), rfl, hx⟩, ⟨⟨u', ?_⟩, st'.1.at fun o q => (sb.2 it (Ne.symm hne)).trans q, hlt⟩, fun b hb => ?_⟩
    · rw [show ((i + 1 : Nat) : Int) = (i : Int) + 1 by omega]; exact he'
    · have hlt : b < s.heap.objs.size := by
        rcases List.mem_cons.mp hb with rfl | hb
        · exact hel
        · obtain rfl := List.mem_singleton.mp hb; exact hil
      rw [upd_ne (Nat.ne_of_lt hlt)]; exact (hf b hb).1
  done := by
    rintro X rfl rfl rfl hc i pins s σ H E I hf ⟨⟨old, he⟩, hit, hn⟩ ⟨hq, hge⟩
    obtain ⟨its, rv, p, _⟩ := I.tuple hq
    have hsz : its.toArray.size = xs.length := by have := rv.length; simpa using this.symm
    have D : Draws X.prog X.w X.A.in1 it [it, a] its.toArray.size (fun i v => its.toArray[i]? = some v) (fun i h => h.IsTupleIter it a i ∧ h.IsTuple a its.toArray) := .tuple (show X.A.in1.handled = none from I.ok.hd hc) it a hai its.toArray
    have ei : i = its.toArray.size := by rw [hsz]; omega
    obtain ⟨f0, f1, f2, f3, f4, f5⟩ := hf it (by simp)
    exact wpAny_pyNext_enum_endD D he (by rw [← ei]; exact ⟨hit, p⟩) fun h' eb => ⟨rfl, I.turned (t' := s.toks) (fun b o hb q => eb b o hb q) f0 f1 f3 f4 f5⟩
  self := fun A i s Q E st h => let ⟨⟨_, he⟩, _⟩ := st; wpAny_pyIter_enum he h
def iEnumT (K : PySem.W.Frag) (ta : TA) : TI := fun σ H R => ta σ H fun vs H1 => ∃ a xs, vs = [.ref a] ∧ SqT K H1 a xs ∧ R (ItEt K a xs) H1
theorem pi_enumT {X : Cx} {e : Expr} {ta : TA} {p pos tpos : Pos} {elts : List Expr} {kk : Nat} (K : PySem.W.Frag) (hg : Gl X "enumerate") (hm : X.mg "enumerate" = none) (ha : PA X [e] ta) (hK : X.K = K := by rfl) (hs : starEach [e] X.env = [(false, eval e X.env)] := by rfl) :
    PI X (.Tuple elts kk tpos) (.Call (.Name "enumerate" p) [e] [] pos) (iEnumT K ta) := by
  subst hK
  refine ⟨fun pins s σ H R I h => ?_⟩
  refine PyProof.Rows.Call_ (ld_blt I hg hm PyProof.Rows.boot_enumerate (PyProof.Rows.callWith_type1 (thn (ha.run pos pins s σ H _ I h) fun us s1 hh => ?_) hs rfl))
  obtain ⟨vs, H1, I1, r1, a, xs, rfl, hq, q⟩ := hh
  cases r1 with
  | cons r rr =>
    cases rr
    obtain rfl := (show _ = Value.ref a from r)
    obtain ⟨its, rv, pt, _⟩ := I1.tuple hq
    have hal : a < s1.heap.objs.size := by obtain ⟨_, z, _⟩ := pt; exact Heap.lt_size z
    have k2 : ∀ b o, s1.heap.get? b = some o → ((s1.heap.push (etIt a)).push (etObj s1.heap.objs.size)).get? b = some o := fun b o z => Heap.get?_push_of_some _ (Heap.get?_push_of_some _ z)
    have hz : (s1.heap.push (etIt a)).objs.size = s1.heap.objs.size + 1 := Heap.size_push ..
    have he : IsEnum ((s1.heap.push (etIt a)).push (etObj s1.heap.objs.size)) (s1.heap.objs.size + 1) s1.heap.objs.size 0 .none := by
      have z : ((s1.heap.push (etIt a)).push (etObj s1.heap.objs.size)).get? (s1.heap.push (etIt a)).objs.size = some (etObj s1.heap.objs.size) := Heap.get?_push_size _ rfl
      rw [hz] at z; exact z
    refine et_call pt (wpAny_pyIter_enum he ?_)
    refine ⟨s1.heap.objs.size + 1, [s1.heap.objs.size + 1, s1.heap.objs.size], _, _, H1, rfl, I1.kept (t' := s1.toks) k2, et_turn a (s1.heap.objs.size + 1) s1.heap.objs.size (Nat.succ_ne_self _) (Nat.ne_of_lt (Nat.lt_succ_of_lt hal)) (Nat.ne_of_lt hal) xs,
      ⟨⟨.none, he⟩, ⟨_, Heap.get?_push_of_some _ (Heap.get?_push_size _ rfl), rfl, rfl⟩, Nat.zero_le _⟩, fun b hb => ?_, q⟩
    have hle : s1.heap.objs.size ≤ b := by
      rcases List.mem_cons.mp hb with rfl | hb
      · omega
      · obtain rfl := List.mem_singleton.mp hb; exact Nat.le_refl _
    exact I1.fpOk hle (I1.hok.fresh hle)
theorem walk_enumT {K : PySem.W.Frag} {a : Addr} {xs : List V} : Walk (ItEt K a xs) xs.length (fun H => SqT K H a xs) (YPair (fun i => some (.int (i : Nat))) (fun i => xs[i]?)) :=
  ⟨fun _ _ hi q => ⟨q, hi⟩, fun _ q => ⟨q, Nat.le_refl _⟩, fun _ _ _ _ _ _ ⟨T, x, h1, h2, h3, h4⟩ => ⟨T, _, x, h1, h2, h3, rfl, h4⟩⟩
section
variable {K : PySem.W.Frag} {r : List Val} {m : Mm} {N : List Val → Mm → Prop} {E : Val → Mm → Prop} {t : TS}
theorem w_forEt {ta : TA} {j1 j2 : Nat} {α : Type} {xs : List α} {f : α → PyData} (h : EvA K ta r m fun ys m1 => ys = [.d (.tuple (xs.map f))] ∧ m1 = m) (W : Nat → List Val → Mm → Prop) (h0 : W 0 r m)
    (hs : ∀ (i : Nat) (x : α) r' m', xs[i]? = some x → W i r' m' → Wp K t ((r'.set j1 (.d (.int (i : Int)))).set j2 (.d (f x))) m' (W (i + 1)) E) (hd : ∀ r' m', W xs.length r' m' → N r' m') :
    Wp K (tFor (iEnumT K ta) (gTup K 2 (gCons (gName j1) (gCons (gName j2) gNil))) t) r m N E := fun σ H G D S L a b =>
  h σ H G S L _ fun vs H1 G1 ys m1 ⟨hx, hm⟩ S1 e1 r1 => by
    subst hx hm
    obtain ⟨v, rfl, rv⟩ := vrs1 r1
    obtain ⟨p, zs, rfl, hs1, hA⟩ := rp_tuple.mp rv.rp
    have hlen := hA.length
    rw [List.length_map] at hlen
    refine ⟨p, zs, rfl, S1.sqT hs1, for_it walk_enumT (fun i σ' H' => ∃ G' r' m', W i r' m' ∧ Sta K m' H' G' ∧ Le G1 G' ∧ Sl K G' r' σ') ⟨G1, r, _, h0, S1, Le.refl G1, L.mono e1⟩ ?_ ?_ ?_⟩
    · rintro i σ' H' hi ⟨G', r', m', _, S', e', _⟩
      exact S'.sqT (e'.sqT hs1)
    · rintro i x σ' H' H2 hi ⟨G', r', m', hw, S', e', L'⟩ ⟨T, x1, x2, rfl, hT, rfl, hx1, hx2⟩
      have hx1 : V.int (i : Int) = x1 := by simpa using hx1
      subst hx1
      obtain ⟨d, hd1, hd2⟩ := hA.get hx2
      obtain ⟨y, hy, rfl⟩ := map_at hd1
      have e2 : Le G' (upd G' T (.tup [.int (i : Int), x2])) := Le.new (S'.free hT)
      refine ⟨T, _, rfl, SqT.of upd_same, rfl, _, [x2], rfl, x2, [], rfl, rfl, ?_⟩
      exact hs i y r' m' hy hw _ _ (upd G' T (.tup [.int (i : Int), x2])) _ (S'.fix hT) (((L'.mono e2).set (r := .d (.int (i : Int))) vr_int j1).set (r := .d (f y)) (.d (Rp.mono (e'.trans e2) _ _ hd2)) j2)
        (fun σ3 H3 G3 r3 m3 h3 S3 e3 L3 => ⟨G3, r3, m3, h3, S3, e'.trans (e2.trans e3), L3⟩) (fun v H3 G3 x m3 n3 S3 e3 L3 => b v H3 G3 x m3 n3 S3 (e1.trans (e'.trans (e2.trans e3))) L3)
    · rintro σ' H' ⟨G', r', m', hw, S', e', L'⟩
      rw [hlen] at hw
      exact a σ' H' G' r' m' (hd r' m' hw) S' (e1.trans e') L'
end
end DL

/-! sum(d.values()) of a dict whose keys are tuples -/
namespace DL
open PySem L2

/-- the view of a dict's values -/
def valsO (p d : Addr) : HO := .ext fun h => h.IsValuesView p d
def rValsT : V → List V → Hp → VK → Prop := fun x xs H Q => ∃ (a : Addr) (kvs : List (List Key × V)), x = .ref a ∧ xs = [] ∧ H a = some (.dT kvs) ∧ ∀ p, H p = none → Q (.ref p) (upd H p (valsO p a))
theorem mt_valsT {X : Cx} : MtR X "dict.values" rValsT := by
  rintro pins s σ H x xs v us Q I rx rxs ⟨a, kvs, rfl, rfl, ha, q⟩
  cases rx
  cases rxs
  obtain ⟨_, lo, ys, _, D⟩ := dt_of I.hok ha
  obtain ⟨es, ep, raw, _⟩ := D.raw
  have ok : ObjOk X.prog X.w (upd H s.heap.objs.size (valsO s.heap.objs.size a)) (s.heap.push { cls := .type "dict_values", data := .fields #[.ref a] }) s.heap.objs.size (valsO s.heap.objs.size a) :=
    ⟨⟨_, Heap.get?_push_size _ rfl, rfl, rfl⟩, ⟨_, Heap.get?_push_size _ rfl⟩, fun h1 h2 z k => by obtain ⟨o, ho, w⟩ := z; exact ⟨o, k o ho, w⟩⟩
  refine call_meetsIn PySem.F.slot_dict_values raw.typeIs PySem.F.entry_dict_values (PySem.F.args_dict_values_1 _) (meets_dict_values_raw a lo) ⟨⟨es, ep, raw⟩, ?_⟩
  exact ⟨.ref s.heap.objs.size, _, I.laid (t' := s.toks) (fun b u e => Heap.get?_push_of_some _ e) (Nat.le_refl _) ok, rfl, q _ (I.hok.fresh (Nat.le_refl _))⟩
/-- sum of such a view -/
def rSumV : List V → Hp → VK → Prop := fun vs H Q => ∃ (p a : Addr) (kvs : List (List Key × V)) (ns : List Int), vs = [.ref p] ∧ H p = some (valsO p a) ∧ H a = some (.dT kvs) ∧ kvs.map (·.2) = ns.map V.int ∧ Q (.int ns.sum) H
theorem cr_sumV {X : Cx} (hc : X.calm = true) : CallR X (.builtin "sum") rSumV := by
  rintro pins s σ H vs us Q I r ⟨p, a, kvs, ns, rfl, hp, ha, hv, q⟩
  rw [Vals.ref1 r]
  obtain ⟨_, lo, ys, rel, D⟩ := dt_of I.hok ha
  obtain ⟨es, ep, raw, hsz, hes⟩ := D.raw
  have hx : ObjOk X.prog X.w H s.heap p (valsO p a) := I.hok p _ hp
  have view : s.heap.IsValuesView p a := hx.1
  have hal : a < s.heap.objs.size := by obtain ⟨o, ho, _⟩ := raw; exact Heap.lt_size ho
  have hlen : ns.length = kvs.length := by have := congrArg List.length hv; simpa using this.symm
  have hle2 : ∀ {l1 : List (List Key × V)} {l2 : List (List Key × Addr × Value)}, KT H l1 l2 → l1.length = l2.length := fun {l1 l2} z => by
    induction z with
    | nil => rfl
    | cons _ _ ih => rw [List.length_cons, List.length_cons, ih]
  have hly := hle2 rel
  refine call_sum_walkG (wpAny_pyIter_values_raw view raw ?_)
  refine ⟨s.heap.objs.size, [s.heap.objs.size, a], [s.heap.objs.size], es.size, _, _, fun i => ns.getD i 0, rfl, Walks.rawValues (A := X.A.in1) (I.ok.hd hc) s.heap.objs.size a (Nat.ne_of_lt hal) es ep, ⟨⟨_, Heap.get?_push_size _ rfl, rfl, rfl⟩, raw.at fun _ e => Heap.get?_push_of_some _ e⟩, ?_, ?_, ?_⟩
  · intro b hb
    have hz : (s.heap.push { cls := .type "dict_valueiterator", data := .fields #[.ref a, .int 0 0, .int es.size 0, .int ep 0] }).objs.size = s.heap.objs.size + 1 := Heap.size_push ..
    show b < (s.heap.push { cls := .type "dict_valueiterator", data := .fields #[.ref a, .int 0 0, .int es.size 0, .int ep 0] }).objs.size
    rw [hz]
    rcases List.mem_cons.mp hb with e | e
    · rw [e]; exact Nat.lt_succ_self _
    · rw [List.mem_singleton.mp e]; exact Nat.lt_succ_of_lt hal
  · rintro i v ⟨hi, rfl⟩
    obtain ⟨y, hy, _, hval, _⟩ := hes i hi
    have hkv : kvs[i]? = some kvs[i] := by simp [show i < kvs.length by omega]
    obtain ⟨y', hy', rv⟩ := paired_get rel hkv
    obtain rfl : y' = y := by rw [hy] at hy'; exact (Option.some.inj hy').symm
    generalize kvs[i] = kv at hkv rv
    have h1 : (kvs.map (·.2))[i]? = some kv.2 := by rw [List.getElem?_map, hkv]; rfl
    rw [hv, List.getElem?_map] at h1
    obtain ⟨n, hn, en⟩ := Option.map_eq_some_iff.mp h1
    have hg : ns.getD i 0 = n := by rw [List.getD_eq_getElem?_getD, hn]; rfl
    rw [hval]
    show ∃ t, _ = Value.int (ns.getD i 0) t
    rw [hg]
    have rr := rv.2.2
    rw [← en] at rr
    exact rr
  · intro h' tk t' hk
    have e : preSum (fun i => ns.getD i 0) es.size = ns.sum := by rw [presum_take, List.take_of_length_le (by omega)]
    rw [e]
    refine ⟨.int ns.sum, H, I.kept (fun b o e => hk b o (fun hb => ?_) (Heap.get?_push_of_some _ e)), ⟨_, rfl⟩, q⟩
    obtain rfl := List.mem_singleton.mp hb
    exact absurd (Heap.lt_size e) (Nat.lt_irrefl _)
section
variable {K : PySem.W.Frag} {r : List Val} {m : Mm} {Q : Val → Mm → Prop} {te : TE}
theorem KVs.ints {G : Hp} {α : Type} : ∀ {kvs : List (α × Val)} {es : List (α × V)} {ns : List Int}, KVs K G kvs es → kvs.map (·.2) = ns.map (fun n => Val.d (.int n)) → es.map (·.2) = ns.map V.int
  | [], es, ns, h, e => by
    have h : es = [] := h
    subst h
    cases ns with
    | nil => rfl
    | cons _ _ => simp at e
  | (k, x) :: t, es, ns, h, e => by
    obtain ⟨v, u, rfl, h2, h3⟩ := h
    cases ns with
    | nil => simp at e
    | cons n ns =>
      rw [List.map_cons, List.map_cons] at e
      injection e with e1 e2
      rw [List.map_cons, List.map_cons, KVs.ints h3 e2]
      have e1 : x = .d (.int n) := e1
      subst e1
      rw [show v = .int n from int_of h2]
theorem ev_sumVals (h : Ev K te r m fun x m1 => ∃ (p : Addr) (kvs : List (List Key × Val)) (ns : List Int), x = .v (.ref p) ∧ m1 p = some (.dT kvs) ∧ kvs.map (·.2) = ns.map (fun n => Val.d (.int n)) ∧ Q (.d (.int ns.sum)) m1) :
    Ev K (tCB rSumV (tCons (tBM0 K "dict" rValsT te) tNil)) r m Q := fun σ H G S L R k =>
  h σ H G S L _ fun v H1 G1 x m1 ⟨p, kvs, ns, hx, hm, hv, q⟩ S1 e1 r1 => by
    subst hx
    obtain rfl := r1.eq
    obtain ⟨es, hes, hk⟩ := S1.mem p _ hm
    refine ⟨.inr (.inr (.inl ⟨rfl, .inr ⟨es, hes⟩⟩)), p, es, rfl, rfl, hes, fun z hz => ?_⟩
    have hzp : p ≠ z := fun e => by rw [e, hz] at hes; cases hes
    exact ⟨z, p, es, ns, rfl, upd_same, by rw [upd_ne hzp]; exact hes, hk.ints hv, k _ _ _ _ m1 q (S1.fix hz) (e1.trans (Le.new (S1.free hz))) vr_int⟩
end
theorem pe_sumVals {X : Cx} {o : Expr} {to : TE} {apos cpos p pos : Pos} (K : PySem.W.Frag) (hg : Gl X "sum") (hm : X.mg "sum" = none) (ho : PE X o to) (hK : X.K = K := by rfl) (hc : X.calm = true := by rfl)
    (hbase : attributeBase o "values" X.env (eval o X.env) = eval o X.env := by rfl) (hline : (apos.endLine == cpos.line) = true := by rfl) 
    (hs : starEach [Expr.Call (.Attribute o "values" apos) [] [] cpos] X.env = [(false, eval (.Call (.Attribute o "values" apos) [] [] cpos) X.env)] := by rfl) :
    PE X (.Call (.Name "sum" p) [.Call (.Attribute o "values" apos) [] [] cpos] [] pos) (tCB rSumV (tCons (tBM0 K "dict" rValsT to) tNil)) := by
  subst hK
  exact pe_callB (cr_sumV hc) hg hm (by decide +kernel) (pa_cons (pe_bm0 PySem.F.plainAttrs_dict PySem.F.slot_dict_values PySem.F.type_dict_values mt_valsT ho hbase hline) pa_nil)
end DL

/-! no kind twice -/
namespace DL
open PySem L2

def prP (ss : List Int) : List Nat → Int
  | [] => 1
  | k :: ks => ss.getD k 0 * prP ss ks
theorem prP_snoc (ss : List Int) (k : Nat) : ∀ ks, prP ss (ks ++ [k]) = prP ss ks * ss.getD k 0
  | [] => by simp [prP]
  | x :: ks => by rw [List.cons_append, prP, prP_snoc ss k ks, prP, Int.mul_assoc]
theorem prP_perm (ss : List Int) {a b : List Nat} (h : a.Perm b) : prP ss a = prP ss b := by
  induction h with
  | nil => rfl
  | cons x _ ih => rw [prP, prP, ih]
  | swap x y l => rw [prP, prP, prP, prP, Int.mul_left_comm]
  | trans _ _ ih1 ih2 => exact ih1.trans ih2
theorem sum_permI {a b : List Int} (h : a.Perm b) : a.sum = b.sum := by
  induction h with
  | nil => rfl
  | cons x _ ih => rw [List.sum_cons, List.sum_cons, ih]
  | swap x y l => simp only [List.sum_cons]; omega
  | trans _ _ ih1 ih2 => exact ih1.trans ih2
def fac : Nat → Nat
  | 0 => 1
  | n + 1 => fac n * (n + 1)
def unl (ss : List Int) (n : Nat) : Int := (((allS ss.length).filter fun s => decide (s.length = n)).map fun s => prP ss s * (fac n : Int)).sum
/-- rows of unlike kinds -/
def seqs (n : Nat) : Nat → List (List Nat)
  | 0 => [[]]
  | t + 1 => (seqs n t).flatMap fun s => ((List.range n).filter fun k => !decide (k ∈ s)).map fun k => s ++ [k]
def insN (x : Nat) : List Nat → List Nat
  | [] => [x]
  | y :: l => if x ≤ y then x :: y :: l else y :: insN x l
def srtN : List Nat → List Nat
  | [] => []
  | x :: l => insN x (srtN l)
theorem insN_perm (x : Nat) : ∀ l, (insN x l).Perm (x :: l)
  | [] => .refl _
  | y :: l => by
    rw [insN]
    split
    · exact .refl _
    · exact ((insN_perm x l).cons y).trans (.swap x y l)
theorem srtN_perm : ∀ l, (srtN l).Perm l
  | [] => .refl _
  | x :: l => by rw [srtN]; exact (insN_perm x _).trans ((srtN_perm l).cons x)
theorem seqs_chk : ∀ n t : _root_.Fin 6, t ≤ n → ((seqs n.val t.val).map srtN).isPerm (((allS n.val).filter fun s => decide (s.length = t.val)).flatMap fun s => List.replicate (fac t.val) s) = true := by decide +kernel
theorem sum_rep (x : Int) : ∀ k : Nat, (List.replicate k x).sum = x * (k : Int)
  | 0 => by simp
  | k + 1 => by
    rw [List.replicate_succ, List.sum_cons, sum_rep x k]
    rw [show ((k + 1 : Nat) : Int) = (k : Int) + 1 by omega, Int.mul_add, Int.mul_one, Int.add_comm]
theorem sum_flatR (f : List Nat → Int) (k : Nat) : ∀ l : List (List Nat), ((l.flatMap fun s => List.replicate k s).map f).sum = (l.map fun s => f s * (k : Int)).sum
  | [] => rfl
  | s :: l => by
    rw [List.flatMap_cons, List.map_append, List.sum_append, sum_flatR f k l, List.map_replicate, sum_rep, List.map_cons, List.sum_cons]
theorem rows_eq (ss : List Int) (h : ss.length ≤ 5) {t : Nat} (ht : t ≤ ss.length) : ((seqs ss.length t).map (prP ss)).sum = unl ss t := by
  have c := seqs_chk ⟨ss.length, by omega⟩ ⟨t, by omega⟩ ht
  have c := (List.isPerm_iff.mp c)
  have e : (seqs ss.length t).map (prP ss) = ((seqs ss.length t).map srtN).map (prP ss) := by
    rw [List.map_map]
    exact List.map_congr_left fun s _ => (prP_perm ss (srtN_perm s)).symm
  rw [e, sum_permI (c.map (prP ss)), sum_flatR]
  rfl
theorem seqs_facts : ∀ n t : _root_.Fin 6, (seqs n.val t.val).length ≤ 120 ∧ (seqs n.val t.val).Nodup ∧ ∀ s ∈ seqs n.val t.val, s.length = t.val ∧ ∀ k ∈ s, k < n.val := by decide +kernel
theorem unl_big {ss : List Int} {n : Nat} (h : ss.length < n) : unl ss n = 0 := by
  unfold unl
  rw [List.filter_eq_nil_iff.mpr fun s hs => ?_]
  · rfl
  · have := (allS_mem _ s hs).1
    simp; omega
theorem prP_bt {ss : List Int} (hs : Shares ss) : ∀ ks : List Nat, 0 ≤ prP ss ks ∧ prP ss ks ≤ 9 ^ ks.length
  | [] => by simp [prP]
  | k :: ks => by
    obtain ⟨h1, h2⟩ := prP_bt hs ks
    obtain ⟨g1, g2⟩ := getD_bounds hs k
    rw [prP, List.length_cons, Int.pow_succ, Int.mul_comm]
    exact ⟨Int.mul_nonneg h1 g1, Int.mul_le_mul h2 g2 g1 (Int.le_trans h1 h2)⟩
theorem prP_le {ss : List Int} (hs : Shares ss) {ks : List Nat} (h : ks.length ≤ 5) : 0 ≤ prP ss ks ∧ prP ss ks ≤ 59049 := by
  obtain ⟨h1, h2⟩ := prP_bt hs ks
  refine ⟨h1, Int.le_trans h2 ?_⟩
  generalize ks.length = n at h
  match n, h with
  | 0, _ => decide
  | 1, _ => decide
  | 2, _ => decide
  | 3, _ => decide
  | 4, _ => decide
  | 5, _ => decide
theorem fac_le : ∀ {n : Nat}, n ≤ 5 → fac n ≤ 120
  | 0, _ | 1, _ | 2, _ | 3, _ | 4, _ | 5, _ => by decide
theorem sum_bound {α : Type} {f : α → Int} {c : Int} : ∀ {l : List α}, (∀ x ∈ l, 0 ≤ f x ∧ f x ≤ c) → 0 ≤ (l.map f).sum ∧ (l.map f).sum ≤ c * (l.length : Int)
  | [], _ => by simp
  | x :: l, h => by
    obtain ⟨h1, h2⟩ := h x List.mem_cons_self
    obtain ⟨g1, g2⟩ := sum_bound fun y hy => h y (List.mem_cons_of_mem _ hy)
    rw [List.map_cons, List.sum_cons, List.length_cons, show ((l.length + 1 : Nat) : Int) = (l.length : Int) + 1 by omega, Int.mul_add, Int.mul_one]
    omega
theorem term_le {ss : List Int} (hs : Shares ss) {s : List Nat} (h : s.length ≤ 5) : 0 ≤ prP ss s * (fac s.length : Int) ∧ prP ss s * (fac s.length : Int) ≤ 7085880 := by
  obtain ⟨h1, h2⟩ := prP_le hs h
  have h3 := fac_le h
  refine ⟨Int.mul_nonneg h1 (by omega), ?_⟩
  have := Int.mul_le_mul h2 (show (fac s.length : Int) ≤ 120 by omega) (by omega) (by decide)
  exact Int.le_trans this (by decide)
theorem unl_bt {ss : List Int} (hs : Shares ss) (n : Nat) : 0 ≤ unl ss n ∧ unl ss n ≤ 226748160 := by
  have hf := hs.few
  unfold unl
  have hl : ((allS ss.length).filter fun s => decide (s.length = n)).length ≤ 32 := by
    refine Nat.le_trans (List.length_filter_le _ _) ?_
    rw [allS_len]
    exact Nat.pow_le_pow_right (by decide) hf
  obtain ⟨h1, h2⟩ := sum_bound (f := fun s => prP ss s * (fac n : Int)) (c := 7085880) (l := (allS ss.length).filter fun s => decide (s.length = n)) fun s hs' => by
    obtain ⟨a1, a2⟩ := List.mem_filter.mp hs'
    have a2 : s.length = n := by simpa using a2
    have := (allS_mem _ s a1).1
    rw [← a2]
    exact term_le hs (by omega)
  refine ⟨h1, Int.le_trans h2 ?_⟩
  omega
def unlQ (ss : List Int) (n : Nat) : Rat := mkRat (unl ss n) (ss.sum.toNat ^ n)
theorem tot_powU {ss : List Int} (hs : Shares ss) (n : Nat) (hn : n ≤ 12) : 0 < ss.sum.toNat ^ n ∧ ((ss.sum.toNat ^ n : Nat) : Int) = ss.sum ^ n ∧ ss.sum.toNat ^ n < 2 ^ 72 := by
  obtain ⟨h1, h2⟩ := shares_sum hs
  have e : ((ss.sum.toNat : Nat) : Int) = ss.sum := by omega
  refine ⟨Nat.pow_pos (by omega), by rw [Int.natCast_pow, e], ?_⟩
  have h3 : ss.sum.toNat ^ n ≤ 45 ^ 12 := Nat.le_trans (Nat.pow_le_pow_left (by omega) n) (Nat.pow_le_pow_right (by decide) hn)
  exact Nat.lt_of_le_of_lt h3 (by decide)
theorem unlQ_fr {ss : List Int} (hs : Shares ss) {n : Nat} (hn : n ≤ 12) : FrB (unlQ ss n) 72 := by
  obtain ⟨h1, h2, h3⟩ := tot_powU hs n hn
  obtain ⟨g1, g2⟩ := unl_bt hs n
  exact frB_mk (bt_lit (n := 28) (by show _ < 268435456; omega) (by decide)) h3 h1
theorem unlQ_big {ss : List Int} {n : Nat} (h : ss.length < n) : unlQ ss n = 0 := by
  unfold unlQ
  rw [unl_big h, Rat.zero_mkRat]
def unlS (ss : List Int) (l : List Nat) : Rat := (l.map (unlQ ss)).foldl (· + ·) 0
theorem unlS_snoc (ss : List Int) (l : List Nat) (n : Nat) : unlS ss (l ++ [n]) = unlS ss l + unlQ ss n := by
  unfold unlS
  rw [List.map_append, List.foldl_append]; rfl
theorem unlS_fr {ss : List Int} (hs : Shares ss) : ∀ (r : List Nat), (∀ n ∈ r, n ≤ 12) → FrB (unlS ss r.reverse) (1 + 73 * r.length)
  | [], _ => ⟨by show Bt 0 _; exact bt_lit (n := 1) (by decide) (by omega), by show Bt 1 _; exact bt_lit (n := 1) (by decide) (by omega)⟩
  | n :: r, h => by
    rw [List.reverse_cons, unlS_snoc, List.length_cons]
    exact (unlS_fr hs r fun k hk => h k (List.mem_cons_of_mem _ hk)).add (unlQ_fr hs (h n List.mem_cons_self)) (by omega)
theorem unlS_fr' {ss : List Int} (hs : Shares ss) {l : List Nat} (h : ∀ n ∈ l, n ≤ 12) (hl : l.length ≤ 20) : FrB (unlS ss l) 1600 := by
  have := unlS_fr hs l.reverse fun n hn => h n (List.mem_reverse.mp hn)
  rw [List.reverse_reverse, List.length_reverse] at this
  exact this.mono (by omega)
theorem unlS_zero (ss : List Int) (l : List Nat) : ∀ (r : List Nat), (∀ n ∈ r, ss.length < n) → unlS ss (l ++ r) = unlS ss l
  | [], _ => by rw [List.append_nil]
  | n :: r, h => by
    rw [show l ++ n :: r = (l ++ [n]) ++ r by simp, unlS_zero ss (l ++ [n]) r fun k hk => h k (List.mem_cons_of_mem _ hk), unlS_snoc, unlQ_big (h n List.mem_cons_self), Rat.add_zero]
theorem unlS_law {ss : List Int} (h : ss.length ≤ 5) : unlS ss [0, 1, 2, 3, 4, 5, 6, 7, 12] = unlS ss (List.range (ss.length + 1)) := by
  have e : [0, 1, 2, 3, 4, 5, 6, 7, 12] = List.range (ss.length + 1) ++ [0, 1, 2, 3, 4, 5, 6, 7, 12].drop (ss.length + 1) := by
    generalize ss.length = n at h
    match n, h with
    | 0, _ | 1, _ | 2, _ | 3, _ | 4, _ | 5, _ => rfl
  rw [e]
  refine unlS_zero ss _ _ ?_
  generalize ss.length = n at h
  match n, h with
  | 0, _ | 1, _ | 2, _ | 3, _ | 4, _ | 5, _ => decide
def f_unlikeOf : FSp := fun args m R => ∃ (ss : List Int) (n : Nat), args = [.d (tupI ss), .d (.int (n : Int))] ∧ Shares ss ∧ n ≤ 12 ∧ R (.d (frac (unlQ ss n))) m
def f_twiceMean : FSp := fun args m R => ∃ (ss : List Int), args = [.d (tupI ss)] ∧ Shares ss ∧ R (.d (frac (unlS ss (List.range (ss.length + 1))))) m
def f_lawRowsU : FSp := fun args m R => ∃ (ss : List Int) (n : Nat), args = [.d (tupI ss), .d (.int (n : Int))] ∧ Shares ss ∧ n ≤ ss.length ∧ R (.d (.int (unl ss n))) m
section
variable {K : PySem.W.Frag} {m : Mm} {Q : Val → Mm → Prop}
theorem VRs.atI' {G : Hp} {rs : List Val} {xs : List V} {i : Int} {r : Val} (h : VRs K G rs xs) (e : L2.atI rs i = some r) : ∃ x, L2.atI xs i = some x ∧ VR K G r x := by
  unfold L2.atI at e ⊢
  rw [h.length]
  cases hj : ixN rs.length i with
  | none => rw [hj] at e; cases e
  | some j => rw [hj] at e; exact VRs.atI h e
/-- xs[i] of a list that may change -/
theorem o2_ixMI {p : Addr} {rs : List Val} {i : Int} {r : Val} (hm : m p = some (.lst rs)) (h : L2.atI rs i = some r) (q : Q r m) : Op2 K (rIx K) (.v (.ref p)) (.d (.int i)) m Q := fun H G v w S a b R k => by
  obtain rfl := a.eq
  obtain rfl := int_of b
  obtain ⟨xs, g1, g2⟩ := S.mem p _ hm
  obtain ⟨x, hx, rx⟩ := VRs.atI' g2 h
  exact Or.inl ⟨p, xs, i, x, rfl, rfl, Or.inl (Rd.of g1), hx, k x H G r m q S (Le.refl G) rx⟩
end
theorem atI_last {α : Type} (xs : List α) : L2.atI xs (-1) = xs.getLast? := by
  unfold L2.atI L2.ixN
  rw [if_neg (by decide), List.getLast?_eq_getElem?]
  cases xs with
  | nil => rfl
  | cons x xs =>
    rw [if_pos (by rw [List.length_cons]; omega), Option.bind_some, show (-1 + (((x :: xs).length : Nat) : Int)).toNat = (x :: xs).length - 1 by rw [List.length_cons]; omega]
theorem knI_inj {a b : List Nat} (h : kI (kn a) = kI (kn b)) : a = b := by
  have h := kI_inj h
  unfold kn at h
  exact (List.map_inj_right (fun x y e => by omega)).mp h
theorem putV_tabNew {G : List Nat → Int} {l : List (List Nat)} {t : List Nat} (h : t ∉ l) : putV (dI (tabI G l)) (kI (kn t)) (.d (.int (G t))) = dI (tabI G (l ++ [t])) := by
  rw [putV_new]
  · unfold dI tabI
    rw [List.map_append, List.map_append]; rfl
  · intro p hp e
    unfold dI tabI at hp
    rw [List.map_map] at hp
    obtain ⟨s, hs, rfl⟩ := List.mem_map.mp hp
    have := knI_inj e
    subst this
    exact h hs
theorem notin_take {α : Type} {l : List α} {j : Nat} {s : α} (hn : l.Nodup) (h : l[j]? = some s) : s ∉ l.take j := fun hm => by
  obtain ⟨i, hi, e⟩ := List.getElem_of_mem hm
  rw [List.length_take] at hi
  rw [List.getElem_take] at e
  obtain ⟨hj, ej⟩ := List.getElem?_eq_some_iff.mp h
  exact List.pairwise_iff_getElem.mp hn i j (by omega) hj (by omega) (e.trans ej.symm)
def extS (s : List Nat) (x : Nat) : List (List Nat) := ((List.range x).filter fun k => !decide (k ∈ s)).map fun k => s ++ [k]
theorem extS_in {s : List Nat} {x : Nat} (h : x ∉ s) : extS s (x + 1) = extS s x ++ [s ++ [x]] := by
  unfold extS
  rw [List.range_succ, List.filter_append, List.map_append]
  simp [h]
theorem extS_out {s : List Nat} {x : Nat} (h : x ∈ s) : extS s (x + 1) = extS s x := by
  unfold extS
  rw [List.range_succ, List.filter_append, List.map_append]
  simp [h]
theorem seqs_new {l : List (List Nat)} {n j : Nat} {s : List Nat} {x : Nat} (hn : l.Nodup) (h : l[j]? = some s) : s ++ [x] ∉ (l.take j).flatMap (fun s => extS s n) ++ extS s x := fun hm => by
  rcases List.mem_append.mp hm with hm | hm
  · obtain ⟨s', hs', hm⟩ := List.mem_flatMap.mp hm
    unfold extS at hm
    obtain ⟨k, _, e⟩ := List.mem_map.mp hm
    obtain ⟨e1, _⟩ := List.append_inj' e rfl
    subst e1
    exact notin_take hn h hs'
  · unfold extS at hm
    obtain ⟨k, hk, e⟩ := List.mem_map.mp hm
    obtain ⟨_, e2⟩ := List.append_inj' e rfl
    have := List.mem_range.mp (List.mem_filter.mp hk).1
    have : k = x := by simpa using e2
    omega
theorem seqs_next (n t : Nat) : seqs n (t + 1) = (seqs n t).flatMap fun s => extS s n := rfl
theorem tabI_len (G : List Nat → Int) (l : List (List Nat)) : (dI (tabI G l)).length = l.length := by
  unfold dI tabI
  rw [List.length_map, List.length_map]
theorem flat_len {l : List (List Nat)} {n c : Nat} (h : ∀ s ∈ l, True) : (l.flatMap fun s => extS s n).length ≤ l.length * n := by
  induction l with
  | nil => simp
  | cons s l ih =>
    rw [List.flatMap_cons, List.length_append, List.length_cons, Nat.succ_mul]
    have h1 : (extS s n).length ≤ n := by
      unfold extS
      rw [List.length_map]
      exact Nat.le_trans (List.length_filter_le _ _) (by rw [List.length_range]; exact Nat.le_refl _)
    have := ih fun _ _ => trivial
    omega
theorem extS_len (s : List Nat) (n : Nat) : (extS s n).length ≤ n := by
  unfold extS
  rw [List.length_map]
  exact Nat.le_trans (List.length_filter_le _ _) (by rw [List.length_range]; exact Nat.le_refl _)
end DL

/-! dict(list of pairs) with tuples as keys -/
namespace DL
open PySem L2

abbrev Pr := Addr × List Key × Addr × V
def rDictPT (K : PySem.W.Frag) : List V → Hp → VK → Prop := fun xs H Q => ∃ (a : Addr) (ps : List Pr), xs = [.ref a] ∧ SqL K H a (ps.map fun p => V.ref p.1) ∧
  (∀ p ∈ ps, SqT K H p.1 [.ref p.2.2.1, p.2.2.2] ∧ H p.2.2.1 = some (.tup (p.2.1.map kV))) ∧ (ps.map (·.2.1)).Nodup ∧
  ∀ d, H d = none → Q (.ref d) (upd H d (.dT (ps.map fun p => (p.2.1, p.2.2.2))))
theorem prs_of {X : Cx} {pins : List (Addr × Obj)} {σ : L2.St} {H : Hp} {s : Shared} (I : Inv X pins σ H s) : ∀ (ps : List Pr), (∀ p ∈ ps, SqT X.K H p.1 [.ref p.2.2.1, p.2.2.2] ∧ H p.2.2.1 = some (.tup (p.2.1.map kV))) →
    ∃ qs : List (List Key × Addr × Value), KT H (ps.map fun p => (p.2.1, p.2.2.2)) qs ∧ qs.length = ps.length ∧ qs.map (·.1) = ps.map (·.2.1) ∧ ∀ (j : Nat) (q : List Key × Addr × Value), qs[j]? = some q → ∃ p, ps[j]? = some p ∧ s.heap.IsTuple p.1 #[.ref q.2.1, q.2.2]
  | [], _ => ⟨[], .nil, rfl, rfl, fun j q e => by simp at e⟩
  | p :: ps, h => by
    obtain ⟨qs, r, hl, hm, hq⟩ := prs_of I ps fun x hx => h x (List.mem_cons_of_mem _ hx)
    obtain ⟨h1, h2⟩ := h p List.mem_cons_self
    obtain ⟨its, rv, ht, _⟩ := I.tuple h1
    obtain ⟨u, y, ei, ru, ry⟩ := vals2 rv
    subst ei
    obtain rfl : u = .ref p.2.2.1 := ru
    refine ⟨(p.2.1, p.2.2.1, y) :: qs, .cons ⟨rfl, h2, ry⟩ r, by rw [List.length_cons, List.length_cons, hl], by rw [List.map_cons, List.map_cons, hm], fun j q e => ?_⟩
    cases j with
    | zero =>
      obtain rfl : (p.2.1, p.2.2.1, y) = q := Option.some.inj e
      exact ⟨p, rfl, ht⟩
    | succ j =>
      obtain ⟨p', e1, e2⟩ := hq j q (by simpa using e)
      exact ⟨p', by simpa using e1, e2⟩
theorem refs_eq : ∀ {ps : List Pr} {us : List Value}, Vals (ps.map fun p => V.ref p.1) us → us = ps.map fun p => Value.ref p.1
  | [], us, r => by
    rw [List.map_nil] at r
    cases r; rfl
  | p :: ps, us, r => by
    rw [List.map_cons] at r
    cases r with
    | cons h t =>
      cases h
      rw [List.map_cons, ← refs_eq t]
theorem cr_dictPT {X : Cx} (hc : X.calm = true) (hu : X.A.units + 2 < cLine) : CallR X (.type "dict") (rDictPT X.K) := by
  rintro pins s σ H xs us Q I r ⟨a, ps, rfl, hq, hp, hn, q⟩
  rw [Vals.ref1 r]
  obtain ⟨its, rv, pl, hz⟩ := I.list hq
  have ei := refs_eq rv
  rw [List.length_map] at hz
  obtain ⟨qs, rel, hl, hm, hpr⟩ := prs_of I ps hp
  obtain ⟨o, n, ho, hcl, hd, hdat⟩ := pl
  have keys : ∀ x ∈ qs, (tupleKind (mixKind X.prog X.w)).is s.heap x.1 x.2.1 ∧ x.2.1 < s.heap.objs.size := fun x hx => by
    have aux : ∀ {l : List (List Key × V)} {l2 : List (List Key × Addr × Value)}, KT H l l2 → ∀ x ∈ l2, H x.2.1 = some (.tup (x.1.map kV)) := fun z => by
      induction z with
      | nil => exact fun x hx => nomatch hx
      | cons h _ ih =>
        intro x hx
        rcases List.mem_cons.mp hx with rfl | hx
        · rw [← h.1]; exact h.2.1
        · exact ih x hx
    have z := key_of I.hok (aux rel x hx)
    refine ⟨z, ?_⟩
    obtain ⟨_, _, _, w, _⟩ := z
    exact Heap.lt_size w
  have items : PairItems s.heap its.toArray (fun j => ((ps.map (·.1)).getD j 0)) (qs.map fun x => (Value.ref x.2.1, x.2.2)) := by
    refine ⟨by rw [ei]; simp [hl], fun j k v e => ?_⟩
    rw [List.getElem?_map] at e
    obtain ⟨x, hx, ex⟩ := Option.map_eq_some_iff.mp e
    obtain ⟨p, e1, e2⟩ := hpr j x hx
    have eg : (ps.map (·.1)).getD j 0 = p.1 := by rw [List.getD_eq_getElem?_getD, List.getElem?_map, e1]; rfl
    injection ex with ek ev
    subst ek ev
    show _ = some (Value.ref ((ps.map (·.1)).getD j 0)) ∧ PairAt s.heap ((ps.map (·.1)).getD j 0) _ _
    rw [eg]
    exact ⟨by rw [ei]; simp [e1], Or.inl e2⟩
  have big : (s.heap.objs.size == sysModules) = false := beq_eq_false_iff_ne.mpr (Nat.ne_of_gt I.big)
  refine call_dict_pairsH (knd := tupleKind (mixKind X.prog X.w)) (ps := qs) (PairArg.list a its.toArray _ _) (I.ok.hd hc) (show X.A.in1.in1.units < cLine from ?_) ⟨⟨o, n, ho, hcl, hd, hdat⟩, items⟩ ⟨by rw [List.length_map], fun i key v e => ?_⟩ (fun h' hk x hx => ?_) (by rw [List.length_map, hl]; exact hz) fun h' tk D hk => ?_
  · show X.A.units + 1 + 1 < cLine
    omega
  · have e : (qs.map fun x => (Value.ref x.2.1, x.2.2))[i]? = some (key, v) := e
    rw [List.getElem?_map] at e
    obtain ⟨x, hx, ex⟩ := Option.map_eq_some_iff.mp e
    injection ex with ek ev
    exact ⟨x.1, x.2.1, by rw [hx, ← ev], ek.symm⟩
  · obtain ⟨⟨o', its', n', w1, w2⟩, lt⟩ := keys x hx
    exact ⟨o', its', n', hk _ _ (Nat.ne_of_lt lt) (fun z => nomatch z) w1, w2⟩
  · rw [storedAllH_nil_of_nodup qs (by rw [hm]; exact hn)] at D
    have hf : H s.heap.objs.size = none := I.hok.fresh (Nat.le_refl _)
    have stay : ∀ {l : List (List Key × V)} {l2 : List (List Key × Addr × Value)}, KT H l l2 → KT (upd H s.heap.objs.size (.dT (ps.map fun p => (p.2.1, p.2.2.2)))) l l2 := fun z => by
      induction z with
      | nil => exact .nil
      | cons h _ ih => exact .cons ⟨h.1, by rw [upd_ne (ne_of_none h.2.1 hf)]; exact h.2.1, h.2.2⟩ ih
    have ok : ObjOk X.prog X.w (upd H s.heap.objs.size (.dT (ps.map fun p => (p.2.1, p.2.2.2)))) h' s.heap.objs.size (.dT (ps.map fun p => (p.2.1, p.2.2.2))) := by
      obtain ⟨o1, es, ep, q1, q2, q3, q4, q5, q6⟩ := D
      exact ⟨by rw [List.length_map]; exact hz, big, qs, stay rel, o1, es, ep, q1, q2, q3, q4, q6⟩
    exact ⟨.ref s.heap.objs.size, _, I.laid (t' := tk) (fun b u e => hk b u (fun z => nomatch z) e) (Nat.le_refl _) ok, rfl, q _ hf⟩
end DL

/-! some kinds, the fewer ahead: told number by number -/
namespace DL
open PySem L2

def ordX (n : Nat) : List (List Nat) := (List.range (n + 1)).flatMap fun k => (allS n).filter fun s => decide (s.length = k)
theorem flatMap_ext {α β : Type} {f g : α → List β} : ∀ {l : List α}, (∀ x ∈ l, f x = g x) → l.flatMap f = l.flatMap g
  | [], _ => rfl
  | a :: l, h => by rw [List.flatMap_cons, List.flatMap_cons, h a List.mem_cons_self, flatMap_ext fun x hx => h x (List.mem_cons_of_mem _ hx)]
theorem part_sorted {l : List (List Nat)} (h : l.Pairwise fun a b => a.length ≤ b.length) (c : Nat) : l = (l.filter fun s => decide (s.length < c)) ++ (l.filter fun s => !decide (s.length < c)) := by
  induction l with
  | nil => rfl
  | cons a t ih =>
    obtain ⟨h1, h2⟩ := List.pairwise_cons.mp h
    by_cases ha : a.length < c
    · rw [List.filter_cons, if_pos (by simp [ha]), List.filter_cons, if_neg (by simp [ha]), List.cons_append, ← ih h2]
    · have e1 : (t.filter fun s => decide (s.length < c)) = [] := List.filter_eq_nil_iff.mpr fun x hx => by have := h1 x hx; simp; omega
      have e2 : (t.filter fun s => !decide (s.length < c)) = t := List.filter_eq_self.mpr fun x hx => by have := h1 x hx; simp; omega
      rw [List.filter_cons, if_neg (by simp [ha]), List.filter_cons, if_pos (by simp [ha]), e1, e2, List.nil_append]
theorem flat_sorted : ∀ (n : Nat) (l : List (List Nat)), (l.Pairwise fun a b => a.length ≤ b.length) → (∀ s ∈ l, s.length < n) → l = (List.range n).flatMap fun k => l.filter fun s => decide (s.length = k)
  | 0, l, _, h => by
    cases l with
    | nil => rfl
    | cons a t => exact absurd (h a List.mem_cons_self) (Nat.not_lt_zero _)
  | n + 1, l, hs, h => by
    have ih := flat_sorted n (l.filter fun s => decide (s.length < n)) (hs.filter _) fun s hs' => by simpa using (List.mem_filter.mp hs').2
    have e := part_sorted hs n
    rw [List.range_succ, List.flatMap_append]
    have e1 : (l.filter fun s => !decide (s.length < n)) = l.filter fun s => decide (s.length = n) := List.filter_congr fun s hs' => by
      have := h s hs'
      by_cases hh : s.length = n
      · simp [hh]
      · have : s.length < n := by omega
        simp [hh, this]
    have e2 : ((List.range n).flatMap fun k => (l.filter fun s => decide (s.length < n)).filter fun s => decide (s.length = k)) = (List.range n).flatMap fun k => l.filter fun s => decide (s.length = k) := by
      refine flatMap_ext fun k hk => ?_
      have := List.mem_range.mp hk
      rw [List.filter_filter]
      exact List.filter_congr fun s _ => by simp; omega
    rw [e2] at ih
    rw [← ih]
    simp only [List.flatMap_cons, List.flatMap_nil, List.append_nil]
    rw [← e1]
    exact e
theorem ordS_filter (n k : Nat) : (ordS n).filter (fun s => decide (s.length = k)) = (allS n).filter fun s => decide (s.length = k) := by
  have h1 : ((allS n).filter fun s => decide (s.length = k)).Pairwise fun a b => (decide ((a.length : Int) ≤ (b.length : Int))) = true := by
    refine List.Pairwise.imp_of_mem (R := fun _ _ => True) (fun ha hb _ => ?_) (List.pairwise_of_forall fun _ _ => trivial)
    have := (List.mem_filter.mp ha).2
    have := (List.mem_filter.mp hb).2
    simp at *; omega
  have h2 : ((allS n).filter fun s => decide (s.length = k)).Sublist (ordS n) := List.sublist_mergeSort (fun a b c h1 h2 => by simp at h1 h2 ⊢; omega) (fun a b => by simp; omega) h1 List.filter_sublist
  have h3 := h2.filter fun s => decide (s.length = k)
  rw [List.filter_filter] at h3
  simp only [Bool.and_self] at h3
  exact (h3.eq_of_length ((ordS_perm n).filter _).length_eq.symm).symm
theorem ordS_eq (n : Nat) : ordS n = ordX n := by
  have h := flat_sorted (n + 1) (ordS n) ((ordS_sorted n).imp fun z => by first | exact z | (simp at z; omega)) fun s hs => by
    have := (allS_mem n s ((ordS_perm n).mem_iff.mp hs)).1
    omega
  rw [h]
  unfold ordX
  exact flatMap_ext fun k _ => ordS_filter n k
end DL

/-! in which share of the cases just some kinds are left at some time -/
namespace DL
open PySem L2

theorem sum_permQ {a b : List Rat} (h : a.Perm b) : a.sum = b.sum := by
  induction h with
  | nil => rfl
  | cons x _ ih => rw [List.sum_cons, List.sum_cons, ih]
  | swap x y l => simp only [List.sum_cons]; grind
  | trans _ _ ih1 ih2 => exact ih1.trans ih2
theorem sum_appQ : ∀ (a b : List Rat), (a ++ b).sum = a.sum + b.sum
  | [], b => by rw [List.nil_append, List.sum_nil, Rat.zero_add]
  | x :: a, b => by rw [List.cons_append, List.sum_cons, List.sum_cons, sum_appQ a b, Rat.add_assoc]
theorem sum_mulQ {α : Type} (f : α → Rat) (c : Rat) : ∀ l : List α, (l.map fun x => c * f x).sum = c * (l.map f).sum
  | [] => by simp [Rat.mul_zero]
  | x :: l => by rw [List.map_cons, List.sum_cons, sum_mulQ f c l, List.map_cons, List.sum_cons, Rat.mul_add]
theorem sum_addQ {α : Type} (f g : α → Rat) : ∀ l : List α, (l.map fun x => f x + g x).sum = (l.map f).sum + (l.map g).sum
  | [] => by simp [Rat.add_zero]
  | x :: l => by
    rw [List.map_cons, List.sum_cons, sum_addQ f g l, List.map_cons, List.sum_cons, List.map_cons, List.sum_cons]
    grind
theorem sum_flatQ {α β : Type} (f : β → Rat) (g : α → List β) : ∀ l : List α, ((l.flatMap g).map f).sum = (l.map fun x => ((g x).map f).sum).sum
  | [] => rfl
  | x :: l => by rw [List.flatMap_cons, List.map_append, sum_appQ, sum_flatQ f g l, List.map_cons, List.sum_cons]
theorem fold_sumQ {α : Type} (f : α → Rat) : ∀ (l : List α) (a : Rat), l.foldl (fun acc x => acc + f x) a = a + (l.map f).sum
  | [], a => by simp [Rat.add_zero]
  | x :: l, a => by rw [List.foldl_cons, fold_sumQ f l, List.map_cons, List.sum_cons, Rat.add_assoc]

def wQ (ss : List Int) (s : List Nat) (k : Nat) : Rat := mkRat (ss.getD k 0) (sumP ss s).toNat
def upK (n : Nat) (t : List Nat) : List Nat := (List.range n).filter fun k => !decide (k ∈ t)
def lfF (ss : List Int) : Nat → List Nat → Rat
  | 0, _ => 1
  | f + 1, t => ((upK ss.length t).map fun k => lfF ss f (insS t k) * wQ ss (insS t k) k).sum
def lfT (ss : List Int) (t : List Nat) : Rat := lfF ss (ss.length - t.length) t
/-- a step: some kinds, and one that comes -/
abbrev Stp := List Nat × Nat
def stpQ (ss : List Int) (p : Stp) : Rat := lfT ss p.1 * wQ ss p.1 p.2
def stps (l : List (List Nat)) : List Stp := l.flatMap fun s => s.map fun k => (s, k)
theorem up_facts : ∀ n : _root_.Fin 6, ∀ t ∈ allS n.val, ∀ k ∈ upK n.val t, insS t k ∈ allS n.val ∧ (insS t k).length = t.length + 1 ∧ wo (insS t k) k = t ∧ k ∈ insS t k := by decide +kernel
theorem full_facts : ∀ n : _root_.Fin 6, ∀ t ∈ allS n.val, t.length ≤ n.val ∧ (t.length = n.val → t = List.range n.val) := by decide +kernel
theorem lfT_step {ss : List Int} (h5 : ss.length ≤ 5) {t : List Nat} (ht : t ∈ allS ss.length) (hl : t.length < ss.length) : lfT ss t = ((upK ss.length t).map fun k => stpQ ss (insS t k, k)).sum := by
  unfold lfT
  obtain ⟨f, hf⟩ : ∃ f, ss.length - t.length = f + 1 := ⟨ss.length - t.length - 1, by omega⟩
  rw [hf, lfF]
  refine congrArg List.sum (List.map_congr_left fun k hk => ?_)
  obtain ⟨h1, h2, _⟩ := up_facts ⟨ss.length, by omega⟩ t ht k hk
  unfold stpQ lfT
  rw [show ss.length - (insS t k).length = f by omega]
theorem lfT_full (ss : List Int) : lfT ss (List.range ss.length) = 1 := by
  unfold lfT
  rw [List.length_range, Nat.sub_self]; rfl
/-- the numbers behind some steps -/
def FA (ss : List Int) (pre : List Stp) (t : List Nat) : Rat := (if t = List.range ss.length then 1 else 0) + ((pre.filter fun p => decide (wo p.1 p.2 = t)).map (stpQ ss)).sum
theorem fa_next (ss : List Int) (pre : List Stp) (p : Stp) (t : List Nat) : FA ss (pre ++ [p]) t = if t = wo p.1 p.2 then FA ss pre t + stpQ ss p else FA ss pre t := by
  unfold FA
  rw [List.filter_append, List.map_append, sum_appQ]
  by_cases h : t = wo p.1 p.2
  · have e : ([p].filter fun q => decide (wo q.1 q.2 = t)) = [p] := by simp [h]
    rw [if_pos h, e, List.map_cons, List.map_nil, List.sum_cons, List.sum_nil]
    generalize (if t = List.range ss.length then (1 : Rat) else 0) = x
    grind
  · have e : ([p].filter fun q => decide (wo q.1 q.2 = t)) = [] := by simp [Ne.symm h]
    rw [if_neg h, e, List.map_nil, List.sum_nil, Rat.add_zero]
theorem stp_chk : ∀ n : _root_.Fin 6, ∀ i : _root_.Fin 33, ∀ s, (ordX n.val).reverse[i.val]? = some s →
    ((stps ((ordX n.val).reverse.take i.val)).filter fun p => decide (wo p.1 p.2 = s)).isPerm ((upK n.val s).map fun k => (insS s k, k)) = true := by
  intro n i
  have h : ∀ n : _root_.Fin 6, ∀ i : _root_.Fin 33, (match (ordX n.val).reverse[i.val]? with
    | some s => ((stps ((ordX n.val).reverse.take i.val)).filter fun p => decide (wo p.1 p.2 = s)).isPerm ((upK n.val s).map fun k => (insS s k, k))
    | none => true) = true := by decide +kernel
  intro s hs
  have := h n i
  rw [hs] at this
  exact this
theorem stp_end : ∀ n : _root_.Fin 6, ∀ s ∈ allS n.val, ((stps (ordX n.val).reverse).filter fun p => decide (wo p.1 p.2 = s)).isPerm ((upK n.val s).map fun k => (insS s k, k)) = true := by decide +kernel
theorem ordX_facts : ∀ n : _root_.Fin 6, (ordX n.val).length ≤ 32 ∧ (∀ s ∈ ordX n.val, s ∈ allS n.val) ∧ (∀ s ∈ allS n.val, ∀ k ∈ s, wo s k ∈ allS n.val ∧ wo s k ≠ s ∧ (wo s k).length + 1 = s.length) := by decide +kernel
theorem up_full (n : Nat) : upK n (List.range n) = [] := by
  unfold upK
  exact List.filter_eq_nil_iff.mpr fun k hk => by simp [List.mem_range.mp hk]
theorem fa_of {ss : List Int} (h5 : ss.length ≤ 5) {pre : List Stp} {s : List Nat} (hs : s ∈ allS ss.length) (h : (pre.filter fun p => decide (wo p.1 p.2 = s)).isPerm ((upK ss.length s).map fun k => (insS s k, k)) = true) : FA ss pre s = lfT ss s := by
  have hp := List.isPerm_iff.mp h
  unfold FA
  rw [sum_permQ (hp.map (stpQ ss)), List.map_map]
  obtain ⟨f1, f2⟩ := full_facts ⟨ss.length, by omega⟩ s hs
  by_cases hl : s.length = ss.length
  · have e := f2 hl
    have e : s = List.range ss.length := e
    rw [if_pos e, e, up_full, lfT_full, List.map_nil, List.sum_nil, Rat.add_zero]
  · rw [if_neg (fun e => hl (by rw [e, List.length_range])), Rat.zero_add, lfT_step h5 hs (by have : s.length ≤ ss.length := f1; omega)]
    rfl
theorem fa_at {ss : List Int} (h5 : ss.length ≤ 5) {i : Nat} {s : List Nat} (hi : (ordX ss.length).reverse[i]? = some s) (j : Nat) : FA ss (stps ((ordX ss.length).reverse.take i) ++ (s.take j).map fun k => (s, k)) s = lfT ss s := by
  obtain ⟨o1, o2, o3⟩ := ordX_facts ⟨ss.length, by omega⟩
  have hs : s ∈ allS ss.length := o2 s (List.mem_reverse.mp (List.mem_of_getElem? hi))
  have hil : i < 33 := by
    have := (List.getElem?_eq_some_iff.mp hi).1
    rw [List.length_reverse] at this
    have o1 : (ordX ss.length).length ≤ 32 := o1
    omega
  refine fa_of h5 hs ?_
  rw [List.filter_append]
  have e : (((s.take j).map fun k => (s, k)).filter fun p => decide (wo p.1 p.2 = s)) = [] := List.filter_eq_nil_iff.mpr fun p hp => by
    obtain ⟨k, hk, rfl⟩ := List.mem_map.mp hp
    simpa using (o3 s hs k (List.mem_of_mem_take hk)).2.1
  rw [e, List.append_nil]
  exact stp_chk ⟨ss.length, by omega⟩ ⟨i, hil⟩ s hi
theorem fa_all {ss : List Int} (h5 : ss.length ≤ 5) {s : List Nat} (hs : s ∈ allS ss.length) : FA ss (stps (ordX ss.length).reverse) s = lfT ss s := fa_of h5 hs (stp_end ⟨ss.length, by omega⟩ s hs)

/-! bounds -/
def InD (q : Rat) (D : Nat) : Prop := ∃ z : Int, q * ((D : Nat) : Rat) = (z : Rat)
theorem InD.add {p q : Rat} {D : Nat} (h : InD p D) (g : InD q D) : InD (p + q) D := by
  obtain ⟨x, hx⟩ := h
  obtain ⟨y, hy⟩ := g
  exact ⟨x + y, by rw [Rat.add_mul, hx, hy, Rat.intCast_add]⟩
theorem InD.dvd {q : Rat} {D E : Nat} (h : InD q D) (d : D ∣ E) : InD q E := by
  obtain ⟨x, hx⟩ := h
  obtain ⟨c, rfl⟩ := d
  exact ⟨x * c, by rw [Rat.natCast_mul, ← Rat.mul_assoc, hx, Rat.intCast_mul, Rat.intCast_natCast]⟩
theorem InD.int (z : Int) (D : Nat) : InD (z : Rat) D := ⟨z * D, by rw [Rat.intCast_mul, Rat.intCast_natCast]⟩
theorem InD.frac {q : Rat} {D : Nat} (h : InD q D) (a : Int) {b : Nat} (hb : 0 < b) : InD (q * mkRat a b) (D * b) := by
  obtain ⟨x, hx⟩ := h
  refine ⟨x * a, ?_⟩
  have hn := nat_ne hb
  rw [Rat.mkRat_eq_div, Rat.natCast_mul, Rat.intCast_mul, ← hx]
  generalize ((b : Nat) : Rat) = B at *
  generalize ((D : Nat) : Rat) = E at *
  generalize (a : Rat) = A at *
  grind
theorem InD.sum {α : Type} {f : α → Rat} {D : Nat} : ∀ {l : List α}, (∀ x ∈ l, InD (f x) D) → InD (l.map f).sum D
  | [], _ => by have := InD.int 0 D; simpa using this
  | x :: l, h => by
    rw [List.map_cons, List.sum_cons]
    exact (h x List.mem_cons_self).add (InD.sum fun y hy => h y (List.mem_cons_of_mem _ hy))
theorem InD.den {q : Rat} {D : Nat} (h : InD q D) (h0 : 0 < D) : q.den ≤ D := by
  obtain ⟨z, hz⟩ := h
  have e : q = mkRat z D := by
    have hn := nat_ne h0
    rw [Rat.mkRat_eq_div, ← hz]
    generalize ((D : Nat) : Rat) = E at *
    grind
  rw [e]
  exact den_mk_le z D h0
def lvP (ss : List Int) (l : Nat) : Nat := ((allS ss.length).filter fun s => decide (s.length = l)).foldr (fun s a => (sumP ss s).toNat * a) 1
def upP (ss : List Int) : Nat → Nat
  | 0 => 1
  | f + 1 => upP ss f * lvP ss (ss.length - f)
theorem dvd_fold {α : Type} (f : α → Nat) : ∀ {l : List α} {x : α}, x ∈ l → f x ∣ l.foldr (fun s a => f s * a) 1
  | y :: l, x, h => by
    rw [List.foldr_cons]
    rcases List.mem_cons.mp h with rfl | h
    · exact Nat.dvd_mul_right _ _
    · exact Nat.dvd_trans (dvd_fold f h) (Nat.dvd_mul_left _ _)
theorem fold_le {α : Type} (f : α → Nat) : ∀ {l : List α}, (∀ x ∈ l, 0 < f x ∧ f x ≤ 64) → 0 < l.foldr (fun s a => f s * a) 1 ∧ l.foldr (fun s a => f s * a) 1 ≤ 2 ^ (6 * l.length)
  | [], _ => by simp
  | x :: l, h => by
    obtain ⟨h1, h2⟩ := fold_le f fun y hy => h y (List.mem_cons_of_mem _ hy)
    obtain ⟨g1, g2⟩ := h x List.mem_cons_self
    rw [List.foldr_cons, List.length_cons, Nat.mul_add, Nat.pow_add, Nat.mul_comm (2 ^ _)]
    exact ⟨Nat.mul_pos g1 h1, Nat.mul_le_mul g2 h2⟩
theorem sum_ok {ss : List Int} (hs : Shares ss) {s : List Nat} (h : s ∈ allS ss.length) (h0 : s ≠ []) : 0 < (sumP ss s).toNat ∧ (sumP ss s).toNat ≤ 64 ∧ ((sumP ss s).toNat : Int) = sumP ss s := by
  have hk := allS_kinds h
  have h1 := sumP_pos hs h0 hk.lt
  have h2 := sumP_le hs hk
  omega
theorem lvP_ok {ss : List Int} (hs : Shares ss) {l : Nat} (hl : 0 < l) : 0 < lvP ss l ∧ lvP ss l ≤ 2 ^ 192 := by
  have hf := hs.few
  obtain ⟨h1, h2⟩ := fold_le (fun s => (sumP ss s).toNat) (l := (allS ss.length).filter fun s => decide (s.length = l)) fun s hs' => by
    obtain ⟨a1, a2⟩ := List.mem_filter.mp hs'
    have a2 : s.length = l := by simpa using a2
    have := sum_ok hs a1 (fun e => by rw [e] at a2; simp at a2; omega)
    exact ⟨this.1, this.2.1⟩
  refine ⟨h1, Nat.le_trans h2 (Nat.pow_le_pow_right (by decide) ?_)⟩
  have : ((allS ss.length).filter fun s => decide (s.length = l)).length ≤ 32 := by
    refine Nat.le_trans (List.length_filter_le _ _) ?_
    rw [allS_len]
    exact Nat.pow_le_pow_right (by decide) hf
  omega
theorem upP_ok {ss : List Int} (hs : Shares ss) : ∀ f, f ≤ ss.length → 0 < upP ss f ∧ upP ss f ≤ 2 ^ (192 * f)
  | 0, _ => by simp [upP]
  | f + 1, h => by
    obtain ⟨h1, h2⟩ := upP_ok hs f (by omega)
    obtain ⟨g1, g2⟩ := lvP_ok hs (l := ss.length - f) (by omega)
    rw [upP, Nat.mul_add, Nat.pow_add]
    exact ⟨Nat.mul_pos h1 g1, Nat.mul_le_mul h2 g2⟩
theorem upP_dvd (ss : List Int) : ∀ {f g : Nat}, f ≤ g → upP ss f ∣ upP ss g
  | f, 0, h => by
    have : f = 0 := by omega
    subst this; exact Nat.dvd_refl _
  | f, g + 1, h => by
    by_cases e : f = g + 1
    · subst e; exact Nat.dvd_refl _
    · exact Nat.dvd_trans (upP_dvd ss (show f ≤ g by omega)) (Nat.dvd_mul_right _ _)
theorem lv_dvd {ss : List Int} {s : List Nat} (h : s ∈ allS ss.length) : (sumP ss s).toNat ∣ lvP ss s.length := dvd_fold (fun s => (sumP ss s).toNat) (List.mem_filter.mpr ⟨h, by simp⟩)
structure ChB (q : Rat) (D v : Nat) : Prop where
  nn : 0 ≤ q
  le : q ≤ (v : Rat)
  ind : InD q D
theorem wQ_b {ss : List Int} (hs : Shares ss) {s : List Nat} (h : s ∈ allS ss.length) (h0 : s ≠ []) (k : Nat) : 0 ≤ wQ ss s k ∧ wQ ss s k ≤ ((9 : Nat) : Rat) := by
  obtain ⟨h1, h2⟩ := getD_bounds hs k
  obtain ⟨g1, g2, _⟩ := sum_ok hs h h0
  have e : ss.getD k 0 = (((ss.getD k 0).toNat : Nat) : Int) := by omega
  have q := (QB.nat (ss.getD k 0).toNat).over (n := (sumP ss s).toNat) (e := 6) (w := 9) g1 g2 (by
    have : 9 * 1 ≤ 9 * (sumP ss s).toNat := Nat.mul_le_mul_left 9 g1
    omega)
  rw [← e] at q
  have e2 : ((ss.getD k 0 : Int) : Rat) * mkRat 1 (sumP ss s).toNat = wQ ss s k := by
    unfold wQ
    rw [Rat.mkRat_eq_div, Rat.mkRat_eq_div, Rat.div_def, Rat.div_def]
    grind
  rw [e2] at q
  exact ⟨q.nn, q.le⟩
theorem ch_mul {p q : Rat} {u v : Nat} (a : 0 ≤ p ∧ p ≤ (u : Rat)) (b : 0 ≤ q ∧ q ≤ (v : Rat)) : 0 ≤ p * q ∧ p * q ≤ ((u * v : Nat) : Rat) := by
  refine ⟨Rat.mul_nonneg a.1 b.1, ?_⟩
  rw [Rat.natCast_mul]
  exact Rat.le_trans (Rat.mul_le_mul_of_nonneg_right a.2 b.1) (Rat.mul_le_mul_of_nonneg_left b.2 (Rat.le_trans a.1 a.2))
theorem ch_sum {α : Type} {f : α → Rat} {v : Nat} : ∀ {l : List α}, (∀ x ∈ l, 0 ≤ f x ∧ f x ≤ (v : Rat)) → 0 ≤ (l.map f).sum ∧ (l.map f).sum ≤ ((l.length * v : Nat) : Rat)
  | [], _ => by simp [Rat.le_refl]
  | x :: l, h => by
    obtain ⟨h1, h2⟩ := ch_sum fun y hy => h y (List.mem_cons_of_mem _ hy)
    obtain ⟨g1, g2⟩ := h x List.mem_cons_self
    rw [List.map_cons, List.sum_cons, List.length_cons, Nat.succ_mul, Nat.add_comm, Rat.natCast_add]
    exact ⟨Rat.add_nonneg g1 h1, by grind⟩
theorem lfF_b {ss : List Int} (hs : Shares ss) : ∀ (f : Nat) (t : List Nat), t ∈ allS ss.length → t.length + f = ss.length → ChB (lfF ss f t) (upP ss f) (45 ^ f)
  | 0, t, ht, hl => ⟨by rw [lfF]; decide, by rw [lfF]; decide, by rw [lfF]; exact InD.int 1 _⟩
  | f + 1, t, ht, hl => by
    have h5 := hs.few
    have hup : (upK ss.length t).length ≤ 5 := by
      refine Nat.le_trans (List.length_filter_le _ _) ?_
      rw [List.length_range]; exact h5
    have each : ∀ k ∈ upK ss.length t, ChB (lfF ss f (insS t k)) (upP ss f) (45 ^ f) ∧ (0 ≤ wQ ss (insS t k) k ∧ wQ ss (insS t k) k ≤ ((9 : Nat) : Rat)) ∧ InD (lfF ss f (insS t k) * wQ ss (insS t k) k) (upP ss (f + 1)) := fun k hk => by
      obtain ⟨h1, h2, h3, h4⟩ := up_facts ⟨ss.length, by omega⟩ t ht k hk
      have h1 : insS t k ∈ allS ss.length := h1
      have hne : insS t k ≠ [] := fun e => by rw [e] at h2; simp at h2
      have c := lfF_b hs f (insS t k) h1 (by omega)
      refine ⟨c, wQ_b hs h1 hne k, ?_⟩
      have z := c.ind.frac (ss.getD k 0) (sum_ok hs h1 hne).1
      refine z.dvd ?_
      rw [upP]
      refine Nat.mul_dvd_mul (Nat.dvd_refl _) ?_
      have := lv_dvd h1
      rw [show (insS t k).length = ss.length - f by omega] at this
      exact this
    obtain ⟨b1, b2⟩ := ch_sum (f := fun k => lfF ss f (insS t k) * wQ ss (insS t k) k) (v := 45 ^ f * 9) (l := upK ss.length t) fun k hk => by
      obtain ⟨c, w, _⟩ := each k hk
      exact ch_mul ⟨c.nn, c.le⟩ w
    rw [lfF]
    refine ⟨b1, Rat.le_trans b2 (Rat.natCast_le_natCast.mpr ?_), InD.sum fun k hk => (each k hk).2.2⟩
    rw [Nat.pow_succ]
    have := Nat.mul_le_mul_right (45 ^ f * 9) hup
    omega
theorem ChB.frB {q : Rat} {D v d e : Nat} (h : ChB q D v) (h0 : 0 < D) (hD : D ≤ 2 ^ d) (hv : v < 2 ^ e) : FrB q (d + e + 1) :=
  QB.frB ⟨h.nn, h.le, Nat.le_trans (h.ind.den h0) hD⟩ hv
theorem lfT_b {ss : List Int} (hs : Shares ss) {t : List Nat} (ht : t ∈ allS ss.length) : ChB (lfT ss t) (upP ss (ss.length - t.length)) (45 ^ 5) := by
  have h1 := (allS_mem _ t ht).1
  have c := lfF_b hs (ss.length - t.length) t ht (by omega)
  exact ⟨c.nn, Rat.le_trans c.le (Rat.natCast_le_natCast.mpr (Nat.pow_le_pow_right (by decide) (by have := hs.few; omega))), c.ind⟩
theorem stp_b {ss : List Int} (hs : Shares ss) {s : List Nat} (h : s ∈ allS ss.length) {k : Nat} (hk : k ∈ s) : ChB (stpQ ss (s, k)) (upP ss (ss.length - s.length + 1)) (45 ^ 6) := by
  have hne : s ≠ [] := fun e => by rw [e] at hk; cases hk
  have hl := (allS_mem _ s h).1
  have hp := List.length_pos_iff.mpr hne
  have c := lfT_b hs h
  have w := wQ_b hs h hne k
  obtain ⟨b1, b2⟩ := ch_mul ⟨c.nn, c.le⟩ w
  refine ⟨b1, Rat.le_trans b2 (Rat.natCast_le_natCast.mpr (by decide)), ?_⟩
  refine (c.ind.frac (ss.getD k 0) (sum_ok hs h hne).1).dvd ?_
  rw [upP]
  refine Nat.mul_dvd_mul (Nat.dvd_refl _) ?_
  have := lv_dvd h
  rw [show s.length = ss.length - (ss.length - s.length) by omega] at this
  exact this
theorem stp_fr {ss : List Int} (hs : Shares ss) {s : List Nat} (h : s ∈ allS ss.length) {k : Nat} (hk : k ∈ s) : FrB (stpQ ss (s, k)) 1300 := by
  have hl := (allS_mem _ s h).1
  have hp := List.length_pos_iff.mpr (fun e : s = [] => by rw [e] at hk; cases hk)
  have h5 := hs.few
  obtain ⟨u1, u2⟩ := upP_ok hs (ss.length - s.length + 1) (by omega)
  exact ((stp_b hs h hk).frB u1 (Nat.le_trans u2 (Nat.pow_le_pow_right (by decide) (show _ ≤ 960 by omega))) (e := 36) (by decide)).mono (by decide)
theorem lfT_fr {ss : List Int} (hs : Shares ss) {t : List Nat} (ht : t ∈ allS ss.length) : FrB (lfT ss t) 1300 := by
  have h5 := hs.few
  obtain ⟨u1, u2⟩ := upP_ok hs (ss.length - t.length) (by omega)
  exact ((lfT_b hs ht).frB u1 (Nat.le_trans u2 (Nat.pow_le_pow_right (by decide) (show _ ≤ 960 by omega))) (e := 36) (by decide)).mono (by decide)
theorem fa_fr {ss : List Int} (hs : Shares ss) {pre : List Stp} (hp : ∀ p ∈ pre, p.1 ∈ allS ss.length ∧ p.2 ∈ p.1) (hl : pre.length ≤ 100) (t : List Nat) : FrB (FA ss pre t) 1300 := by
  have h5 := hs.few
  have each : ∀ p ∈ pre.filter (fun p => decide (wo p.1 p.2 = t)), ChB (stpQ ss p) (upP ss ss.length) (45 ^ 6) := fun p hm => by
    obtain ⟨a1, a2⟩ := hp p (List.mem_filter.mp hm).1
    have b := stp_b hs a1 a2
    have l1 := (allS_mem _ p.1 a1).1
    have l0 := List.length_pos_iff.mpr (fun e : p.1 = [] => by rw [e] at a2; cases a2)
    exact ⟨b.nn, b.le, b.ind.dvd (upP_dvd ss (by omega))⟩
  obtain ⟨b1, b2⟩ := ch_sum (f := stpQ ss) (v := 45 ^ 6) fun p hm => ⟨(each p hm).nn, (each p hm).le⟩
  have hlen : (pre.filter fun p => decide (wo p.1 p.2 = t)).length ≤ 100 := Nat.le_trans (List.length_filter_le _ _) hl
  have base : ChB (if t = List.range ss.length then (1 : Rat) else 0) (upP ss ss.length) 1 := by
    split
    · exact ⟨by decide, by decide, InD.int 1 _⟩
    · exact ⟨by decide, by decide, InD.int 0 _⟩
  have c : ChB (FA ss pre t) (upP ss ss.length) (1 + 100 * 45 ^ 6) := by
    refine ⟨Rat.add_nonneg base.nn b1, ?_, base.ind.add (InD.sum fun p hm => (each p hm).ind)⟩
    have b3 := Rat.le_trans b2 (Rat.natCast_le_natCast.mpr (Nat.mul_le_mul_right (45 ^ 6) hlen))
    have b4 := base.le
    unfold FA
    rw [Rat.natCast_add]
    grind
  obtain ⟨u1, u2⟩ := upP_ok hs ss.length (Nat.le_refl _)
  exact (c.frB u1 (Nat.le_trans u2 (Nat.pow_le_pow_right (by decide) (show _ ≤ 960 by omega))) (e := 43) (by decide)).mono (by decide)
end DL

/-! how long until so many kinds have come: by who is left, forth and back -/
namespace DL
open PySem L2

def mnF (ss : List Int) (num : Nat) : Nat → List Nat → Rat
  | 0, _ => 0
  | f + 1, s => if ss.length < num + (f + 1) then dueT ss (mnF ss num f) s else 0
def mnT (ss : List Int) (num : Nat) (s : List Nat) : Rat := mnF ss num s.length s
theorem mnT_nil (ss : List Int) (num : Nat) : mnT ss num [] = 0 := rfl
theorem mnT_step (ss : List Int) (num : Nat) {s : List Nat} (hs : s.Pairwise (· < ·)) (h0 : s ≠ []) : mnT ss num s = if ss.length < num + s.length then dueT ss (mnT ss num) s else 0 := by
  unfold mnT
  cases hn : s.length with
  | zero => exact absurd (List.length_eq_zero_iff.mp hn) h0
  | succ n =>
    rw [mnF]
    split
    · unfold dueT
      rw [dueAcc_congr (P' := fun o => mnF ss num o.length o) (fun k hk => ?_) s (fun _ h => h)]
      have := without_len hs hk
      show mnF ss num n _ = mnF ss num _ _
      rw [show (s.filter fun x => !decide (x = k)).length = n by omega]
    · rfl
theorem mn_bound {ss : List Int} (hs : Shares ss) (num : Nat) : ∀ (n : Nat) (s : List Nat), s.length = n → Kinds ss.length s → QB (mnT ss num s) (dB n) (45 * n)
  | 0, s, hl, hk => by
    obtain rfl : s = [] := List.length_eq_zero_iff.mp hl
    rw [mnT_nil]
    exact ⟨Rat.le_refl, Rat.le_refl, Nat.le_refl 1⟩
  | n + 1, s, hl, hk => by
    have h0 : s ≠ [] := fun e => by rw [e] at hl; cases hl
    rw [mnT_step ss num hk.up h0]
    split
    · exact due_bound hs hk h0 hl fun k hks => mn_bound hs num n _ (by have := without_len hk.up hks; omega) (kinds_without hk k)
    · refine ⟨Rat.le_refl, Rat.natCast_nonneg, ?_⟩
      show 1 ≤ 2 ^ dB (n + 1)
      exact Nat.one_le_two_pow
theorem mn_fr {ss : List Int} (hs : Shares ss) (num : Nat) {s : List Nat} (hk : Kinds ss.length s) : FrB (mnT ss num s) 1300 := by
  have h1 := hk.len
  have h2 := hs.few
  have h3 := dB_le (n := s.length) (by omega)
  exact ((mn_bound hs num s.length s rfl hk).frB (e := 8) (by show _ < 256; omega)).mono (by omega)
def lvl (n l : Nat) : List (List Nat) := (allS n).filter fun s => decide (s.length = l)
theorem lvl_mem {n l : Nat} {s : List Nat} (h : s ∈ lvl n l) : s ∈ allS n ∧ s.length = l := by
  obtain ⟨a, b⟩ := List.mem_filter.mp h
  exact ⟨a, by simpa using b⟩
def cT (ss : List Int) (s : List Nat) : Rat := lfT ss s * mkRat ss.sum (sumP ss s).toNat
def lvA (ss : List Int) (num l : Nat) : Rat := ((lvl ss.length l).map fun s => lfT ss s * mnT ss num s).sum
def lvC (ss : List Int) (l : Nat) : Rat := ((lvl ss.length l).map (cT ss)).sum
theorem due_sum (ss : List Int) (P : List Nat → Rat) (s : List Nat) : dueT ss P s = (((ss.sum : Int) : Rat) + (s.map fun k => ((ss.getD k 0 : Int) : Rat) * P (wo s k)).sum) * mkRat 1 (sumP ss s).toNat := by
  unfold dueT dueAcc
  rw [fold_sumQ]
  rfl
theorem mk_one (a : Int) (b : Nat) : mkRat a b = ((a : Int) : Rat) * mkRat 1 b := by
  rw [Rat.mkRat_eq_div, Rat.mkRat_eq_div, Rat.div_def, Rat.div_def]
  grind
theorem mk_int (a : Int) : mkRat a 1 = (a : Rat) := by rw [mk_one, show mkRat 1 1 = 1 from rfl, Rat.mul_one]
theorem term_split (ss : List Int) (P : List Nat → Rat) (s : List Nat) : lfT ss s * dueT ss P s = cT ss s + (s.map fun k => stpQ ss (s, k) * P (wo s k)).sum := by
  rw [due_sum]
  have e : (s.map fun k => stpQ ss (s, k) * P (wo s k)).sum = lfT ss s * mkRat 1 (sumP ss s).toNat * (s.map fun k => ((ss.getD k 0 : Int) : Rat) * P (wo s k)).sum := by
    rw [← sum_mulQ]
    refine congrArg List.sum (List.map_congr_left fun k _ => ?_)
    unfold stpQ wQ
    rw [mk_one (ss.getD k 0)]
    grind
  rw [e]
  unfold cT
  rw [mk_one ss.sum]
  generalize (s.map fun k => ((ss.getD k 0 : Int) : Rat) * P (wo s k)).sum = x
  grind
theorem swap_chk : ∀ n l : _root_.Fin 6, (stps (lvl n.val (l.val + 1))).isPerm ((lvl n.val l.val).flatMap fun t => (upK n.val t).map fun k => (insS t k, k)) = true := by decide +kernel
theorem lvA_step {ss : List Int} (h5 : ss.length ≤ 5) {num l : Nat} (hl : l < ss.length) (hc : ss.length < num + (l + 1)) : lvA ss num (l + 1) = lvC ss (l + 1) + lvA ss num l := by
  have e1 : lvA ss num (l + 1) = lvC ss (l + 1) + ((stps (lvl ss.length (l + 1))).map fun p => stpQ ss p * mnT ss num (wo p.1 p.2)).sum := by
    unfold lvA lvC stps
    rw [sum_flatQ, ← sum_addQ]
    refine congrArg List.sum (List.map_congr_left fun s hs => ?_)
    obtain ⟨a1, a2⟩ := lvl_mem hs
    rw [mnT_step ss num (allS_kinds a1).up (fun e => by rw [e] at a2; cases a2), if_pos (by rw [a2]; exact hc), term_split, List.map_map]
    rfl
  rw [e1]
  refine congrArg (lvC ss (l + 1) + ·) ?_
  have hp := List.isPerm_iff.mp (swap_chk ⟨ss.length, by omega⟩ ⟨l, by omega⟩)
  have hp : (stps (lvl ss.length (l + 1))).Perm ((lvl ss.length l).flatMap fun t => (upK ss.length t).map fun k => (insS t k, k)) := hp
  rw [sum_permQ (hp.map fun p => stpQ ss p * mnT ss num (wo p.1 p.2)), sum_flatQ]
  unfold lvA
  refine congrArg List.sum (List.map_congr_left fun t ht => ?_)
  obtain ⟨a1, a2⟩ := lvl_mem ht
  rw [List.map_map, lfT_step h5 a1 (by omega), Rat.mul_comm, ← sum_mulQ]
  refine congrArg List.sum (List.map_congr_left fun k hk => ?_)
  obtain ⟨_, _, e, _⟩ := up_facts ⟨ss.length, by omega⟩ t a1 k hk
  show stpQ ss (insS t k, k) * mnT ss num (wo (insS t k) k) = _
  rw [e, Rat.mul_comm]
theorem lvA_zero {ss : List Int} {num l : Nat} (h : num + l ≤ ss.length) : lvA ss num l = 0 := by
  unfold lvA
  have e : ((lvl ss.length l).map fun s => lfT ss s * mnT ss num s) = (lvl ss.length l).map fun _ => (0 : Rat) := List.map_congr_left fun s hs => by
    obtain ⟨a1, a2⟩ := lvl_mem hs
    have : mnT ss num s = 0 := by
      by_cases h0 : s = []
      · rw [h0, mnT_nil]
      · rw [mnT_step ss num (allS_kinds a1).up h0, if_neg (by omega)]
    rw [this, Rat.mul_zero]
  rw [e]
  induction (lvl ss.length l) with
  | nil => rfl
  | cons x t ih => rw [List.map_cons, List.sum_cons, ih, Rat.zero_add]
theorem lvl_full : ∀ n : _root_.Fin 6, lvl n.val n.val = [List.range n.val] := by decide +kernel
theorem lvA_tel {ss : List Int} (h5 : ss.length ≤ 5) {num : Nat} (hn : num ≤ ss.length) : ∀ j, j ≤ num → lvA ss num ss.length = ((List.range j).map fun i => lvC ss (ss.length - i)).sum + lvA ss num (ss.length - j)
  | 0, _ => by simp [Rat.zero_add]
  | j + 1, h => by
    rw [lvA_tel h5 hn j (by omega), List.range_succ, List.map_append, sum_appQ]
    have := lvA_step h5 (num := num) (l := ss.length - j - 1) (by omega) (by omega)
    rw [show ss.length - j - 1 + 1 = ss.length - j by omega] at this
    rw [this, show ss.length - (j + 1) = ss.length - j - 1 by omega]
    simp only [List.map_cons, List.map_nil, List.sum_cons, List.sum_nil, Rat.add_zero]
    grind
def inR (n num : Nat) (s : List Nat) : Bool := decide (n < num + s.length)
theorem lvl_all : ∀ n num : _root_.Fin 6, num ≤ n → ((allS n.val).filter (inR n.val num.val)).isPerm ((List.range num.val).flatMap fun i => lvl n.val (n.val - i)) = true := by decide +kernel
theorem mean_both {ss : List Int} (h5 : ss.length ≤ 5) {num : Nat} (hn : num ≤ ss.length) : (((allS ss.length).filter (inR ss.length num)).map (cT ss)).sum = mnT ss num (List.range ss.length) := by
  have hp := List.isPerm_iff.mp (lvl_all ⟨ss.length, by omega⟩ ⟨num, by omega⟩ hn)
  have hp : ((allS ss.length).filter (inR ss.length num)).Perm ((List.range num).flatMap fun i => lvl ss.length (ss.length - i)) := hp
  rw [sum_permQ (hp.map (cT ss)), sum_flatQ]
  have e := lvA_tel h5 hn num (Nat.le_refl _)
  rw [lvA_zero (l := ss.length - num) (by omega), Rat.add_zero] at e
  have f : lvA ss num ss.length = mnT ss num (List.range ss.length) := by
    unfold lvA
    rw [lvl_full ⟨ss.length, by omega⟩]
    simp only [List.map_cons, List.map_nil, List.sum_cons, List.sum_nil]
    rw [lfT_full, Rat.one_mul, Rat.add_zero]
  rw [← f, e]
  rfl
theorem cT_fr {ss : List Int} (hs : Shares ss) {num : Nat} {l : List (List Nat)} (hl : l.length ≤ 32) (h : ∀ s ∈ l, s ∈ allS ss.length ∧ s ≠ []) : FrB ((l.map (cT ss)).sum) 1300 := by
  have h5 := hs.few
  obtain ⟨t1, t2⟩ := shares_sum hs
  have each : ∀ s ∈ l, ChB (cT ss s) (upP ss ss.length) (45 ^ 6) := fun s hm => by
    obtain ⟨a1, a2⟩ := h s hm
    have c := lfT_b hs a1
    have l1 := (allS_mem _ s a1).1
    have l0 := List.length_pos_iff.mpr a2
    obtain ⟨g1, g2, _⟩ := sum_ok hs a1 a2
    have q := (QB.nat ss.sum.toNat).over (n := (sumP ss s).toNat) (e := 6) (w := 45) g1 g2 (by
      have : 45 * 1 ≤ 45 * (sumP ss s).toNat := Nat.mul_le_mul_left 45 g1
      omega)
    have e : ((ss.sum.toNat : Nat) : Int) = ss.sum := by omega
    rw [e, ← mk_one] at q
    obtain ⟨b1, b2⟩ := ch_mul ⟨c.nn, c.le⟩ ⟨q.nn, q.le⟩
    refine ⟨b1, Rat.le_trans b2 (Rat.natCast_le_natCast.mpr (by decide)), ?_⟩
    refine ((c.ind.frac ss.sum g1).dvd ?_).dvd (upP_dvd ss (show ss.length - s.length + 1 ≤ ss.length by omega))
    rw [upP]
    refine Nat.mul_dvd_mul (Nat.dvd_refl _) ?_
    have := lv_dvd a1
    rw [show s.length = ss.length - (ss.length - s.length) by omega] at this
    exact this
  obtain ⟨b1, b2⟩ := ch_sum (f := cT ss) (v := 45 ^ 6) fun s hm => ⟨(each s hm).nn, (each s hm).le⟩
  obtain ⟨u1, u2⟩ := upP_ok hs ss.length (Nat.le_refl _)
  have c : ChB ((l.map (cT ss)).sum) (upP ss ss.length) (32 * 45 ^ 6) := ⟨b1, Rat.le_trans b2 (Rat.natCast_le_natCast.mpr (Nat.mul_le_mul_right _ hl)), InD.sum fun s hm => (each s hm).ind⟩
  exact (c.frB u1 (Nat.le_trans u2 (Nat.pow_le_pow_right (by decide) (show _ ≤ 960 by omega))) (e := 43) (by decide)).mono (by decide)

theorem mnacc_fr {ss : List Int} (hs : Shares ss) (num : Nat) {s : List Nat} (hk : Kinds ss.length s) (i : Nat) : FrB (dueAcc ss (mnT ss num) s (s.take i)) 1300 := by
  have h5 := hs.few
  have hsl := hk.len
  by_cases h0 : s = []
  · subst h0
    have e : dueAcc ss (mnT ss num) [] (([] : List Nat).take i) = ((ss.sum : Int) : Rat) := by rw [List.take_nil]; rfl
    obtain ⟨t1, t2⟩ := shares_sum hs
    rw [e]
    exact ⟨bt_lit (i := ss.sum) (n := 7) (by show _ < 128; omega) (by decide), bt_lit (i := 1) (n := 1) (by decide) (by decide)⟩
  · obtain ⟨n, hn⟩ : ∃ n, s.length = n + 1 := ⟨s.length - 1, by have := List.length_pos_iff.mpr h0; omega⟩
    have h1 := acc_bound hs (n := n) (d := dB n) (fun k hks => mn_bound hs num n _ (by have := without_len hk.up hks; omega) (kinds_without hk k)) (s.take i) fun k hk' => List.mem_of_mem_take hk'
    have hle : sumP ss (s.take i) ≤ 45 := by
      have := sumP_le9 hs (s.take i)
      have hl : (s.take i).length ≤ 5 := by rw [List.length_take]; omega
      omega
    have hd := dB_le (n := n) (by omega)
    have hl : (s.take i).length ≤ n + 1 := by rw [List.length_take]; omega
    have hB : (n + 1) * dB n ≤ 1236 := by
      have := dB_le (n := n + 1) (by omega)
      rw [dB] at this
      omega
    have hm : (s.take i).length * dB n ≤ 1236 := Nat.le_trans (Nat.mul_le_mul_right _ hl) hB
    refine (h1.frB (e := 14) ?_).mono (by omega)
    have h4 : 45 * n * (sumP ss (s.take i)).toNat ≤ 45 * 5 * 45 := Nat.mul_le_mul (Nat.mul_le_mul_left 45 (by omega)) (by omega)
    show _ < 16384
    omega
def updQ (f : List Nat → Rat) (t : List Nat) (v : Rat) : List Nat → Rat := fun u => if u = t then v else f u
def tabQ (f : List Nat → Rat) (l : List (List Nat)) : List (List Int × Val) := l.map fun s => (kn s, Val.d (frac (f s)))
theorem tabT_dI (f : List Nat → Rat) (l : List (List Nat)) : tabT f l = dI (tabQ f l) := by
  unfold tabT dI tabQ
  rw [List.map_map]; rfl
theorem ordX_ahead : ∀ n : _root_.Fin 6, ∀ i : _root_.Fin 33, ∀ s, (ordX n.val)[i.val]? = some s → (∀ k ∈ s, wo s k ∈ (ordX n.val).take i.val) ∧ s ∉ (ordX n.val).take i.val := by
  intro n i s hs
  have h : ∀ n : _root_.Fin 6, ∀ i : _root_.Fin 33, (match (ordX n.val)[i.val]? with
    | some s => decide ((∀ k ∈ s, wo s k ∈ (ordX n.val).take i.val) ∧ s ∉ (ordX n.val).take i.val)
    | none => true) = true := by decide +kernel
  have := h n i
  rw [hs] at this
  exact of_decide_eq_true this
theorem ordX_range : ∀ n : _root_.Fin 6, List.range n.val ∈ ordX n.val := by decide +kernel
theorem tabT_new {f : List Nat → Rat} {t : List Nat} {v : Rat} {l : List (List Nat)} (h : t ∉ l) : putV (tabT f l) (kI (kn t)) (.d (frac v)) = tabT (updQ f t v) (l ++ [t]) := by
  rw [putV_new]
  · unfold tabT
    rw [List.map_append, List.map_cons, List.map_nil]
    have e : (l.map fun s => (kI (kn s), Val.d (frac (f s)))) = l.map fun s => (kI (kn s), Val.d (frac (updQ f t v s))) := List.map_congr_left fun s hs => by rw [show updQ f t v s = f s from if_neg (fun (e : s = t) => h (by rw [← e]; exact hs))]
    rw [e, show updQ f t v t = v from if_pos rfl]
  · intro p hp e
    unfold tabT at hp
    obtain ⟨s, hs, rfl⟩ := List.mem_map.mp hp
    obtain rfl := knI_inj e
    exact h hs

/-! words -/
def f_chancesOf : FSp := fun args m R => ∃ ss : List Int, args = [.d (tupI ss)] ∧ Shares ss ∧ ∀ p, m p = none → R (.v (.ref p)) (put m p (.dT (tabT (lfT ss) (allS ss.length))))
def f_meanKinds : FSp := fun args m R => ∃ (ss : List Int) (num : Nat), args = [.d (tupI ss), .d (.int (num : Int))] ∧ Shares ss ∧ num ≤ ss.length ∧ R (.d (frac (mnT ss num (List.range ss.length)))) m
def f_lawSetsX : FSp := fun args m R => ∃ n : Nat, args = [.d (.int (n : Int))] ∧ n ≤ 5 ∧ R (.lt ((ordX n).map kn)) m
theorem putV_tabT {f : List Nat → Rat} {t : List Nat} {v : Rat} {l : List (List Nat)} (h : t ∈ l) : putV (tabT f l) (kI (kn t)) (.d (frac v)) = tabT (updQ f t v) l := by
  unfold putV
  rw [if_pos ?_]
  · unfold tabT
    rw [List.map_map]
    refine List.map_congr_left fun s _ => ?_
    show (if kI (kn s) = kI (kn t) then (kI (kn s), Val.d (frac v)) else (kI (kn s), .d (frac (f s)))) = (kI (kn s), Val.d (frac (updQ f t v s)))
    by_cases e : s = t
    · subst e; rw [if_pos rfl]; unfold updQ; rw [if_pos rfl]
    · rw [if_neg (fun z => e (knI_inj z))]; unfold updQ; rw [if_neg e]
  · rw [List.any_eq_true]
    exact ⟨_, List.mem_map.mpr ⟨t, h, rfl⟩, by simp⟩
theorem tabT_congr {f g : List Nat → Rat} {l : List (List Nat)} (h : ∀ s ∈ l, f s = g s) : tabT f l = tabT g l := by
  unfold tabT
  exact List.map_congr_left fun s hs => by rw [h s hs]
section
variable {K : PySem.W.Frag} {r : List Val} {m : Mm} {Q : Val → Mm → Prop} {te tl ta tb : TE} {tt : TT}
theorem kRevL {X : Cx} (K : PySem.W.Frag) {e : Expr} {te : TE} (h : PE X e (tRevL X.K te)) (hK : X.K = K := by rfl) : PE X e (tRevL K te) := hK ▸ h
theorem TAll.rev {G : Hp} : ∀ {nss : List (List Int)} {xs : List V}, TAll G nss xs → TAll G nss.reverse xs.reverse
  | [], xs, h => by
    have h : xs = [] := h
    subst h; exact rfl
  | ns :: r, xs, h => by
    obtain ⟨b, t, rfl, h2, h3⟩ := h
    rw [List.reverse_cons, List.reverse_cons]
    exact (TAll.rev h3).append ⟨b, [], rfl, h2, rfl⟩
theorem ev_revLt (h : Ev K te r m fun x m1 => ∃ nss, x = .lt nss ∧ Q (.lt nss.reverse) m1) : Ev K (tRevL K te) r m Q := fun σ H G S L R k =>
  h σ H G S L _ fun v H1 G1 x m1 ⟨nss, hx, q⟩ S1 e1 r1 => by
    subst hx
    cases r1 with
    | lt h1 h2 =>
      refine ⟨_, _, rfl, Or.inl (Le.rd S1.sub h1), fun p hp => ?_⟩
      have hg := S1.free hp
      exact k _ _ _ _ m1 q (S1.fix hp) (e1.trans (Le.new hg)) (.lt (Rd.of upd_same) ((TAll.rev h2).mono (Le.new hg)))
theorem ev_pickT {a b j : Nat} {ss : List Int} {ks : List Nat} (ha : r[a]? = some (.t (kn ks))) (hb : r[b]? = some (.d (tupI ss))) (hj : j < r.length) (h2 : j ≠ b) (hz : ks.length ≤ 1000) (hk : ∀ k ∈ ks, k < ss.length) (q : Q (.d (.list ((ks.map fun k => ss.getD k 0).map PyData.int))) m) :
    Ev K (tLc (iTup K (tVar a)) (gName j) tYes (tOp (rIx K) (tVar b) (tVar j)) [j]) r m Q := by
  refine ev_mapTf (xs := ks) (f := intN) (ev_varTN ha ⟨by rw [tupN_eq], rfl⟩) (by omega) (fun k => .int (ss.getD k 0)) (fun k m' hk1 hx => ?_) (by rw [List.map_map] at q; exact q)
  exact ev_op (ev_var (x := .d (tupI ss)) (by rw [List.getElem?_set_ne h2]; exact hb) (fun h => nomatch h) (ev_var (x := .d (.int (k : Int))) (by rw [List.getElem?_set_self hj]) (fun h => nomatch h) (o2_ixT (tupI_at (hk k hk1)) ⟨rfl, rfl⟩)))
/-- (k, x): k a tuple that the code made -/
theorem ev_tupP (h : Ev K ta r m fun x m1 => ∃ ns, x = .t ns ∧ Ev K tb r m1 fun y m2 => ∃ d, y = .d d ∧ Q (.p ns d) m2) : Ev K (tTup (tCons ta (tCons tb tNil))) r m Q := fun σ H G S L R k =>
  h σ H G S L _ fun v H1 G1 x m1 ⟨ns, hx, h1⟩ S1 e1 r1 => h1 σ H1 G1 S1 (L.mono e1) _ fun w H2 G2 y m2 ⟨d, hy, q⟩ S2 e2 r2 => by
    subst hx hy
    have r1 := r1.mono e2
    cases r1 with
    | t ht =>
      rename_i a
      refine ⟨by show 2 ≤ sizeLine; decide, fun p hp => ?_⟩
      have hg := S2.free hp
      have l := Le.new (o := .tup [.ref a, w]) hg
      exact k _ _ _ _ m2 q (S2.fix hp) (e1.trans (e2.trans l)) (.p upd_same (l _ _ ht) (Rp.mono l _ _ r2.rp))
/-- [e for k in ..] whose items are no plain data: a list that may change -/
theorem ev_lcLtM {j : Nat} {nss : List (List Int)} (h : Ev K tl r m fun x m1 => x = .lt nss ∧ m1 = m) (hn : nss.length ≤ 100000) (f : List Int → Val)
    (hs : ∀ (ns : List Int) m', ns ∈ nss → Ext m m' → Ev K te (r.set j (.t ns)) m' fun x m3 => x = f ns ∧ m3 = m')
    (q : ∀ D, m D = none → Q (.v (.ref D)) (put m D (.lst (nss.map f)))) : Ev K (tLc (iList K tl) (gName j) tYes te [j]) r m Q := fun σ H G S L R k =>
  h σ H G S L _ fun v H1 G1 x m1 ⟨hx, hm⟩ S1 e1 r1 => by
    subst hx hm
    cases r1 with
    | lt h1 h2 =>
      rename_i a xs
      have hq : SqL K G1 a xs := Or.inl h1
      refine ⟨a, rfl, ⟨xs, S1.sqL hq⟩, fun D hD => ?_⟩
      have hmD := S1.freeM hD
      have hlen := h2.len
      refine lc_it (walk_list (xs := xs)) (LcV K m1 G1 D (fun i acc => acc = (nss.take i).map f)) (lcv_start S1 hD rfl) ?_ ?_ ?_
      · rintro i H' hi ⟨G', acc, _, _, S', e'⟩
        exact S'.sqL (e'.sqL hq)
      · rintro i y H' H2 hi hP ⟨rfl, hy⟩
        obtain ⟨ns, b, hns, rfl, hb⟩ := h2.at hy
        refine ⟨wipe1 σ j _, ?_⟩
        refine lcv_turn (r' := r.set j (.t ns)) hmD (by omega) (fun G' e' => ?_) (fun m' acc hx hw => ?_) hP
        · have := (L.mono (e1.trans e')).set (r := .t ns) (.t (e' _ _ hb)) j
          show Sl K _ (r.set j (.t ns)) ((σ.set j none).set j (some (.ref b)))
          rw [List.set_set]
          exact this
        · refine evt_yes ⟨rfl, fun _ => (hs ns m' (List.mem_of_getElem? hns) hx).imp fun x m3 ⟨hx3, hm3⟩ => ⟨hm3, ?_⟩, fun z => nomatch z⟩
          rw [hw, hx3, take_one hns, List.map_append]; rfl
      · intro H' hP
        rw [hlen] at hP
        obtain ⟨G', acc, hw, hl, S', e'⟩ := hP
        rw [List.take_length] at hw
        subst hw
        exact k _ H' G' _ _ (q D hmD) S' (e1.trans e') .v
theorem VRs.prs {G : Hp} : ∀ {kds : List (List Int × PyData)} {xs : List V}, VRs K G (kds.map fun kd => .p kd.1 kd.2) xs → ∃ ps : List Pr, xs = ps.map (fun p => V.ref p.1) ∧ ps.map (·.2.1) = kds.map (fun kd => kI kd.1) ∧
    (∀ p ∈ ps, G p.1 = some (.tup [.ref p.2.2.1, p.2.2.2]) ∧ G p.2.2.1 = some (.tup (p.2.1.map kV))) ∧ KVs K G (kds.map fun kd => (kI kd.1, Val.d kd.2)) (ps.map fun p => (p.2.1, p.2.2.2))
  | [], xs, h => by
    have h : xs = [] := h
    subst h
    exact ⟨[], rfl, rfl, fun _ hp => (nomatch hp), rfl⟩
  | kd :: t, xs, h => by
    obtain ⟨x, u, rfl, h1, h2⟩ := h
    obtain ⟨ps, rfl, e2, e3, e4⟩ := VRs.prs h2
    cases h1 with
    | p g1 g2 g3 =>
      rename_i a b w
      refine ⟨(a, kI kd.1, b, w) :: ps, rfl, by rw [List.map_cons, List.map_cons, e2], fun p hp => ?_, ⟨w, _, rfl, .d g3, e4⟩⟩
      rcases List.mem_cons.mp hp with rfl | hp
      · exact ⟨g1, by rw [kI_kV]; exact g2⟩
      · exact e3 p hp
theorem on_dictP {q : Addr} {kds : List (List Int × PyData)} (hm : m q = some (.lst (kds.map fun kd => .p kd.1 kd.2))) (hn : (kds.map (·.1)).Nodup)
    (k0 : ∀ d, m d = none → Q (.v (.ref d)) (put m d (.dT (kds.map fun kd => (kI kd.1, Val.d kd.2))))) : OpN K (rDictPT K) [.v (.ref q)] m Q := fun H G vs S a R k => by
  obtain ⟨v, rfl, rv⟩ := vrs1 a
  obtain rfl := rv.eq
  obtain ⟨xs, g1, g2⟩ := S.mem q _ hm
  obtain ⟨ps, rfl, e2, e3, e4⟩ := g2.prs
  refine ⟨q, ps, rfl, Or.inl (Rd.of g1), fun p hp => ?_, ?_, fun d hd => ?_⟩
  · obtain ⟨b1, b2⟩ := e3 p hp
    exact ⟨SqT.of (S.sub _ _ b1), S.sub _ _ b2⟩
  · rw [e2]
    have : (kds.map fun kd => kI kd.1) = (kds.map (·.1)).map kI := by rw [List.map_map]; rfl
    rw [this]
    exact hn.map _ fun x y ne e => ne (kI_inj e)
  · exact k _ _ G _ _ (k0 d (S.freeM hd)) (S.new hd ⟨_, upd_same, e4⟩) (Le.refl G) .v
end
theorem kDictP {X : Cx} {j : Nat} (K : PySem.W.Frag) (hr : Room j X.A) (hc : X.calm = true := by rfl) (h : X.K = K := by rfl) : CallR X (.type "dict") (rDictPT K) := h ▸ cr_dictPT hc (by have := hr.un; have := hr.dp; omega)
end DL

/-! code that runs while an exception is handled: comprehensions over a range, defs that are handed the exception -/
namespace DL
open PySem L2 PySem.Spec PyProof.Rows L2H

/-- a comprehension's own context, the handled exception still in sight -/
abbrev blkP (X : Cx) (s : Shared) (H : Hp) (scope : Scope) (env : Env) (fp : List Addr) : Cx := { X.blk s H scope env fp with pn := X.pn }
theorem Inv.sight {X : Cx} {s0 : Shared} {H0 : Hp} {scope : Scope} {env : Env} {fp : List Addr} {σ : L2.St} {H : Hp} {s : Shared} (I : Inv (X.blk s0 H0 scope env fp) [] σ H s)
    (hp : ∀ p ∈ X.pn, s.heap.get? p.1 = some p.2 ∧ H p.1 = none ∧ p.1 ≠ env.locals ∧ p.1 ∉ frs X.stack ∧ ∀ v, p.2.data ≠ .cell v) : Inv (blkP X s0 H0 scope env fp) [] σ H s :=
  ⟨⟨I.ok.mod, I.ok.kind, I.ok.glob, I.ok.blt, I.ok.above, I.ok.inj, I.ok.has, I.ok.cab, I.ok.hd, I.ok.frames, I.ok.stk, I.ok.exf, I.ok.bs, I.ok.bsz, I.ok.noex, I.ok.exfs, I.ok.funs, I.ok.frf⟩, I.os, I.bare, I.base, I.loc, I.cell, I.free, I.freeC,
    fun p z => hp p (by simpa using z), I.hok, I.len⟩
section
variable {X : Cx}
theorem pe_lcH {elt tg iter : Expr} {ifs : List Expr} {scope : Scope} {own : List (Str × Nat)} {pos : Pos} {wi : TI} {g : TG} {tt : TT} {te : TE} (hot : HotC X) (hN : X.N.Nodup) (hi : PIH X tg iter wi) (ok : BlkOk X.N X.env.scope scope own)
    (hg : ∀ (s : Shared) (H : Hp) (C : Addr) (cl : List (Str × Addr)) (fp : List Addr), PG (blkP X s H scope (compEnvC scope cl C X.env) fp) tg g)
    (ht : ∀ (s : Shared) (H : Hp) (C : Addr) (cl : List (Str × Addr)) (fp : List Addr), PTs (blkP X s H scope (compEnvC scope cl C X.env) fp) ifs tt)
    (he : ∀ (s : Shared) (H : Hp) (C : Addr) (cl : List (Str × Addr)) (fp : List Addr), PE (blkP X s H scope (compEnvC scope cl C X.env) fp) elt te) (hs : ∀ x, foldedSetIterable iter X.env x = pure x := by intro _; rfl) :
    PE X (.ListComp elt [⟨tg, iter, ifs, 0⟩] scope pos) (tLc wi g tt te (own.map (·.2))) := by
  refine ⟨fun pins s σ H Q I h => ?_⟩
  rw [eval_ListComp]
  have cells : ∀ y ∈ scope.names, y.2 = .free → ∃ c, X.env.cells.lookup y.1 = some c := fun y hy e => (ok.free y hy e).elim (fun k => I.ok.has _ (.inl k)) fun k => I.ok.has _ (.inr k)
  refine wpAny_comprehension_free (use := none) rfl hs (closure_ok cells) ok.kind (fun y hy e => by rw [ok.uniq y hy, e]) (thn (hi.run pins s σ H _ I h) fun _ _ hx => thn hx fun itv s2 h2 => ?_)
  obtain ⟨it, fp, tn, J, H2, rfl, I2, T, st2, f2, q⟩ := h2
  refine wpAny_newObj_type (newEnv_comp ?_) (by show 0 ≤ sizeLine; decide)
  -- the new list, at the next free place
  generalize eD : s2.heap.objs.size = D
  obtain ⟨W, ⟨m0, w0⟩, turn⟩ := q D (I2.hok.fresh (Nat.le_of_eq eD))
  generalize e3 : ({ s2 with heap := s2.heap.push { cls := .type "list", data := .seq ([] : List Value).toArray } } : Shared) = s3
  have hh3 : s3.heap = s2.heap.push { cls := .type "list", data := .seq ([] : List Value).toArray } := by rw [← e3]
  have hz3 : s3.heap.objs.size = s2.heap.objs.size + 1 := by rw [hh3]; exact Heap.size_push ..
  have old3 : ∀ b o, s2.heap.get? b = some o → s3.heap.get? b = some o := fun b o e => by rw [hh3]; exact Heap.get?_push_of_some _ e
  have I3 : Inv X pins σ (upd H2 D (.lst [])) s3 := by
    have new : ObjOk X.prog X.w (upd H2 D (.lst [])) (s2.heap.push { cls := .type "list", data := .seq ([] : List Value).toArray }) D (.lst []) := ⟨Nat.zero_le _, [], 0, .nil, by rw [← eD]; exact Heap.get?_push_size _ rfl⟩
    rw [← e3]
    exact I2.laid (t' := s2.toks) (fun b o e => Heap.get?_push_of_some _ e) (Nat.le_of_eq eD) new
  have low : ∀ b ∈ fp, b < s2.heap.objs.size := fun b hb => by
    obtain ⟨o, e, _⟩ := T.obj _ _ st2 b hb
    exact Heap.lt_size e
  have f3 : ∀ b ∈ fp, FpOk X pins (upd H2 D (.lst [])) b ∧ b < s3.heap.objs.size := fun b hb => by
    have hb2 := low b hb
    have hbD : b ≠ D := by rw [← eD]; exact Nat.ne_of_lt hb2
    exact ⟨⟨by rw [upd_ne hbD]; exact (f2 b hb).1, (f2 b hb).2⟩, by rw [hz3]; exact Nat.lt_succ_of_lt hb2⟩
  have st3 : tn 0 s3.heap := T.keep _ _ _ st2 fun b _ o e => old3 b o e
  -- the exception, seen from within
  have seen : ∀ p ∈ X.pn, s3.heap.get? p.1 = some p.2 ∧ (upd H2 D (.lst [])) p.1 = none ∧ p.1 ∉ frs X.stack ∧ (∀ v, p.2.data ≠ .cell v) ∧ p.1 < s3.heap.objs.size := fun p hp => by
    obtain ⟨a1, a2, a3, a4, a5⟩ := I3.pin p (List.mem_append_left _ hp)
    exact ⟨a1, a2, fun z => (List.mem_cons.mp (I3.stkSub p.1 z)).elim a3 a4, a5, Heap.lt_size a1⟩
  have I4 := block_start I3 ok hN f3
  show codeAny _ _ (.compStart (.ListComp elt [⟨tg, iter, ifs, 0⟩] scope pos) 0 (.ref it) (.ref D) (compEnvC scope (cellsFrom (s3.heap.objs.size + 1) scope.names (cloFrom X.env.cells scope.names [])) s3.heap.objs.size X.env)) (compPost (model X.prog X.w) X.A X.xe none (EP X pins σ Q) (.ref D) s3.heap.objs.size) _
  have I4 := Inv.sight I4 fun p hp => by
    obtain ⟨a1, a2, a3, a4, a5⟩ := seen p hp
    exact ⟨pushCells_keeps _ _ _ _ (Heap.get?_push_of_some _ a1), a2, Nat.ne_of_lt a5, a3, a4⟩
  have pg := hg s3 (upd H2 D (.lst [])) s3.heap.objs.size (cellsFrom (s3.heap.objs.size + 1) scope.names (cloFrom X.env.cells scope.names [])) fp
  have pt := ht s3 (upd H2 D (.lst [])) s3.heap.objs.size (cellsFrom (s3.heap.objs.size + 1) scope.names (cloFrom X.env.cells scope.names [])) fp
  have pe := he s3 (upd H2 D (.lst [])) s3.heap.objs.size (cellsFrom (s3.heap.objs.size + 1) scope.names (cloFrom X.env.cells scope.names [])) fp
  have away : ∀ b ∈ fp, (upd H2 D (.lst [])) b = none := fun b hb => (f3 b hb).1.1
  have apart : ∀ b ∈ fp, ∀ p ∈ X.pn, p.1 ≠ b := fun b hb p hp => (f3 b hb).1.2.2.2.2.2 p (List.mem_append_left _ hp)
  generalize ece : compEnvC scope (cellsFrom (s3.heap.objs.size + 1) scope.names (cloFrom X.env.cells scope.names [])) s3.heap.objs.size X.env = ce at I4 pg pt pe ⊢
  have cL : ce.locals = s3.heap.objs.size := by rw [← ece]; rfl
  generalize eH3 : upd H2 D (.lst []) = H3 at I3 I4 pg pt pe w0 away f3
  generalize e4 : ({ s3 with heap := pushCells (s3.heap.push { cls := .type "dict", data := .dict #[] }) scope.names } : Shared) = s4 at I4 ⊢
  have st4 : tn 0 s4.heap := T.keep _ _ _ st3 fun b _ o e => by rw [← e4]; exact pushCells_keeps _ _ _ _ (Heap.get?_push_of_some _ e)
  have hotB : HotC (blkP X s3 H3 scope ce fp) := by
    obtain ⟨p, h1, hp⟩ := hot
    exact ⟨p, h1, hp⟩
  have stat : ∀ {σ' : L2.St} {H' : Hp} {s' : Shared}, Inv (blkP X s3 H3 scope ce fp) [] σ' H' s' → (∀ b ∈ fp, H' b = none) → ∀ b ∈ fp, FpOk (blkP X s3 H3 scope ce fp) [] H' b := fun I' hn b hb =>
    ⟨hn b hb, (I'.ok.exf b hb).1, I'.ok.exfs b hb, .inl hb, fun y c e => (I'.ok.exf b hb).2 y c e, fun p hp => apart b hb p (by simpa using hp)⟩
  have loop : codeAny (model X.prog X.w) X.A (.compLoop (.ListComp elt [⟨tg, iter, ifs, 0⟩] scope pos) 0 (.ref it) (.ref D) ce) (compPost (model X.prog X.w) X.A X.xe none (EP X pins σ Q) (.ref D) s3.heap.objs.size) s4 := by
    refine compLoop_any (fun n s' => ∃ i H', Inv (blkP X s3 H3 scope ce fp) [] (wipe σ (own.map (·.2))) H' s' ∧ tn i s'.heap ∧ (∀ b ∈ fp, H' b = none) ∧ W i n H') ?_ m0 ⟨0, H3, I4, st4, away, w0⟩
    rintro n s5 ⟨i, H5, I5, st5, n5, w5⟩
    rcases turn i n H5 w5 with ⟨stop, qq⟩ | ⟨go, Nx, hNx, step⟩
    · refine thnF (T.done (blkP X s3 H3 scope ce fp) rfl rfl rfl hotB i [] s5 _ H5 (fun _ _ => False) I5 (stat I5 n5) st5 stop) fun r s6 hd => ?_
      obtain ⟨rfl, I6⟩ := hd
      have back : Inv X pins σ H5 s6 := I3.call' (ch := fp) I6.os I6.base I6.hok I6.bare fun b hb => ⟨(f3 b hb).1.2.2.2.1, (f3 b hb).1.2.1, (f3 b hb).1.2.2.2.2.1, (f3 b hb).1.2.2.2.2.2⟩
      have nC : H5 s3.heap.objs.size = none := by
        have z : H5 ce.locals = none := I6.free
        rwa [cL] at z
      obtain ⟨m, hn, _⟩ := I6.loc
      have hn : s6.heap.Ns ce.locals m := hn
      rw [cL] at hn
      obtain ⟨f0, f1, _, f3', f4, f5⟩ := I3.fpOk (Nat.le_refl _) nC
      exact ⟨m, hn, fun h'' sb => ⟨.ref D, H5, back.turned (t' := s6.toks) (fun b o hb e => (sb.2 b hb).trans e) f0 f1 f3' f4 f5, rfl, qq⟩⟩
    · refine thnF (T.item (blkP X s3 H3 scope ce fp) rfl rfl rfl hotB i [] s5 _ H5 (fun _ _ => False) I5 (stat I5 n5) st5 go) fun r s6 hi6 => ?_
      obtain ⟨u, rfl, h6⟩ := hi6
      refine thnF h6 fun _ s7 ⟨x, H7, I7, r7, y7, st7, n7⟩ => ?_
      have I7' := I7.pinned (stat I7 n7) (T.obj _ _ st7)
      refine thnF (pg.run _ s7 _ H7 x u _ I7' r7 (step x H7 y7)) fun _ s8 ⟨σ8, H8, I8, hw8, q8⟩ => thnF (pt.run _ s8 σ8 H8 _ I8 q8) fun b s9 ⟨H9, I9, q9⟩ => ?_
      have fin : ∀ {s' : Shared} {H' : Hp}, Inv (blkP X s3 H3 scope ce fp) ([] ++ pinsAt fp s7.heap) σ8 H' s' → Nx H' →
          ∃ m, m < n ∧ ∃ i H', Inv (blkP X s3 H3 scope ce fp) [] (wipe σ (own.map (·.2))) H' s' ∧ tn i s'.heap ∧ (∀ b ∈ fp, H' b = none) ∧ W i m H' := fun {s' H'} I' nx => by
        obtain ⟨m', hm, w'⟩ := hNx H' nx
        have kept : ∀ b ∈ fp, ∀ o, s7.heap.get? b = some o → s'.heap.get? b = some o ∧ H' b = none := fun b hb o e => by
          have z := I'.pin (b, o) (List.mem_append_right _ (List.mem_append_right _ (mem_pinsAt hb e)))
          exact ⟨z.1, z.2.1⟩
        have hl : (wipe σ (own.map (·.2))).length = σ8.length := by rw [← hw8, wipe_length]
        refine ⟨m', hm, i + 1, H', (I'.unpinned (pins := [])).weak hl (fun j v e => ?_), T.keep _ _ _ st7 fun b hb o e => (kept b hb o e).1, fun b hb => ?_, w'⟩
        · rw [← hw8] at e
          exact (wipe_some e).1
        · obtain ⟨o, e, _⟩ := T.obj _ _ st7 b hb
          exact (kept b hb o e).2
      cases b with
      | false =>
        simp only [Bool.false_eq_true, if_false] at q9 ⊢
        exact fin I9 q9
      | true =>
        simp only [if_true] at q9 ⊢
        refine thnF (pe.run _ s9 σ8 H9 _ I9 q9) fun z s10 ⟨yv, H10, I10, r10, acc, hD10, hz10, nx⟩ => ?_
        exact app_ok (X := blkP X s3 H3 scope ce fp) I10 hD10 hz10 r10 fun s11 I11 => fin I11 nx
  exact codeAny_compStart_list loop (T.self X.A 0 _ _ _ st4 loop)
end
end DL

/-! defs that are handed the exception that is handled; isinstance of it -/
namespace DL
open PySem L2 PySem.Spec PyProof.Rows L2H

structure FnP (P : Program) (w : World) (K : PySem.W.Frag) (mg : Str → Option Value) (base : Heap) (k : Nat) (f : Addr) (fd : FuncData) (ps : List Str) (sp : Addr → Value → Sp) : Prop where
  len : ∀ a c vs H Q E, sp a c vs H Q E → vs.length = ps.length
  run : ∀ (A : Around) (outer : List Env) (s : Shared) (H : Hp) (args : Args) (us : List Value) (vs : List V) (Q : VK) (E : XK) (p : Addr × Obj) (c : Value), RoomH k A → Hot1 A p → Zc c none p.2 → PinOk outer H s p →
    Env0 P w K mg base A outer s H → BindsTo s fd args (ps.zip us) → Vals vs us → sp p.1 c vs H Q E → codeAny (model P w) A (.call (.ref f) args) (CR CX0 outer P w H s Q E) s
section
variable {P : Program} {w : World} {K : PySem.W.Frag} {mg : Str → Option Value} {base : Heap}
theorem fnP_of {x qual : Str} {st : Stmt} {f : Addr} {fd : FuncData} {N ps : List Str} {k : Nat} {sp : Addr → Value → Sp} (F : Fun K x qual st f fd) (S : FnScope N ps (defScope st)) (len : ∀ a c vs H Q E, sp a c vs H Q E → vs.length = ps.length)
    (hbody : ∀ (cdv : Value) (A : Around) (outer : List Env) (s : Shared) (H : Hp) (vs : List V) (Q : VK) (E : XK) (p : Addr × Obj) (c : Value), Hot1 A p → Zc c none p.2 → RoomH k (A.deeper (envOfC qual (defScope st) s.heap.objs.size f cdv)) → sp p.1 c vs H Q E →
      ∃ t, PSs (cxH CX0 P w K mg base N qual (defScope st) f cdv A outer s H E p).nox (defBody st) t ∧ t { nx := fun _ H' => Q .non H', rt := Q } (L2.start N vs) H) : FnP P w K mg base (k + 1) f fd ps sp := by
  obtain ⟨oc, od, kV, doc, pm, an, cdv, ct, osl, rfl, lk, hcd⟩ := F.ex
  refine ⟨len, fun A outer s H args us vs Q E p c hr hot hz hpin e0 hb r hsp => ?_⟩
  have here : ∀ b o, base.get? b = some o → s.heap.get? b = some o := fun b o e => (e0.bs b o e).1
  have KX : K.In s.heap := e0.mod.kin.keeps here
  have par : ∀ y ∈ ps.zip us, (defScope st).names.lookup y.1 = some .local ∨ ((defScope st).names.lookup y.1 = some .cell ∧ ((cellsFrom (s.heap.objs.size + 1) (defScope st).names []).lookup y.1).isSome = true) := fun y hy =>
    (S.par y.1 (List.of_mem_zip (a := y.1) (b := y.2) hy).1).imp id fun q => ⟨q, PySem.W.cellsFrom_some _ _ _ (.inl q)⟩
  refine codeAny_call_function hr.depth (KX _ _ lk) rfl S.co S.gen rfl (PySem.W.codeRec_of KX hcd) (hb _ _ _ _ (wpAny_newFunctionEnv_cells S.kind par fun env he s1 x => ?_))
  subst he
  obtain ⟨t, ht, hq⟩ := hbody cdv A outer s H vs Q E p c hot hz (hr.deeper _) hsp
  have I : Inv (cxH CX0 P w K mg base N qual (defScope st) f cdv A outer s H E p) [] (L2.start N vs) H s1 := inv_startH S hpin e0 (len _ _ _ _ _ _ hsp) r x
  refine ⟨(e0.mod.nolimit.keeps here).keeps x.toInCall.keep, codeAny_func (wpAny_mono (ht.nox.run [] s1 (L2.start N vs) H _ I hq) (fun fl s' hs => ?_) fun e s' hs => hs)⟩
  cases fl with
  | ret u =>
    obtain ⟨v, σ', H', J, rv, q⟩ := hs
    exact ⟨v, H', J.os, J.bare, J.base, J.hok, rv, q⟩
  | next =>
    obtain ⟨σ', H', J, q⟩ := hs
    exact ⟨.non, H', J.os, J.bare, J.base, J.hok, rfl, q⟩
  | brk =>
    obtain ⟨_, _, _, q⟩ := hs
    exact q.elim
  | cont =>
    obtain ⟨_, _, _, q⟩ := hs
    exact q.elim
end
/-- the exception that is handled, seen in a context: where it stands and its class -/
def Sees (X : Cx) (a : Addr) (c : Value) : Prop := ∃ oe : Obj, (a, oe) ∈ X.pn ∧ Hot1 X.A (a, oe) ∧ Zc c none oe
theorem Sees.hot {X : Cx} {a : Addr} {c : Value} (h : Sees X a c) : HotC X := by
  obtain ⟨oe, h1, h2, _⟩ := h
  exact ⟨(a, oe), h2, h1⟩
section
variable {X : Cx} {k : Nat} {f : Addr} {fd : FuncData} {ps : List Str} {sp : Addr → Value → Sp} {x : Str} {q pos : Pos} {e : Expr} {es : List Expr} {t : TA} {a : Addr} {c : Value}
theorem pe_callP (F : FnP X.prog X.w X.K X.mg X.base k f fd ps sp) (hr : RoomH k X.A) (hc : Sees X a c) (hg : Gl X x) (hm : X.mg x = some (.ref f)) (hk : PySem.W.keepIn X.K (.ref f) = true) (hb : Binds X.K fd ps [])
    (ha : PA X (e :: es) t) (hdb : (x == ("__debug__" : Str)) = false := by decide) (he : starEach (e :: es) X.env = (false, eval e X.env) :: starEach es X.env := by rfl) (hpl : (backTo pos (starEach es X.env)).any (·.1) = false := by rfl) :
    PE X (.Call (.Name x q) (e :: es) [] pos) (tCall (sp a c) [] E0 t) := by
  refine ⟨fun pins s σ H Q I h => ?_⟩
  refine wpAny_Call_Name_kw (ld_glob I hg hm ?_ hdb)
  refine PySem.W.callWith_K (h₀ := X.base) I.ok.mod.kin hk (thn (ha.run pos pins s σ H _ I h) fun us s1 hh => ?_) he hpl
  obtain ⟨vs, H1, I1, r, hsp⟩ := hh
  refine ⟨I1.kIn, ?_⟩
  rw [List.append_nil] at hsp
  obtain ⟨oe, hp, hot, hz⟩ := hc
  have hl : us.length = ps.length := by rw [← r.length]; exact F.len _ _ _ _ _ _ hsp
  have b := hb s1 us I1.kIn (by rw [List.append_nil]; exact hl)
  rw [List.append_nil] at b
  obtain ⟨p1, p2, p3, p4, p5⟩ := I1.pin (a, oe) (List.mem_append_left _ hp)
  have pin : PinOk X.stack H1 s1 (a, oe) := ⟨p1, p2, fun z => (List.mem_cons.mp (I1.stkSub a z)).elim p3 p4, p5⟩
  refine wpAny_call (codeAny_mono (F.run X.A X.stack s1 H1 ⟨us, []⟩ us vs Q E0 (a, oe) c hr hot hz pin I1.env0 b r hsp) fun r s' hq => ?_)
  cases r with
  | error e => exact (pass0 pins σ H1 s1 e s' I1 hq)
  | ok fl =>
    cases fl with
    | ret u => exact I1.after hq
    | next => exact hq.elim
    | brk => exact hq.elim
    | cont => exact hq.elim
theorem call_isP {D : Addr} (hc : Sees X a (.ref D)) (C : ExcC X.K D) : CallR X (.builtin "isinstance") (rIsE X.K D a) := by
  rintro pins s σ H xs us Q I r ⟨y, cv, b, rfl, hcv, e, qq⟩
  obtain ⟨oe, hp, ⟨_, vs, hv, _⟩, hz⟩ := hc
  cases r with
  | cons rx rr =>
    cases rr with
    | cons rt rr =>
      cases rr
      cases rx
      obtain rfl := hcv _ rt
      have hget := (I.pin (a, oe) (List.mem_append_left _ hp)).1
      have J : PySem.W.InstAt s.heap a oe D none := by
        obtain ⟨oc, od, oda, osl⟩ := oe
        obtain ⟨h1, h2⟩ := hz
        dsimp only at h1 h2 hv
        subst h1 h2 hv
        exact ⟨hget, rfl, rfl, trivial⟩
      exact PySem.W.kia_one (PySem.W.handS_kitx_exc C.hg C.hk C.hs C.hd C.ha C.hn C.ht C.hm) I.kIn J e (fun z => nomatch z) fun tk => ⟨.bl b, H, I.kept (t' := tk) fun _ _ z => z, rfl, qq⟩
theorem kIsP (K : PySem.W.Frag) {D : Addr} (hc : Sees X a (.ref D)) (C : ExcC K D) (h : X.K = K := by rfl) : CallR X (.builtin "isinstance") (rIsE K D a) := by
  subst h; exact call_isP hc C
end
/-! at the level of data -/
def spP (K : PySem.W.Frag) (ok : Addr → Prop) (f : Addr → Addr → FSp) : Addr → Value → Sp := fun a c vs H Q E => ∃ D, c = .ref D ∧ ok D ∧ spD K (f a D) vs H Q E
section
variable {K : PySem.W.Frag} {m : Mm} {r : List Val} {Q : Val → Mm → Prop}
theorem on_isE {D a : Addr} {c : V} {cv : Value} {b : Bool} (hc : ∀ u, RelV c u → u = cv) (hk : PySem.W.kitOne K (.ref D) cv = some b) (q : Q (.d (.bool b)) m) : OpN K (rIsE K D a) [.v (.ref a), .v c] m Q := fun H G vs S x R k => by
  obtain ⟨v, w, rfl, h1, h2⟩ := vrs2 x
  obtain rfl := h1.eq
  obtain rfl := h2.eq
  exact ⟨_, cv, b, rfl, hc, hk, k _ H G _ m q S (Le.refl G) vr_bool⟩
theorem relV_ref {C : Addr} : ∀ u, RelV (.ref C) u → u = .ref C := fun u h => h
theorem relV_ty {T : String} : ∀ u, RelV (.ty T) u → u = .type T := fun u h => h
theorem ev_callP {ok : Addr → Prop} {f : Addr → Addr → FSp} {a D : Addr} {t : TA} {E : XK} (hD : ok D) (h : EvA K t r m fun xs m1 => f a D xs m1 Q) : Ev K (tCall (spP K ok f a (.ref D)) [] E t) r m Q := fun σ H G S L R k =>
  h σ H G S L _ fun vs H1 G1 xs m1 h1 S1 e1 r1 => by
    rw [List.append_nil]
    exact ⟨D, rfl, hD, m1, G1, xs, Q, S1, r1, h1, fun v' H3 G3 z m3 h3 S3 e3 r3 => k v' H3 G3 z m3 h3 S3 (e1.trans e3) r3⟩
end
section
variable {P : Program} {w : World} {K : PySem.W.Frag} {mg : Str → Option Value} {base : Heap}
structure ClP (P : Program) (w : World) (K : PySem.W.Frag) (mg : Str → Option Value) (base : Heap) (k : Nat) (x : Str) (ok : Addr → Prop) (sp : Addr → Addr → FSp) : Prop where
  ex : ∃ f fd ps, FnP P w K mg base k f fd ps (spP K ok sp) ∧ mg x = some (.ref f) ∧ PySem.W.keepIn K (.ref f) = true ∧ Binds K fd ps []
theorem pe_clP {X : Cx} {k j : Nat} {x : Str} {ok : Addr → Prop} {sp : Addr → Addr → FSp} {e : Expr} {es : List Expr} {t : TA} {p pos : Pos} {a : Addr} {c : Value} (cl : ClP P w K mg base k x ok sp) (hr : RoomH j X.A) (hk : k ≤ j) (hc : Sees X a c) (hg : Gl X x) (ha : PA X (e :: es) t)
    (hP : X.prog = P := by rfl) (hw : X.w = w := by rfl) (hK : X.K = K := by rfl) (hmg : X.mg = mg := by rfl) (hbs : X.base = base := by rfl) (hdb : (x == ("__debug__" : Str)) = false := by decide)
    (he : starEach (e :: es) X.env = (false, eval e X.env) :: starEach es X.env := by rfl) (hpl : (backTo pos (starEach es X.env)).any (·.1) = false := by rfl) :
    PE X (.Call (.Name x p) (e :: es) [] pos) (tCall (spP K ok sp a c) [] E0 t) := by
  subst hP hw hK hmg hbs
  obtain ⟨f, fd, ps, F, hm, hkp, hb⟩ := cl.ex
  exact pe_callP F (hr.mono hk) hc hg hm hkp hb ha hdb he hpl
theorem fnP_ok {x qual : Str} {st : Stmt} {f : Addr} {fd : FuncData} {N ps : List Str} {k : Nat} {ok : Addr → Prop} {sp : Addr → Addr → FSp} (F : Fun K x qual st f fd) (S : FnScope N ps (defScope st)) (hl : ∀ a D args m R, sp a D args m R → args.length = ps.length)
    (hb : ∀ (cdv : Value) (A : Around) (outer : List Env) (s : Shared) (H : Hp) (E : XK) (p : Addr × Obj) (D : Addr), ok D → Sees (cxH CX0 P w K mg base N qual (defScope st) f cdv A outer s H E p).nox p.1 (.ref D) → RoomH k (A.deeper (envOfC qual (defScope st) s.heap.objs.size f cdv)) →
      ∃ t, PSs (cxH CX0 P w K mg base N qual (defScope st) f cdv A outer s H E p).nox (defBody st) t ∧
        ∀ args m R, sp p.1 D args m R → Wp K t (args ++ List.replicate (N.length - args.length) .any) m (fun _ m' => R (.d .none) m') R) : FnP P w K mg base (k + 1) f fd ps (spP K ok sp) := by
  refine fnP_of F S (fun a c vs H Q E h => ?_) (fun cdv A outer s H vs Q E p c hot hz hr h => ?_)
  · obtain ⟨D, _, _, m, G, args, R, _, r1, h1, _⟩ := h
    rw [r1.length]; exact hl a D args m R h1
  · obtain ⟨D, rfl, hD, m, G, args, R, S1, r1, h1, k1⟩ := h
    have hs : Sees (cxH CX0 P w K mg base N qual (defScope st) f cdv A outer s H E p).nox p.1 (.ref D) := ⟨p.2, List.mem_singleton.mpr rfl, hot, hz⟩
    obtain ⟨t, ht, hw⟩ := hb cdv A outer s H E p D hD hs hr
    refine ⟨t, ht, hw args m R h1 _ H G _ S1 ?_ (fun σ' H' G' r' m' hn S' e' L' => k1 .non H' G' (.d .none) m' hn S' e' (.d (rp_none.mpr rfl))) (fun v H' G' x m' hn S' e' L' => k1 v H' G' x m' hn S' e' L')⟩
    unfold L2.start
    rw [r1.length]
    exact Sl.start _ r1
/-- hot forms of a few rules -/
theorem kEqH {X : Cx} {j : Nat} (K : PySem.W.Frag) (hr : RoomH j X.A) (h : X.K = K := by rfl) : OpR X (compareOp .Eq) (rEqA K) := by
  subst h
  exact op_eq.or (op_eqD (by have := hr.un; omega))
end
end DL

/-! try .. except C as n, n a name that a comprehension of the suite reads (a cell); all that is raised is of C -/
namespace DL
open PySem L2 PySem.Spec PyProof.Rows L2H

section
variable {X : Cx} {pins : List (Addr × Obj)} {σ : L2.St} {H : Hp} {s : Shared}
/-- a name's cell is emptied -/
theorem Inv.emptied {i : Nat} {n : Str} {c : Addr} {h' : Heap} (I : Inv X pins σ H s) (hN : X.N.Nodup) (hi : X.N[i]? = some n) (hk : X.env.kindOf n = some .cell) (hfn : X.fn n = true) (hc : X.env.cells.lookup n = some c) (he : h'.IsCell c none) (sb : Heap.SameBut c s.heap h') :
    Inv X pins (σ.set i none) H { s with heap := h' } := by
  obtain ⟨m, hn, hl⟩ := id I.loc
  have low : ∀ b o, X.s_0.heap.get? b = some o → b ≠ c := fun b o e => Nat.ne_of_lt (Nat.lt_of_lt_of_le (Heap.lt_size e) (I.ok.cab n c hfn hc))
  have hHc : H c = none := I.freeC n c hc
  refine ⟨I.ok, I.os, I.bare, ⟨fun b o e k hb hx => (sb.2 b (low b o e)).trans (I.base.keep b o e k hb hx), fun b o e k hb hx => ?_, I.base.free, fun b o e hx => ?_, I.base.tups, I.base.frzs, I.base.tbls⟩,
    ⟨m, hn.sameBut sb (Ne.symm (I.cne n c hc)), fun j y v e1 e2 e3 => ?_⟩, fun y d e => ?_, I.free, I.freeC, fun p hp => ?_, fun b ob e => ?_, by rw [List.length_set]; exact I.len⟩
  · obtain ⟨sl, e1⟩ := I.base.slot b o e k hb hx
    exact ⟨sl, (sb.2 b (low b o e)).trans e1⟩
  · obtain ⟨o', e1⟩ := I.base.there b o e hx
    exact ⟨o', (sb.2 b (low b o e)).trans e1⟩
  · have hj : j ≠ i := fun z => by
      subst z
      rw [List.getElem?_set] at e2
      split at e2
      · split at e2 <;> cases e2
      · rename_i q; exact q rfl
    rw [List.getElem?_set_ne (Ne.symm hj)] at e2
    obtain ⟨u, ru, look⟩ := hl j y v e1 e2 e3
    refine ⟨u, ru, ?_⟩
    rcases look with ⟨k, e⟩ | ⟨k, d, e, z⟩
    · exact .inl ⟨k, e⟩
    · refine .inr ⟨k, d, e, z.sameBut sb fun q => hj ?_⟩
      have : y = n := I.ok.inj y n c (q ▸ e) hc
      exact nodup_ix hN e1 (this ▸ hi)
  · by_cases q : d = c
    · exact ⟨none, q ▸ he⟩
    · obtain ⟨w, z⟩ := I.cell y d e
      exact ⟨w, z.sameBut sb q⟩
  · obtain ⟨e, k, ne, nf, nc⟩ := I.pin p hp
    obtain ⟨w, o, ho, hd⟩ := I.cell n c hc
    have : p.1 ≠ c := fun q => by
      rw [q, ho] at e
      injection e with e
      exact nc w (e ▸ hd)
    exact ⟨(sb.2 p.1 this).trans e, k, ne, nf, nc⟩
  · refine (I.hok b ob e).stay (fun d w hd q => (sb.2 d ?_).trans q) (fun _ q => q) fun _ _ q => q
    rintro rfl
    rcases hd with rfl | hd
    · rw [hHc] at e; cases e
    · rw [hHc] at hd; cases hd
theorem gone_cell {M : Model} {A : Around} {E : Value → Shared → Prop} {i : Nat} {n : Str} {pos : Pos} {Q : Unit → Shared → Prop} (I : Inv X pins σ H s) (hN : X.N.Nodup) (hi : X.N[i]? = some n) (hk : X.env.kindOf n = some .cell) (hfn : X.fn n = true)
    (h : ∀ s', Inv X pins (σ.set i none) H s' → Q () s') : wpAny M A (do bindName X.env n .none; unbindBehindTheSuite X.env n pos) Q E s := by
  refine wpAny_bind (wpAny_bindName (store_ok (v := .non) I hN hi (.inr hk) rfl (fun s1 I1 => ?_) (.inl hfn)))
  obtain ⟨m, _, hl⟩ := id I1.loc
  have hlt : i < σ.length := by rw [I.len]; exact (List.getElem?_eq_some_iff.mp hi).1
  obtain ⟨u, _, look⟩ := hl i n .non hi (by rw [List.getElem?_set_self hlt]) (.inr (.inl hk))
  obtain ⟨c, hc, z⟩ : ∃ c, X.env.cells.lookup n = some c ∧ s1.heap.IsCell c (some u) := by
    rcases look with ⟨k, _⟩ | ⟨_, c, e, z⟩
    · rw [hk] at k; cases k
    · exact ⟨c, e, z⟩
  unfold unbindBehindTheSuite
  refine wpAny_onRaise ?_
  unfold unbindName
  refine wpAny_bind (wpAny_point (wpAny_bind ?_))
  unfold deleteName
  simp only [hk]
  refine wpAny_bind (wpAny_cellOf hc (wpAny_bind (wpAny_cellGet z ?_)))
  simp only [Option.isSome_some, if_true]
  refine wpAny_cellSet z fun h' hc' sb => wpAny_point ?_
  have J := Inv.emptied I1 hN hi hk hfn hc hc' sb
  rw [List.set_set] at J
  exact h _ J
end
/-- what a try wishes of what its body raises: it is of the class c, and the suite does with it at a (in slot i) what is wanted -/
def wC (K : PySem.W.Frag) (c : Value) (i : Nat) (ts : Addr → Value → Option Addr → TS) (D : Ends) : L2.WX := fun cls d σ H => PySem.W.exmOne K cls c = some true ∧
  ∀ a, H a = none → ts a cls d ⟨fun σ' H' => D.nx (σ'.set i none) H', D.rt, fun σ' H' => D.bk (σ'.set i none) H', fun σ' H' => D.ct (σ'.set i none) H'⟩ (σ.set i (some (.ref a))) H
def tTryC (K : PySem.W.Frag) (c : Value) (i : Nat) (ts : Addr → Value → Option Addr → TS) (tb : L2.WX → TS) : TS := fun D σ H => tb (wC K c i ts D) D σ H
theorem ps_tryC0 {X : Cx} {x n : Str} {c : Value} {i : Nat} {body suite : List Stmt} {b₀ : Stmt} {np pos pos' : Pos} {tb : L2.WX → TS} {ts : Addr → Value → Option Addr → TS} (hs : X.stack = X.env :: X.outer) (hf : X.env.frame = some X.env.locals) (hN : X.N.Nodup) (hi : X.N[i]? = some n)
    (hk : X.env.kindOf n = some .cell) (hfn : X.fn n = true) (hc : Names X x c)
    (hb : ∀ (W : L2.WX) (pn : List (Addr × Obj)) (xe : Value → Shared → Prop), L2N.Takes (X.tr pn xe) W → PassesOwn (model X.prog X.w) X.A X.env xe → PSs (X.tr pn xe) body (tb W))
    (hsu : ∀ (a : Addr) (oe : Obj) (cls : Value) (d : Option Addr) (pn : List (Addr × Obj)), L2N.Zn cls d oe → (∃ vs, oe.data = .fields vs) → PSs (X.suite a ((a, oe) :: pn)) (b₀ :: suite) (ts a cls d)) :
    PS X (.Try body [.ExceptHandler (some (.Name x np)) (some n) (b₀ :: suite) pos'] [] [] pos) (fun D σ H => tb (wC X.K c i ts D) D σ H) := by
  refine ⟨fun pins s σ H D I h => ?_⟩
  have frs2 : X.A.frames = some (X.env :: X.outer) := by rw [I.ok.frames, hs]
  -- the body runs with this wish
  let xe' : Value → Shared → Prop := fun e s₁ => wpAny (model X.prog X.w) X.A (noteFrame e X.env) (fun _ s₂ => wpAny (model X.prog X.w) X.A (setFlight e none) (fun _ s₃ =>
    wpAny (model X.prog X.w) X.A (handleBy e X.env [.ExceptHandler (some (.Name x np)) (some n) (b₀ :: suite) pos']) (SP X pins D) X.xe s₃) X.xe s₂) X.xe s₁
  have caught : L2N.Takes (X.tr (X.pn ++ pins) xe') (wC X.K c i ts D) := fun u s' got => by
    obtain ⟨a, B, sI, pins', σ', H', cls, d, rfl, J', nb, up, sky, na, os, ag, isC, run⟩ := got
    have J : Inv X pins σ' H' sI := J'.ofTry I.ok
    have sky2 : Sky B (X.env :: X.outer) a (L2N.Zn cls d) X.env.locals s'.heap := by rw [← hs]; exact sky
    show wpAny (model X.prog X.w) X.A (noteFrame (.ref a) X.env) _ _ _
    refine L2N.Sky.land L2N.Zn.steady frs2 hf sky2 fun h3 fl3 up3 => ?_
    have J3 : Inv X pins σ' H' { s' with heap := h3 } := J.landed nb fl3.1 (up.trans up3) os ag
    obtain ⟨o3, v3, get3, z3, d3⟩ := fl3.there
    have off : a ∉ frs (X.env :: X.outer) := fun hm => by
      obtain ⟨_, o', e', hnf⟩ := fl3.2.2.1.mem hm
      rw [get3] at e'; cases e'
      exact hnf _ d3
    have nL : a ≠ X.env.locals := fun z => off (List.mem_filterMap.mpr ⟨X.env, List.mem_cons_self, by rw [hf, z]⟩)
    have nF : a ∉ X.fs := fun hm => by
      obtain ⟨e, he, q⟩ := List.mem_filterMap.mp hm
      exact off (List.mem_filterMap.mpr ⟨e, List.mem_cons_of_mem _ he, q⟩)
    have S3 := J3.suite get3 d3 na nL nF
    have LT : PySem.W.Looks (model X.prog X.w) h3 (typeOf (.ref a)) cls := fun A Q E s k q => wpAny_typeOf_ref (k _ _ get3) (by rw [z3.1]; exact q)
    refine wpAny_handleBy_cons (codeAny_handlers_test ?_) (by intro q; cases q)
    have named : ∀ {Q : Value → Shared → Prop} {E : Value → Shared → Prop}, Q c { s' with heap := h3 } → wpAny (model X.prog X.w) (X.A.mark (some (.ref a))) (eval (.Name x np) X.env) Q E { s' with heap := h3 } := fun {Q E} q => by
      obtain ⟨g1, g2, hm | ⟨hm, hv, hnn⟩⟩ := hc
      · exact ld_glob (X := X.suite a ((a, o3) :: (X.pn ++ pins))) S3 g1 hm q g2
      · exact ld_blt (X := X.suite a ((a, o3) :: (X.pn ++ pins))) S3 g1 hm hv q hnn g2
    refine named ((PySem.W.exm_one (M := model X.prog X.w) J3.kIn LT isC).here (codeAny_handlers_suite_as ?_))
    refine HandSPX.lands_againZ fl3 fun h4 fl4 up4 => ?_
    have J4 : Inv X pins σ' H' { s' with heap := h4 } := J.landed nb fl4.1 ((up.trans up3).trans up4) os ag
    obtain ⟨o4, v4, get4, z4, d4⟩ := fl4.there
    refine store_ok (X := X.suite a ((a, o4) :: (X.pn ++ pins))) (v := .ref a) (J4.suite get4 d4 na nL nF) hN hi (.inr hk) rfl (fun s5 S5 => ?_) (.inl hfn)
    refine wpAny_mono ((hsu a o4 cls d (X.pn ++ pins) z4 ⟨_, d4⟩).run [] s5 _ H' _ S5 (run a na)) (fun f s6 hsp => ?_) (fun _ _ z => z.elim)
    have over : ∀ {σ6 : L2.St} {H6 : Hp} {Q : Shared → Prop}, Inv (X.suite a ((a, o4) :: (X.pn ++ pins))) [] σ6 H6 s6 → (∀ s7, Inv X pins (σ6.set i none) H6 s7 → Q s7) →
        wpAny (model X.prog X.w) X.A (do bindName X.env n .none; unbindBehindTheSuite X.env n pos') (fun _ s7 => Q s7) X.xe s6 := fun S6 hq => gone_cell (S6.unsuite I.ok) hN hi hk hfn hq
    cases f with
    | ret u =>
      obtain ⟨v6, σ6, H6, S6, r6, q6⟩ := hsp
      exact over S6 fun s7 J7 => ⟨_, _, _, J7, r6, q6⟩
    | next =>
      obtain ⟨σ6, H6, S6, q6⟩ := hsp
      exact over S6 fun s7 J7 => ⟨_, _, J7, q6⟩
    | brk =>
      obtain ⟨σ6, H6, S6, q6⟩ := hsp
      exact over S6 fun s7 J7 => ⟨_, _, J7, q6⟩
    | cont =>
      obtain ⟨σ6, H6, S6, q6⟩ := hsp
      exact over S6 fun s7 J7 => ⟨_, _, J7, q6⟩
  refine wpAny_Try_except (wpAny_mono ((hb (wC X.K c i ts D) (X.pn ++ pins) xe' caught PassesOwn.looking).run [] s σ H D (I.toTry _) h) (fun f s1 hsp => ?_) (fun e s1 he => he))
  cases f with
  | next =>
    obtain ⟨σ', H', J', q⟩ := hsp
    exact wpAny_execs_nil ⟨σ', H', J'.ofTry I.ok, q⟩
  | ret u =>
    obtain ⟨v, σ', H', J', r, q⟩ := hsp
    exact ⟨v, σ', H', J'.ofTry I.ok, r, q⟩
  | brk =>
    obtain ⟨σ', H', J', q⟩ := hsp
    exact ⟨σ', H', J'.ofTry I.ok, q⟩
  | cont =>
    obtain ⟨σ', H', J', q⟩ := hsp
    exact ⟨σ', H', J'.ofTry I.ok, q⟩
theorem ps_tryC {X : Cx} {K : PySem.W.Frag} {x n : Str} {c : Value} {i : Nat} {body suite : List Stmt} {b₀ : Stmt} {np pos pos' : Pos} {tb : L2.WX → TS} {ts : Addr → Value → Option Addr → TS} (hs : X.stack = X.env :: X.outer) (hf : X.env.frame = some X.env.locals) (hN : X.N.Nodup) (hi : X.N[i]? = some n)
    (hk : X.env.kindOf n = some .cell) (hfn : X.fn n = true) (hc : Names X x c)
    (hb : ∀ (W : L2.WX) (pn : List (Addr × Obj)) (xe : Value → Shared → Prop), L2N.Takes (X.tr pn xe) W → PassesOwn (model X.prog X.w) X.A X.env xe → PSs (X.tr pn xe) body (tb W))
    (hsu : ∀ (a : Addr) (oe : Obj) (cls : Value) (d : Option Addr) (pn : List (Addr × Obj)), L2N.Zn cls d oe → (∃ vs, oe.data = .fields vs) → PSs (X.suite a ((a, oe) :: pn)) (b₀ :: suite) (ts a cls d)) (hK : X.K = K := by rfl) :
    PS X (.Try body [.ExceptHandler (some (.Name x np)) (some n) (b₀ :: suite) pos'] [] [] pos) (tTryC K c i ts tb) := by
  subst hK
  exact ps_tryC0 hs hf hN hi hk hfn hc hb hsu
end DL

/-! defs that may refuse, and the try that catches, at the level of data -/
namespace DL
open PySem L2 PySem.Spec PyProof.Rows L2H

abbrev FSpX := List Val → Mm → (Val → Mm → Prop) → (Addr → Mm → Prop) → Prop
def spX (K : PySem.W.Frag) (f : FSpX) : Sp := fun vs H Q E => ∃ m G args R X, Sta K m H G ∧ VRs K G args vs ∧ f args m R X ∧ (∀ v H' G' x m', R x m' → Sta K m' H' G' → Le G G' → VR K G' x v → Q v H') ∧
  (∀ C m' H' G', X C m' → Sta K m' H' G' → Le G G' → E (.ref C) none H')
def EvX (K : PySem.W.Frag) (G0 : Hp) (t : TE) (r : List Val) (m : Mm) (Q : Val → Mm → Prop) : Prop :=
  ∀ σ H G, Le G0 G → Sta K m H G → Sl K G r σ → ∀ R : VK, (∀ v H' G' x m', Q x m' → Sta K m' H' G' → Le G G' → VR K G' x v → R v H') → t σ H R
def Wx (K : PySem.W.Frag) (G0 : Hp) (t : TS) (r : List Val) (m : Mm) (N : List Val → Mm → Prop) (E : Val → Mm → Prop) : Prop :=
  ∀ σ H G (D : Ends), Le G0 G → Sta K m H G → Sl K G r σ → (∀ σ' H' G' r' m', N r' m' → Sta K m' H' G' → Le G G' → Sl K G' r' σ' → D.nx σ' H') →
    (∀ v H' G' x m', E x m' → Sta K m' H' G' → Le G G' → VR K G' x v → D.rt v H') → t D σ H
/-- what is refused here is taken -/
def TkX (K : PySem.W.Frag) (G0 : Hp) (r : List Val) (W : L2.WX) (X : Addr → Mm → Prop) : Prop := ∀ C m' H' G' σ, X C m' → Sta K m' H' G' → Le G0 G' → Sl K G' r σ → W (.ref C) none σ H'
section
variable {K : PySem.W.Frag} {G0 : Hp} {r : List Val} {m : Mm} {Q : Val → Mm → Prop} {N : List Val → Mm → Prop} {E : Val → Mm → Prop} {t u : TS} {te ta tb : TE} {tt : TT} {W : L2.WX} {X : Addr → Mm → Prop}
theorem EvX.of (h : Ev K te r m Q) : EvX K G0 te r m Q := fun σ H G _ S L R k => h σ H G S L R k
theorem Wx.of (h : Wp K t r m N E) : Wx K G0 t r m N E := fun σ H G D _ S L a b => h σ H G D S L a b
theorem wx_next (q : N r m) : Wx K G0 tNext r m N E := .of (w_next q)
theorem wx_seq (h : Wx K G0 t r m (fun r1 m1 => Wx K G0 u r1 m1 N E) E) : Wx K G0 (tSeq t u) r m N E := fun σ H G D g0 S L a b =>
  h σ H G { D with nx := u D } g0 S L (fun σ1 H1 G1 r1 m1 h1 S1 e1 L1 => h1 σ1 H1 G1 D (g0.trans e1) S1 L1 (fun σ2 H2 G2 r2 m2 n2 S2 e2 L2 => a σ2 H2 G2 r2 m2 n2 S2 (e1.trans e2) L2)
    (fun v H2 G2 x m2 n2 S2 e2 L2 => b v H2 G2 x m2 n2 S2 (e1.trans e2) L2)) b
theorem wx_if (h : EvT K tt r m fun c m1 => (c = true → Wx K G0 t r m1 N E) ∧ (c = false → Wx K G0 u r m1 N E)) : Wx K G0 (tIfS tt t u) r m N E := fun σ H G D g0 S L a b =>
  h σ H G S L _ fun H1 G1 c m1 h1 S1 e1 => by
    cases c with
    | true =>
      show t D σ H1
      exact h1.1 rfl σ H1 G1 D (g0.trans e1) S1 (L.mono e1) (fun σ2 H2 G2 r2 m2 n2 S2 e2 L2 => a σ2 H2 G2 r2 m2 n2 S2 (e1.trans e2) L2) (fun v H2 G2 x m2 n2 S2 e2 L2 => b v H2 G2 x m2 n2 S2 (e1.trans e2) L2)
    | false =>
      show u D σ H1
      exact h1.2 rfl σ H1 G1 D (g0.trans e1) S1 (L.mono e1) (fun σ2 H2 G2 r2 m2 n2 S2 e2 L2 => a σ2 H2 G2 r2 m2 n2 S2 (e1.trans e2) L2) (fun v H2 G2 x m2 n2 S2 e2 L2 => b v H2 G2 x m2 n2 S2 (e1.trans e2) L2)
theorem wx_asg {i : Nat} (h : EvX K G0 te r m fun x m1 => N (r.set i x) m1) : Wx K G0 (tAsg te (gName i)) r m N E := fun σ H G D g0 S L a b =>
  h σ H G g0 S L _ fun v H1 G1 x m1 q S1 e1 r1 => a (σ.set i (some v)) H1 G1 (r.set i x) m1 q S1 e1 ((L.mono e1).set r1 i)
theorem wx_drop (h : EvX K G0 te r m fun _ m1 => N r m1) : Wx K G0 (tDrop te) r m N E := fun σ H G D g0 S L a b =>
  h σ H G g0 S L _ fun v H1 G1 x m1 q S1 e1 r1 => a σ H1 G1 r m1 q S1 e1 (L.mono e1)
theorem wx_ret (h : EvX K G0 te r m E) : Wx K G0 (tRet te) r m N E := fun σ H G D g0 S L a b => h σ H G g0 S L _ b
/-- raise C(..) -/
def tRaise (C : Addr) (W : L2.WX) : TS := fun _ σ H => W (.ref C) none σ H
theorem wx_raise {C : Addr} (hW : TkX K G0 r W X) (q : X C m) : Wx K G0 (tRaise C W) r m N E := fun σ H G D g0 S L a b => hW C m H G σ q S g0 L
theorem evx_call {f : FSpX} {t : TA} (hW : TkX K G0 r W X) (h : EvA K t r m fun xs m1 => f xs m1 Q X) : EvX K G0 (tCallS (spX K f) (WE W) t) r m Q := fun σ H G g0 S L R k =>
  h σ H G S L _ fun vs H1 G1 xs m1 h1 S1 e1 r1 =>
    ⟨m1, G1, xs, Q, X, S1, r1, h1, fun v' H3 G3 z m3 h3 S3 e3 r3 => k v' H3 G3 z m3 h3 S3 (e1.trans e3) r3, fun C m' H' G' hx S' e' => hW C m' H' G' σ hx S' (g0.trans (e1.trans e')) (L.mono (e1.trans e'))⟩
theorem evx_if (h : EvT K tt r m fun b m1 => (b = true → EvX K G0 ta r m1 Q) ∧ (b = false → EvX K G0 tb r m1 Q)) : EvX K G0 (tIf tt ta tb) r m Q := fun σ H G g0 S L R k =>
  h σ H G S L _ fun H1 G1 b m1 h1 S1 e1 => by
    cases b with
    | true =>
      show ta σ H1 R
      exact h1.1 rfl σ H1 G1 (g0.trans e1) S1 (L.mono e1) R fun v' H3 G3 z m3 h3 S3 e3 r3 => k v' H3 G3 z m3 h3 S3 (e1.trans e3) r3
    | false =>
      show tb σ H1 R
      exact h1.2 rfl σ H1 G1 (g0.trans e1) S1 (L.mono e1) R fun v' H3 G3 z m3 h3 S3 e3 r3 => k v' H3 G3 z m3 h3 S3 (e1.trans e3) r3
/-- a suite that is told only of exceptions without fields of their own -/
def tNoD (d : Option Addr) (t : TS) : TS := fun D σ H => d = none ∧ t D σ H
theorem w_noD (h : Wp K t r m N E) : Wp K (tNoD none t) r m N E := fun σ H G D S L a b => ⟨rfl, h σ H G D S L a b⟩
theorem w_try {tb : L2.WX → TS} {c : Value} {i : Nat} {ts : Addr → Value → Option Addr → TS} (X : Addr → Mm → Prop) (hb : ∀ (W : L2.WX) (G0 : Hp), TkX K G0 r W X → Wx K G0 (tb W) r m N E)
    (hx : ∀ C m', X C m' → PySem.W.exmOne K (.ref C) c = some true ∧ ∀ a, Wp K (ts a (.ref C) none) (r.set i (.v (.ref a))) m' (fun r' m'' => N (r'.set i .any) m'') E) :
    Wp K (fun D σ H => tb (wAs K c i ts (fun _ _ _ _ => False) D) D σ H) r m N E := fun σ H G D S L a b => by
  refine hb (wAs K c i ts (fun _ _ _ _ => False) D) G (fun C m' H' G' σ' hC S' e' L' => ?_) σ H G D (Le.refl G) S L a b
  obtain ⟨h1, h2⟩ := hx C m' hC
  refine ⟨true, h1, fun _ x _ => ?_, fun z => nomatch z⟩
  exact h2 x (σ'.set i (some (.ref x))) H' G' _ S' (L'.set (r := .v (.ref x)) .v i) (fun σ2 H2 G2 r2 m2 hn S2 e2 L2 => a (σ2.set i none) H2 G2 (r2.set i .any) m2 hn S2 (e'.trans e2) (L2.forget i)) fun v H2 G2 y m2 hn S2 e2 L2 => b v H2 G2 y m2 hn S2 (e'.trans e2) L2
theorem w_tryC {tb : L2.WX → TS} {c : Value} {i : Nat} {ts : Addr → Value → Option Addr → TS} (X : Addr → Mm → Prop) (hb : ∀ (W : L2.WX) (G0 : Hp), TkX K G0 r W X → Wx K G0 (tb W) r m N E)
    (hx : ∀ C m', X C m' → PySem.W.exmOne K (.ref C) c = some true ∧ ∀ a, Wp K (ts a (.ref C) none) (r.set i (.v (.ref a))) m' (fun r' m'' => N (r'.set i .any) m'') E) :
    Wp K (tTryC K c i ts tb) r m N E := fun σ H G D S L a b => by
  refine hb (wC K c i ts D) G (fun C m' H' G' σ' hC S' e' L' => ?_) σ H G D (Le.refl G) S L a b
  obtain ⟨h1, h2⟩ := hx C m' hC
  refine ⟨h1, fun x _ => ?_⟩
  exact h2 x (σ'.set i (some (.ref x))) H' G' _ S' (L'.set (r := .v (.ref x)) .v i) (fun σ2 H2 G2 r2 m2 hn S2 e2 L2 => a (σ2.set i none) H2 G2 (r2.set i .any) m2 hn S2 (e'.trans e2) (L2.forget i)) fun v H2 G2 y m2 hn S2 e2 L2 => b v H2 G2 y m2 hn S2 (e'.trans e2) L2
end
theorem takesN0 {X : Cx} : L2N.Takes X (fun _ _ _ _ => False) := fun u s' ⟨_, _, _, _, _, _, _, _, _, _, _, _, _, _, _, _, w⟩ => w.elim
theorem pss_noD {X : Cx} {st : List Stmt} {t : TS} {d : Option Addr} (h : d = none → PSs X st t) : PSs X st (tNoD d t) := ⟨fun pins s σ H D I hw => (h hw.1).run pins s σ H D I hw.2⟩
theorem ps_raiseN {X : Cx} {W : L2.WX} {C : Addr} {x m : Str} {j : Nat} {p p2 pos pos' : Pos} {bmB : List Value} {B newId initId : String} (hc : X.calm = true) (tk : L2N.Takes X W) (F : ExcBaseFacts B newId initId bmB) (q : PySem.W.excIn X.K C bmB newId = true) (gC : X.mg x = some (.ref C))
    (kC : PySem.W.keepIn X.K (.ref C) = true) (r : Raises X (.ref C)) (hg : Gl X x) (hdb : (x == ("__debug__" : Str)) = false := by decide) :
    PS X (.Raise (some (.Call (.Name x p) [.Constant (.str m) j p2] [] pos)) none pos') (tRaise C W) := L2N.ps_raise hc tk (L2N.pmk_own F q gC kC r hg hdb)
/-- what the written part says of a class of refusals -/
structure RfT (K : PySem.W.Frag) (mg : Str → Option Value) (x : Str) (C : Addr) : Prop where
  g : mg x = some (.ref C)
  q : PySem.W.excIn K C [.type "ValueError", .type "Exception", .type "BaseException", .type "object"] "ValueError.__new__" = true
  kp : PySem.W.keepIn K (.ref C) = true
  bs : PySem.W.subIn K (.ref C) (.type "BaseException") = some true
  ty : PySem.W.typeIn K (.ref C) = some (.type "type")
theorem ps_rf {X : Cx} {K : PySem.W.Frag} {mg : Str → Option Value} {W : L2.WX} {C : Addr} {x m : Str} {j : Nat} {p p2 pos pos' : Pos} (T : RfT K mg x C) (tk : L2N.Takes X W) (hg : Gl X x) (hc : X.calm = true := by rfl) (hK : X.K = K := by rfl) (hmg : X.mg = mg := by rfl)
    (hdb : (x == ("__debug__" : Str)) = false := by decide) : PS X (.Raise (some (.Call (.Name x p) [.Constant (.str m) j p2] [] pos)) none pos') (tRaise C W) := by
  subst hK hmg
  exact ps_raiseN hc tk PySem.F.excBase_ValueError T.q T.g T.kp (raises_own T.bs T.ty) hg hdb
/-- the i-th of the classes cs, all of them under gat -/
structure XT (K : PySem.W.Frag) (cs : List Addr) (gat : Addr) (i : Nat) (C : Addr) : Prop where
  exc : ExcC K C
  one : ∀ j, j < 8 → PySem.W.kitOne K (.ref C) (.ref (cs.getD j 0)) = some (decide (j = i))
  gt : PySem.W.kitOne K (.ref C) (.ref gat) = some true
  val : PySem.W.kitOne K (.ref C) (.type "ValueError") = some true
  em : PySem.W.exmOne K (.ref C) (.ref gat) = some true
theorem xt_mk {K : PySem.W.Frag} {c0 c1 c2 c3 c4 c5 c6 c7 gat C : Addr} {i : Nat} (e : ExcC K C) (h0 : PySem.W.kitOne K (.ref C) (.ref c0) = some (decide (0 = i))) (h1 : PySem.W.kitOne K (.ref C) (.ref c1) = some (decide (1 = i))) (h2 : PySem.W.kitOne K (.ref C) (.ref c2) = some (decide (2 = i)))
    (h3 : PySem.W.kitOne K (.ref C) (.ref c3) = some (decide (3 = i))) (h4 : PySem.W.kitOne K (.ref C) (.ref c4) = some (decide (4 = i))) (h5 : PySem.W.kitOne K (.ref C) (.ref c5) = some (decide (5 = i))) (h6 : PySem.W.kitOne K (.ref C) (.ref c6) = some (decide (6 = i)))
    (h7 : PySem.W.kitOne K (.ref C) (.ref c7) = some (decide (7 = i))) (g : PySem.W.kitOne K (.ref C) (.ref gat) = some true) (v : PySem.W.kitOne K (.ref C) (.type "ValueError") = some true) (m : PySem.W.exmOne K (.ref C) (.ref gat) = some true) : XT K [c0, c1, c2, c3, c4, c5, c6, c7] gat i C where
  exc := e
  one := fun j hj => by
    match j, hj with
    | 0, _ => exact h0
    | 1, _ => exact h1
    | 2, _ => exact h2
    | 3, _ => exact h3
    | 4, _ => exact h4
    | 5, _ => exact h5
    | 6, _ => exact h6
    | 7, _ => exact h7
  gt := g
  val := v
  em := m
abbrev okE (K : PySem.W.Frag) (cs : List Addr) (gat : Addr) : Addr → Prop := fun D => ∃ i, XT K cs gat i D
def f_lawClasses (K : PySem.W.Frag) (cs : List Addr) (gat : Addr) : Addr → Addr → FSp := fun a D args m R => ∃ i, XT K cs gat i D ∧ args = [.v (.ref a)] ∧ R (.d (.list ((List.range 8).map fun j => .bool (decide (j = i))))) m
def f_lawOnly (K : PySem.W.Frag) (cs : List Addr) (gat : Addr) : Addr → Addr → FSp := fun a D args m R => ∃ (i n : Nat), XT K cs gat i D ∧ i < 8 ∧ n < 8 ∧ args = [.v (.ref a), .d (.int (n : Int))] ∧ R (.d (.bool (decide (n = i)))) m
theorem sees_suite {X : Cx} {a : Addr} {oe : Obj} {cls : Value} {d : Option Addr} {pn : List (Addr × Obj)} (hz : L2N.Zn cls d oe) (hf : ∃ vs, oe.data = .fields vs) (hd : d = none) : Sees (X.suite a ((a, oe) :: pn)) a cls := by
  obtain ⟨vs, hv⟩ := hf
  subst hd
  exact ⟨oe, List.mem_cons_self, ⟨rfl, vs, hv, hz.2.2 vs hv⟩, hz.1, hz.2.1⟩
section
variable {P : Program} {w : World} {K : PySem.W.Frag} {mg : Str → Option Value} {base : Heap}
structure ClX (P : Program) (w : World) (K : PySem.W.Frag) (mg : Str → Option Value) (base : Heap) (k : Nat) (x : Str) (sp : FSpX) : Prop where
  ex : ∃ f fd ps, FnOk P w K mg base (L2N.CX P w) k f fd ps (spX K sp) ∧ mg x = some (.ref f) ∧ PySem.W.keepIn K (.ref f) = true ∧ Binds K fd ps []
theorem pe_clX {X : Cx} {W : L2.WX} {k j : Nat} {x : Str} {sp : FSpX} {e : Expr} {es : List Expr} {t : TA} {p pos : Pos} (c : ClX P w K mg base k x sp) (hr : Room j X.A) (hk : k ≤ j) (hg : Gl X x) (tk : L2N.Takes X W) (ha : PA X (e :: es) t)
    (hP : X.prog = P := by rfl) (hw : X.w = w := by rfl) (hK : X.K = K := by rfl) (hmg : X.mg = mg := by rfl) (hbs : X.base = base := by rfl)
    (hdb : (x == ("__debug__" : Str)) = false := by decide)
    (he : starEach (e :: es) X.env = (false, eval e X.env) :: starEach es X.env := by rfl) (hpl : (backTo pos (starEach es X.env)).any (·.1) = false := by rfl) :
    PE X (.Call (.Name x p) (e :: es) [] pos) (tCallS (spX K sp) (WE W) t) := by
  subst hP hw hK hmg hbs
  obtain ⟨f, fd, ps, F, hm, hkp, hb⟩ := c.ex
  exact pe_callS F (hr.mono hk) hg hm hkp hb (fun σ => L2N.passAt tk σ) ha hdb he hpl
theorem fnX_ok {x qual : Str} {st : Stmt} {f : Addr} {fd : FuncData} {N ps : List Str} {k : Nat} {sp : FSpX} (F : Fun K x qual st f fd) (S : FnScope N ps (defScope st)) (hl : ∀ args m R X, sp args m R X → args.length = ps.length)
    (hb : ∀ (cdv : Value) (A : Around) (outer : List Env) (s : Shared) (H : Hp) (E : XK), Room k (A.deeper (envOfC qual (defScope st) s.heap.objs.size f cdv)) →
      ∃ t, PSs (cxOf (L2N.CX P w) P w K mg base N qual (defScope st) f cdv A outer s H E) (defBody st) t ∧
        ∀ args m R X, sp args m R X → ∀ G0, (∀ r, TkX K G0 r (fun cls d _ H => E cls d H) X) → Wx K G0 t (args ++ List.replicate (N.length - args.length) .any) m (fun _ m' => R (.d .none) m') R) :
    FnOk P w K mg base (L2N.CX P w) (k + 1) f fd ps (spX K sp) := by
  obtain ⟨oc, od, kV, doc, pm, an, cdv, ct, osl, rfl, lk, hcd⟩ := F.ex
  refine fn_of lk hcd S (fun vs H Q E h => ?_) fun A outer s H vs Q E hr h => ?_
  · obtain ⟨m, G, args, R, X, S1, r1, h1, _⟩ := h
    rw [r1.length]; exact hl args m R X h1
  · obtain ⟨m, G, args, R, X, S1, r1, h1, k1, k2⟩ := h
    obtain ⟨t, ht, hw⟩ := hb cdv A outer s H E hr
    refine ⟨t, ht, ?_⟩
    refine hw args m R X h1 G (fun r C m' H' G' σ hx S' e' _ => k2 C m' H' G' hx S' e') _ H G _ (Le.refl G) S1 ?_ (fun σ' H' G' r' m' hn S' e' L' => k1 .non H' G' (.d .none) m' hn S' e' (.d (rp_none.mpr rfl))) (fun v H' G' x m' hn S' e' L' => k1 v H' G' x m' hn S' e' L')
    unfold L2.start
    rw [r1.length]
    exact Sl.start _ r1
end
end DL

/-! what is refused: words -/
namespace DL
open PySem L2 PySem.Spec PyProof.Rows L2H

section
variable {K : PySem.W.Frag} {r : List Val} {m : Mm} {Q : Val → Mm → Prop}
/-- [place for place in range(8) if only(e, place)] -/
theorem ev_places {cs : List Addr} {gat a D : Addr} {i e j : Nat} (hX : XT K cs gat i D) (hi : i < 8) (he : r[e]? = some (.v (.ref a))) (hj : j < r.length) (hej : e ≠ j) (q : Q (.d (.list [.int (i : Int)])) m) :
    Ev K (tLc (iRng1 (tCons (tC (.int 8)) tNil)) (gName j) (tB (tCall (spP K (okE K cs gat) (f_lawOnly K cs gat) a (.ref D)) [] E0 (tCons (tVar e) (tCons (tVar j) tNil)))) (tVar j) [j]) r m Q := by
  refine ev_lcR1 (n := 8) (eva_cons (ev_cI (eva_nil ⟨rfl, rfl⟩))) (by decide) (fun n acc => acc = if i < n then [.int (i : Int)] else []) (by simp) (fun n m' acc hn hx hw => ?_) (fun acc hw => by rw [hw, if_pos hi]; exact q)
  refine evt_B (ev_callP ⟨i, hX⟩ (eva_cons (ev_var (x := .v (.ref a)) (by rw [List.getElem?_set_ne (Ne.symm hej)]; exact he) (fun z => nomatch z) (eva_cons (ev_var (x := .d (.int (n : Int))) (by rw [List.getElem?_set_self hj]) (fun z => nomatch z) (eva_nil ?_))))))
  refine ⟨i, n, hX, hi, hn, rfl, _, rfl, rfl, fun hc => ?_, fun hc => ?_⟩
  · have hc : n = i := by simpa using hc
    refine ev_var (x := .d (.int (n : Int))) (by rw [List.getElem?_set_self hj]) (fun z => nomatch z) ⟨rfl, _, rfl, ?_⟩
    rw [hw, if_neg (by omega), if_pos (by omega), hc]; rfl
  · have hc : n ≠ i := by simpa using hc
    rw [hw]
    by_cases h : i < n
    · rw [if_pos h, if_pos (by omega)]
    · rw [if_neg h, if_neg (by omega)]
theorem evt_not' {tt : TT} {Q : Bool → Mm → Prop} (h : EvT K tt r m fun b m1 => Q (!b) m1) : EvT K (tNot tt) r m Q := evt_not h
/-- list(..), a list that may change -/
theorem on_lstTM {ds : List PyData} (q : ∀ p, m p = none → Q (.v (.ref p)) (put m p (.lst (ds.map Val.d)))) : OpN K (rLstO K) [.d (.tuple ds)] m Q := fun H G vs S a R k => by
  obtain ⟨v, rfl, h⟩ := vrs1 a
  obtain ⟨p, xs, rfl, h2, h3⟩ := rp_tuple.mp h.rp
  refine ⟨p, xs, rfl, Or.inr (S.sqT h2), fun l hl => ?_⟩
  exact k _ _ G _ _ (q l (S.freeM hl)) (S.new hl ⟨xs, upd_same, VRs.ofAll h3⟩) (Le.refl G) .v
/-- a + b of lists, a list that may change -/
theorem o2_addLM {ds es : List PyData} (hz : ds.length + es.length ≤ 100000) (q : ∀ p, m p = none → Q (.v (.ref p)) (put m p (.lst ((ds ++ es).map Val.d)))) : Op2 K (rAdd K) (.d (.list ds)) (.d (.list es)) m Q := fun H G v w S a b R k => by
  obtain ⟨p, xs, rfl, h2, h3⟩ := rp_list.mp a.rp
  obtain ⟨p', ys, rfl, h4, h5⟩ := rp_list.mp b.rp
  refine Or.inr (Or.inr (Or.inl ⟨p, p', xs, ys, rfl, rfl, Le.rd S.sub h2, Le.rd S.sub h4, ?_, fun l hl => ?_⟩))
  · rw [h3.length, h5.length]; exact Nat.le_trans hz (by decide)
  · exact k _ _ G _ _ (q l (S.freeM hl)) (S.new hl ⟨_, upd_same, VRs.ofAll (h3.append h5)⟩) (Le.refl G) .v
/-- {}, data -/
theorem ev_dnewD (q : Q (.d (.dict [])) m) : Ev K tDNewT r m Q := fun σ H G S L R k p hp =>
  k _ _ _ _ m q (S.fix hp) (Le.new (S.free hp)) (.d (by rw [Rp]; exact ⟨p, rfl, Or.inl ⟨[], upd_same, by rw [RpT]⟩⟩))
end
theorem roomM {k : Nat} {A : Around} {h : Option Value} (r : Room k A) : RoomH k (A.mark h) := ⟨r.dp, r.un⟩
theorem sh_tupS {l : List Int} (h : ∀ i ∈ l, i.natAbs < 1024) (hl : l.length ≤ 8) : Sh (tupI l) 1 4000 := by
  have := sh_tuple (ds := l.map PyData.int) (k := 0) (n := 11) (c := 8) (fun d hd => by
    obtain ⟨i, hi, rfl⟩ := List.mem_map.mp hd
    exact sh_int (a := 10) (h i hi) (by decide) (by decide)) (by rw [List.length_map]; exact hl)
  exact this.mono (by decide) (by decide)
def joinF (ss : List Int) (a b : Nat) : List Int := ss.take (min a b) ++ [ss.getD a 0 + ss.getD b 0] ++ (ss.drop (min a b + 1)).take (max a b - (min a b + 1)) ++ ss.drop (max a b + 1)
def partF (ss : List Int) (a : Nat) (n : Int) : List Int := ss.take a ++ [n] ++ ss.drop (a + 1) ++ [ss.getD a 0 - n]
theorem mem_joinF {ss : List Int} {a b : Nat} {i : Int} (h : i ∈ joinF ss a b) : i ∈ ss ∨ i = ss.getD a 0 + ss.getD b 0 := by
  unfold joinF at h
  rcases List.mem_append.mp h with h | h
  · rcases List.mem_append.mp h with h | h
    · rcases List.mem_append.mp h with h | h
      · exact .inl (List.mem_of_mem_take h)
      · exact .inr (by simpa using h)
    · exact .inl (List.mem_of_mem_drop (List.mem_of_mem_take h))
  · exact .inl (List.mem_of_mem_drop h)
theorem mem_partF {ss : List Int} {a : Nat} {n i : Int} (h : i ∈ partF ss a n) : i ∈ ss ∨ i = n ∨ i = ss.getD a 0 - n := by
  unfold partF at h
  rcases List.mem_append.mp h with h | h
  · rcases List.mem_append.mp h with h | h
    · rcases List.mem_append.mp h with h | h
      · exact .inl (List.mem_of_mem_take h)
      · exact .inr (.inl (by simpa using h))
    · exact .inl (List.mem_of_mem_drop h)
  · exact .inr (.inr (by simpa using h))
def okNum : PyData → Int → Int → Bool
  | .int i, lo, hi => decide (lo ≤ i) && decide (i ≤ hi)
  | _, _, _ => false
def okKnd : PyData → Nat → Bool
  | .int i, n => decide (0 ≤ i) && decide (i < (n : Int))
  | _, _ => false
/-- a def over data that answers or refuses -/
def fnE (cs : List Addr) (n : Nat) (F : List PyData → Except Nat PyData) (pre : List PyData → Prop) : FSpX := fun args m R X => ∃ ds, args = ds.map Val.d ∧ ds.length = n ∧ pre ds ∧ (∀ d, F ds = .ok d → R (.d d) m) ∧ (∀ i, F ds = .error i → X (cs.getD i 0) m)
theorem fnE_len {cs : List Addr} {n : Nat} {F : List PyData → Except Nat PyData} {pre : List PyData → Prop} {args : List Val} {m : Mm} {R : Val → Mm → Prop} {X : Addr → Mm → Prop} (h : fnE cs n F pre args m R X) : args.length = n := by
  obtain ⟨ds, rfl, h, _⟩ := h
  rw [List.length_map]; exact h
def anyD : List PyData → Prop := fun _ => True
def eNeedShares : List PyData → Except Nat PyData
  | [x] => if isShares x = true then .ok .none else .error 0
  | _ => .error 9
def eNeedNumber : List PyData → Except Nat PyData
  | [x, .int lo, .int hi] => if okNum x lo hi = true then .ok .none else .error 2
  | _ => .error 9
def preNumber : List PyData → Prop
  | [_, .int _, .int _] => True
  | _ => False
def eNeedKind : List PyData → Except Nat PyData
  | [.tuple ds, x] => if okKnd x ds.length = true then .ok .none else .error 1
  | _ => .error 9
def preTup : List PyData → Prop
  | .tuple _ :: _ => True
  | _ => False
def unlk (x y : PyData) (n : Nat) : Bool := okKnd x n && (okKnd y n && !decide (intOf x = intOf y))
def eNeedUnlike : List PyData → Except Nat PyData
  | [.tuple ds, x, y] => if unlk x y ds.length = true then .ok .none else .error 1
  | _ => .error 9
def sAt (ss : List Int) (x : PyData) : Int := ss.getD (intOf x).toNat 0
def intsOf : PyData → List Int
  | .tuple ds => ds.map intOf
  | _ => []
theorem intsOf_tupI (ss : List Int) : intsOf (tupI ss) = ss := by
  show (ss.map PyData.int).map intOf = ss
  rw [List.map_map]
  exact (List.map_congr_left fun _ _ => rfl).trans (List.map_id ss)
def eJoined : List PyData → Except Nat PyData
  | [sh, x, y] => if isShares sh = true then (if unlk x y (intsOf sh).length = true then (if 9 < sAt (intsOf sh) x + sAt (intsOf sh) y then .error 4 else .ok (tupI (joinF (intsOf sh) (intOf x).toNat (intOf y).toNat))) else .error 1) else .error 0
  | _ => .error 9
def eParted : List PyData → Except Nat PyData
  | [sh, x, y] => if isShares sh = true then (if okKnd x (intsOf sh).length = true then (if okNum y 1 (sAt (intsOf sh) x - 1) = true then (if (intsOf sh).length = 5 then .error 4 else .ok (tupI (partF (intsOf sh) (intOf x).toNat (intOf y)))) else .error 2) else .error 1) else .error 0
  | _ => .error 9
def toldD : Except Nat PyData → PyData
  | .ok d => d
  | .error i => .list [.str "refused", .int (i : Int)]
theorem unlk_int {x y : PyData} {n : Nat} (h : unlk x y n = true) : ∃ a b : Nat, x = .int (a : Int) ∧ y = .int (b : Int) ∧ a < n ∧ b < n ∧ a ≠ b := by
  unfold unlk at h
  cases hx : okKnd x n with
  | false => rw [hx] at h; cases h
  | true =>
    cases hy : okKnd y n with
    | false => rw [hx, hy] at h; cases h
    | true =>
      have key : ∀ {z : PyData}, okKnd z n = true → ∃ k : Nat, z = .int (k : Int) ∧ k < n := fun {z} hz => by
        cases z with
        | int i =>
          simp only [okKnd, Bool.and_eq_true, decide_eq_true_eq] at hz
          exact ⟨i.toNat, by rw [show ((i.toNat : Nat) : Int) = i by omega], by omega⟩
        | _ => cases hz
      obtain ⟨a, rfl, ha⟩ := key hx
      obtain ⟨b, rfl, hb⟩ := key hy
      rw [hx, hy] at h
      refine ⟨a, b, rfl, rfl, ha, hb, fun e => ?_⟩
      subst e
      simp at h
theorem unlk_of {a b n : Nat} (ha : a < n) (hb : b < n) (h : a ≠ b) : unlk (.int (a : Int)) (.int (b : Int)) n = true := by
  have h1 : okKnd (.int (a : Int)) n = true := by simp only [okKnd, Bool.and_eq_true, decide_eq_true_eq]; omega
  have h2 : okKnd (.int (b : Int)) n = true := by simp only [okKnd, Bool.and_eq_true, decide_eq_true_eq]; omega
  unfold unlk
  rw [h1, h2, show decide (intOf (.int (a : Int)) = intOf (.int (b : Int))) = false from decide_eq_false (by show ¬ (a : Int) = (b : Int); omega)]
  rfl
theorem eqv_only : ∀ i n : _root_.Fin 8, PyData.eqv (.list ((List.range 8).map fun j => PyData.bool (decide (j = i.val)))) (.list ((List.range 8).map fun (j : Nat) => PyData.bool (decide ((j : Int) = ((n.val : Nat) : Int))))) = decide (n.val = i.val) := by decide +kernel
theorem okNum_int {x : PyData} {lo hi : Int} (h : okNum x lo hi = true) : ∃ i, x = .int i ∧ lo ≤ i ∧ i ≤ hi := by
  cases x with
  | int i =>
    simp only [okNum, Bool.and_eq_true, decide_eq_true_eq] at h
    exact ⟨i, rfl, h⟩
  | _ => cases h
theorem okKnd_int {x : PyData} {n : Nat} (h : okKnd x n = true) : ∃ k : Nat, x = .int (k : Int) ∧ k < n := by
  cases x with
  | int i =>
    simp only [okKnd, Bool.and_eq_true, decide_eq_true_eq] at h
    exact ⟨i.toNat, by rw [show ((i.toNat : Nat) : Int) = i by omega], by omega⟩
  | _ => cases h
theorem shares_of {x : PyData} (h : isShares x = true) : ∃ ss, x = tupI ss ∧ Shares ss := by
  cases x with
  | tuple ds =>
    have h : (decide (1 ≤ ds.length) && (decide (ds.length ≤ 5) && ds.all okS)) = true := h
    simp only [Bool.and_eq_true, decide_eq_true_eq] at h
    have each : ∀ d ∈ ds, ∃ i : Int, d = .int i ∧ 1 ≤ i ∧ i ≤ 9 := fun d hd => by
      have z := List.all_eq_true.mp h.2.2 d hd
      cases d with
      | int i =>
        simp only [okS, Bool.and_eq_true, decide_eq_true_eq] at z
        exact ⟨i, rfl, z⟩
      | _ => cases z
    have aux : ∀ l : List PyData, (∀ d ∈ l, ∃ i : Int, d = .int i ∧ 1 ≤ i ∧ i ≤ 9) → ∃ ns : List Int, l = ns.map PyData.int ∧ ∀ i ∈ ns, 1 ≤ i ∧ i ≤ 9 := fun l => by
      induction l with
      | nil => exact fun _ => ⟨[], rfl, fun _ z => nomatch z⟩
      | cons d l ih =>
        intro hl
        obtain ⟨i, rfl, hi⟩ := hl d List.mem_cons_self
        obtain ⟨ns, rfl, hn⟩ := ih fun d hd => hl d (List.mem_cons_of_mem _ hd)
        refine ⟨i :: ns, rfl, fun j hj => ?_⟩
        rcases List.mem_cons.mp hj with rfl | hj
        · exact hi
        · exact hn j hj
    obtain ⟨ns, rfl, hn⟩ := aux ds each
    rw [List.length_map] at h
    exact ⟨ns, rfl, by constructor <;> first | exact hn | exact h.1 | exact h.2.1 | (constructor <;> first | exact h.1 | exact h.2.1)⟩
  | _ => cases h
def refused (i : Nat) : PyData := .list [.str "refused", .int (i : Int)]
theorem sh_refused {i : Nat} (hi : i < 8) : Sh (refused i) 1 4000 := by
  have : i = 0 ∨ i = 1 ∨ i = 2 ∨ i = 3 ∨ i = 4 ∨ i = 5 ∨ i = 6 ∨ i = 7 := by omega
  rcases this with rfl | rfl | rfl | rfl | rfl | rfl | rfl | rfl <;> exact ⟨by decide +kernel, by decide +kernel, by decide +kernel, by decide +kernel⟩
/-! the cases of the small words -/
theorem nShares_ok {x d : PyData} (h : eNeedShares [x] = .ok d) : isShares x = true := by
  cases hx : isShares x with
  | true => rfl
  | false => simp only [eNeedShares, hx] at h; cases h
theorem nShares_no {x : PyData} {i : Nat} (h : eNeedShares [x] = .error i) : isShares x = false ∧ i = 0 := by
  cases hx : isShares x with
  | false => simp only [eNeedShares, hx] at h; injection h with h; exact ⟨rfl, h.symm⟩
  | true => simp only [eNeedShares, hx, if_true] at h; cases h
theorem nKind_ok {ds : List PyData} {x d : PyData} (h : eNeedKind [.tuple ds, x] = .ok d) : okKnd x ds.length = true := by
  cases hx : okKnd x ds.length with
  | true => rfl
  | false => simp only [eNeedKind, hx] at h; cases h
theorem nKind_no {ds : List PyData} {x : PyData} {i : Nat} (h : eNeedKind [.tuple ds, x] = .error i) : okKnd x ds.length = false ∧ i = 1 := by
  cases hx : okKnd x ds.length with
  | false => simp only [eNeedKind, hx] at h; injection h with h; exact ⟨rfl, h.symm⟩
  | true => simp only [eNeedKind, hx, if_true] at h; cases h
theorem nUnlike_ok {ds : List PyData} {x y d : PyData} (h : eNeedUnlike [.tuple ds, x, y] = .ok d) : unlk x y ds.length = true := by
  cases hx : unlk x y ds.length with
  | true => rfl
  | false => simp only [eNeedUnlike, hx] at h; cases h
theorem nUnlike_no {ds : List PyData} {x y : PyData} {i : Nat} (h : eNeedUnlike [.tuple ds, x, y] = .error i) : unlk x y ds.length = false ∧ i = 1 := by
  cases hx : unlk x y ds.length with
  | false => simp only [eNeedUnlike, hx] at h; injection h with h; exact ⟨rfl, h.symm⟩
  | true => simp only [eNeedUnlike, hx, if_true] at h; cases h
theorem nNumber_ok {x d : PyData} {lo hi : Int} (h : eNeedNumber [x, .int lo, .int hi] = .ok d) : okNum x lo hi = true := by
  cases hx : okNum x lo hi with
  | true => rfl
  | false => simp only [eNeedNumber, hx] at h; cases h
theorem nNumber_no {x : PyData} {lo hi : Int} {i : Nat} (h : eNeedNumber [x, .int lo, .int hi] = .error i) : okNum x lo hi = false ∧ i = 2 := by
  cases hx : okNum x lo hi with
  | false => simp only [eNeedNumber, hx] at h; injection h with h; exact ⟨rfl, h.symm⟩
  | true => simp only [eNeedNumber, hx, if_true] at h; cases h
/-! slices -/
theorem cut_take {α : Type} (f : α → PyData) (l : List α) (a : Nat) : cutD (l.map f) none (some (a : Int)) = (l.take a).map f := by
  unfold cutD
  rw [HT.sIx_none, HT.sIx_nat, List.drop_zero, Nat.sub_zero, List.length_map, List.map_take]
  by_cases h : a ≤ l.length
  · rw [Nat.min_eq_left h]
  · rw [Nat.min_eq_right (by omega), List.take_of_length_le (by rw [List.length_map]; exact Nat.le_refl _), List.take_of_length_le (by rw [List.length_map]; omega)]
theorem cut_drop {α : Type} (f : α → PyData) (l : List α) (a : Nat) : cutD (l.map f) (some (a : Int)) none = (l.drop a).map f := by
  unfold cutD
  rw [HT.sIx_none, HT.sIx_nat, List.length_map, List.map_drop]
  by_cases h : a ≤ l.length
  · rw [Nat.min_eq_left h, List.take_of_length_le (by rw [List.length_drop, List.length_map]; exact Nat.le_refl _)]
  · rw [Nat.min_eq_right (by omega), Nat.sub_self, List.take_zero, List.drop_of_length_le (by rw [List.length_map]; omega)]
theorem cut_mid {α : Type} (f : α → PyData) (l : List α) {a b : Nat} (h : a ≤ b) (hb : b ≤ l.length) : cutD (l.map f) (some (a : Int)) (some (b : Int)) = ((l.drop a).take (b - a)).map f := by
  unfold cutD
  rw [HT.sIx_nat, HT.sIx_nat, List.length_map, Nat.min_eq_left hb, Nat.min_eq_left (by omega), List.map_take, List.map_drop]
theorem join_eq : ∀ (ss : List Int) (v : Int) (lo hi : Nat), ss.length ≤ 5 → lo < hi → hi < ss.length → ss.take lo ++ [v] ++ (ss.drop (lo + 1)).take (hi - (lo + 1)) ++ ss.drop (hi + 1) = (ss.set lo v).take hi ++ (ss.set lo v).drop (hi + 1) := by
  intro ss v lo hi h5 h1 h2
  have hlo : lo < 4 := by omega
  have hhi : hi < 5 := by omega
  match ss, h5, h2 with
  | [a, b], _, h2 =>
    have : lo = 0 ∧ hi = 1 := by simp at h2; omega
    obtain ⟨rfl, rfl⟩ := this; rfl
  | [a, b, c], _, h2 =>
    have : (lo = 0 ∧ hi = 1) ∨ (lo = 0 ∧ hi = 2) ∨ (lo = 1 ∧ hi = 2) := by simp at h2; omega
    rcases this with ⟨rfl, rfl⟩ | ⟨rfl, rfl⟩ | ⟨rfl, rfl⟩ <;> rfl
  | [a, b, c, d], _, h2 =>
    have : (lo = 0 ∧ hi = 1) ∨ (lo = 0 ∧ hi = 2) ∨ (lo = 1 ∧ hi = 2) ∨ (lo = 0 ∧ hi = 3) ∨ (lo = 1 ∧ hi = 3) ∨ (lo = 2 ∧ hi = 3) := by simp at h2; omega
    rcases this with ⟨rfl, rfl⟩ | ⟨rfl, rfl⟩ | ⟨rfl, rfl⟩ | ⟨rfl, rfl⟩ | ⟨rfl, rfl⟩ | ⟨rfl, rfl⟩ <;> rfl
  | [a, b, c, d, e], _, h2 =>
    have : (lo = 0 ∧ hi = 1) ∨ (lo = 0 ∧ hi = 2) ∨ (lo = 1 ∧ hi = 2) ∨ (lo = 0 ∧ hi = 3) ∨ (lo = 1 ∧ hi = 3) ∨ (lo = 2 ∧ hi = 3) ∨ (lo = 0 ∧ hi = 4) ∨ (lo = 1 ∧ hi = 4) ∨ (lo = 2 ∧ hi = 4) ∨ (lo = 3 ∧ hi = 4) := by simp at h2; omega
    rcases this with ⟨rfl, rfl⟩ | ⟨rfl, rfl⟩ | ⟨rfl, rfl⟩ | ⟨rfl, rfl⟩ | ⟨rfl, rfl⟩ | ⟨rfl, rfl⟩ | ⟨rfl, rfl⟩ | ⟨rfl, rfl⟩ | ⟨rfl, rfl⟩ | ⟨rfl, rfl⟩ <;> rfl
  | [], _, h2 => simp at h2
  | [a], _, h2 => simp at h2; omega
theorem part_eq : ∀ (ss : List Int) (v w : Int) (a : Nat), a < ss.length → ss.take a ++ [v] ++ ss.drop (a + 1) ++ [w] = (ss ++ [w]).set a v
  | x :: ss, v, w, 0, _ => by simp
  | x :: ss, v, w, a + 1, h => by
    have := part_eq ss v w a (by simpa using h)
    simpa using this
theorem eJoined_eq {ss : List Int} (hs : Shares ss) (x y : PyData) : eJoined [tupI ss, x, y] = if unlk x y ss.length = true then (if 9 < sAt ss x + sAt ss y then .error 4 else .ok (tupI (joinF ss (intOf x).toNat (intOf y).toNat))) else .error 1 := by
  show (if isShares (tupI ss) = true then _ else _) = _
  rw [if_pos (isShares_of hs), intsOf_tupI]
theorem eParted_eq {ss : List Int} (hs : Shares ss) (x y : PyData) : eParted [tupI ss, x, y] = if okKnd x ss.length = true then (if okNum y 1 (sAt ss x - 1) = true then (if ss.length = 5 then .error 4 else .ok (tupI (partF ss (intOf x).toNat (intOf y)))) else .error 2) else .error 1 := by
  show (if isShares (tupI ss) = true then _ else _) = _
  rw [if_pos (isShares_of hs), intsOf_tupI]
theorem eJoined_bad {sh : PyData} (h : isShares sh = false) (x y : PyData) : eJoined [sh, x, y] = .error 0 := if_neg (by rw [h]; decide)
theorem eParted_bad {sh : PyData} (h : isShares sh = false) (x y : PyData) : eParted [sh, x, y] = .error 0 := if_neg (by rw [h]; decide)
def f_told71 : FSp := fun args m R => ∃ (k : Int) (ss : List Int) (x y : PyData), args = [.d (.int k), .d (tupI ss), .d x, .d y] ∧ Shares ss ∧ R (.d (toldD (if k = 0 then eJoined [tupI ss, x, y] else eParted [tupI ss, x, y]))) m
theorem minN (a b : Nat) : min (a : Int) (b : Int) = ((min a b : Nat) : Int) := by omega
theorem maxN (a b : Nat) : max (a : Int) (b : Int) = ((max a b : Nat) : Int) := by omega
end DL

/-! a def that refuses, called where it answers; a def that answers here and refuses there -/
namespace DL
open PySem L2 PySem.Spec PyProof.Rows L2H

def orX (f : FSp) (g : FSpX) : FSpX := fun args m R X => f args m R ∨ g args m R X
section
variable {P : Program} {w : World} {K : PySem.W.Frag} {mg : Str → Option Value} {base : Heap}
theorem ClX.cl {k : Nat} {x : Str} {sp : FSpX} {fs : FSp} (c : ClX P w K mg base k x sp) (h : ∀ args m R, fs args m R → sp args m R fun _ _ => False) : Cl P w K mg base k x fs := by
  obtain ⟨f, fd, ps, F, hm, hk, hb⟩ := c.ex
  have conv : ∀ vs H Q E, spD K fs vs H Q E → spX K sp vs H Q E0 := fun vs H Q E ⟨m, G, args, R, S, r, hf, k⟩ => ⟨m, G, args, R, fun _ _ => False, S, r, h _ _ _ hf, k, fun _ _ _ _ z => z.elim⟩
  refine ⟨f, fd, ps, ⟨fun vs H Q E q => F.len vs H Q E0 (conv _ _ _ _ q), fun A outer s H args us vs Q E hr he hB hv q => ?_⟩, hm, hk, hb⟩
  refine codeAny_mono (F.run A outer s H args us vs Q E0 hr he hB hv (conv _ _ _ _ q)) fun res s' g => ?_
  match res, g with
  | .ok (.ret u), g => exact g
  | .error e, g =>
    obtain ⟨_, _, _, _, _, _, _, _, _, _, _, _, z⟩ := g
    exact z.elim
theorem fnOk_or {k : Nat} {f : Addr} {fd : FuncData} {ps : List Str} {fs : FSp} {sp : FSpX} (o : FnOk P w K mg base CX0 k f fd ps (spD K fs)) (F : FnOk P w K mg base (L2N.CX P w) k f fd ps (spX K sp)) : FnOk P w K mg base (L2N.CX P w) k f fd ps (spX K (orX fs sp)) where
  len := fun vs H Q E ⟨m, G, args, R, X, S, r, hf, k1, k2⟩ => by
    rcases hf with hf | hf
    · exact o.len vs H Q E ⟨m, G, args, R, S, r, hf, k1⟩
    · exact F.len vs H Q E ⟨m, G, args, R, X, S, r, hf, k1, k2⟩
  run := fun A outer s H args us vs Q E hr he hB hv ⟨m, G, as, R, X, S, r, hf, k1, k2⟩ => by
    rcases hf with hf | hf
    · refine codeAny_mono (o.run A outer s H args us vs Q E hr he hB hv ⟨m, G, as, R, S, r, hf, k1⟩) fun res s' g => ?_
      match res, g with
      | .ok (.ret u), g => exact g
      | .error e, g => exact g.elim
    · exact F.run A outer s H args us vs Q E hr he hB hv ⟨m, G, as, R, X, S, r, hf, k1, k2⟩
end
/-- a def over data that refuses -/
def fnR (cs : List Addr) (n : Nat) (F : List PyData → Nat → Prop) : FSpX := fun args m R X => ∃ ds, args = ds.map Val.d ∧ ds.length = n ∧ ∃ i, F ds i ∧ X (cs.getD i 0) m
theorem fnR_len {cs : List Addr} {n : Nat} {F : List PyData → Nat → Prop} {args : List Val} {m : Mm} {R : Val → Mm → Prop} {X : Addr → Mm → Prop} (h : fnR cs n F args m R X) : args.length = n := by
  obtain ⟨ds, rfl, h, _⟩ := h
  rw [List.length_map]; exact h
end DL

/-! orders; what the laws on refusals ask -/
namespace DL
open PySem L2 PySem.Spec PyProof.Rows L2H

def rngI (n : Nat) : List Int := (List.range n).map fun (k : Nat) => (k : Int)
def isOrd : PyData → Nat → Bool
  | .tuple ds, n => decide (ds.length = n) && (ds.all isInt && (rngI n).isPerm (ds.map intOf))
  | _, _ => false
def f_isOrder : FSp := fun args m R => ∃ (x : PyData) (n : Nat), args = [.d x, .d (.int (n : Int))] ∧ n ≤ 5 ∧ R (.d (.bool (isOrd x n))) m
def eNeedOrder : List PyData → Except Nat PyData
  | [.tuple ds, x] => if isOrd x ds.length = true then .ok .none else .error 1
  | _ => .error 9
def preTup5 : List PyData → Prop
  | .tuple ds :: _ => ds.length ≤ 5
  | _ => False
theorem eqvAll_ints : ∀ a b : List Int, PyData.eqvAll (a.map PyData.int) (b.map PyData.int) = decide (a = b)
  | [], [] => by simp [PyData.eqvAll]
  | x :: a, [] => by simp [PyData.eqvAll]
  | [], y :: b => by simp [PyData.eqvAll]
  | x :: a, y :: b => by
    rw [List.map_cons, List.map_cons]
    simp only [PyData.eqvAll, PyData.eqv, eqvAll_ints a b]
    by_cases h : x = y <;> by_cases h2 : a = b <;> simp [h, h2]
theorem eqv_listI (a b : List Int) : PyData.eqv (.list (a.map PyData.int)) (.list (b.map PyData.int)) = decide (a = b) := by
  rw [← eqvAll_ints]; simp only [PyData.eqv]
theorem shaped_listI (ns : List Int) : SeqAt.shaped (.list (ns.map PyData.int)) = true := by
  simp [SeqAt.shaped, PyData.canLay0, canLay_ints, PyData.depth, depth_ints]
theorem ints_of {ds : List PyData} (h : ds.all isInt = true) : ds = (ds.map intOf).map PyData.int := by
  rw [List.map_map]
  refine (List.map_id ds).symm.trans (List.map_congr_left fun d hd => ?_)
  obtain ⟨i, rfl⟩ := int_shape (List.all_eq_true.mp h d hd)
  rfl
theorem rngI_sorted (n : Nat) : (rngI n).Pairwise (· ≤ ·) := by
  unfold rngI
  rw [List.pairwise_map]
  exact List.pairwise_lt_range.imp fun h => by omega
theorem rngD_int (n : Nat) : rngD 0 n = (rngI n).map PyData.int := by
  unfold rngD rngI
  rw [List.map_map]
  exact List.map_congr_left fun k _ => by show PyData.int ((0 + k : Nat) : Int) = .int (k : Int); rw [Nat.zero_add]
theorem sorted_ex (ns : List Int) : ∃ ns' : List Int, ns'.Perm ns ∧ ns'.Pairwise (· ≤ ·) := by
  refine ⟨ns.mergeSort (fun a b => decide (a ≤ b)), List.mergeSort_perm ns _, ?_⟩
  have := List.pairwise_mergeSort (le := fun a b : Int => decide (a ≤ b)) (fun a b c h1 h2 => by simp at *; omega) (fun a b => by simp; omega) ns
  exact this.imp fun h => by simpa using h
theorem ord_iff {ns ns' : List Int} {n : Nat} (hp : ns'.Perm ns) (hs : ns'.Pairwise (· ≤ ·)) : decide (ns' = rngI n) = (rngI n).isPerm ns := by
  by_cases h : ns' = rngI n
  · rw [decide_eq_true h]
    exact (List.isPerm_iff.mpr (h ▸ hp)).symm
  · rw [decide_eq_false h]
    cases hb : (rngI n).isPerm ns with
    | false => rfl
    | true =>
      have h2 := List.isPerm_iff.mp hb
      exact absurd (List.Perm.eq_of_pairwise (le := (· ≤ ·)) (fun a b _ _ h1 h2 => by omega) hs (rngI_sorted n) (hp.trans h2.symm)) h
/-- what a call does that is tried: none if it ends, else the place of what it refuses with -/
def fnA (cs : List Addr) (n : Nat) (F : List PyData → Option Nat → Prop) : FSpX := fun args m R X => ∃ ds, args = ds.map Val.d ∧ ds.length = n ∧ ((F ds none ∧ R (.d .none) m) ∨ ∃ i, F ds (some i) ∧ X (cs.getD i 0) m)
theorem fnA_len {cs : List Addr} {n : Nat} {F : List PyData → Option Nat → Prop} {args : List Val} {m : Mm} {R : Val → Mm → Prop} {X : Addr → Mm → Prop} (h : fnA cs n F args m R X) : args.length = n := by
  obtain ⟨ds, rfl, h, _⟩ := h
  rw [List.length_map]; exact h
def plcs : Option Nat → PyData
  | none => .list []
  | some i => .list [.int (i : Int)]
def f_told (n : Nat) (F : List PyData → Option Nat → Prop) (L : List Nat) : FSp := fun args m R => ∃ ds o, args = ds.map Val.d ∧ ds.length = n ∧ F ds o ∧ (∀ i, o = some i → i ∈ L) ∧ R (.d (plcs o)) m
def f_noShares : FSp := fun args m R => ∃ (p : Addr), args = [.v (.ref p)] ∧ m p = some .box ∧ ∀ d, isShares d = false → R (.d d) m
theorem of_needShares {cs : List Addr} : ∀ args m R, f_needShares args m R → fnE cs 1 eNeedShares anyD args m R fun _ _ => False := by
  rintro args m R ⟨x, rfl, hx, q⟩
  refine ⟨[x], rfl, rfl, trivial, fun d hd => ?_, fun i hi => ?_⟩
  · simp only [eNeedShares, hx, if_true] at hd; injection hd with hd; subst hd; exact q
  · simp only [eNeedShares, hx, if_true] at hi; cases hi
theorem of_needNumber {cs : List Addr} : ∀ args m R, f_needNumber args m R → fnE cs 3 eNeedNumber preNumber args m R fun _ _ => False := by
  rintro args m R ⟨i, lo, hi, rfl, h1, h2, q⟩
  have hx : okNum (.int i) lo hi = true := by simp only [okNum, Bool.and_eq_true, decide_eq_true_eq]; exact ⟨h1, h2⟩
  refine ⟨[.int i, .int lo, .int hi], rfl, rfl, trivial, fun d hd => ?_, fun i hi => ?_⟩
  · simp only [eNeedNumber, hx, if_true] at hd; injection hd with hd; subst hd; exact q
  · simp only [eNeedNumber, hx, if_true] at hi; cases hi
theorem nOrder_ok {ds : List PyData} {x d : PyData} (h : eNeedOrder [.tuple ds, x] = .ok d) : isOrd x ds.length = true := by
  cases hx : isOrd x ds.length with
  | true => rfl
  | false => simp only [eNeedOrder, hx] at h; cases h
theorem nOrder_no {ds : List PyData} {x : PyData} {i : Nat} (h : eNeedOrder [.tuple ds, x] = .error i) : isOrd x ds.length = false ∧ i = 1 := by
  cases hx : isOrd x ds.length with
  | false => simp only [eNeedOrder, hx] at h; injection h with h; exact ⟨rfl, h.symm⟩
  | true => simp only [eNeedOrder, hx, if_true] at h; cases h
/-- refused: no shares, or no two kinds -/
def rUnl : List PyData → Nat → Prop
  | [sh, x, y], i => (isShares sh = false ∧ i = 0) ∨ (∃ ss, sh = tupI ss ∧ Shares ss ∧ unlk x y ss.length = false ∧ i = 1)
  | _, _ => False
def rKnd : List PyData → Nat → Prop
  | [sh, x, y], i => (isShares sh = false ∧ i = 0) ∨ (∃ ss, sh = tupI ss ∧ Shares ss ∧ okKnd x ss.length = false ∧ i = 1)
  | _, _ => False
def rOrd : List PyData → Nat → Prop
  | [sh, x], i => (isShares sh = false ∧ i = 0) ∨ (∃ ss, sh = tupI ss ∧ Shares ss ∧ isOrd x ss.length = false ∧ i = 1)
  | _, _ => False
def rTwo : List PyData → Nat → Prop
  | [x, y], i => (isShares x && isShares y) = false ∧ i = 0
  | _, _ => False
def f_isQuicker : FSp := fun args m R => ∃ (ss tt : List Int), args = [.d (tupI ss), .d (tupI tt)] ∧ Shares ss ∧ Shares tt ∧ R (.d (.bool (decide (timeT ss (List.range ss.length) < timeT tt (List.range tt.length))))) m
theorem joined_unl {sh x y : PyData} {i : Nat} (h : rUnl [sh, x, y] i) : eJoined [sh, x, y] = .error i := by
  rcases h with ⟨h, rfl⟩ | ⟨ss, rfl, hs, h, rfl⟩
  · exact eJoined_bad h _ _
  · rw [eJoined_eq hs, if_neg (by rw [h]; decide)]
theorem parted_knd {sh x y : PyData} {i : Nat} (h : rKnd [sh, x, y] i) : eParted [sh, x, y] = .error i := by
  rcases h with ⟨h, rfl⟩ | ⟨ss, rfl, hs, h, rfl⟩
  · exact eParted_bad h _ _
  · rw [eParted_eq hs, if_neg (by rw [h]; decide)]
def rAsk73 : List PyData → Option Nat → Prop
  | [.int k, sh, x, y], o => ((k = 0 ∨ k = 1) ∧ ∃ i, o = some i ∧ rUnl [sh, x, y] i) ∨ (k = 2 ∧ ∃ i, o = some i ∧ rKnd [sh, x, y] i) ∨ (k = 3 ∧ ∃ i, o = some i ∧ rOrd [sh, x] i) ∨ (k = 4 ∧ ((∃ i, o = some i ∧ rTwo [sh, x] i) ∨ ∃ ss tt, sh = tupI ss ∧ x = tupI tt ∧ Shares ss ∧ Shares tt ∧ o = none))
  | _, _ => False
theorem ask73_bad {k : Int} {sh x y : PyData} (h0 : 0 ≤ k) (h5 : k < 5) (h : isShares sh = false) : rAsk73 [.int k, sh, x, y] (some 0) := by
  have : k = 0 ∨ k = 1 ∨ k = 2 ∨ k = 3 ∨ k = 4 := by omega
  rcases this with rfl | rfl | rfl | rfl | rfl
  · exact Or.inl ⟨Or.inl rfl, 0, rfl, Or.inl ⟨h, rfl⟩⟩
  · exact Or.inl ⟨Or.inr rfl, 0, rfl, Or.inl ⟨h, rfl⟩⟩
  · exact Or.inr (Or.inl ⟨rfl, 0, rfl, Or.inl ⟨h, rfl⟩⟩)
  · exact Or.inr (Or.inr (Or.inl ⟨rfl, 0, rfl, Or.inl ⟨h, rfl⟩⟩))
  · exact Or.inr (Or.inr (Or.inr ⟨rfl, Or.inl ⟨0, rfl, by rw [h]; rfl, rfl⟩⟩))
theorem ask73_knd {k : Int} {ss : List Int} {x y : PyData} (hs : Shares ss) (h0 : 0 ≤ k) (h3 : k < 3) (h : unlk x y ss.length = false) (h2 : k = 2 → okKnd x ss.length = false) : rAsk73 [.int k, tupI ss, x, y] (some 1) := by
  have : k = 0 ∨ k = 1 ∨ k = 2 := by omega
  rcases this with rfl | rfl | rfl
  · exact Or.inl ⟨Or.inl rfl, 1, rfl, Or.inr ⟨ss, rfl, hs, h, rfl⟩⟩
  · exact Or.inl ⟨Or.inr rfl, 1, rfl, Or.inr ⟨ss, rfl, hs, h, rfl⟩⟩
  · exact Or.inr (Or.inl ⟨rfl, 1, rfl, Or.inr ⟨ss, rfl, hs, h2 rfl, rfl⟩⟩)
theorem unlk_no1 {x y : PyData} {n : Nat} (h : okKnd x n = false) : unlk x y n = false := by unfold unlk; rw [h, Bool.false_and]
theorem unlk_no2 {x y : PyData} {n : Nat} (h : okKnd y n = false) : unlk x y n = false := by unfold unlk; rw [h, Bool.false_and, Bool.and_false]
theorem atI_ex {l : List PyData} {z : Int} (h0 : 0 ≤ z) (h1 : z < (l.length : Int)) : ∃ d ∈ l, atI l z = some d := by
  obtain ⟨k, rfl⟩ : ∃ k : Nat, z = (k : Int) := ⟨z.toNat, by omega⟩
  have hk : k < l.length := by omega
  exact ⟨l[k], List.getElem_mem hk, by rw [atI_nth, List.getElem?_eq_getElem hk]⟩
theorem canLay_rep {d : PyData} (h : PyData.canLay0 d = true) : ∀ n, PyData.canLayAll0 (List.replicate n d) = true
  | 0 => by simp [PyData.canLayAll0]
  | n + 1 => by rw [List.replicate_succ]; simp [PyData.canLayAll0, h, canLay_rep h n]
theorem depth_rep {d : PyData} {k : Nat} (h : PyData.depth d ≤ k) : ∀ n, PyData.depthAll (List.replicate n d) ≤ k
  | 0 => by simp [PyData.depthAll]
  | n + 1 => by rw [List.replicate_succ]; simp only [PyData.depthAll]; exact Nat.max_le.mpr ⟨h, depth_rep h n⟩
theorem shaped_plcs (o : Option Nat) : SeqAt.shaped (plcs o) = true := by
  cases o with
  | none => simp [plcs, SeqAt.shaped, PyData.canLay0, PyData.canLayAll0, PyData.depth, PyData.depthAll]
  | some i => exact shaped_listI [(i : Int)]
theorem shaped_rep (o : Option Nat) (n : Nat) : SeqAt.shaped (.list (List.replicate n (plcs o))) = true := by
  have hp := shaped_plcs o
  have h1 : PyData.canLay0 (plcs o) = true := by cases o <;> simp [plcs, PyData.canLay0, PyData.canLayAll0]
  have h2 : PyData.depth (plcs o) ≤ 1 := by cases o <;> simp [plcs, PyData.depth, PyData.depthAll]
  have h3 := depth_rep h2 n
  simp only [SeqAt.shaped, PyData.canLay0, canLay_rep h1 n, PyData.depth, Bool.true_and]
  exact decide_eq_true (by omega)
section
variable {K : PySem.W.Frag} {r : List Val} {m : Mm} {Q : Val → Mm → Prop} {ta : TA} {tb : TE}
/-- [..] * n, data -/
theorem ev_lstMulD (h : EvA K ta r m fun xs m1 => ∃ ds : List PyData, xs = ds.map Val.d ∧ ds.length ≤ 100 ∧ Ev K tb r m1 fun y m2 => ∃ n : Nat, y = .d (.int (n : Int)) ∧ n ≤ 1000 ∧ Q (.d (.list (List.replicate n ds).flatten)) m2) : Ev K (tOp (rMul K) (tLst ta) tb) r m Q := fun σ H G S L R k =>
  h σ H G S L _ fun vs H1 G1 xs m1 ⟨ds, hx, hl, h1⟩ S1 e1 r1 => by
    subst hx
    have hA := r1.toAll
    refine ⟨by rw [hA.length]; exact Nat.le_trans hl (by decide), fun p hp => ?_⟩
    have hg := S1.free hp
    refine h1 σ _ (upd G1 p (.lst vs)) (S1.fix hp) (L.mono (e1.trans (Le.new hg))) _ fun w H2 G2 y m2 ⟨n, hy, hn, q⟩ S2 e2 r2 => ?_
    subst hy
    have r2 := int_of r2
    subst r2
    have en : ((n : Int)).toNat = n := by omega
    refine Or.inr (Or.inr (Or.inr ⟨p, (n : Int), vs, rfl, rfl, S2.sub _ _ (e2 _ _ upd_same), by omega, by omega, ?_, fun l hl => ?_⟩))
    · rw [en, hA.length]
      exact Nat.le_trans (Nat.mul_le_mul hl hn) (by decide)
    · rw [en]
      have hB : RpAll K G2 ds vs := RpAll.mono ((Le.new hg).trans e2) ds vs hA
      have hg2 := S2.free hl
      exact k _ _ (upd G2 l _) _ m2 q (S2.fix hl) (e1.trans ((Le.new hg).trans (e2.trans (Le.new hg2)))) (.d (rp_list.mpr ⟨l, _, rfl, Rd.of upd_same, RpAll.mono (Le.new hg2) _ _ (hB.rep n)⟩))
theorem rep_flat (n : Nat) (d : PyData) : (List.replicate n [d]).flatten = List.replicate n d := by
  induction n with
  | zero => rfl
  | succ n ih => rw [List.replicate_succ, List.flatten_cons, ih]; rfl
/-- [[i]] * n -/
theorem ev_reps {i n : Nat} (hn : n ≤ 1000) (q : Q (.d (.list (List.replicate n (plcs (some i))))) m) : Ev K (tOp (rMul K) (tLst (tCons (tLst (tCons (tC (.int (i : Int))) tNil)) tNil)) (tC (.int (n : Int)))) r m Q := by
  refine ev_lstMulD (eva_cons (ev_lstD (eva_cons (ev_cI (eva_nil ⟨[.int (i : Int)], rfl, by show 1 ≤ 100000; decide, ?_⟩)))))
  refine eva_nil ⟨[.list [.int (i : Int)]], rfl, by show 1 ≤ 100; decide, ev_cI ⟨n, rfl, hn, ?_⟩⟩
  rw [rep_flat]; exact q
theorem ev_reps0 {n : Nat} (hn : n ≤ 1000) (q : Q (.d (.list (List.replicate n (plcs none)))) m) : Ev K (tOp (rMul K) (tLst (tCons (tLst tNil) tNil)) (tC (.int (n : Int)))) r m Q := by
  refine ev_lstMulD (eva_cons (ev_lstD (eva_nil ⟨[], rfl, by decide, ?_⟩)))
  refine eva_nil ⟨[.list []], rfl, by show 1 ≤ 100; decide, ev_cI ⟨n, rfl, hn, ?_⟩⟩
  rw [rep_flat]; exact q
theorem o2_neRep {o : Option Nat} {n : Nat} (q : Q (.d (.bool false)) m) : Op2 K (rNeA K) (.d (.list ((List.range n).map fun _ => plcs o))) (.d (.list (List.replicate n (plcs o)))) m Q := by
  have e : ((List.range n).map fun _ => plcs o) = List.replicate n (plcs o) := by rw [List.map_const', List.length_range]
  rw [e]
  exact o2_neSame (shaped_rep o n) q
/-- l[z], one of them -/
theorem o2_ixLx {l : List PyData} {z : Int} (h0 : 0 ≤ z) (h1 : z < (l.length : Int)) (q : ∀ d ∈ l, Q (.d d) m) : Op2 K (rIx K) (.d (.list l)) (.d (.int z)) m Q := by
  obtain ⟨d, hd, e⟩ := atI_ex h0 h1
  exact o2_ixL e (q d hd)
/-- != [i] -/
theorem o2_nePl {i : Nat} {Q : Val → Mm → Prop} (q : Q (.d (.bool false)) m) : Ev K (tLst (tCons (tC (.int (i : Int))) tNil)) r m fun y m1 => Op2 K (rNeA K) (.d (plcs (some i))) y m1 Q :=
  ev_lstD (eva_cons (ev_cI (eva_nil ⟨[.int (i : Int)], rfl, by show 1 ≤ 100000; decide, o2_neSame (shaped_plcs (some i)) q⟩)))
theorem o2_nePl0 {Q : Val → Mm → Prop} (q : Q (.d (.bool false)) m) : Ev K (tLst tNil) r m fun y m1 => Op2 K (rNeA K) (.d (plcs none)) y m1 Q :=
  ev_lstD (eva_nil ⟨[], rfl, by decide, o2_neSame (shaped_plcs none) q⟩)
end
theorem bad73 {n : Nat} {z w : Int} (h0 : 0 ≤ z) (hw : 10 ≤ w) (hn : n ≤ 5) : ∀ d ∈ [PyData.int (-1), .int (n : Int), .bool true, .none, .str "0", .tuple [.int 0, .int 0], .int ((n : Int) + z), .int w], okKnd d n = false ∧ isOrd d n = false := by
  intro d hd
  have key : ∀ i : Int, i < 0 ∨ (n : Int) ≤ i → okKnd (.int i) n = false ∧ isOrd (.int i) n = false := fun i hi => ⟨by
    cases h : okKnd (.int i) n with
    | false => rfl
    | true => simp only [okKnd, Bool.and_eq_true, decide_eq_true_eq] at h; omega, rfl⟩
  simp only [List.mem_cons, List.not_mem_nil, or_false] at hd
  rcases hd with rfl | rfl | rfl | rfl | rfl | rfl | rfl | rfl
  · exact key _ (by omega)
  · exact key _ (by omega)
  · exact ⟨rfl, rfl⟩
  · exact ⟨rfl, rfl⟩
  · exact ⟨rfl, rfl⟩
  · refine ⟨rfl, ?_⟩
    have h6 : ∀ n : _root_.Fin 6, isOrd (.tuple [.int 0, .int 0]) n.val = false := by decide +kernel
    exact h6 ⟨n, by omega⟩
  · exact key _ (by omega)
  · exact key _ (by omega)
end DL

/-! chances of orders; for a, b in a list of pairs -/
namespace DL
open PySem L2 PySem.Spec PyProof.Rows L2H

section
variable {K : PySem.W.Frag} {r : List Val} {m : Mm} {Q : Val → Mm → Prop} {t : TS} {N : List Val → Mm → Prop} {E : Val → Mm → Prop}
theorem w_forL2 {tl : TE} {j1 j2 : Nat} {xs : List (PyData × PyData)} (h : Ev K tl r m fun x m1 => x = .d (.list (xs.map fun p => .tuple [p.1, p.2])) ∧ m1 = m) (W : Nat → List Val → Mm → Prop) (h0 : W 0 r m)
    (hs : ∀ (i : Nat) (p : PyData × PyData) r' m', xs[i]? = some p → W i r' m' → Wp K t ((r'.set j1 (.d p.1)).set j2 (.d p.2)) m' (W (i + 1)) E) (hd : ∀ r' m', W xs.length r' m' → N r' m') :
    Wp K (tFor (iList K tl) (gTup K 2 (gCons (gName j1) (gCons (gName j2) gNil))) t) r m N E := fun σ H G D S L a b =>
  h σ H G S L _ fun v H1 G1 x m1 ⟨hx, hm⟩ S1 e1 r1 => by
    subst hx hm
    obtain ⟨p, zs, hv, hs1, hA⟩ := rp_list.mp r1.rp
    have hs1 : SqL K G1 p zs := Or.inl hs1
    have hlen := hA.length
    rw [List.length_map] at hlen
    refine ⟨p, hv, ⟨zs, S1.sqL hs1⟩, for_list (xs := zs) (fun i σ' H' => ∃ G' r' m', W i r' m' ∧ Sta K m' H' G' ∧ Le G1 G' ∧ Sl K G' r' σ') ⟨G1, r, _, h0, S1, Le.refl G1, L.mono e1⟩ ?_ ?_ ?_⟩
    · rintro i σ' H' hi ⟨G', r', m', _, S', e', _⟩
      exact S'.sqL (e'.sqL hs1)
    · rintro i y σ' H' hy ⟨G', r', m', hw, S', e', L'⟩
      obtain ⟨d, hd1, hd2⟩ := hA.get hy
      obtain ⟨pr, hpr, rfl⟩ := map_at hd1
      obtain ⟨T, us, hv2, hs2, hB⟩ := rp_tuple.mp (Rp.mono e' _ _ hd2)
      obtain ⟨x1, t1, rfl, a1, hB⟩ := rpa_cons.mp hB
      obtain ⟨x2, t2, rfl, a2, hB⟩ := rpa_cons.mp hB
      obtain rfl := rpa_nil.mp hB
      refine ⟨T, _, hv2, S'.sqT hs2, rfl, x1, [x2], rfl, x2, [], rfl, rfl, ?_⟩
      exact hs i pr r' m' hpr hw _ H' G' _ S' ((L'.set (r := .d pr.1) (.d a1) j1).set (r := .d pr.2) (.d a2) j2) (fun σ3 H3 G3 r3 m3 h3 S3 e3 L3 => ⟨G3, r3, m3, h3, S3, e'.trans e3, L3⟩) (fun v H3 G3 x m3 n3 S3 e3 L3 => b v H3 G3 x m3 n3 S3 (e1.trans (e'.trans e3)) L3)
    · rintro σ' H' ⟨G', r', m', hw, S', e', L'⟩
      rw [hlen] at hw
      exact a σ' H' G' r' m' (hd r' m' hw) S' (e1.trans e') L'
end
section
variable {P : Program} {w : World} {K : PySem.W.Frag} {mg : Str → Option Value} {base : Heap}
theorem Cl.imp {k : Nat} {x : Str} {f g : FSp} (c : Cl P w K mg base k x f) (h : ∀ args m R, g args m R → f args m R) : Cl P w K mg base k x g := by
  obtain ⟨a, fd, ps, F, hm, hk, hb⟩ := c.ex
  exact ⟨a, fd, ps, F.imp fun vs H Q E ⟨m, G, args, R, S, r, hf, k⟩ => ⟨m, G, args, R, S, r, h _ _ _ hf, k⟩, hm, hk, hb⟩
end
theorem allSomeB_L : ∀ args m R, f_allSome args m R → f_allSomeB args m R := fun args m R ⟨ks, e, hn, q⟩ => ⟨ks, _, e, Or.inl rfl, hn, q⟩
theorem allSomeB_U : ∀ args m R, f_allSomeU args m R → f_allSomeB args m R := fun args m R ⟨ks, e, hn, q⟩ => ⟨ks, _, e, Or.inr rfl, hn, q⟩
/-! what an order's kinds have -/
def osum (ss : List Int) (ns : List Nat) : Int := (ns.map fun k => ss.getD k 0).sum
def obot (ss : List Int) (ns : List Nat) : Nat → Int
  | 0 => 1
  | i + 1 => obot ss ns i * osum ss (ns.drop i)
def ordQ (ss : List Int) (ns : List Nat) : Rat := mkRat (prP ss ns) (obot ss ns ns.length).toNat
theorem osum_drop {ss : List Int} {ns : List Nat} {i k : Nat} (h : ns[i]? = some k) : osum ss (ns.drop i) = ss.getD k 0 + osum ss (ns.drop (i + 1)) := by
  obtain ⟨hi, rfl⟩ := List.getElem?_eq_some_iff.mp h
  unfold osum
  rw [List.drop_eq_getElem_cons hi, List.map_cons, List.sum_cons]
theorem osum_all {ss : List Int} {ns : List Nat} (h : ns.Perm (List.range ss.length)) : osum ss ns = ss.sum := by
  unfold osum
  rw [sum_perm (h.map _)]
  congr 1
  refine List.ext_getElem (by simp) fun i h1 h2 => ?_
  rw [List.getElem_map, List.getElem_range, List.getD_eq_getElem?_getD, List.getElem?_eq_getElem h2]; rfl
theorem osum_bounds {ss : List Int} (hs : Shares ss) : ∀ ns : List Nat, (∀ k ∈ ns, k < ss.length) → (ns.length : Int) ≤ osum ss ns ∧ osum ss ns ≤ 9 * ns.length
  | [], _ => by simp [osum]
  | k :: ns, h => by
    have ih := osum_bounds hs ns fun j hj => h j (List.mem_cons_of_mem _ hj)
    have hk := h k List.mem_cons_self
    have b := hs.each (ss.getD k 0) (by rw [List.getD_eq_getElem?_getD, List.getElem?_eq_getElem hk]; exact List.getElem_mem hk)
    have e : osum ss (k :: ns) = ss.getD k 0 + osum ss ns := by unfold osum; rw [List.map_cons, List.sum_cons]
    rw [e, List.length_cons]
    omega
theorem obot_bt {ss : List Int} (hs : Shares ss) {ns : List Nat} (hk : ∀ k ∈ ns, k < ss.length) (h5 : ns.length ≤ 5) : ∀ i, i ≤ ns.length → 0 < obot ss ns i ∧ Bt (obot ss ns i) (1 + 6 * i)
  | 0, _ => ⟨by show (0 : Int) < 1; decide, bt_lit (i := 1) (n := 1) (by decide) (by decide)⟩
  | i + 1, h => by
    obtain ⟨h1, h2⟩ := obot_bt hs hk h5 i (by omega)
    have b := osum_bounds hs (ns.drop i) fun k hk' => hk k (List.mem_of_mem_drop hk')
    rw [List.length_drop] at b
    have b3 : Bt (osum ss (ns.drop i)) 6 := by show _ < 64; omega
    refine ⟨Int.mul_pos h1 (by omega), ?_⟩
    exact (h2.mul b3).mono (by omega)
theorem perm_of_ord {ns : List Nat} {n : Nat} (h : isOrd (tupN ns) n = true) : ns.Perm (List.range n) := by
  have h : (decide ((((ns.map fun (k : Nat) => (k : Int)).map PyData.int)).length = n) && (_ && (rngI n).isPerm (((ns.map fun (k : Nat) => (k : Int)).map PyData.int).map intOf))) = true := h
  simp only [Bool.and_eq_true] at h
  have h2 := List.isPerm_iff.mp h.2.2
  have e : ((ns.map fun (k : Nat) => (k : Int)).map PyData.int).map intOf = ns.map fun (k : Nat) => (k : Int) := by
    rw [List.map_map]
    exact (List.map_congr_left fun _ _ => rfl).trans (List.map_id _)
  rw [e] at h2
  have h3 := h2.symm.map Int.toNat
  unfold rngI at h3
  rw [List.map_map, List.map_map] at h3
  have e2 : ∀ l : List Nat, l.map (Int.toNat ∘ fun (k : Nat) => (k : Int)) = l := fun l => (List.map_congr_left fun k _ => by show ((k : Int)).toNat = k; omega).trans (List.map_id l)
  rw [e2, e2] at h3
  exact h3
theorem ord_of_perm {ns : List Nat} {n : Nat} (h : ns.Perm (List.range n)) : isOrd (tupN ns) n = true := by
  show (decide ((((ns.map fun (k : Nat) => (k : Int)).map PyData.int)).length = n) && (((ns.map fun (k : Nat) => (k : Int)).map PyData.int).all isInt && (rngI n).isPerm (((ns.map fun (k : Nat) => (k : Int)).map PyData.int).map intOf))) = true
  have e : ((ns.map fun (k : Nat) => (k : Int)).map PyData.int).map intOf = ns.map fun (k : Nat) => (k : Int) := by
    rw [List.map_map]
    exact (List.map_congr_left fun _ _ => rfl).trans (List.map_id _)
  rw [e]
  simp only [Bool.and_eq_true, decide_eq_true_eq]
  refine ⟨by rw [List.length_map, List.length_map, h.length_eq, List.length_range], ?_, List.isPerm_iff.mpr (h.symm.map _)⟩
  rw [List.all_map, List.all_map]
  exact List.all_eq_true.mpr fun _ _ => rfl
def f_needOrder : FSp := fun args m R => ∃ ts x, args = [.d (.tuple ts), .d x] ∧ ts.length ≤ 5 ∧ isOrd x ts.length = true ∧ R (.d .none) m
theorem of_needOrder {cs : List Addr} : ∀ args m R, f_needOrder args m R → fnE cs 2 eNeedOrder preTup5 args m R fun _ _ => False := by
  rintro args m R ⟨ts, x, rfl, h5, hx, q⟩
  refine ⟨[.tuple ts, x], rfl, rfl, h5, fun d hd => ?_, fun i hi => ?_⟩
  · simp only [eNeedOrder, hx, if_true] at hd; injection hd with hd; subst hd; exact q
  · simp only [eNeedOrder, hx, if_true] at hi; cases hi
def f_needUnlike : FSp := fun args m R => ∃ ts x y, args = [.d (.tuple ts), .d x, .d y] ∧ unlk x y ts.length = true ∧ R (.d .none) m
theorem of_needUnlike {cs : List Addr} : ∀ args m R, f_needUnlike args m R → fnE cs 3 eNeedUnlike preTup args m R fun _ _ => False := by
  rintro args m R ⟨ts, x, y, rfl, hx, q⟩
  refine ⟨[.tuple ts, x, y], rfl, rfl, trivial, fun d hd => ?_, fun i hi => ?_⟩
  · simp only [eNeedUnlike, hx, if_true] at hd; injection hd with hd; subst hd; exact q
  · simp only [eNeedUnlike, hx, if_true] at hi; cases hi
def f_orderChance : FSp := fun args m R => ∃ (ss : List Int) (ns : List Nat), args = [.d (tupI ss), .d (tupN ns)] ∧ Shares ss ∧ ns.Perm (List.range ss.length) ∧ R (.d (frac (ordQ ss ns))) m
def f_ahead : FSp := fun args m R => ∃ (ss : List Int) (a b : Nat), args = [.d (tupI ss), .d (.int (a : Int)), .d (.int (b : Int))] ∧ Shares ss ∧ a < ss.length ∧ b < ss.length ∧ a ≠ b ∧ R (.d (frac (mkRat (ss.getD a 0) (ss.getD a 0 + ss.getD b 0).toNat))) m
def rNum (lo hi : Int) : List PyData → Nat → Prop
  | [sh, x], i => (isShares sh = false ∧ i = 0) ∨ (∃ ss, sh = tupI ss ∧ Shares ss ∧ okNum x lo hi = false ∧ i = 2)
  | _, _ => False
def rNumL : List PyData → Nat → Prop
  | [sh, x], i => (isShares sh = false ∧ i = 0) ∨ (∃ ss, sh = tupI ss ∧ Shares ss ∧ okNum x 0 (ss.length : Int) = false ∧ i = 2)
  | _, _ => False
def rOne : List PyData → Nat → Prop
  | [sh], i => isShares sh = false ∧ i = 0
  | _, _ => False
def rAsk45 : List PyData → Option Nat → Prop
  | [.int k, sh, x, y], o => (isShares sh = false ∧ 0 ≤ k ∧ k ≤ 5 ∧ o = some 0) ∨ ∃ ss, sh = tupI ss ∧ Shares ss ∧
     ((k = 0 ∧ unlk x y ss.length = false ∧ o = some 1) ∨ (k = 0 ∧ unlk x y ss.length = true ∧ o = none) ∨ (k = 1 ∧ isOrd x ss.length = false ∧ o = some 1) ∨ (k = 1 ∧ (∃ ns, x = tupN ns ∧ ns.Perm (List.range ss.length)) ∧ o = none) ∨
      (k = 2 ∧ okNum x 0 12 = false ∧ o = some 2) ∨ (k = 2 ∧ (∃ n : Nat, x = .int (n : Int) ∧ n ≤ 12) ∧ o = none) ∨ (k = 3 ∧ okNum x 0 (ss.length : Int) = false ∧ o = some 2) ∨ (k = 3 ∧ (∃ n : Nat, x = .int (n : Int) ∧ n ≤ ss.length) ∧ o = none))
  | _, _ => False
theorem okKnd_off {i : Int} {n : Nat} (h : i < 0 ∨ (n : Int) ≤ i) : okKnd (.int i) n = false := by
  cases hk : okKnd (.int i) n with
  | false => rfl
  | true => simp only [okKnd, Bool.and_eq_true, decide_eq_true_eq] at hk; omega
theorem okNum_off {i lo hi : Int} (h : i < lo ∨ hi < i) : okNum (.int i) lo hi = false := by
  cases hk : okNum (.int i) lo hi with
  | false => rfl
  | true => simp only [okNum, Bool.and_eq_true, decide_eq_true_eq] at hk; omega
theorem bad45 {n : Nat} {z w : Int} (h0 : 0 ≤ z) (hw : 10 ≤ w) (hn : n ≤ 5) : ∀ d ∈ [PyData.int (-1), .int (n : Int), .bool true, .none, .str "0", .tuple [.int 0], .list [.int 0], .int ((n : Int) + z), .int w], okKnd d n = false := by
  intro d hd
  simp only [List.mem_cons, List.not_mem_nil, or_false] at hd
  rcases hd with rfl | rfl | rfl | rfl | rfl | rfl | rfl | rfl | rfl <;> first | rfl | exact okKnd_off (by omega)
theorem num45 {n : Nat} {z w : Int} (h0 : 0 ≤ z) (hw : 13 ≤ w) (hn : n ≤ 5) : ∀ d ∈ [PyData.int (-1), .int 13, .bool true, .none, .str "1", .tuple [.int 1], .int w, .int (13 + z), .list [.int 1], .dict []], okNum d 0 12 = false ∧ okNum d 0 (n : Int) = false ∧ isOrd d n = false := by
  intro d hd
  simp only [List.mem_cons, List.not_mem_nil, or_false] at hd
  rcases hd with rfl | rfl | rfl | rfl | rfl | rfl | rfl | rfl | rfl | rfl <;> first | exact ⟨rfl, rfl, rfl⟩ | exact ⟨okNum_off (by omega), okNum_off (by omega), rfl⟩ | skip
  refine ⟨rfl, rfl, ?_⟩
  have h6 : ∀ n : _root_.Fin 6, isOrd (.tuple [.int 1]) n.val = false := by decide +kernel
  exact h6 ⟨n, by omega⟩
theorem shaped_three : SeqAt.shaped (.list [plcs none, plcs none, plcs none]) = true := shaped_rep none 3
end DL

/-! repr of data with dicts (and no lists) -/
namespace DL
open PySem L2 PySem.Spec PyProof.Rows L2H

mutual
def noL : PyData → Bool
  | .list _ => false
  | .tuple ds => noLAll ds
  | .dict kvs => noLV kvs
  | .none => true
  | .bool _ => true
  | .int _ => true
  | .str _ => true
def noLAll : List PyData → Bool
  | [] => true
  | d :: ds => noL d && noLAll ds
def noLV : List (PyData × PyData) → Bool
  | [] => true
  | (_, d) :: r => noL d && noLV r
end
section
variable {X : Cx} {pins : List (Addr × Obj)} {σ : L2.St} {H : Hp} {s : Shared}
theorem key_reads {h : Heap} : ∀ {k : Key} {u : Value}, RelV (kV k) u → Reads h u (keyD k) []
  | .inl i, u, r => by
    obtain ⟨t, rfl⟩ := r
    exact Reads.int i t
  | .inr x, u, r => by
    obtain ⟨t, rfl⟩ := r
    exact Reads.str x t
theorem keys_reads {h : Heap} : ∀ {ks : List Key} {us : List Value}, Vals (ks.map kV) us → ReadsAll h us (ks.map keyD) []
  | [], us, r => by cases r; exact ReadsAll.nil
  | k :: ks, us, r => by
    cases r with
    | cons r1 r2 => exact ReadsAll.cons (as := []) (bs := []) (key_reads r1) (keys_reads r2)
theorem tup_reads (I : Inv X pins σ H s) {b : Addr} {ks : List Key} (h : H b = some (.tup (ks.map kV))) : Reads s.heap (.ref b) (.tuple (ks.map keyD)) [] := by
  obtain ⟨its, rv, ⟨o, ho, hc, n, hd⟩, _⟩ := I.tuple (SqT.of h)
  exact Reads.tuple ho hc hd (keys_reads rv)
mutual
theorem rdD (I : Inv X pins σ H s) : ∀ (d : PyData) (v : V) (u : Value), noL d = true → Rp X.K H d v → RelV v u → ∃ as, Reads s.heap u d as ∧ sysModules ∉ as
  | .none, v, u, _, h, r => by
    rw [rp_none.mp h] at r; cases r
    exact ⟨[], Reads.none, fun z => nomatch z⟩
  | .bool b, v, u, _, h, r => by
    rw [rp_bool.mp h] at r; cases r
    exact ⟨[], Reads.bool b, fun z => nomatch z⟩
  | .int i, v, u, _, h, r => by
    rw [rp_int.mp h] at r
    obtain ⟨t, rfl⟩ := r
    exact ⟨[], Reads.int i t, fun z => nomatch z⟩
  | .str x, v, u, _, h, r => by
    rw [rp_str.mp h] at r
    obtain ⟨t, rfl⟩ := r
    exact ⟨[], Reads.str x t, fun z => nomatch z⟩
  | .list ds, v, u, n, _, _ => by simp [noL] at n
  | .tuple ds, v, u, n, h, r => by
    obtain ⟨a, xs, rfl, h2, h3⟩ := rp_tuple.mp h
    cases r
    obtain ⟨its, rv, ⟨o, ho, hc, n2, hd⟩, _⟩ := I.tuple h2
    obtain ⟨as, hr, hns⟩ := rdDAll I ds xs its (by simpa [noL] using n) h3 rv
    exact ⟨as, Reads.tuple ho hc hd hr, hns⟩
  | .dict kvs, v, u, n, h, r => by
    rw [Rp] at h
    obtain ⟨a, rfl, h⟩ := h
    cases r
    have n : noLV kvs = true := by simpa [noL] using n
    rcases h with ⟨es, h1, h2⟩ | ⟨es, h1, h2⟩
    · obtain ⟨_, hd, xs, rel, o, es2, ep, g1, g2, g3, g4, _⟩ := dt_rd I.hok (.inl h1)
      obtain ⟨as, bs, q1, q2, q3, q4⟩ := rdDT I kvs es xs n h2 rel
      refine ⟨a :: as ++ bs, Reads.dict g1 g2.1 g3 ?_ ?_, ?_⟩
      · rw [g4, List.map_map]; exact q1
      · rw [g4, List.map_map]; exact q2
      · intro z
        rcases List.mem_append.mp z with z | z
        · rcases List.mem_cons.mp z with z | z
          · rw [z] at hd; simp at hd
          · exact q3 z
        · exact q4 z
    · obtain ⟨_, hd, vs, rel, o, es2, ep, g1, g2, g3, _, g4, _⟩ := dk_rd I.hok (.inl h1)
      obtain ⟨as, bs, q1, q2, q3, q4⟩ := rdDK I kvs es vs es2.toList n h2 rel g4
      refine ⟨a :: as ++ bs, Reads.dict g1 g2.1 g3 q1 q2, ?_⟩
      intro z
      rcases List.mem_append.mp z with z | z
      · rcases List.mem_cons.mp z with z | z
        · rw [z] at hd; simp at hd
        · exact q3 z
      · exact q4 z
theorem rdDAll (I : Inv X pins σ H s) : ∀ (ds : List PyData) (vs : List V) (us : List Value), noLAll ds = true → RpAll X.K H ds vs → Vals vs us → ∃ as, ReadsAll s.heap us ds as ∧ sysModules ∉ as
  | [], vs, us, _, h, r => by
    rw [rpa_nil.mp h] at r; cases r
    exact ⟨[], ReadsAll.nil, fun z => nomatch z⟩
  | d :: ds, vs, us, n, h, r => by
    obtain ⟨x, t, rfl, h2, h3⟩ := rpa_cons.mp h
    have n : noL d = true ∧ noLAll ds = true := by simpa [noLAll] using n
    cases r with
    | cons r1 r2 =>
      obtain ⟨as, q1, q2⟩ := rdD I d x _ n.1 h2 r1
      obtain ⟨bs, q3, q4⟩ := rdDAll I ds t _ n.2 h3 r2
      exact ⟨as ++ bs, ReadsAll.cons q1 q3, fun z => (List.mem_append.mp z).elim q2 q4⟩
theorem rdDT (I : Inv X pins σ H s) : ∀ (kvs : List (PyData × PyData)) (es : List (List Key × V)) (xs : List (List Key × Addr × Value)), noLV kvs = true → RpT X.K H kvs es → KT H es xs →
    ∃ as bs, ReadsAll s.heap (xs.map fun x => Value.ref x.2.1) (kvs.map (·.1)) as ∧ ReadsAll s.heap (xs.map fun x => x.2.2) (kvs.map (·.2)) bs ∧ sysModules ∉ as ∧ sysModules ∉ bs
  | [], es, xs, _, h, r => by
    rw [RpT] at h
    subst h
    cases r
    exact ⟨[], [], ReadsAll.nil, ReadsAll.nil, (fun z => nomatch z), (fun z => nomatch z)⟩
  | (k, d) :: kvs, es, xs, n, h, r => by
    rw [RpT] at h
    obtain ⟨ks, v, t, rfl, rfl, h2, h3⟩ := h
    have n : noL d = true ∧ noLV kvs = true := by simpa [noLV] using n
    cases r with
    | @cons p q ps qs hq r2 =>
      obtain ⟨e1, e2, e3⟩ := hq
      obtain ⟨as, q1, q2⟩ := rdD I d v _ n.1 h2 e3
      obtain ⟨cs, bs, q3, q4, q5, q6⟩ := rdDT I kvs t qs n.2 h3 r2
      exact ⟨[] ++ cs, as ++ bs, ReadsAll.cons (tup_reads I e2) q3, ReadsAll.cons q1 q4, q5, fun z => (List.mem_append.mp z).elim q2 q6⟩
theorem rdDK (I : Inv X pins σ H s) : ∀ (kvs : List (PyData × PyData)) (es : List (Key × V)) (vs : List (Key × Value)) (en : List DictEntry), noLV kvs = true → RpK X.K H kvs es → KV es vs → Pairs (mixKind X.prog X.w) en vs →
    ∃ as bs, ReadsAll s.heap (en.map (·.key)) (kvs.map (·.1)) as ∧ ReadsAll s.heap (en.map (·.val)) (kvs.map (·.2)) bs ∧ sysModules ∉ as ∧ sysModules ∉ bs
  | [], es, vs, en, _, h, r, p => by
    rw [RpK] at h
    subst h
    cases r
    cases p
    exact ⟨[], [], ReadsAll.nil, ReadsAll.nil, (fun z => nomatch z), (fun z => nomatch z)⟩
  | (k, d) :: kvs, es, vs, en, n, h, r, p => by
    rw [RpK] at h
    obtain ⟨ks, v, t, rfl, rfl, h2, h3⟩ := h
    have n : noL d = true ∧ noLV kvs = true := by simpa [noLV] using n
    cases r with
    | @cons p1 q ps qs hq r2 =>
      obtain ⟨e1, e3⟩ := hq
      cases p with
      | @cons e kv es2 kvs2 g1 g2 g3 =>
        obtain ⟨as, q1, q2⟩ := rdD I d v _ n.1 h2 e3
        obtain ⟨cs, bs, q3, q4, q5, q6⟩ := rdDK I kvs t qs es2 n.2 h3 r2 g3
        have kr : Reads s.heap e.key (keyD ks) [] := by
          have e1 : ks = q.1 := e1
          rw [e1]
          rcases keyIs_shape g1 with ⟨i, tk, e5, e4⟩ | ⟨x, tk, e5, e4⟩
          · rw [e5, e4]; exact Reads.int i tk
          · rw [e5, e4]; exact Reads.str x tk
        rw [← g2] at q1
        exact ⟨[] ++ cs, as ++ bs, ReadsAll.cons kr q3, ReadsAll.cons q1 q4, q5, fun z => (List.mem_append.mp z).elim q2 q6⟩
end
end
def rReprD (K : PySem.W.Frag) : List V → Hp → VK → Prop := fun xs H Q => ∃ a d, xs = [V.ref a] ∧ Rp K H d (V.ref a) ∧ noL d = true ∧ d.depth ≤ 64 ∧ d.showable = true ∧ d.shown.length ≤ sizeLine ∧ Q (.str d.shown) H
theorem cReprD {X : Cx} {k : Nat} (hr : Room k X.A) (hg : X.A.guards = some []) : CallR X (.builtin "repr") (rReprD X.K) := by
  intro pins s σ H xs us Q I r h
  obtain ⟨a, d, rfl, hd, h0, h1, h2, h3, q⟩ := h
  obtain ⟨u, rfl, rx⟩ := vals1 r
  obtain ⟨as, rd, ns⟩ := rdD I d _ u h0 hd rx
  cases rx
  have := hr.un
  exact repr_of_reads' rd h2 (fun _ => ns) hg (by omega) (fun _ _ e => e) (fun h' u tk hk => ⟨.str _, H, I.kept hk, ⟨_, rfl⟩, q⟩) h3
def rReprX (K : PySem.W.Frag) : List V → Hp → VK → Prop := fun xs H Q => rRepr K xs H Q ∨ rReprD K xs H Q
theorem kReprX {X : Cx} {j : Nat} (K : PySem.W.Frag) (hr : Room j X.A) (hg : X.A.guards = some []) (h : X.K = K := by rfl) : CallR X (.builtin "repr") (rReprX K) := h ▸ ((cRepr hr hg).or (cReprD hr hg))
section
variable {K : PySem.W.Frag} {m : Mm} {Q : Val → Mm → Prop}
theorem on_showX {x : PyData} {k n : Nat} (h : Sh x k n) (h1 : k ≤ 64) (h2 : n ≤ 16777216) (q : Q (.d (.str x.shown)) m) : OpN K (rReprX K) [.d x] m Q := fun H G vs S a R kk => Or.inl (on_show h h1 h2 q H G vs S a R kk)
/-- repr of a tuple or dict with dicts -/
theorem on_showD {x : PyData} (hx : (∃ ds, x = .tuple ds) ∨ ∃ kvs, x = .dict kvs) (h0 : noL x = true) (h1 : x.depth ≤ 64) (h2 : x.showable = true) (h3 : x.shown.length ≤ 16777216) (q : Q (.d (.str x.shown)) m) : OpN K (rReprX K) [.d x] m Q := fun H G vs S a R kk => by
  obtain ⟨v, rfl, hv⟩ := vrs1 a
  have hr := Rp.mono S.sub _ _ hv.rp
  obtain ⟨p, rfl⟩ : ∃ p, v = V.ref p := by
    rcases hx with ⟨ds, rfl⟩ | ⟨kvs, rfl⟩
    · obtain ⟨p, _, e, _⟩ := rp_tuple.mp hr
      exact ⟨p, e⟩
    · rw [Rp] at hr
      obtain ⟨p, e, _⟩ := hr
      exact ⟨p, e⟩
  exact Or.inr ⟨p, x, rfl, hr, h0, h1, h2, by rw [sizeLine_eq]; exact h3, kk _ H G _ m q S (Le.refl G) vr_str⟩
end
end DL

/-! taking items out of a list; a list mixed up -/
namespace DL
open PySem L2 PySem.Spec PyProof.Rows L2H

theorem VRs.nth {K : PySem.W.Frag} {G : Hp} : ∀ {rs : List Val} {xs : List V} {i : Nat} {x : Val}, VRs K G rs xs → rs[i]? = some x → ∃ v, xs[i]? = some v ∧ VR K G x v
  | [], _, _, _, _, h => by simp at h
  | r :: rs, xs, 0, x, h, e => by
    obtain ⟨v, t, rfl, h1, h2⟩ := h
    have e : r = x := by simpa using e
    subst e
    exact ⟨v, rfl, h1⟩
  | r :: rs, xs, i + 1, x, h, e => by
    obtain ⟨v, t, rfl, h1, h2⟩ := h
    obtain ⟨u, h3, h4⟩ := VRs.nth h2 (by simpa using e)
    exact ⟨u, by simpa using h3, h4⟩
theorem VRs.erase {K : PySem.W.Frag} {G : Hp} : ∀ {rs : List Val} {xs : List V} (i : Nat), VRs K G rs xs → VRs K G (rs.eraseIdx i) (xs.eraseIdx i)
  | [], xs, i, h => by
    have h : xs = [] := h
    subst h
    exact rfl
  | r :: rs, xs, 0, h => by
    obtain ⟨v, t, rfl, h1, h2⟩ := h
    exact h2
  | r :: rs, xs, i + 1, h => by
    obtain ⟨v, t, rfl, h1, h2⟩ := h
    exact ⟨v, _, rfl, h1, VRs.erase i h2⟩
section
variable {K : PySem.W.Frag} {r : List Val} {m : Mm} {Q : Val → Mm → Prop} {te : TE}
/-- xs.pop(i) -/
theorem ev_popAt {to : TE} {p : Addr} (h : Ev K to r m fun x m1 => x = .v (.ref p) ∧ (∃ rs, m1 p = some (.lst rs)) ∧ Ev K te r m1 fun y m2 => ∃ (i : Nat) (rs : List Val) (x : Val), y = .d (.int (i : Int)) ∧ m2 p = some (.lst rs) ∧ i < 1000000 ∧ rs[i]? = some x ∧ Q x (put m2 p (.lst (rs.eraseIdx i)))) :
    Ev K (tBM K "list" rPopAt to (tCons te tNil)) r m Q := fun σ H G S L R k =>
  h σ H G S L _ fun v H1 G1 x m1 ⟨hx, ⟨rs0, hm⟩, h1⟩ S1 e1 r1 => by
    subst hx
    have r1 := r1.eq
    subst r1
    obtain ⟨xs, g1, g2⟩ := S1.mem p _ hm
    refine ⟨Or.inl ⟨rfl, xs, Or.inl (Or.inl g1)⟩, ?_⟩
    refine h1 σ H1 G1 S1 (L.mono e1) _ fun w H2 G2 y m2 ⟨i, rs, x, hy, hm2, hi, hx, q⟩ S2 e2 r2 => ?_
    subst hy
    have r2 := int_of r2
    subst r2
    obtain ⟨ys, g3, g4⟩ := S2.mem p _ hm2
    obtain ⟨u, hu, ru⟩ := VRs.nth g4 hx
    have hlt : i < ys.length := (List.getElem?_eq_some_iff.mp hu).1
    refine ⟨p, ys, (i : Int), i, u, rfl, rfl, g3, by omega, by omega, ?_, hu, ?_⟩
    · unfold seqIndex?
      simp only [show ¬ (i : Int) < 0 by omega, if_false]
      rw [if_pos (by simp; omega)]
      simp
    · exact k u _ G2 _ _ q (S2.chg hm2 ⟨_, upd_same, g4.erase i⟩) (e1.trans e2) ru
/-- list(xs), a list that may change -/
theorem on_lstLM {ds : List PyData} (q : ∀ p, m p = none → Q (.v (.ref p)) (put m p (.lst (ds.map Val.d)))) : OpN K (rLstO K) [.d (.list ds)] m Q := fun H G vs S a R k => by
  obtain ⟨v, rfl, h⟩ := vrs1 a
  obtain ⟨p, xs, rfl, h2, h3⟩ := rp_list.mp h.rp
  refine ⟨p, xs, rfl, Or.inl (S.sqL (Or.inl h2)), fun l hl => ?_⟩
  exact k _ _ G _ _ (q l (S.freeM hl)) (S.new hl ⟨xs, upd_same, VRs.ofAll h3⟩) (Le.refl G) .v
/-- != of a list that may change -/
theorem o2_neMD {ds es : List PyData} {p : Addr} (hm : m p = some (.lst (ds.map Val.d))) (hx : SeqAt.shaped (.list ds) = true) (hy : SeqAt.shaped (.list es) = true) (q : Q (.d (.bool (!PyData.eqv (.list ds) (.list es)))) m) : Op2 K (rNeA K) (.v (.ref p)) (.d (.list es)) m Q := fun H G v w S a b R k => by
  have a := a.eq
  subst a
  obtain ⟨xs, g1, g2⟩ := S.mem p _ hm
  have hx2 : ((PyData.list ds).canLay0 && decide ((PyData.list ds).depth ≤ 64)) = true := hx
  rw [Bool.and_eq_true] at hx2
  have hr : Rp K H (.list ds) (.ref p) := rp_list.mpr ⟨p, xs, rfl, Or.inl g1, RpAll.mono S.sub _ _ g2.toAll⟩
  exact Or.inr ⟨.list ds, .list es, rp_dp _ _ (PyData.hasDict_of_canLay _ hx2.1) hr, dp_of S hy b, hx, hy, k _ H G _ m q S (Le.refl G) vr_bool⟩
end
theorem erase_map {α β : Type} (f : α → β) : ∀ (l : List α) (i : Nat), (l.map f).eraseIdx i = (l.eraseIdx i).map f
  | [], _ => rfl
  | x :: l, 0 => rfl
  | x :: l, i + 1 => by
    show f x :: (l.map f).eraseIdx i = f x :: (l.eraseIdx i).map f
    rw [erase_map f l i]
/-- a list of whole numbers in another order -/
def f_mixedUp : FSp := fun args m R => ∃ (p : Addr) (ns : List Int), args = [.v (.ref p), .d (.list (ns.map PyData.int))] ∧ m p = some .box ∧ ns.length ≤ 100 ∧ ∀ es : List Int, es.Perm ns → R (.d (.list (es.map PyData.int))) m
theorem erase_perm0 : ∀ {rs : List Int} {i : Nat} {x : Int}, rs[i]? = some x → (x :: rs.eraseIdx i).Perm rs
  | [], _, _, h => by simp at h
  | r :: rs, 0, x, h => by
    have h : r = x := by simpa using h
    subst h
    exact List.Perm.refl _
  | r :: rs, i + 1, x, h => by
    have ih := erase_perm0 (rs := rs) (i := i) (x := x) (by simpa using h)
    exact (List.Perm.swap r x _).trans (List.Perm.cons r ih)
theorem erase_perm {es rs : List Int} {i : Nat} {x : Int} (h : rs[i]? = some x) : ((es ++ [x]) ++ rs.eraseIdx i).Perm (es ++ rs) := by
  rw [List.append_assoc]
  exact List.Perm.append_left es (erase_perm0 h)
end DL

/-! what are no orders; what may be shown -/
namespace DL
open PySem L2 PySem.Spec PyProof.Rows L2H

theorem isOrd_len {ds : List PyData} {n : Nat} (h : ds.length ≠ n) : isOrd (.tuple ds) n = false := by
  show (decide (ds.length = n) && _) = false
  rw [decide_eq_false h, Bool.false_and]
theorem isOrd_all {ds : List PyData} {n : Nat} (h : isOrd (.tuple ds) n = true) : (∀ d ∈ ds, ∃ k : Nat, k < n ∧ d = .int (k : Int)) ∧ ∀ k : Nat, k < n → PyData.int (k : Int) ∈ ds := by
  have h : (decide (ds.length = n) && (ds.all isInt && (rngI n).isPerm (ds.map intOf))) = true := h
  simp only [Bool.and_eq_true] at h
  obtain ⟨_, h1, h2⟩ := h
  have hp := List.isPerm_iff.mp h2
  have e : ∀ d ∈ ds, d = .int (intOf d) := fun d hd => by
    obtain ⟨i, rfl⟩ := int_shape (List.all_eq_true.mp h1 d hd)
    rfl
  refine ⟨fun d hd => ?_, fun k hk => ?_⟩
  · have hm : intOf d ∈ rngI n := hp.mem_iff.mpr (List.mem_map.mpr ⟨d, hd, rfl⟩)
    obtain ⟨k, hk, he⟩ := List.mem_map.mp hm
    exact ⟨k, List.mem_range.mp hk, by rw [he]; exact e d hd⟩
  · have hm : (k : Int) ∈ ds.map intOf := hp.mem_iff.mp (List.mem_map.mpr ⟨k, List.mem_range.mpr hk, rfl⟩)
    obtain ⟨d, hd, he⟩ := List.mem_map.mp hm
    rw [← he, ← e d hd]; exact hd
theorem isOrd_odd {ds : List PyData} {n : Nat} {d : PyData} (h : d ∈ ds) (ho : ∀ k : Nat, k < n → d ≠ .int (k : Int)) : isOrd (.tuple ds) n = false := by
  cases hb : isOrd (.tuple ds) n with
  | false => rfl
  | true =>
    obtain ⟨k, hk, e⟩ := (isOrd_all hb).1 d h
    exact absurd e (ho k hk)
theorem isOrd_lack {ds : List PyData} {n k : Nat} (hk : k < n) (h : PyData.int (k : Int) ∉ ds) : isOrd (.tuple ds) n = false := by
  cases hb : isOrd (.tuple ds) n with
  | false => rfl
  | true => exact absurd ((isOrd_all hb).2 k hk) h
theorem perm_nat {es : List Int} {n : Nat} (h : es.Perm (rngI n)) : ∃ ns : List Nat, es = ns.map (fun (k : Nat) => (k : Int)) ∧ ns.Perm (List.range n) := by
  refine ⟨es.map Int.toNat, ?_, ?_⟩
  · rw [List.map_map]
    refine (List.map_id es).symm.trans (List.map_congr_left fun i hi => ?_)
    obtain ⟨k, _, rfl⟩ := List.mem_map.mp (h.mem_iff.mp hi)
    show (k : Int) = (((k : Int).toNat : Nat) : Int)
    omega
  · have h3 := h.map Int.toNat
    unfold rngI at h3
    rw [List.map_map] at h3
    have e2 : ∀ l : List Nat, l.map (Int.toNat ∘ fun (k : Nat) => (k : Int)) = l := fun l => (List.map_congr_left fun k _ => by show ((k : Int)).toNat = k; omega).trans (List.map_id l)
    rw [e2] at h3
    exact h3
/-! shown, with or without dicts -/
def ShD (d : PyData) (k n : Nat) : Prop := noL d = true ∧ d.depth ≤ k ∧ d.showable = true ∧ d.shown.length ≤ n
def ShOk (x : PyData) : Prop := (∃ k n, Sh x k n ∧ k ≤ 64 ∧ n ≤ 16777216) ∨ ((∃ ds, x = .tuple ds) ∨ ∃ kvs, x = .dict kvs) ∧ ShD x 64 16777216
theorem on_showA {K : PySem.W.Frag} {m : Mm} {Q : Val → Mm → Prop} {x : PyData} (h : ShOk x) (q : Q (.d (.str x.shown)) m) : OpN K (rReprX K) [.d x] m Q := by
  rcases h with ⟨k, n, h, h1, h2⟩ | ⟨hx, h0, h1, h2, h3⟩
  · exact on_showX h h1 h2 q
  · exact on_showD hx h0 h1 h2 h3 q
theorem shdAll {k n : Nat} : ∀ {ds : List PyData}, (∀ d ∈ ds, ShD d k n) → noLAll ds = true ∧ PyData.depthAll ds ≤ k ∧ PyData.showableAll ds = true ∧ ((PyData.shownAll ds).map (·.length)).sum ≤ n * ds.length ∧ (PyData.shownAll ds).length = ds.length
  | [], _ => ⟨by simp only [noLAll], by simp only [PyData.depthAll]; exact Nat.zero_le _, by simp only [PyData.showableAll], by simp [PyData.shownAll], by simp [PyData.shownAll]⟩
  | d :: ds, h => by
    obtain ⟨p1, p2, p3, p4⟩ := h d (List.mem_cons_self ..)
    obtain ⟨a, b, c, e, f⟩ := shdAll (ds := ds) fun x hx => h x (List.mem_cons_of_mem _ hx)
    refine ⟨by simp only [noLAll, p1, a]; rfl, ?_, by simp only [PyData.showableAll, p3, c]; rfl, ?_, ?_⟩
    · simp only [PyData.depthAll]
      exact Nat.max_le.mpr ⟨p2, b⟩
    · simp only [PyData.shownAll, List.map_cons, List.sum_cons, List.length_cons]
      rw [Nat.mul_succ]
      omega
    · simp only [PyData.shownAll, List.length_cons, f]
theorem shd_tuple {ds : List PyData} {k n c : Nat} (h : ∀ d ∈ ds, ShD d k n) (hc : ds.length ≤ c) : ShD (.tuple ds) (k + 1) ((n + 2) * c + 3) := by
  obtain ⟨a, b, e, f, g⟩ := shdAll h
  refine ⟨by simp only [noL, a], by simp only [PyData.depth]; omega, by simp only [PyData.showable, e], ?_⟩
  simp only [PyData.shown]
  have := tupleText_len_le (PyData.shownAll ds)
  have h1 : n * ds.length ≤ n * c := Nat.mul_le_mul_left n hc
  have h2 : (n + 2) * c = n * c + 2 * c := Nat.add_mul n 2 c
  omega
theorem shd_small {i : Int} (h : i.natAbs < 1024) : ShD (.int i) 1 11 := by
  have s := sh_int (i := i) (a := 10) h (by decide) (by decide)
  exact ⟨by simp only [noL], Nat.le_trans s.dp (by decide), s.sh, s.ln⟩
theorem shd_dict0 : ShD (.dict []) 1 11 := ⟨by decide +kernel, by decide +kernel, by decide +kernel, by decide +kernel⟩
theorem sh_small {i : Int} (h : i.natAbs < 1024) : Sh (.int i) 1 11 := (sh_int (i := i) (a := 10) h (by decide) (by decide)).mono (by decide) (by decide)
theorem shOk_tup {ds : List PyData} (h : ∀ d ∈ ds, Sh d 1 11) (hl : ds.length ≤ 8) : ShOk (.tuple ds) := Or.inl ⟨_, _, sh_tuple h hl, by decide, by decide⟩
theorem shOk_tupD {ds : List PyData} (h : ∀ d ∈ ds, ShD d 1 11) (hl : ds.length ≤ 8) : ShOk (.tuple ds) := Or.inr ⟨Or.inl ⟨_, rfl⟩, by
  obtain ⟨h1, h2, h3, h4⟩ := shd_tuple h hl
  exact ⟨h1, Nat.le_trans h2 (by decide), h3, Nat.le_trans h4 (by decide)⟩⟩
theorem shOk_dict0 : ShOk (.dict []) := Or.inr ⟨Or.inr ⟨_, rfl⟩, by decide +kernel, by decide +kernel, by decide +kernel, by decide +kernel⟩
theorem cut_init {α : Type} (f : α → PyData) (l : List α) : cutD (l.map f) none (some (-1)) = (l.take (l.length - 1)).map f := by
  unfold cutD
  rw [HT.sIx_none, List.drop_zero, Nat.sub_zero, List.length_map, List.map_take]
  congr 1
  show (if (-1 : Int) < 0 then (-1 + (l.length : Int)).toNat else min (-1 : Int).toNat l.length) = l.length - 1
  rw [if_pos (by decide)]
  omega
/-- what the laws ask about things that are no orders -/
def NoOrd (x : PyData) (n : Nat) : Prop := isOrd x n = false ∧ ShOk x
def boolish (k : Nat) : PyData := if k = 0 then .bool false else if k = 1 then .bool true else .int (k : Int)
section
variable {ns : List Nat} {n a : Nat} (hp : ns.Perm (List.range n)) (h1 : 1 ≤ n) (h5 : n ≤ 5)
include hp h1 h5
theorem ord_len : ns.length = n := by rw [hp.length_eq, List.length_range]
theorem ord_lt {k : Nat} (h : k ∈ ns) : k < n := List.mem_range.mp (hp.mem_iff.mp h)
theorem sh_kinds {l : List Nat} (hl : ∀ k ∈ l, k ∈ ns) : ∀ d ∈ l.map intN, Sh d 1 11 := fun d hd => by
  obtain ⟨k, hk, rfl⟩ := List.mem_map.mp hd
  have := ord_lt hp h1 h5 (hl k hk)
  exact sh_small (by show (k : Int).natAbs < 1024; omega)
theorem shd_kinds {l : List Nat} (hl : ∀ k ∈ l, k ∈ ns) : ∀ d ∈ l.map intN, ShD d 1 11 := fun d hd => by
  obtain ⟨k, hk, rfl⟩ := List.mem_map.mp hd
  have := ord_lt hp h1 h5 (hl k hk)
  exact shd_small (by show (k : Int).natAbs < 1024; omega)
theorem no_tail : NoOrd (.tuple ((ns.drop 1).map intN)) n := by
  have hl := ord_len hp h1 h5
  exact ⟨isOrd_len (by rw [List.length_map, List.length_drop]; omega), shOk_tup (sh_kinds hp h1 h5 fun k hk => List.mem_of_mem_drop hk) (by rw [List.length_map, List.length_drop]; omega)⟩
theorem no_more {x : Nat} (hx : x ≤ 5) : NoOrd (.tuple (ns.map intN ++ [.int (x : Int)])) n := by
  have hl := ord_len hp h1 h5
  refine ⟨isOrd_len (by rw [List.length_append, List.length_map]; simp; omega), shOk_tup (fun d hd => ?_) (by rw [List.length_append, List.length_map]; simp; omega)⟩
  rcases List.mem_append.mp hd with h | h
  · exact sh_kinds hp h1 h5 (fun k hk => hk) d h
  · rw [List.mem_singleton.mp h]; exact sh_small (by omega)
theorem no_list : NoOrd (.list (ns.map intN)) n := by
  have hl := ord_len hp h1 h5
  exact ⟨rfl, Or.inl ⟨_, _, sh_list (c := 8) (sh_kinds hp h1 h5 fun k hk => hk) (by rw [List.length_map]; omega), by decide, by decide⟩⟩
/-- one in place of another one -/
theorem no_other {x : PyData} (ho : ∀ k : Nat, k < n → x ≠ .int (k : Int)) (hs : Sh x 1 11) (l1 l2 : List Nat) (m1 : ∀ k ∈ l1, k ∈ ns) (m2 : ∀ k ∈ l2, k ∈ ns) (hl : l1.length + l2.length ≤ 5) : NoOrd (.tuple (l1.map intN ++ [x] ++ l2.map intN)) n := by
  refine ⟨isOrd_odd (d := x) (by simp) ho, shOk_tup (fun d hd => ?_) (by simp; omega)⟩
  rcases List.mem_append.mp hd with h | h
  · rcases List.mem_append.mp h with h | h
    · exact sh_kinds hp h1 h5 m1 d h
    · rw [List.mem_singleton.mp h]; exact hs
  · exact sh_kinds hp h1 h5 m2 d h
theorem no_end {x : PyData} (ho : ∀ k : Nat, k < n → x ≠ .int (k : Int)) (hs : Sh x 1 11) (l1 : List Nat) (m1 : ∀ k ∈ l1, k ∈ ns) (hl : l1.length ≤ 5) : NoOrd (.tuple (l1.map intN ++ [x])) n := by
  have := no_other hp h1 h5 ho hs l1 [] m1 (fun _ z => nomatch z) (by simpa using hl)
  simpa using this
theorem no_dict (l1 : List Nat) (m1 : ∀ k ∈ l1, k ∈ ns) (hl : l1.length ≤ 5) : NoOrd (.tuple (l1.map intN ++ [.dict []])) n := by
  refine ⟨isOrd_odd (d := .dict []) (by simp) (fun k _ z => nomatch z), shOk_tupD (fun d hd => ?_) (by simp; omega)⟩
  rcases List.mem_append.mp hd with h | h
  · exact shd_kinds hp h1 h5 m1 d h
  · rw [List.mem_singleton.mp h]; exact shd_dict0
theorem no_twice : NoOrd (.tuple (ns.map intN ++ (ns.take 1).map intN)) n := by
  have hl := ord_len hp h1 h5
  refine ⟨isOrd_len (by rw [List.length_append, List.length_map, List.length_map, List.length_take]; omega), shOk_tup (fun d hd => ?_) (by rw [List.length_append, List.length_map, List.length_map, List.length_take]; omega)⟩
  rcases List.mem_append.mp hd with h | h
  · exact sh_kinds hp h1 h5 (fun k hk => hk) d h
  · exact sh_kinds hp h1 h5 (fun k hk => List.mem_of_mem_take hk) d h
theorem no_bool : NoOrd (.tuple (ns.map boolish)) n := by
  have hl := ord_len hp h1 h5
  have h0 : 0 ∈ ns := hp.mem_iff.mpr (List.mem_range.mpr (by omega))
  refine ⟨isOrd_odd (d := .bool false) (List.mem_map.mpr ⟨0, h0, rfl⟩) (fun k _ z => nomatch z), shOk_tup (fun d hd => ?_) (by rw [List.length_map]; omega)⟩
  obtain ⟨k, hk, rfl⟩ := List.mem_map.mp hd
  have := ord_lt hp h1 h5 hk
  unfold boolish
  split
  · exact (sh_bool false).mono (by decide) (by decide)
  · split
    · exact (sh_bool true).mono (by decide) (by decide)
    · exact sh_small (by omega)
theorem no_again {j : Nat} (ha : a < n) (hj : j < n) (hne : j ≠ a) : NoOrd (.tuple ((ns.take a).map intN ++ [.int ((ns.getD j 0 : Nat) : Int)] ++ (ns.drop (a + 1)).map intN)) n := by
  have hl := ord_len hp h1 h5
  have hnd : ns.Nodup := hp.nodup_iff.mpr List.nodup_range
  have ha' : a < ns.length := by omega
  have hj' : j < ns.length := by omega
  have ej : ns.getD j 0 = ns[j] := by rw [List.getD_eq_getElem?_getD, List.getElem?_eq_getElem hj']; rfl
  have hdec : ns = ns.take a ++ ns[a] :: ns.drop (a + 1) := by
    conv => lhs; rw [← List.take_append_drop a ns, List.drop_eq_getElem_cons ha']
  have hk : ns[a] < n := ord_lt hp h1 h5 (List.getElem_mem ha')
  have hmemj : ns[j] ∈ ns := List.getElem_mem hj'
  refine ⟨isOrd_lack (k := ns[a]) hk ?_, shOk_tup (fun d hd => ?_) ?_⟩
  · intro hm
    have hn2 : (ns.take a ++ ns[a] :: ns.drop (a + 1)).Nodup := hdec ▸ hnd
    have hn3 := List.nodup_append.mp hn2
    have key : ∀ l : List Nat, PyData.int ((ns[a] : Nat) : Int) ∈ l.map intN → ns[a] ∈ l := fun l h => by
      obtain ⟨k, hk, e⟩ := List.mem_map.mp h
      have e : PyData.int (k : Int) = PyData.int ((ns[a] : Nat) : Int) := e
      injection e with e
      have e : k = ns[a] := by omega
      rw [← e]; exact hk
    rcases List.mem_append.mp hm with h | h
    · rcases List.mem_append.mp h with h | h
      · exact hn3.2.2 _ (key _ h) _ List.mem_cons_self rfl
      · have h := List.mem_singleton.mp h
        injection h with h
        rw [ej] at h
        have h : ns[a] = ns[j] := by omega
        exact hne ((List.getElem_inj hnd).mp h).symm
    · exact (List.nodup_cons.mp hn3.2.1).1 (key _ h)
  · rcases List.mem_append.mp hd with h | h
    · rcases List.mem_append.mp h with h | h
      · exact sh_kinds hp h1 h5 (fun k hk => List.mem_of_mem_take hk) d h
      · rw [List.mem_singleton.mp h]
        have := ord_lt hp h1 h5 hmemj
        exact sh_small (by rw [ej]; omega)
    · exact sh_kinds hp h1 h5 (fun k hk => List.mem_of_mem_drop hk) d h
  · simp only [List.length_append, List.length_map, List.length_take, List.length_drop, List.length_cons, List.length_nil]; omega
end
theorem no_leaf {x : PyData} {n : Nat} (h : isOrd x n = false) (hs : Sh x 1 11) : NoOrd x n := ⟨h, Or.inl ⟨_, _, hs, by decide, by decide⟩⟩
def f_lawChance : FSp := fun args m R => ∃ (ss : List Int) (ns : List Nat), args = [.d (tupI ss), .d (tupN ns)] ∧ Shares ss ∧ ns.Perm (List.range ss.length) ∧ R (.d (frac (ordQ ss ns))) m
def f_told41 : FSp := fun args m R => ∃ (ss : List Int) (x : PyData), args = [.d (tupI ss), .d x] ∧ Shares ss ∧ ((∃ ns, x = tupN ns ∧ ns.Perm (List.range ss.length) ∧ R (.d (frac (ordQ ss ns))) m) ∨ (isOrd x ss.length = false ∧ R (.d (refused 1)) m))
theorem ord_fr {ss : List Int} (hs : Shares ss) {ns : List Nat} (hk : ∀ k ∈ ns, k < ss.length) (h5 : ns.length ≤ 5) (i : Nat) (hi : i ≤ ns.length) : FrB (mkRat (prP ss (ns.take i)) (obot ss ns i).toNat) 60 := by
  obtain ⟨b1, b2⟩ := prP_le hs (ks := ns.take i) (by rw [List.length_take]; omega)
  obtain ⟨c1, c2⟩ := obot_bt hs hk h5 i hi
  refine frB_mk (bt_lit (n := 20) (by show _ < 1048576; omega) (by decide)) ?_ (by omega)
  rw [show ((obot ss ns i).toNat : Int) = obot ss ns i by omega]
  exact c2.mono (by omega)
theorem ord_step {ss : List Int} (hs : Shares ss) {ns : List Nat} (hk : ∀ k ∈ ns, k < ss.length) (h5 : ns.length ≤ 5) {i k : Nat} (hi : ns[i]? = some k) : mkRat (prP ss (ns.take i)) (obot ss ns i).toNat * mkRat (ss.getD k 0) (osum ss (ns.drop i)).toNat = mkRat (prP ss (ns.take (i + 1))) (obot ss ns (i + 1)).toNat := by
  obtain ⟨hil, _⟩ := List.getElem?_eq_some_iff.mp hi
  obtain ⟨c1, c2⟩ := obot_bt hs hk h5 i (by omega)
  have b := osum_bounds hs (ns.drop i) fun k hk' => hk k (List.mem_of_mem_drop hk')
  rw [List.length_drop] at b
  rw [Rat.mkRat_mul_mkRat, take_one hi, prP_snoc]
  congr 1
  show _ = (obot ss ns i * osum ss (ns.drop i)).toNat
  have e1 : obot ss ns i = ((obot ss ns i).toNat : Int) := by omega
  have e2 : osum ss (ns.drop i) = ((osum ss (ns.drop i)).toNat : Int) := by omega
  generalize (obot ss ns i).toNat = x at *
  generalize (osum ss (ns.drop i)).toNat = y at *
  rw [e1, e2, ← Int.natCast_mul, Int.toNat_natCast]
theorem shaped_refused1 : SeqAt.shaped (.list [.str "refused", .int 1]) = true := by decide +kernel
theorem at_before {os : List Nat} {a : Nat} (ha : a < os.length) (h2 : 1 < os.length) : ∃ j, j < os.length ∧ j ≠ a ∧ atI (os.map intN) ((a : Int) - 1) = some (.int ((os.getD j 0 : Nat) : Int)) := by
  have key : ∀ j, j < os.length → (os.map intN)[j]? = some (.int ((os.getD j 0 : Nat) : Int)) := fun j hj => by
    rw [List.getElem?_map, List.getElem?_eq_getElem hj, List.getD_eq_getElem?_getD, List.getElem?_eq_getElem hj]; rfl
  by_cases h : a = 0
  · subst h
    refine ⟨os.length - 1, by omega, by omega, ?_⟩
    have e : ((0 : Nat) : Int) - 1 = -1 := by decide
    rw [e, DL.atI_last, List.getLast?_eq_getElem?, List.length_map]
    exact key _ (by omega)
  · refine ⟨a - 1, by omega, by omega, ?_⟩
    rw [show (a : Int) - 1 = ((a - 1 : Nat) : Int) by omega, atI_nth]
    exact key _ (by omega)
theorem boolish_at {k : Nat} : atI ([.bool (decide ((k : Int) = 1)), intN k] : List PyData) (if decide (1 < (k : Int)) = true then 1 else 0) = some (boolish k) := by
  unfold boolish
  by_cases g : 1 < k
  · rw [decide_eq_true (show (1 : Int) < (k : Int) by omega), if_pos rfl, if_neg (by omega), if_neg (by omega)]; rfl
  · rw [decide_eq_false (show ¬ (1 : Int) < (k : Int) by omega)]
    have : k = 0 ∨ k = 1 := by omega
    rcases this with rfl | rfl <;> rfl
theorem noOrd41 {os : List Nat} {n a : Nat} (hp : os.Perm (List.range n)) (h1 : 1 ≤ n) (h5 : n ≤ 5) (ha : a < n) : ∀ d ∈ [.tuple ((os.drop 1).map intN), .tuple (os.map intN ++ [.int (n : Int)]), .list (os.map intN), .tuple ((os.take a).map intN ++ [.int (n : Int)] ++ (os.drop (a + 1)).map intN), .none, .str "0", .int 0, .dict []] ++ [.tuple ((os.take a).map intN ++ [.none] ++ (os.drop (a + 1)).map intN), .tuple (os.map intN ++ (os.take 1).map intN), .tuple ((os.take a).map intN ++ [.int (-1)] ++ (os.drop (a + 1)).map intN)] ++
    [.tuple (os.map boolish), .tuple ((os.take (os.length - 1)).map intN ++ [.list [.int 0]]), .tuple ((os.take (os.length - 1)).map intN ++ [.dict []])], NoOrd d n := by
  have hol := ord_len hp h1 h5
  have mt : ∀ {i k}, k ∈ os.take i → k ∈ os := fun h => List.mem_of_mem_take h
  have md : ∀ {i k}, k ∈ os.drop i → k ∈ os := fun h => List.mem_of_mem_drop h
  have hl : (os.take a).length + (os.drop (a + 1)).length ≤ 5 := by rw [List.length_take, List.length_drop]; omega
  have hl2 : (os.take (os.length - 1)).length ≤ 5 := by rw [List.length_take]; omega
  intro d hd
  simp only [List.cons_append, List.nil_append, List.mem_cons, List.not_mem_nil, or_false] at hd
  rcases hd with rfl | rfl | rfl | rfl | rfl | rfl | rfl | rfl | rfl | rfl | rfl | rfl | rfl | rfl
  · exact no_tail hp h1 h5
  · exact no_more hp h1 h5 (x := n) (by omega)
  · exact no_list hp h1 h5
  · exact no_other hp h1 h5 (fun k hk z => by injection z with z; omega) (sh_small (by omega)) _ _ (fun k => mt) (fun k => md) hl
  · exact no_leaf rfl (sh_none.mono (by decide) (by decide))
  · exact no_leaf rfl ⟨by decide +kernel, by decide +kernel, by decide +kernel, by decide +kernel⟩
  · exact no_leaf rfl (sh_small (by decide))
  · exact ⟨rfl, shOk_dict0⟩
  · exact no_other hp h1 h5 (x := .none) (fun k hk z => nomatch z) (sh_none.mono (by decide) (by decide)) _ _ (fun k => mt) (fun k => md) hl
  · exact no_twice hp h1 h5
  · exact no_other hp h1 h5 (fun k hk z => by injection z with z; omega) (sh_small (by decide)) _ _ (fun k => mt) (fun k => md) hl
  · exact no_bool hp h1 h5
  · exact no_end hp h1 h5 (x := .list [.int 0]) (fun k hk z => nomatch z) ⟨by decide +kernel, by decide +kernel, by decide +kernel, by decide +kernel⟩ _ (fun k => mt) hl2
  · exact no_dict hp h1 h5 _ (fun k => mt) hl2
end DL

/-! [e for i, x in enumerate(a tuple)] -/
namespace DL
open PySem L2 PySem.Spec PyProof.Rows L2H

theorem wipe2 (σ : L2.St) {i j : Nat} (h : i ≠ j) (x y : V) : wipe (((wipe σ [i, j]).set i (some x)).set j (some y)) [i, j] = wipe σ [i, j] := by
  show ((((((σ.set j none).set i none).set i (some x)).set j (some y)).set j none).set i none) = (σ.set j none).set i none
  rw [List.set_set, List.set_set, List.set_comm _ _ (Ne.symm h), List.set_set, List.set_comm _ _ (Ne.symm h), List.set_set]
theorem sl_in2 {K : PySem.W.Frag} {r : List Val} {G : Hp} {σ : L2.St} {i j : Nat} {d e : PyData} {x y : V} (hij : i ≠ j) (L : Sl K G r σ) {G' : Hp} (l : Le G G') (h1 : Rp K G' d x) (h2 : Rp K G' e y) : Sl K G' ((r.set i (.d d)).set j (.d e)) (((wipe σ [i, j]).set i (some x)).set j (some y)) := by
  have := ((L.mono l).set (r := .d d) (.d h1) i).set (r := .d e) (.d h2) j
  have e : ((((σ.set j none).set i none).set i (some x)).set j (some y)) = (σ.set i (some x)).set j (some y) := by
    rw [List.set_set, List.set_comm _ _ hij, List.set_set, List.set_comm _ _ (Ne.symm hij)]
  show Sl K G' _ ((((σ.set j none).set i none).set i (some x)).set j (some y))
  rw [e]
  exact this
section
variable {K : PySem.W.Frag} {r : List Val} {m : Mm} {Q : Val → Mm → Prop} {te : TE}
theorem LcW.fix {G : Hp} {D T : Addr} {W : Nat → List PyData → Prop} {i : Nat} {H' : Hp} {o : HO} (h : LcW K m G D W i H') (hT : H' T = none) : ∃ G', Le G G' ∧ LcW K m (upd G' T o) D W i (upd H' T o) ∧ Le G (upd G' T o) := by
  obtain ⟨G', acc, hw, hl, S, e⟩ := h
  have hn := Le.new (o := o) (S.free hT)
  exact ⟨G', e, ⟨upd G' T o, acc, hw, hl, S.fix hT, Le.refl _⟩, e.trans hn⟩
theorem LcW.down {G G' : Hp} {D : Addr} {W : Nat → List PyData → Prop} {i : Nat} {H' : Hp} (h : LcW K m G' D W i H') (e : Le G G') : LcW K m G D W i H' := by
  obtain ⟨G2, acc, hw, hl, S, e2⟩ := h
  exact ⟨G2, acc, hw, hl, S, e.trans e2⟩
theorem ev_lcEt {ta : TA} {j1 j2 : Nat} {α : Type} {xs : List α} {f : α → PyData} (hj : j1 ≠ j2) (h : EvA K ta r m fun ys m1 => ys = [.d (.tuple (xs.map f))] ∧ m1 = m) (hn : xs.length ≤ 100000) (g : Nat → α → PyData)
    (hs : ∀ (i : Nat) (x : α) m', xs[i]? = some x → Ext m m' → Ev K te ((r.set j1 (.d (.int (i : Int)))).set j2 (.d (f x))) m' fun y m3 => y = .d (g i x) ∧ m3 = m') (q : Q (.d (.list (xs.mapIdx g))) m) :
    Ev K (tLc (iEnumT K ta) (gTup K 2 (gCons (gName j1) (gCons (gName j2) gNil))) tYes te [j1, j2]) r m Q := fun σ H G S L R k =>
  h σ H G S L _ fun vs H1 G1 ys m1 ⟨hx, hm⟩ S1 e1 r1 => by
    subst hx hm
    obtain ⟨v, rfl, rv⟩ := vrs1 r1
    obtain ⟨p, zs, rfl, hs1, hA⟩ := rp_tuple.mp rv.rp
    have hlen := hA.length
    rw [List.length_map] at hlen
    refine ⟨p, zs, rfl, S1.sqT hs1, ?_⟩
    intro D hD
    have hmD := S1.freeM hD
    refine lc_it walk_enumT (LcW K m1 G1 D (fun i acc => acc = (xs.take i).mapIdx g)) (lc_start S1 hD (by simp)) ?_ ?_ ?_
    · rintro i H' hi ⟨G', acc, hw, hl, S', e'⟩
      exact S'.sqT (e'.sqT hs1)
    · rintro i x H' H2 hi hP ⟨T, x1, x2, rfl, hT, rfl, hx1, hx2⟩
      have hx1 : V.int (i : Int) = x1 := by simpa using hx1
      subst hx1
      obtain ⟨d, hd1, hd2⟩ := hA.get hx2
      obtain ⟨y, hy, rfl⟩ := map_at hd1
      obtain ⟨G', e', hP', e2⟩ := hP.fix (o := .tup [.int (i : Int), x2]) hT
      have hq : SqT K (upd H' T (.tup [.int (i : Int), x2])) T [.int (i : Int), x2] := SqT.of upd_same
      refine ⟨T, _, rfl, hq, rfl, _, [x2], rfl, x2, [], rfl, rfl, wipe2 σ hj _ _, ?_⟩
      refine lc_turn hmD (by omega) (fun G3 e3 => sl_in2 hj (L.mono e1) e3 (rp_int.mpr rfl) (Rp.mono e3 _ _ hd2)) (fun m' acc hx hw => evt_yes ⟨rfl, fun _ => (hs i y m' hy hx).imp fun z m3 e => ⟨e.2, g i y, e.1, ?_⟩, (fun g => nomatch g)⟩) (hP'.down e2)
      rw [hw, take_one hy, List.mapIdx_append]
      have hl : (xs.take i).length = i := by rw [List.length_take]; have := (List.getElem?_eq_some_iff.mp hy).1; omega
      simp [hl]
    · intro H' hP
      rw [hlen] at hP
      exact lc_end hmD hP (fun acc hw => by rw [hw, List.take_length]; exact q) fun v H' G' x m' q S' e' r' => k v H' G' x m' q S' (e1.trans e') r'
end
end DL

/-! evened, named -/
namespace DL
open PySem L2 PySem.Spec PyProof.Rows L2H

section
variable {K : PySem.W.Frag} {r : List Val} {m : Mm} {Q : Val → Mm → Prop} {te : TE}
theorem TAll.tail {G : Hp} : ∀ {nss : List (List Int)} {xs : List V}, TAll G nss xs → TAll G (nss.drop 1) (xs.drop 1)
  | [], xs, h => by
    have h : xs = [] := h
    subst h
    exact rfl
  | ns :: nss, xs, h => by
    obtain ⟨b, t, rfl, _, h3⟩ := h
    exact h3
theorem cutV_tail (xs : List V) : cutV xs (some 1) none = xs.drop 1 := by
  show (xs.drop (HT.sIx xs.length 0 (some ((1 : Nat) : Int)))).take (HT.sIx xs.length xs.length none - HT.sIx xs.length 0 (some ((1 : Nat) : Int))) = xs.drop 1
  rw [HT.sIx_none, HT.sIx_nat]
  cases xs with
  | nil => rfl
  | cons x xs =>
    rw [Nat.min_eq_left (by simp), List.take_of_length_le (by rw [List.length_drop]; exact Nat.le_refl _)]
/-- xs[1:] of a list of tuples -/
theorem ev_tailLt (h : Ev K te r m fun x m1 => ∃ nss, x = .lt nss ∧ Q (.lt (nss.drop 1)) m1) : Ev K (tSl (rSlL K) te (tPart (tC (.int 1))) tNoPart) r m Q := fun σ H G S L R k =>
  h σ H G S L _ fun v H1 G1 x m1 ⟨nss, hx, q⟩ S1 e1 r1 => by
    subst hx
    cases r1 with
    | lt h1 h2 =>
      refine ⟨1, rfl, ?_⟩
      refine ⟨_, _, rfl, Or.inl (Le.rd S1.sub h1), fun p hp => ?_⟩
      have hg := S1.free hp
      rw [cutV_tail]
      exact k _ _ _ _ m1 q (S1.fix hp) (e1.trans (Le.new hg)) (.lt (Rd.of upd_same) ((TAll.tail h2).mono (Le.new hg)))
end
theorem map_idx {α β γ : Type} (f : Nat → α → β) (g : β → γ) (l : List α) : (l.mapIdx f).map g = l.mapIdx fun i x => g (f i x) := by
  refine List.ext_getElem (by simp) fun i h1 h2 => ?_
  simp
def evenF (ss : List Int) (a b : Nat) : List Int := ss.mapIdx fun k x => x - (if decide ((k : Int) = (a : Int)) = true then 1 else 0) + (if decide ((k : Int) = (b : Int)) = true then 1 else 0)
theorem evenF_eq {ss : List Int} {a b : Nat} (ha : a < ss.length) (hb : b < ss.length) (hab : a ≠ b) : evenF ss a b = (ss.set a (ss.getD a 0 - 1)).set b (ss.getD b 0 + 1) := by
  unfold evenF
  refine List.ext_getElem (by simp) fun i h1 h2 => ?_
  rw [List.getElem_mapIdx, List.getElem_set, List.getElem_set]
  have e : ∀ j, j < ss.length → ss.getD j 0 = ss[j]! := fun j hj => by simp [List.getD_eq_getElem?_getD, hj]
  by_cases h : b = i
  · subst h
    rw [if_pos rfl, decide_eq_false (by omega), decide_eq_true rfl, List.getD_eq_getElem?_getD, List.getElem?_eq_getElem hb]
    simp
  · rw [if_neg h]
    by_cases h' : a = i
    · subst h'
      rw [if_pos rfl, decide_eq_true rfl, decide_eq_false (by omega), List.getD_eq_getElem?_getD, List.getElem?_eq_getElem ha]
      simp
    · rw [if_neg h', decide_eq_false (by omega), decide_eq_false (by omega)]
      simp
def f_evened : FSp := fun args m R => ∃ (ss : List Int) (a b : Nat), args = [.d (tupI ss), .d (.int (a : Int)), .d (.int (b : Int))] ∧ Shares ss ∧ a < ss.length ∧ b < ss.length ∧ a ≠ b ∧ ss.getD b 0 + 2 ≤ ss.getD a 0 ∧ R (.d (tupI (evenF ss a b))) m
def rEven : List PyData → Nat → Prop
  | [sh, x, y], i => ∃ ss, sh = tupI ss ∧ Shares ss ∧ ((unlk x y ss.length = false ∧ i = 1) ∨ ∃ a b : Nat, x = .int (a : Int) ∧ y = .int (b : Int) ∧ a < ss.length ∧ b < ss.length ∧ a ≠ b ∧ ss.getD a 0 < ss.getD b 0 + 2 ∧ i = 2)
  | _, _ => False
def f_named : FSp := fun args m R => ∃ (ss : List Int) (ns : List Nat), args = [.d (tupI ss), .d (tupN ns)] ∧ Shares ss ∧ ns.Perm (List.range ss.length) ∧ R (.d (tupI (ns.map fun k => ss.getD k 0))) m
def f_lawMean72 : FSp := fun args m R => ∃ ss : List Int, args = [.d (tupI ss)] ∧ Shares ss ∧ R (.d (frac (timeT ss (List.range ss.length)))) m
theorem ordX_head : ∀ n : _root_.Fin 6, (ordX n.val).take 1 = [[]] ∧ ∀ i : _root_.Fin 33, ∀ s, ((ordX n.val).drop 1)[i.val]? = some s → s ≠ [] := by
  decide +kernel
def f_less : FSp := fun args m R => ∃ p q : Rat, args = [.d (frac p), .d (frac q)] ∧ FrB p 3900 ∧ FrB q 3900 ∧ R (.d (.bool (decide (p < q)))) m
def e72 (k : Int) (ss : List Int) (x y : PyData) (o : Except Nat PyData) : Prop :=
  (k = 0 ∧ ((∃ a b : Nat, x = .int (a : Int) ∧ y = .int (b : Int) ∧ a < ss.length ∧ b < ss.length ∧ a ≠ b ∧ ss.getD b 0 + 2 ≤ ss.getD a 0 ∧ o = .ok (tupI (evenF ss a b))) ∨ ∃ i, rEven [tupI ss, x, y] i ∧ (i = 1 ∨ i = 2) ∧ o = .error i)) ∨
  (k = 1 ∧ ((∃ ns, x = tupN ns ∧ ns.Perm (List.range ss.length) ∧ o = .ok (tupI (ns.map fun k => ss.getD k 0))) ∨ (isOrd x ss.length = false ∧ o = .error 1)))
def f_told72 : FSp := fun args m R => ∃ (k : Int) (ss : List Int) (x y : PyData) (o : Except Nat PyData), args = [.d (.int k), .d (tupI ss), .d x, .d y] ∧ Shares ss ∧ e72 k ss x y o ∧ R (.d (toldD o)) m
theorem shares_perm {ss tt : List Int} (hs : Shares ss) (h : tt.Perm ss) : Shares tt := ⟨by rw [h.length_eq]; exact hs.pos, by rw [h.length_eq]; exact hs.few, fun s hm => hs.each s (h.mem_iff.mp hm)⟩
theorem shares_turn {ss : List Int} (hs : Shares ss) : Shares (ss.drop 1 ++ ss.take 1) := shares_perm hs (List.perm_append_comm.trans (by rw [List.take_append_drop]))
theorem noOrd72 {os : List Nat} {n : Nat} (hp : os.Perm (List.range n)) (h1 : 1 ≤ n) (h5 : n ≤ 5) : ∀ d ∈ [.tuple ((os.drop 1).map intN), .tuple (os.map intN ++ [.int 0]), .list (os.map intN), .none, .str "0"] ++ [.tuple (os.map boolish), .tuple ((os.take (os.length - 1)).map intN ++ [.list [.int 0]]), .tuple ((os.take (os.length - 1)).map intN ++ [.dict []])] ++
    [.tuple ((os.drop 1).map intN ++ [.int (n : Int)]), .tuple ((os.drop 1).map intN ++ [.none])], NoOrd d n := by
  have hol := ord_len hp h1 h5
  have mt : ∀ {i k}, k ∈ os.take i → k ∈ os := fun h => List.mem_of_mem_take h
  have md : ∀ {i k}, k ∈ os.drop i → k ∈ os := fun h => List.mem_of_mem_drop h
  have hl2 : (os.take (os.length - 1)).length ≤ 5 := by rw [List.length_take]; omega
  have hl3 : (os.drop 1).length ≤ 5 := by rw [List.length_drop]; omega
  intro d hd
  simp only [List.cons_append, List.nil_append, List.mem_cons, List.not_mem_nil, or_false] at hd
  rcases hd with rfl | rfl | rfl | rfl | rfl | rfl | rfl | rfl | rfl | rfl
  · exact no_tail hp h1 h5
  · exact no_more hp h1 h5 (x := 0) (by omega)
  · exact no_list hp h1 h5
  · exact no_leaf rfl (sh_none.mono (by decide) (by decide))
  · exact no_leaf rfl ⟨by decide +kernel, by decide +kernel, by decide +kernel, by decide +kernel⟩
  · exact no_bool hp h1 h5
  · exact no_end hp h1 h5 (x := .list [.int 0]) (fun k hk z => nomatch z) ⟨by decide +kernel, by decide +kernel, by decide +kernel, by decide +kernel⟩ _ (fun k => mt) hl2
  · exact no_dict hp h1 h5 _ (fun k => mt) hl2
  · exact no_end hp h1 h5 (x := .int (n : Int)) (fun k hk z => by injection z with z; omega) (sh_small (by omega)) _ (fun k => md) hl3
  · exact no_end hp h1 h5 (x := .none) (fun k hk z => nomatch z) (sh_none.mono (by decide) (by decide)) _ (fun k => md) hl3
end DL

/-! orders, and the chances by who is left -/
namespace DL
open PySem L2 PySem.Spec PyProof.Rows L2H

def lft (n : Nat) (p : List Nat) : List Nat := (List.range n).filter fun k => !decide (k ∈ p)
def arrs (n : Nat) : Nat → List (List Nat)
  | 0 => [[]]
  | j + 1 => (arrs n j).flatMap fun p => (lft n p).map fun k => p ++ [k]
theorem arr_step : ∀ n : _root_.Fin 6, ∀ t ∈ allS n.val, t.length < n.val → ((upK n.val t).flatMap fun k => ((arrs n.val (n.val - t.length - 1)).filter fun p => decide (lft n.val p = insS t k)).map fun p => p ++ [k]).isPerm ((arrs n.val (n.val - t.length)).filter fun p => decide (lft n.val p = t)) = true := by decide +kernel
theorem arr_last : ∀ n : _root_.Fin 6, ∀ k : _root_.Fin 5, k.val < n.val → ((arrs n.val n.val).filter fun o => decide (o.getLast? = some k.val)).isPerm (((arrs n.val (n.val - 1)).filter fun p => decide (lft n.val p = [k.val])).map fun p => p ++ [k.val]) = true := by decide +kernel
theorem arr_perm : ∀ n : _root_.Fin 6, ∀ o ∈ arrs n.val n.val, o.isPerm (List.range n.val) = true ∧ ∀ i : _root_.Fin 5, (lft n.val (o.take i.val)).isPerm (o.drop i.val) = true := by decide +kernel
theorem arr_len : ∀ n j : _root_.Fin 6, (arrs n.val j.val).length ≤ 120 ∧ ∀ p ∈ arrs n.val j.val, p.length = j.val := by decide +kernel
def chF (ss : List Int) : List Nat → List Nat → Rat
  | _, [] => 1
  | pre, k :: r => wQ ss (lft ss.length pre) k * chF ss (pre ++ [k]) r
theorem chF_snoc (ss : List Int) (k : Nat) : ∀ r pre, chF ss pre (r ++ [k]) = chF ss pre r * wQ ss (lft ss.length (pre ++ r)) k
  | [], pre => by
    rw [List.nil_append, List.append_nil]
    show wQ ss (lft ss.length pre) k * 1 = 1 * wQ ss (lft ss.length pre) k
    rw [Rat.mul_one, Rat.one_mul]
  | x :: r, pre => by
    rw [List.cons_append]
    show wQ ss (lft ss.length pre) x * chF ss (pre ++ [x]) (r ++ [k]) = wQ ss (lft ss.length pre) x * chF ss (pre ++ [x]) r * wQ ss (lft ss.length (pre ++ x :: r)) k
    rw [chF_snoc ss k r (pre ++ [x]), List.append_assoc, List.cons_append, List.nil_append, Rat.mul_assoc]
def chA (ss : List Int) (p : List Nat) : Rat := chF ss [] p
theorem chA_snoc (ss : List Int) (p : List Nat) (k : Nat) : chA ss (p ++ [k]) = chA ss p * wQ ss (lft ss.length p) k := chF_snoc ss k p []
theorem lf_arr {ss : List Int} (h5 : ss.length ≤ 5) : ∀ (j : Nat) (t : List Nat), t ∈ allS ss.length → t.length + j = ss.length → lfT ss t = (((arrs ss.length j).filter fun p => decide (lft ss.length p = t)).map (chA ss)).sum
  | 0, t, ht, hl => by
    obtain ⟨_, h2⟩ := full_facts ⟨ss.length, by omega⟩ t ht
    have e : t = List.range ss.length := h2 (by show t.length = ss.length; omega)
    rw [e, lfT_full]
    have e2 : lft ss.length [] = List.range ss.length := by
      unfold lft
      exact List.filter_eq_self.mpr fun k _ => by simp
    show (1 : Rat) = (([[]].filter fun p => decide (lft ss.length p = List.range ss.length)).map (chA ss)).sum
    rw [List.filter_cons, if_pos (by simpa using e2)]
    show (1 : Rat) = (1 : Rat) + 0
    rw [Rat.add_zero]
  | j + 1, t, ht, hl => by
    have hlt : t.length < ss.length := by omega
    have hp := List.isPerm_iff.mp (arr_step ⟨ss.length, by omega⟩ t ht hlt)
    have ej : ss.length - t.length - 1 = j := by omega
    have ej2 : ss.length - t.length = j + 1 := by omega
    have hp : ((upK ss.length t).flatMap fun k => ((arrs ss.length (ss.length - t.length - 1)).filter fun p => decide (lft ss.length p = insS t k)).map fun p => p ++ [k]).Perm ((arrs ss.length (ss.length - t.length)).filter fun p => decide (lft ss.length p = t)) := hp
    rw [ej, ej2] at hp
    rw [lfT_step h5 ht hlt, ← sum_permQ (hp.map (chA ss)), sum_flatQ]
    congr 1
    refine List.map_congr_left fun k hk => ?_
    obtain ⟨u1, u2, u3, u4⟩ := up_facts ⟨ss.length, by omega⟩ t ht k hk
    have ih := lf_arr h5 j (insS t k) u1 (by rw [u2]; omega)
    show lfT ss (insS t k) * wQ ss (insS t k) k = _
    rw [ih, Rat.mul_comm, ← sum_mulQ, List.map_map]
    congr 1
    refine List.map_congr_left fun p hp2 => ?_
    have e := of_decide_eq_true (List.mem_filter.mp hp2).2
    show wQ ss (insS t k) k * chA ss p = chA ss (p ++ [k])
    rw [chA_snoc, e, Rat.mul_comm]
theorem ord_ch {ss : List Int} (hs : Shares ss) {o : List Nat} (ho : o ∈ arrs ss.length ss.length) : ∀ i, i ≤ o.length → mkRat (prP ss (o.take i)) (obot ss o i).toNat = chA ss (o.take i) := by
  have h5 := hs.few
  obtain ⟨hp, hd⟩ := arr_perm ⟨ss.length, by omega⟩ o ho
  have hp : o.Perm (List.range ss.length) := List.isPerm_iff.mp hp
  have hl : o.length = ss.length := by rw [hp.length_eq, List.length_range]
  have hk : ∀ k ∈ o, k < ss.length := fun k h => List.mem_range.mp (hp.mem_iff.mp h)
  intro i
  induction i with
  | zero => intro _; show mkRat 1 1 = (1 : Rat); decide +kernel
  | succ i ih =>
    intro hi
    have hi' : i < o.length := by omega
    have hoi : o[i]? = some o[i] := List.getElem?_eq_getElem hi'
    have hpd : (lft ss.length (o.take i)).Perm (o.drop i) := List.isPerm_iff.mp (hd ⟨i, by omega⟩)
    have e : sumP ss (lft ss.length (o.take i)) = osum ss (o.drop i) := sum_perm (hpd.map _)
    rw [← ord_step hs hk (by omega) hoi, ih (by omega), take_one hoi, chA_snoc]
    unfold wQ
    rw [e]
theorem single_mem : ∀ n : _root_.Fin 6, ∀ k : _root_.Fin 5, k.val < n.val → [k.val] ∈ allS n.val := by decide +kernel
/-- the last one -/
theorem last_sum {ss : List Int} (hs : Shares ss) {k : Nat} (hk : k < ss.length) : (((arrs ss.length ss.length).filter fun o => decide (o.getLast? = some k)).map (ordQ ss)).sum = lfT ss [k] := by
  have h5 := hs.few
  have h1 : (((arrs ss.length ss.length).filter fun o => decide (o.getLast? = some k)).map (ordQ ss)) = (((arrs ss.length ss.length).filter fun o => decide (o.getLast? = some k)).map (chA ss)) := List.map_congr_left fun o ho => by
    have := ord_ch hs (List.mem_filter.mp ho).1 o.length (Nat.le_refl _)
    rw [List.take_length] at this
    exact this
  have hp : ((arrs ss.length ss.length).filter fun o => decide (o.getLast? = some k)).Perm (((arrs ss.length (ss.length - 1)).filter fun p => decide (lft ss.length p = [k])).map fun p => p ++ [k]) := List.isPerm_iff.mp (arr_last ⟨ss.length, by omega⟩ ⟨k, by omega⟩ hk)
  rw [h1, sum_permQ (hp.map (chA ss)), List.map_map, lf_arr h5 (ss.length - 1) [k] (single_mem ⟨ss.length, by omega⟩ ⟨k, by omega⟩ hk) (by show 1 + _ = _; omega)]
  congr 1
  refine List.map_congr_left fun p hp2 => ?_
  have e := of_decide_eq_true (List.mem_filter.mp hp2).2
  show chA ss (p ++ [k]) = chA ss p
  have b := hs.each (ss.getD k 0) (by rw [List.getD_eq_getElem?_getD, List.getElem?_eq_getElem hk]; exact List.getElem_mem hk)
  have e2 : wQ ss [k] k = 1 := by
    unfold wQ
    have e3 : sumP ss [k] = ss.getD k 0 := by unfold sumP; simp
    rw [e3]
    obtain ⟨x, hx⟩ : ∃ x : Nat, ss.getD k 0 = (x : Int) := ⟨(ss.getD k 0).toNat, by omega⟩
    rw [hx, Int.toNat_natCast, Rat.mkRat_eq_div, Rat.intCast_natCast]
    have hx0 := nat_ne (t := x) (by omega)
    generalize ((x : Nat) : Rat) = X at *
    grind
  rw [chA_snoc, e, e2, Rat.mul_one]
end DL

/-! all orders -/
namespace DL
open PySem L2 PySem.Spec PyProof.Rows L2H

section
variable {K : PySem.W.Frag} {r : List Val} {m : Mm} {Q : Val → Mm → Prop} {tt : TT} {te : TE}
/-- [.. for j in range(n) if ..], a list of tuples -/
theorem ev_lcR1V {ta : TA} {j : Nat} {n : Nat} (h : EvA K ta r m fun xs m1 => xs = [.d (.int (n : Int))] ∧ m1 = m) (hn : n ≤ 100000) (W : Nat → List Val → Prop) (h0 : W 0 [])
    (hs : ∀ (i : Nat) m' acc, i < n → Ext m m' → W i acc → EvT K tt (r.set j (.d (.int (i : Int)))) m' fun b m2 => m2 = m' ∧ (b = true → Ev K te (r.set j (.d (.int (i : Int)))) m' fun x m3 => m3 = m' ∧ W (i + 1) (acc ++ [x])) ∧ (b = false → W (i + 1) acc))
    (hd : ∀ acc, W n acc → ∃ out, acc = out.map Val.t ∧ Q (.lt out) m) : Ev K (tLc (iRng1 ta) (gName j) tt te [j]) r m Q := fun σ H G S L R k =>
  h σ H G S L _ fun vs H1 G1 xs m1 ⟨hx, hm⟩ S1 e1 r1 => by
    subst hx hm
    obtain ⟨v1, rfl, a1⟩ := vrs1 r1
    have a1 := int_of a1
    subst a1
    have en : ((n : Int)).toNat = n := by omega
    refine ⟨(n : Int), rfl, by omega, by omega, ?_⟩
    rw [en]
    intro D hD
    have hmD := S1.freeM hD
    refine lc_range (lo := 0) (n := n) (LcV K m1 G1 D W) (lcv_start S1 hD h0) ?_ ?_
    · intro i H' hi hP
      rw [Int.zero_add]
      exact ⟨wipe1 σ j _, lcv_turn hmD (by omega) (fun G' e' => sl_in (L.mono e1) e' (rp_int.mpr rfl)) (fun m' acc hx hw => hs i m' acc hi hx hw) hP⟩
    · intro H' hP
      exact lcv_end hmD hP hd fun v H' G' x m' q S' e' r' => k v H' G' x m' q S' (e1.trans e') r'
end
def f_lawOrders : FSp := fun args m R => ∃ n : Nat, args = [.d (.int (n : Int))] ∧ n ≤ 5 ∧ R (.lt ((arrs n n).map kn)) m
def f_lastChances : FSp := fun args m R => ∃ ss : List Int, args = [.d (tupI ss)] ∧ Shares ss ∧ R (.d (.tuple ((List.range ss.length).map fun k => frac (lfT ss [k])))) m
def f_told42 : FSp := fun args m R => ∃ (ss : List Int) (a b : Nat), args = [.d (tupI ss), .d (.int (a : Int)), .d (.int (b : Int))] ∧ Shares ss ∧ a < ss.length ∧ b < ss.length ∧ R (.d (if a = b then refused 1 else frac (mkRat (ss.getD a 0) (ss.getD a 0 + ss.getD b 0).toNat))) m
theorem last_few : ∀ n : _root_.Fin 6, ∀ k : _root_.Fin 5, ((arrs n.val n.val).filter fun o => decide (o.getLast? = some k.val)).length ≤ 24 := by decide +kernel
def partS (ss : List Int) (k j : Nat) : Rat := ((((arrs ss.length ss.length).take j).filter fun o => decide (o.getLast? = some k)).map (ordQ ss)).sum
theorem part_step {ss : List Int} {k j : Nat} {o : List Nat} (h : (arrs ss.length ss.length)[j]? = some o) : partS ss k (j + 1) = if o.getLast? = some k then partS ss k j + ordQ ss o else partS ss k j := by
  unfold partS
  rw [take_one h, List.filter_append, List.map_append, sum_appQ, List.filter_cons]
  by_cases hc : o.getLast? = some k
  · rw [if_pos hc, if_pos (by simpa using hc)]
    show _ + (ordQ ss o + 0) = _
    rw [Rat.add_zero]
  · rw [if_neg hc, if_neg (by simpa using hc)]
    show _ + (0 : Rat) = _
    rw [Rat.add_zero]
theorem part_all {ss : List Int} (hs : Shares ss) {k : Nat} (hk : k < ss.length) : partS ss k (arrs ss.length ss.length).length = lfT ss [k] := by
  unfold partS
  rw [List.take_length]
  exact last_sum hs hk
theorem sum_fr {α : Type} {f : α → Rat} : ∀ {l : List α}, (∀ x ∈ l, FrB (f x) 60) → FrB (l.map f).sum (61 * l.length + 1)
  | [], _ => ⟨bt_lit (i := 0) (n := 1) (by decide) (Nat.le_add_left 1 _), bt_lit (i := 1) (n := 1) (by decide) (Nat.le_add_left 1 _)⟩
  | x :: l, h => by
    have ih := sum_fr (l := l) fun y hy => h y (List.mem_cons_of_mem _ hy)
    rw [List.map_cons, List.sum_cons, List.length_cons]
    exact (h x List.mem_cons_self).add ih (by omega)
theorem ordQ_fr {ss : List Int} (hs : Shares ss) {o : List Nat} (ho : o ∈ arrs ss.length ss.length) : FrB (ordQ ss o) 60 := by
  have h5 := hs.few
  obtain ⟨hp, _⟩ := arr_perm ⟨ss.length, by omega⟩ o ho
  have hp : o.Perm (List.range ss.length) := List.isPerm_iff.mp hp
  have := ord_fr hs (fun k h => List.mem_range.mp (hp.mem_iff.mp h)) (by rw [hp.length_eq, List.length_range]; exact h5) o.length (Nat.le_refl _)
  rw [List.take_length] at this
  exact this
theorem part_fr {ss : List Int} (hs : Shares ss) {k : Nat} (hk : k < ss.length) (j : Nat) : FrB (partS ss k j) 1500 := by
  have h5 := hs.few
  have hl := ((List.take_sublist j (arrs ss.length ss.length)).filter fun o => decide (o.getLast? = some k)).length_le
  have h24 : ((arrs ss.length ss.length).filter fun o => decide (o.getLast? = some k)).length ≤ 24 := last_few ⟨ss.length, by omega⟩ ⟨k, by omega⟩
  refine (sum_fr fun o ho => ordQ_fr hs (List.mem_of_mem_take (List.mem_filter.mp ho).1)).mono ?_
  omega
theorem last_at {o : List Nat} (h : o ≠ []) : ∃ l, o.getLast? = some l ∧ atI ((o.map fun (k : Nat) => (k : Int)).map PyData.int) (-1) = some (.int (l : Int)) := by
  obtain ⟨l, hl⟩ : ∃ l, o.getLast? = some l := ⟨o.getLast h, List.getLast?_eq_some_getLast h⟩
  refine ⟨l, hl, ?_⟩
  rw [DL.atI_last, List.getLast?_map, List.getLast?_map, hl]; rfl
end DL

/-! whole orders: what comes to one, what rises -/
namespace DL
open PySem L2

theorem sum_cast (ss : List Int) : ∀ l : List Nat, (l.map fun k => ((ss.getD k 0 : Int) : Rat)).sum = ((sumP ss l : Int) : Rat)
  | [] => rfl
  | k :: t => by rw [List.map_cons, List.sum_cons, sum_cast ss t, sumP_cons, Rat.intCast_add]
theorem one_over {t : Nat} (ht : 0 < t) : ((t : Int) : Rat) * mkRat 1 t = 1 := by
  rw [Rat.mul_comm, part_mul ht]; rfl
theorem wQ_one {ss : List Int} (hs : Shares ss) {s : List Nat} (h : s ∈ allS ss.length) (h0 : s ≠ []) : (s.map (wQ ss s)).sum = 1 := by
  obtain ⟨g1, g2, g3⟩ := sum_ok hs h h0
  have e : s.map (wQ ss s) = s.map fun k => mkRat 1 (sumP ss s).toNat * ((ss.getD k 0 : Int) : Rat) := List.map_congr_left fun k _ => by
    unfold wQ; rw [mk_one, Rat.mul_comm]
  rw [e, sum_mulQ, sum_cast, ← g3, Rat.mul_comm]
  exact one_over g1
theorem lv_one {ss : List Int} (hs : Shares ss) : ∀ j, j < ss.length → ((lvl ss.length (ss.length - j)).map (lfT ss)).sum = 1
  | 0, _ => by
    have h5 := hs.few
    rw [Nat.sub_zero, lvl_full ⟨ss.length, by omega⟩]
    simp only [List.map_cons, List.map_nil, List.sum_cons, List.sum_nil]
    rw [lfT_full, Rat.add_zero]
  | j + 1, hj => by
    have h5 := hs.few
    have ih := lv_one hs j (by omega)
    generalize hl : ss.length - (j + 1) = l at *
    rw [show ss.length - j = l + 1 by omega] at ih
    have hp := List.isPerm_iff.mp (swap_chk ⟨ss.length, by omega⟩ ⟨l, by omega⟩)
    have hp : (stps (lvl ss.length (l + 1))).Perm ((lvl ss.length l).flatMap fun t => (upK ss.length t).map fun k => (insS t k, k)) := hp
    have e1 : ((lvl ss.length l).map (lfT ss)).sum = ((stps (lvl ss.length (l + 1))).map (stpQ ss)).sum := by
      rw [sum_permQ (hp.map (stpQ ss)), sum_flatQ]
      refine congrArg List.sum (List.map_congr_left fun t ht => ?_)
      obtain ⟨a1, a2⟩ := lvl_mem ht
      rw [lfT_step h5 a1 (by omega), List.map_map]; rfl
    rw [e1, ← ih]
    unfold stps
    rw [sum_flatQ]
    refine congrArg List.sum (List.map_congr_left fun s hs' => ?_)
    obtain ⟨a1, a2⟩ := lvl_mem hs'
    have h0 : s ≠ [] := fun e => by rw [e] at a2; cases a2
    rw [List.map_map]
    show (s.map fun k => lfT ss s * wQ ss s k).sum = _
    rw [sum_mulQ, wQ_one hs a1 h0, Rat.mul_one]
theorem lvl_single : ∀ n : _root_.Fin 6, lvl n.val 1 = (List.range n.val).map fun k => [k] := by decide +kernel
theorem last_one {ss : List Int} (hs : Shares ss) : ((List.range ss.length).map fun k => lfT ss [k]).sum = 1 := by
  have h5 := hs.few
  have h1 := hs.pos
  have := lv_one hs (ss.length - 1) (by omega)
  rw [show ss.length - (ss.length - 1) = 1 by omega, lvl_single ⟨ss.length, by omega⟩, List.map_map] at this
  exact this
theorem sum_leQ {α : Type} {f g : α → Rat} : ∀ {l : List α}, (∀ x ∈ l, f x ≤ g x) → (l.map f).sum ≤ (l.map g).sum
  | [], _ => Rat.le_refl
  | x :: l, h => by
    have h1 := h x List.mem_cons_self
    have h2 := sum_leQ (l := l) fun y hy => h y (List.mem_cons_of_mem _ hy)
    rw [List.map_cons, List.map_cons, List.sum_cons, List.sum_cons]
    grind
theorem lfT_nn {ss : List Int} (hs : Shares ss) {s : List Nat} (h : s ∈ allS ss.length) : 0 ≤ lfT ss s := (lfT_b hs h).nn
theorem one_nn (t : Nat) : (0 : Rat) ≤ mkRat 1 t := by
  by_cases h0 : t = 0
  · subst h0; exact Rat.le_refl
  · have ht := Nat.pos_of_ne_zero h0
    have h := ((QB.nat 1).over (n := t) (e := t) (w := 1) ht (Nat.le_of_lt Nat.lt_two_pow_self) (by omega)).nn
    have e : (((1 : Nat) : Int) : Rat) = 1 := rfl
    rw [e, Rat.one_mul] at h
    exact h
theorem sumP_leS {ss : List Int} (hs : Shares ss) {s : List Nat} (h : s ∈ allS ss.length) : sumP ss s ≤ ss.sum := by
  have h1 := sumP_others (ss := ss) (allS_kinds h)
  have h2 := sumP_nonneg hs (othersF ss.length s)
  omega
theorem cT_ge {ss : List Int} (hs : Shares ss) {s : List Nat} (h : s ∈ allS ss.length) (h0 : s ≠ []) : lfT ss s ≤ cT ss s := by
  obtain ⟨g1, g2, g3⟩ := sum_ok hs h h0
  have h1 := lfT_nn hs h
  have h2 := sumP_leS hs h
  unfold cT
  rw [mk_one ss.sum]
  have h3 := one_over g1
  have h4 := one_nn (sumP ss s).toNat
  rw [g3] at h3
  have h5 : (0 : Rat) ≤ ((ss.sum : Int) : Rat) - ((sumP ss s : Int) : Rat) := by
    have : ((sumP ss s : Int) : Rat) ≤ ((ss.sum : Int) : Rat) := by exact_mod_cast h2
    grind
  have h6 := Rat.mul_nonneg h5 h4
  have h7 := Rat.mul_nonneg h1 h6
  generalize ((ss.sum : Int) : Rat) = S at *
  generalize ((sumP ss s : Int) : Rat) = T at *
  generalize mkRat 1 (sumP ss s).toNat = r at *
  have e1 : S * r = 1 + (S - T) * r := by rw [← h3]; grind
  rw [e1, Rat.mul_add, Rat.mul_one]
  grind
theorem lvC_ge {ss : List Int} (hs : Shares ss) {l : Nat} (h0 : 0 < l) (hl : l ≤ ss.length) : 1 ≤ lvC ss l := by
  have := lv_one hs (ss.length - l) (by omega)
  rw [show ss.length - (ss.length - l) = l by omega] at this
  rw [← this]
  exact sum_leQ fun s h => by
    obtain ⟨a1, a2⟩ := lvl_mem h
    exact cT_ge hs a1 fun e => by rw [e] at a2; simp at a2; omega
theorem mn_tel {ss : List Int} (h5 : ss.length ≤ 5) {num : Nat} (hn : num ≤ ss.length) : mnT ss num (List.range ss.length) = ((List.range num).map fun i => lvC ss (ss.length - i)).sum := by
  have e := lvA_tel h5 hn num (Nat.le_refl _)
  rw [lvA_zero (l := ss.length - num) (by omega), Rat.add_zero] at e
  have f : lvA ss num ss.length = mnT ss num (List.range ss.length) := by
    unfold lvA
    rw [lvl_full ⟨ss.length, by omega⟩]
    simp only [List.map_cons, List.map_nil, List.sum_cons, List.sum_nil]
    rw [lfT_full, Rat.one_mul, Rat.add_zero]
  rw [← f, e]
theorem mn_none {ss : List Int} (h5 : ss.length ≤ 5) : mnT ss 0 (List.range ss.length) = 0 := by rw [mn_tel h5 (Nat.zero_le _)]; rfl
theorem mn_first {ss : List Int} (hs : Shares ss) : mnT ss 1 (List.range ss.length) = 1 := by
  have h5 := hs.few
  have hS := shares_sum hs
  rw [mn_tel h5 hs.pos]
  show lvC ss ss.length + 0 = 1
  unfold lvC
  rw [Rat.add_zero, lvl_full ⟨ss.length, by omega⟩]
  show cT ss (List.range ss.length) + 0 = 1
  unfold cT
  rw [Rat.add_zero, lfT_full, Rat.one_mul, sumP_range, mk_one]
  have h := one_over (t := ss.sum.toNat) (by omega)
  rw [show ((ss.sum.toNat : Nat) : Int) = ss.sum by omega] at h
  exact h
theorem mn_rise {ss : List Int} (hs : Shares ss) {num : Nat} (hn : num < ss.length) : mnT ss num (List.range ss.length) < mnT ss (num + 1) (List.range ss.length) := by
  have h5 := hs.few
  rw [mn_tel h5 (Nat.le_of_lt hn), mn_tel h5 hn, List.range_succ, List.map_append, sum_appQ]
  have := lvC_ge hs (l := ss.length - num) (by omega) (by omega)
  simp only [List.map_cons, List.map_nil, List.sum_cons, List.sum_nil]
  grind
theorem mn_time {ss : List Int} : ∀ (k : Nat) (s : List Nat), s.length = k → s.Pairwise (· < ·) → mnT ss ss.length s = timeT ss s
  | 0, s, hl, _ => by
    have : s = [] := List.length_eq_zero_iff.mp hl
    subst this; rfl
  | k + 1, s, hl, hs => by
    have h0 : s ≠ [] := fun e => by rw [e] at hl; cases hl
    rw [mnT_step ss _ hs h0, timeT_step ss hs h0, if_pos (by omega)]
    unfold dueT
    rw [dueAcc_congr (P' := timeT ss) (fun x hx => mn_time k _ (by have := without_len hs hx; omega) (hs.filter _)) s fun _ h => h]
theorem mn_all (ss : List Int) : mnT ss ss.length (List.range ss.length) = timeT ss (List.range ss.length) := mn_time _ _ rfl List.pairwise_lt_range
/-! some kind twice -/
theorem sum_leI {α : Type} {f g : α → Int} : ∀ {l : List α}, (∀ x ∈ l, f x ≤ g x) → (l.map f).sum ≤ (l.map g).sum
  | [], _ => Int.le_refl _
  | x :: l, h => by
    have h1 := h x List.mem_cons_self
    have h2 := sum_leI (l := l) fun y hy => h y (List.mem_cons_of_mem _ hy)
    rw [List.map_cons, List.map_cons, List.sum_cons, List.sum_cons]
    omega
theorem sum_mulI {α : Type} (f : α → Int) (c : Int) : ∀ l : List α, (l.map fun x => f x * c).sum = (l.map f).sum * c
  | [] => by simp
  | x :: l => by rw [List.map_cons, List.map_cons, List.sum_cons, List.sum_cons, sum_mulI f c l, Int.add_mul]
theorem sum_flatI {α β : Type} (f : β → Int) (g : α → List β) : ∀ l : List α, ((l.flatMap g).map f).sum = (l.map fun x => ((g x).map f).sum).sum
  | [] => rfl
  | x :: l => by rw [List.flatMap_cons, List.map_append, List.sum_append, List.map_cons, List.sum_cons, sum_flatI f g l]
theorem seqs_le {ss : List Int} (hs : Shares ss) : ∀ t, ((seqs ss.length t).map (prP ss)).sum ≤ ss.sum ^ t
  | 0 => by simp [seqs, prP]
  | t + 1 => by
    have hS := shares_sum hs
    have ih := seqs_le hs t
    rw [seqs_next, sum_flatI]
    have h1 : ((seqs ss.length t).map fun s => ((extS s ss.length).map (prP ss)).sum).sum ≤ ((seqs ss.length t).map fun s => prP ss s * ss.sum).sum := sum_leI fun s _ => by
      unfold extS
      rw [List.map_map]
      have e : ((List.range ss.length).filter fun k => !decide (k ∈ s)).map (prP ss ∘ fun k => s ++ [k]) = ((List.range ss.length).filter fun k => !decide (k ∈ s)).map fun k => ss.getD k 0 * prP ss s := List.map_congr_left fun k _ => by
        show prP ss (s ++ [k]) = _
        rw [prP_snoc, Int.mul_comm]
      rw [e, sum_mulI, Int.mul_comm]
      refine Int.mul_le_mul_of_nonneg_left ?_ (prP_bt hs s).1
      have h2 := sumP_split ss (fun k => decide (k ∈ s)) (List.range ss.length)
      have h3 := sumP_nonneg hs ((List.range ss.length).filter fun k => decide (k ∈ s))
      rw [sumP_range] at h2
      show sumP ss ((List.range ss.length).filter fun k => !decide (k ∈ s)) ≤ _
      omega
    rw [sum_mulI] at h1
    rw [Int.pow_succ]
    exact Int.le_trans h1 (Int.mul_le_mul_of_nonneg_right ih (by omega))
theorem unlQ_le {ss : List Int} (hs : Shares ss) {t : Nat} (ht : t ≤ ss.length) : unlQ ss t ≤ 1 := by
  have h5 := hs.few
  have h := seqs_le hs t
  rw [rows_eq ss h5 ht] at h
  obtain ⟨p0, pe, _⟩ := tot_powU hs t (by omega)
  unfold unlQ
  rw [mk_one]
  have h3 := one_over p0
  have h4 := one_nn (ss.sum.toNat ^ t)
  rw [pe] at h3
  have h5 : (0 : Rat) ≤ ((ss.sum ^ t : Int) : Rat) - ((unl ss t : Int) : Rat) := by
    have : ((unl ss t : Int) : Rat) ≤ ((ss.sum ^ t : Int) : Rat) := by exact_mod_cast h
    grind
  have h6 := Rat.mul_nonneg h5 h4
  generalize ((ss.sum ^ t : Int) : Rat) = S at *
  generalize ((unl ss t : Int) : Rat) = T at *
  generalize mkRat 1 (ss.sum.toNat ^ t) = r at *
  have e1 : S * r = T * r + (S - T) * r := by grind
  grind
theorem unlS_le {ss : List Int} (hs : Shares ss) : ∀ n, n ≤ ss.length + 1 → unlS ss (List.range n) ≤ ((n : Int) : Rat)
  | 0, _ => Rat.le_refl
  | n + 1, h => by
    rw [List.range_succ, unlS_snoc]
    have h1 := unlS_le hs n (by omega)
    have h2 := unlQ_le hs (t := n) (by omega)
    rw [show ((n + 1 : Nat) : Int) = (n : Int) + 1 by omega, Rat.intCast_add]
    have : ((1 : Int) : Rat) = 1 := rfl
    grind
/-! the sums so far -/
def endS (ss : List Int) (j : Nat) : Rat := ((List.range j).map fun k => lfT ss [k]).sum
theorem endS_fr {ss : List Int} (hs : Shares ss) {j : Nat} (hj : j ≤ ss.length) : FrB (endS ss j) 1300 := by
  have h5 := hs.few
  have h1 := hs.pos
  have hb : ∀ k ∈ List.range j, ChB (lfT ss [k]) (upP ss (ss.length - 1)) (45 ^ 5) := fun k hk => by
    have hk := List.mem_range.mp hk
    exact lfT_b hs (single_mem ⟨ss.length, by omega⟩ ⟨k, by omega⟩ (by show k < ss.length; omega))
  have hi : InD (endS ss j) (upP ss (ss.length - 1)) := InD.sum fun k hk => (hb k hk).ind
  have hv := ch_sum (f := fun k => lfT ss [k]) (v := 45 ^ 5) (l := List.range j) fun k hk => ⟨(hb k hk).nn, (hb k hk).le⟩
  obtain ⟨u0, u1⟩ := upP_ok hs (ss.length - 1) (by omega)
  have hc : ChB (endS ss j) (upP ss (ss.length - 1)) ((List.range j).length * 45 ^ 5) := ⟨hv.1, hv.2, hi⟩
  rw [List.length_range] at hc
  have : 192 * (ss.length - 1) ≤ 768 := by omega
  refine (hc.frB (d := 768) (e := 31) u0 (Nat.le_trans u1 (Nat.pow_le_pow_right (by decide) this)) ?_).mono (by decide)
  have : j * 45 ^ 5 ≤ 5 * 45 ^ 5 := Nat.mul_le_mul_right _ (by omega)
  exact Nat.lt_of_le_of_lt this (by decide)
theorem endS_step (ss : List Int) (j : Nat) : endS ss (j + 1) = endS ss j + lfT ss [j] := by
  unfold endS
  rw [List.range_succ, List.map_append, sum_appQ]
  simp only [List.map_cons, List.map_nil, List.sum_cons, List.sum_nil, Rat.add_zero]
theorem rep_range {α : Type} (x : α) : ∀ n : Nat, List.replicate n x = (List.range n).map fun _ => x
  | 0 => rfl
  | n + 1 => by rw [List.replicate_succ', rep_range x n, List.range_succ, List.map_append]; rfl
theorem set_map {α : Type} {f g : Nat → α} {n l : Nat} {x : α} (hl : l < n) (hx : g l = x) (h : ∀ k, k ≠ l → g k = f k) : ((List.range n).map f).set l x = (List.range n).map g := by
  refine List.ext_getElem? fun k => ?_
  by_cases hk : k = l
  · subst hk
    rw [List.getElem?_set_self (by rw [List.length_map, List.length_range]; exact hl), List.getElem?_map, List.getElem?_range hl, ← hx]; rfl
  · rw [List.getElem?_set_ne (Ne.symm hk), List.getElem?_map, List.getElem?_map]
    by_cases hn : k < n
    · rw [List.getElem?_range hn]
      show some (f k) = some (g k)
      rw [h k hk]
    · rw [List.getElem?_eq_none (by rw [List.length_range]; omega)]; rfl
theorem canLay_fracs : ∀ l : List Rat, PyData.canLayAll0 (l.map frac) = true
  | [] => by simp [PyData.canLayAll0]
  | q :: l => by rw [List.map_cons]; simp [PyData.canLayAll0, PyData.canLay0, frac, canLay_fracs l]
theorem depth_fracs : ∀ l : List Rat, PyData.depthAll (l.map frac) ≤ 1
  | [] => by simp [PyData.depthAll]
  | q :: l => by
    have := depth_fracs l
    rw [List.map_cons]; simp only [PyData.depthAll, depth_frac]; omega
theorem shaped_tupF {α : Type} (f : α → Rat) (l : List α) : SeqAt.shaped (.tuple (l.map fun k => frac (f k))) = true := by
  have e : (l.map fun k => frac (f k)) = (l.map f).map frac := by rw [List.map_map]; rfl
  have := depth_fracs (l.map f)
  rw [e]
  simp only [SeqAt.shaped, PyData.canLay0, canLay_fracs, PyData.depth, Bool.true_and, decide_eq_true_eq]
  exact decide_eq_true (by omega)
def f_needKindI : FSp := fun args m R => ∃ (ts : List PyData) (a : Nat), args = [.d (.tuple ts), .d (.int (a : Int))] ∧ a < ts.length ∧ R (.d .none) m
end DL

/-! the mean until all have come, over a list of shares: by parts that alternate -/
namespace DL
open PySem L2

def picks : List Rat → List (Rat × List Rat)
  | [] => []
  | x :: l => (x, l) :: (picks l).map fun p => (p.1, x :: p.2)
def altR : List Rat → Rat → Rat
  | [], c => c⁻¹
  | x :: l, c => altR l c - altR l (c + x)
def PosL (l : List Rat) : Prop := ∀ x ∈ l, 0 < x
theorem PosL.tail {x : Rat} {l : List Rat} (h : PosL (x :: l)) : PosL l := fun y hy => h y (List.mem_cons_of_mem _ hy)
theorem PosL.head {x : Rat} {l : List Rat} (h : PosL (x :: l)) : 0 < x := h x List.mem_cons_self
theorem PosL.sum_nn : ∀ {l : List Rat}, PosL l → 0 ≤ l.sum
  | [], _ => Rat.le_refl
  | x :: l, h => by
    have h1 := PosL.sum_nn h.tail
    have h2 := h.head
    rw [List.sum_cons]; grind
theorem PosL.sum_pos {l : List Rat} (h : PosL l) (h0 : l ≠ []) : 0 < l.sum := by
  cases l with
  | nil => exact absurd rfl h0
  | cons x l =>
    have h1 := h.tail.sum_nn
    have h2 := h.head
    rw [List.sum_cons]; grind
theorem picks_mem : ∀ {l : List Rat} {p : Rat × List Rat}, p ∈ picks l → p.2.length + 1 = l.length ∧ p.1 ∈ l ∧ ∀ y ∈ p.2, y ∈ l
  | [], p, h => by cases h
  | x :: l, p, h => by
    rcases List.mem_cons.mp h with rfl | h
    · exact ⟨rfl, List.mem_cons_self, fun y hy => List.mem_cons_of_mem _ hy⟩
    · obtain ⟨q, hq, rfl⟩ := List.mem_map.mp h
      obtain ⟨h1, h2, h3⟩ := picks_mem hq
      refine ⟨by simp only [List.length_cons]; omega, List.mem_cons_of_mem _ h2, fun y hy => ?_⟩
      rcases List.mem_cons.mp hy with rfl | hy
      · exact List.mem_cons_self
      · exact List.mem_cons_of_mem _ (h3 y hy)
theorem sum_subQ {α : Type} (f g : α → Rat) : ∀ l : List α, (l.map fun x => f x - g x).sum = (l.map f).sum - (l.map g).sum
  | [] => by show (0 : Rat) = 0 - 0; grind
  | x :: l => by
    have := sum_subQ f g l
    simp only [List.map_cons, List.sum_cons]
    grind
theorem alt_id : ∀ (l : List Rat) (c : Rat), 0 < c → PosL l → (c + l.sum) * altR l c = (if l = [] then 1 else 0) + ((picks l).map fun p => p.1 * altR p.2 c).sum
  | [], c, hc, _ => by
    show (c + 0) * c⁻¹ = 1 + 0
    grind
  | x :: l, c, hc, h => by
    have hx := h.head
    have i1 := alt_id l c hc h.tail
    have i2 := alt_id l (c + x) (by grind) h.tail
    rw [if_neg (fun z => nomatch z)]
    simp only [picks, List.map_cons, List.sum_cons, List.map_map, altR]
    have e : ((picks l).map ((fun p : Rat × List Rat => p.1 * altR p.2 c) ∘ fun p => (p.1, x :: p.2))).sum = ((picks l).map fun p => p.1 * altR p.2 c).sum - ((picks l).map fun p => p.1 * altR p.2 (c + x)).sum := by
      rw [← sum_subQ]
      refine congrArg List.sum (List.map_congr_left fun p _ => ?_)
      show p.1 * (altR p.2 c - altR p.2 (c + x)) = _
      grind
    rw [e]
    generalize ((picks l).map fun p => p.1 * altR p.2 c).sum = P at *
    generalize ((picks l).map fun p => p.1 * altR p.2 (c + x)).sum = Q at *
    generalize (if l = [] then (1 : Rat) else 0) = e0 at *
    grind
theorem sum_nnQ {α : Type} {f : α → Rat} : ∀ {l : List α}, (∀ x ∈ l, 0 ≤ f x) → 0 ≤ (l.map f).sum
  | [], _ => Rat.le_refl
  | x :: l, h => by
    have h1 := h x List.mem_cons_self
    have h2 := sum_nnQ (l := l) fun y hy => h y (List.mem_cons_of_mem _ hy)
    rw [List.map_cons, List.sum_cons]; grind
theorem nn_of_mul {a b : Rat} (ha : 0 < a) (h : 0 ≤ a * b) : 0 ≤ b := by
  have h1 : 0 < a⁻¹ := Rat.inv_pos.mpr ha
  have h2 : a * a⁻¹ = 1 := Rat.mul_inv_cancel a (by grind)
  have h3 := Rat.mul_nonneg (Rat.le_of_lt h1) h
  have e : a⁻¹ * (a * b) = b := by grind
  rw [e] at h3
  exact h3
theorem alt_nn : ∀ (n : Nat) (l : List Rat) (c : Rat), l.length = n → 0 < c → PosL l → 0 ≤ altR l c
  | 0, l, c, hl, hc, _ => by
    have : l = [] := List.length_eq_zero_iff.mp hl
    subst this
    exact Rat.le_of_lt (Rat.inv_pos.mpr hc)
  | n + 1, l, c, hl, hc, h => by
    have h0 : l ≠ [] := fun e => by rw [e] at hl; cases hl
    have i := alt_id l c hc h
    rw [if_neg h0] at i
    have hs := h.sum_pos h0
    have nn : 0 ≤ ((picks l).map fun p => p.1 * altR p.2 c).sum := sum_nnQ fun p hp => by
      obtain ⟨h1, h2, h3⟩ := picks_mem hp
      exact Rat.mul_nonneg (Rat.le_of_lt (h _ h2)) (alt_nn n p.2 c (by omega) hc fun y hy => h y (h3 y hy))
    refine nn_of_mul (a := c + l.sum) (by grind) ?_
    rw [i]; grind
def tauQ (S : Rat) : List Rat → Rat
  | [] => 0
  | x :: l => tauQ S l + S * altR l x
theorem sum_eqQ {α : Type} (f g : α → Rat) (c : Rat) : ∀ l : List α, (l.map fun x => f x + c * g x).sum = (l.map f).sum + c * (l.map g).sum
  | [] => by show (0 : Rat) = 0 + c * 0; grind
  | x :: l => by
    have := sum_eqQ f g c l
    simp only [List.map_cons, List.sum_cons]
    grind
theorem tau_rec (S : Rat) : ∀ (l : List Rat), PosL l → l ≠ [] → l.sum * tauQ S l = S + ((picks l).map fun p => p.1 * tauQ S p.2).sum
  | [], _, h0 => absurd rfl h0
  | x :: l, h, _ => by
    have hx := h.head
    have i1 := alt_id l x hx h.tail
    simp only [picks, List.map_cons, List.sum_cons, List.map_map, tauQ]
    have e : ((picks l).map ((fun p : Rat × List Rat => p.1 * tauQ S p.2) ∘ fun p => (p.1, x :: p.2))).sum = ((picks l).map fun p => p.1 * tauQ S p.2).sum + S * ((picks l).map fun p => p.1 * altR p.2 x).sum := by
      rw [← sum_eqQ]
      refine congrArg List.sum (List.map_congr_left fun p _ => ?_)
      show p.1 * (tauQ S p.2 + S * altR p.2 x) = _
      grind
    rw [e]
    by_cases hl : l = []
    · subst hl
      show (x + 0) * (0 + S * x⁻¹) = S + (x * 0 + (0 + S * 0))
      grind
    · have i2 := tau_rec S l h.tail hl
      rw [if_neg hl] at i1
      generalize ((picks l).map fun p => p.1 * altR p.2 x).sum = P at *
      generalize ((picks l).map fun p => p.1 * tauQ S p.2).sum = Q at *
      grind
theorem alt_perm {l l' : List Rat} (h : l.Perm l') : ∀ c, altR l c = altR l' c := by
  induction h with
  | nil => exact fun _ => rfl
  | cons x _ ih => intro c; simp only [altR, ih]
  | swap x y l =>
    intro c
    simp only [altR]
    rw [show c + y + x = c + x + y by grind]
    grind
  | trans _ _ ih1 ih2 => exact fun c => (ih1 c).trans (ih2 c)
theorem tau_perm {S : Rat} {l l' : List Rat} (h : l.Perm l') : tauQ S l = tauQ S l' := by
  induction h with
  | nil => rfl
  | cons x h ih => simp only [tauQ, ih, alt_perm h]
  | swap x y l =>
    simp only [tauQ, altR]
    rw [show y + x = x + y by grind]
    grind
  | trans _ _ ih1 ih2 => exact ih1.trans ih2
theorem tau_join {S x y : Rat} {l : List Rat} (hS : 0 ≤ S) (hx : 0 < x) (hy : 0 < y) (h : PosL l) : tauQ S ((x + y) :: l) ≤ tauQ S (x :: y :: l) := by
  have h1 := Rat.mul_nonneg hS (alt_nn _ (x :: l) y rfl hy fun z hz => by rcases List.mem_cons.mp hz with rfl | hz; exact hx; exact h z hz)
  have h2 := Rat.mul_nonneg hS (alt_nn _ (y :: l) x rfl hx fun z hz => by rcases List.mem_cons.mp hz with rfl | hz; exact hy; exact h z hz)
  simp only [tauQ, altR] at *
  rw [show y + x = x + y by grind] at h1
  grind
theorem tau_even {S x y : Rat} {l : List Rat} (hS : 0 ≤ S) (hy : 0 < y) (hxy : y + 2 ≤ x) (h : PosL l) : tauQ S ((x - 1) :: (y + 1) :: l) ≤ tauQ S (x :: y :: l) := by
  have h1 := Rat.mul_nonneg hS (alt_nn _ ((x - 1 - y) :: 1 :: l) y rfl hy fun z hz => by
    rcases List.mem_cons.mp hz with rfl | hz
    · grind
    · rcases List.mem_cons.mp hz with rfl | hz
      · decide
      · exact h z hz)
  simp only [tauQ, altR] at *
  rw [show y + (x - 1 - y) = x - 1 by grind, show x - 1 + 1 = x by grind] at h1
  rw [show x - 1 + (y + 1) = x + y by grind]
  grind
/-! the paper's number is this one -/
theorem picks_map (g : Nat → Rat) : ∀ {s : List Nat}, s.Nodup → picks (s.map g) = s.map fun k => (g k, (wo s k).map g)
  | [], _ => rfl
  | x :: s, h => by
    obtain ⟨h1, h2⟩ := List.nodup_cons.mp h
    have ih := picks_map g h2
    have e0 : wo (x :: s) x = s := by
      unfold wo
      rw [List.filter_cons, if_neg (by simp)]
      exact List.filter_eq_self.mpr fun y hy => by simp; rintro rfl; exact h1 hy
    simp only [List.map_cons, picks, ih, e0, List.map_map]
    refine congrArg _ (List.map_congr_left fun k hk => ?_)
    have hxk : x ≠ k := by rintro rfl; exact h1 hk
    show (g k, g x :: (wo s k).map g) = (g k, (wo (x :: s) k).map g)
    unfold wo
    rw [List.filter_cons, if_pos (by simp [hxk])]
    rfl
def gQ (ss : List Int) (k : Nat) : Rat := ((ss.getD k 0 : Int) : Rat)
theorem gQ_pos {ss : List Int} (hs : Shares ss) {k : Nat} (hk : k < ss.length) : 0 < gQ ss k := by
  have : 1 ≤ ss.getD k 0 := by
    rw [List.getD_eq_getElem?_getD, List.getElem?_eq_getElem hk]
    exact (hs.each _ (List.getElem_mem _)).1
  unfold gQ
  have h : ((0 : Int) : Rat) < ((ss.getD k 0 : Int) : Rat) := Rat.intCast_lt_intCast.mpr (by omega)
  exact h
theorem time_tauS {ss : List Int} (hs : Shares ss) : ∀ (n : Nat) (s : List Nat), s.length = n → Kinds ss.length s → timeT ss s = tauQ ((ss.sum : Int) : Rat) (s.map (gQ ss))
  | 0, s, hl, _ => by
    have : s = [] := List.length_eq_zero_iff.mp hl
    subst this; rfl
  | n + 1, s, hl, hk => by
    have h0 : s ≠ [] := fun e => by rw [e] at hl; cases hl
    have hnd : s.Nodup := hk.up.imp fun h => Nat.ne_of_lt h
    have hpos : PosL (s.map (gQ ss)) := fun x hx => by
      obtain ⟨k, hk', rfl⟩ := List.mem_map.mp hx
      exact gQ_pos hs (hk.lt k hk')
    have hrec := tau_rec ((ss.sum : Int) : Rat) (s.map (gQ ss)) hpos (fun e => h0 (List.map_eq_nil_iff.mp e))
    rw [picks_map (gQ ss) hnd, List.map_map, show (s.map (gQ ss)).sum = ((sumP ss s : Int) : Rat) from sum_cast ss s] at hrec
    have e1 : (s.map ((fun p : Rat × List Rat => p.1 * tauQ ((ss.sum : Int) : Rat) p.2) ∘ fun k => (gQ ss k, (wo s k).map (gQ ss)))).sum = (s.map fun k => ((ss.getD k 0 : Int) : Rat) * timeT ss (wo s k)).sum := by
      refine congrArg List.sum (List.map_congr_left fun k hks => ?_)
      have hw := without_len hk.up hks
      rw [time_tauS hs n (wo s k) (by unfold wo; omega) (kinds_without hk k)]
      rfl
    rw [e1] at hrec
    have hp := sumP_pos hs h0 hk.lt
    have ho := one_over (t := (sumP ss s).toNat) (by omega)
    rw [show (((sumP ss s).toNat : Nat) : Int) = sumP ss s by omega] at ho
    rw [timeT_step ss hk.up h0, due_sum, ← hrec]
    grind
theorem cast_range (ss : List Int) : (List.range ss.length).map (gQ ss) = ss.map fun x => ((x : Int) : Rat) := by
  refine List.ext_getElem (by simp) fun i h1 h2 => ?_
  rw [List.getElem_map, List.getElem_map, List.getElem_range]
  unfold gQ
  rw [List.getD_eq_getElem?_getD, List.getElem?_eq_getElem (by simpa using h1)]
  rfl
theorem time_tau {ss : List Int} (hs : Shares ss) : timeT ss (List.range ss.length) = tauQ ((ss.sum : Int) : Rat) (ss.map fun x => ((x : Int) : Rat)) := by
  rw [time_tauS hs _ _ rfl (kinds_all _), cast_range]
end DL

/-! kinds bought or drawn -/
namespace DL
open PySem L2

section
variable {K : PySem.W.Frag} {r : List Val} {m : Mm} {Q : Val → Mm → Prop} {te tl : TE} {tt : TT}
theorem on_lenDT {p : Addr} {kvs : List (List Key × Val)} (hm : m p = some (.dT kvs)) (q : Q (.d (.int (kvs.length : Int))) m) : OpN K rLenT [.v (.ref p)] m Q := fun H G vs S a R k => by
  obtain ⟨v, rfl, h⟩ := vrs1 a
  have h := h.eq
  subst h
  obtain ⟨es, h1, h2⟩ := S.mem p _ hm
  refine ⟨p, es, rfl, h1, ?_⟩
  rw [h2.len]
  exact k _ H G _ m q S (Le.refl G) vr_int
theorem on_lenLt {nss : List (List Int)} (q : Q (.d (.int (nss.length : Int))) m) : OpN K (rLen K) [.lt nss] m Q := fun H G vs S a R k => by
  obtain ⟨v, rfl, h⟩ := vrs1 a
  cases h with
  | lt h1 h2 =>
    refine Or.inl ⟨_, _, rfl, Or.inl (Or.inl (Le.rd S.sub h1)), ?_⟩
    rw [h2.len]
    exact k _ H G _ m q S (Le.refl G) vr_int
theorem on_isiDT {p : Addr} {kvs : List (List Key × Val)} (hm : m p = some (.dT kvs)) (q : Q (.d (.bool true)) m) : OpN K (rIsi K) [.v (.ref p), .v (.ty "dict")] m Q := fun H G vs S a R k => by
  obtain ⟨v, w, rfl, h1, h2⟩ := vrs2 a
  rw [h2.eq, h1.eq]
  obtain ⟨es, g1, g2⟩ := S.mem p _ hm
  exact ⟨.ref p, .ty "dict", _, _, true, rfl, .ty "dict", .base (.dT g1), kit_ty (a := "dict") (by decide +kernel), k _ H G _ m q S (Le.refl G) vr_bool⟩
theorem inV_strs (x : Str) (xs : List Str) : inV (.str x) (xs.map V.str) = decide (x ∈ xs) := by
  unfold inV
  rw [List.any_map]
  induction xs with
  | nil => rfl
  | cons n ns ih =>
    rw [List.any_cons, ih]
    by_cases h : x = n
    · subst h; simp [eqV]
    · have h2 : ¬ n = x := fun e => h e.symm
      simp [eqV, h, h2]
theorem o2_inStrs {x : Str} {xs : List Str} {neg : Bool} (q : Q (.d (.bool (if neg then !decide (x ∈ xs) else decide (x ∈ xs)))) m) : Op2 K (rIn K neg) (.d (.str x)) (.d (.tuple (xs.map PyData.str))) m Q := fun H G v w S a b R k => by
  rw [str_of a]
  obtain ⟨p, ys, rfl, g1, g2⟩ := rp_tuple.mp b.rp
  rw [g2.strs] at g1
  refine ⟨p, _, rfl, Or.inr (S.sqT g1), rfl, by rw [List.all_map, List.all_eq_true]; exact fun _ _ => rfl, ?_⟩
  rw [inV_strs]
  exact k _ H G _ m q S (Le.refl G) vr_bool
/-- [e for k in ..], any items, by what holds of them -/
theorem ev_lcLtW {j : Nat} {nss : List (List Int)} (h : Ev K tl r m fun x m1 => x = .lt nss ∧ m1 = m) (hn : nss.length ≤ 100000) (W : Nat → List Val → Prop) (h0 : W 0 [])
    (hs : ∀ (i : Nat) (ns : List Int) m' acc, nss[i]? = some ns → Ext m m' → W i acc → Ev K te (r.set j (.t ns)) m' fun x m3 => m3 = m' ∧ W (i + 1) (acc ++ [x]))
    (q : ∀ D acc, m D = none → W nss.length acc → Q (.v (.ref D)) (put m D (.lst acc))) : Ev K (tLc (iList K tl) (gName j) tYes te [j]) r m Q := fun σ H G S L R k =>
  h σ H G S L _ fun v H1 G1 x m1 ⟨hx, hm⟩ S1 e1 r1 => by
    subst hx hm
    cases r1 with
    | lt h1 h2 =>
      rename_i a xs
      have hq : SqL K G1 a xs := Or.inl h1
      refine ⟨a, rfl, ⟨xs, S1.sqL hq⟩, fun D hD => ?_⟩
      have hmD := S1.freeM hD
      have hlen := h2.len
      refine lc_it (walk_list (xs := xs)) (LcV K m1 G1 D W) (lcv_start S1 hD h0) ?_ ?_ ?_
      · rintro i H' hi ⟨G', acc, _, _, S', e'⟩
        exact S'.sqL (e'.sqL hq)
      · rintro i y H' H2 hi hP ⟨rfl, hy⟩
        obtain ⟨ns, b, hns, rfl, hb⟩ := h2.at hy
        refine ⟨wipe1 σ j _, ?_⟩
        refine lcv_turn (r' := r.set j (.t ns)) hmD (by omega) (fun G' e' => ?_) (fun m' acc hx hw => ?_) hP
        · have := (L.mono (e1.trans e')).set (r := .t ns) (.t (e' _ _ hb)) j
          show Sl K _ (r.set j (.t ns)) ((σ.set j none).set j (some (.ref b)))
          rw [List.set_set]
          exact this
        · exact evt_yes ⟨rfl, fun _ => hs i ns m' acc hns hx hw, fun z => nomatch z⟩
      · intro H' hP
        rw [hlen] at hP
        obtain ⟨G', acc, hw, hl, S', e'⟩ := hP
        exact k _ H' G' _ _ (q D acc hmD hw) S' (e1.trans e') .v
theorem TAll.drop {G : Hp} : ∀ {nss : List (List Int)} {xs : List V} (n : Nat), TAll G nss xs → TAll G (nss.drop n) (xs.drop n)
  | nss, xs, 0, h => h
  | [], xs, n + 1, h => by
    have h : xs = [] := h
    subst h; exact rfl
  | ns :: r, xs, n + 1, h => by
    obtain ⟨b, t, rfl, h2, h3⟩ := h
    exact TAll.drop n h3
/-- l[a:] of a list of tuples -/
theorem ev_slLt {tl th : TO} (h : Ev K te r m fun x m1 => ∃ nss, x = .lt nss ∧ EvO K tl r m1 fun lo m2 => EvO K th r m2 fun hi m3 => ∃ a : Nat, lo = some (a : Int) ∧ hi = none ∧ Q (.lt (nss.drop a)) m3) : Ev K (tSl (rSlL K) te tl th) r m Q := fun σ H G S L R k =>
  h σ H G S L _ fun v H1 G1 x m1 ⟨nss, hx, h1⟩ S1 e1 r1 => h1 σ H1 G1 S1 (L.mono e1) _ fun H2 G2 lo m2 h2 S2 e2 => h2 σ H2 G2 S2 (L.mono (e1.trans e2)) _ fun H3 G3 hi m3 ⟨a, ha, hb, q⟩ S3 e3 => by
    subst hx ha hb
    have r3 := r1.mono (e2.trans e3)
    cases r3 with
    | lt g1 g2 =>
      rename_i b xs
      refine ⟨b, xs, rfl, Or.inl (Le.rd S3.sub g1), fun l hl => ?_⟩
      have hg := S3.free hl
      have e : cutV xs (some (a : Int)) none = xs.drop a := by
        unfold cutV
        rw [HT.sIx_none, HT.sIx_nat]
        by_cases ha : a ≤ xs.length
        · rw [Nat.min_eq_left ha, List.take_of_length_le (by rw [List.length_drop]; exact Nat.le_refl _)]
        · rw [Nat.min_eq_right (by omega), Nat.sub_self, List.take_zero, List.drop_of_length_le (by omega)]
      rw [e]
      exact k _ _ (upd G3 l (.lst (xs.drop a))) _ m3 q (S3.fix hl) (e1.trans (e2.trans (e3.trans (Le.new hg)))) (.lt (Rd.of upd_same) ((g2.drop a).mono (Le.new hg)))
theorem kLenT {X : Cx} : CallR X (.builtin "len") rLenT := call_len_dT
end
/-! some kinds but none, the fewer ahead -/
def rsX (n : Nat) : List (List Nat) := (ordX n).filter noNil
theorem rsX_facts : ∀ n : _root_.Fin 6, ordX n.val = [] :: rsX n.val ∧ (ordX n.val).drop 1 = rsX n.val ∧ (rsX n.val).Nodup ∧ (rsX n.val).length ≤ 31 ∧ (rsX n.val).length + 1 = (allS n.val).length ∧ ∀ s ∈ rsX n.val, s ∈ allS n.val ∧ s ≠ [] := by decide +kernel
theorem rsX_ahead : ∀ n : _root_.Fin 6, ∀ i : _root_.Fin 32, ∀ s, (rsX n.val)[i.val]? = some s → (∀ k ∈ s, wo s k ∈ [] :: (rsX n.val).take i.val) ∧ s ∉ [] :: (rsX n.val).take i.val := by
  have h : ∀ n : _root_.Fin 6, ∀ i : _root_.Fin 32, ((rsX n.val)[i.val]?).all (fun s => (s.all fun k => decide (wo s k ∈ [] :: (rsX n.val).take i.val)) && decide (s ∉ [] :: (rsX n.val).take i.val)) = true := by decide +kernel
  intro n i s hs
  have h1 := h n i
  rw [hs] at h1
  simp only [Option.all_some, Bool.and_eq_true, List.all_eq_true, decide_eq_true_eq] at h1
  exact ⟨fun k hk => h1.1 k hk, h1.2⟩
theorem rsX_range : ∀ n : _root_.Fin 6, 0 < n.val → List.range n.val ∈ rsX n.val := by decide +kernel
theorem rsX_wo : ∀ n : _root_.Fin 6, ∀ s ∈ rsX n.val, ∀ k ∈ s, wo s k ∈ [] :: rsX n.val := by decide +kernel
theorem rsX_all : ∀ n : _root_.Fin 6, ([] :: rsX n.val).isPerm (allS n.val) = true := by decide +kernel
theorem rsX_filter (n : Nat) : ((ordX n).map kn).filter (fun ks => !decide (ks = [])) = (rsX n).map kn := by
  unfold rsX
  rw [List.filter_map]
  refine congrArg (List.map kn) (List.filter_congr fun s _ => ?_)
  show (!decide (kn s = [])) = noNil s
  unfold noNil
  rw [show decide (kn s = []) = decide (s = []) from decide_eq_decide.mpr List.map_eq_nil_iff]
/-! numbers by who is left, one told by the others -/
def genF (ss : List Int) (g : List Nat → Rat → Rat) : Nat → List Nat → Rat
  | 0, _ => 0
  | n + 1, s => g s (dueT ss (genF ss g n) s)
def genT (ss : List Int) (g : List Nat → Rat → Rat) (s : List Nat) : Rat := genF ss g s.length s
theorem genT_nil (ss : List Int) (g : List Nat → Rat → Rat) : genT ss g [] = 0 := rfl
theorem genT_step (ss : List Int) (g : List Nat → Rat → Rat) {s : List Nat} (hs : s.Pairwise (· < ·)) (h0 : s ≠ []) : genT ss g s = g s (dueT ss (genT ss g) s) := by
  unfold genT
  cases hn : s.length with
  | zero => exact absurd (List.length_eq_zero_iff.mp hn) h0
  | succ n =>
    show g s (dueT ss (genF ss g n) s) = _
    refine congrArg (g s) ?_
    unfold dueT
    rw [dueAcc_congr (P' := fun o => genF ss g o.length o) (fun k hk => ?_) s (fun _ h => h)]
    have := without_len hs hk
    have e : (s.filter fun x => !decide (x = k)).length = n := by omega
    show genF ss g n _ = genF ss g _ _
    rw [e]
theorem due_mono {ss : List Int} (hs : Shares ss) {P P' : List Nat → Rat} {s : List Nat} (h : ∀ k ∈ s, P (wo s k) ≤ P' (wo s k)) : dueT ss P s ≤ dueT ss P' s := by
  rw [due_sum, due_sum]
  have h1 : (s.map fun k => ((ss.getD k 0 : Int) : Rat) * P (wo s k)).sum ≤ (s.map fun k => ((ss.getD k 0 : Int) : Rat) * P' (wo s k)).sum := sum_leQ fun k hk =>
    Rat.mul_le_mul_of_nonneg_left (h k hk) (Rat.intCast_le_intCast.mpr (getD_bounds hs k).1)
  have h2 := one_nn (sumP ss s).toNat
  rw [Rat.mul_comm, Rat.mul_comm (((ss.sum : Int) : Rat) + _)]
  exact Rat.mul_le_mul_of_nonneg_left (by grind) h2
theorem gen_mono {ss : List Int} (hs : Shares ss) {g g' : List Nat → Rat → Rat} (h : ∀ s x y, x ≤ y → g s x ≤ g' s y) : ∀ (n : Nat) (s : List Nat), s.length = n → s.Pairwise (· < ·) → genT ss g s ≤ genT ss g' s
  | 0, s, hl, _ => by
    have : s = [] := List.length_eq_zero_iff.mp hl
    subst this; exact Rat.le_refl
  | n + 1, s, hl, hp => by
    have h0 : s ≠ [] := fun e => by rw [e] at hl; cases hl
    rw [genT_step ss g hp h0, genT_step ss g' hp h0]
    exact h s _ _ (due_mono hs fun k hk => gen_mono hs h n _ (by have := without_len hp hk; unfold wo; omega) (hp.filter _))
theorem gen_of {ss : List Int} {g : List Nat → Rat → Rat} {P : List Nat → Rat} (h0 : P [] = 0) (h : ∀ s, s.Pairwise (· < ·) → s ≠ [] → g s (dueT ss P s) = P s) : ∀ (n : Nat) (s : List Nat), s.length = n → s.Pairwise (· < ·) → genT ss g s = P s
  | 0, s, hl, _ => by
    have : s = [] := List.length_eq_zero_iff.mp hl
    subst this; exact h0.symm
  | n + 1, s, hl, hp => by
    have hne : s ≠ [] := fun e => by rw [e] at hl; cases hl
    rw [genT_step ss g hp hne, ← h s hp hne]
    refine congrArg (g s) ?_
    unfold dueT
    rw [dueAcc_congr (P' := P) (fun k hk => gen_of h0 h n _ (by have := without_len hp hk; omega) (hp.filter _)) s (fun _ h => h)]
/-! bounds -/
def PB (ss : List Int) (P : List Nat → Rat) : Prop := ∀ s, Kinds ss.length s → QB (P s) (dB s.length) (99 * s.length)
theorem accG {ss : List Int} (hs : Shares ss) {P : List Nat → Rat} {s : List Nat} {d n : Nat} (hP : ∀ k ∈ s, QB (P (s.filter fun x => !decide (x = k))) d (99 * n)) : ∀ l : List Nat, (∀ k ∈ l, k ∈ s) → QB (dueAcc ss P s l) (l.length * d) (45 + 99 * n * (sumP ss l).toNat) := by
  intro l
  have hsum := shares_sum hs
  have gen : ∀ (l : List Nat) (a : Rat) (c v : Nat), QB a c v → (∀ k ∈ l, k ∈ s) → QB (l.foldl (fun acc k => acc + ((ss.getD k 0 : Int) : Rat) * P (s.filter fun x => !decide (x = k))) a) (c + l.length * d) (v + 99 * n * (sumP ss l).toNat) := by
    intro l
    induction l with
    | nil =>
      intro a c v h _
      exact h.mono (by simp) (by simp)
    | cons k t ih =>
      intro a c v h hl
      rw [List.foldl_cons]
      have hb := getD_bounds hs k
      have e1 : ss.getD k 0 = (((ss.getD k 0).toNat : Nat) : Int) := by omega
      have h1 := (hP k (hl k (List.mem_cons_self ..))).mulN (ss.getD k 0).toNat
      rw [← e1] at h1
      have h2 := ih _ _ _ (h.add h1) fun x hx => hl x (List.mem_cons_of_mem _ hx)
      refine h2.mono ?_ ?_
      · rw [List.length_cons, Nat.succ_mul]; omega
      · have e2 : (sumP ss (k :: t)).toNat = (ss.getD k 0).toNat + (sumP ss t).toNat := by
          have := sumP_nonneg hs t
          rw [sumP_cons]; omega
        rw [e2, Nat.mul_add]
        have e3 : (ss.getD k 0).toNat * (99 * n) = 99 * n * (ss.getD k 0).toNat := Nat.mul_comm _ _
        omega
  intro hl
  have e : ss.sum = ((ss.sum.toNat : Nat) : Int) := by omega
  have h0 : QB ((ss.sum : Int) : Rat) 0 45 := by
    rw [e]
    exact (QB.nat _).mono (Nat.le_refl _) (by omega)
  exact (gen l _ 0 45 h0 hl).mono (by omega) (Nat.le_refl _)
theorem PB.sub {ss : List Int} {P : List Nat → Rat} (h : PB ss P) {s : List Nat} (hk : Kinds ss.length s) {n : Nat} (hl : s.length = n + 1) : ∀ k ∈ s, QB (P (s.filter fun x => !decide (x = k))) (dB n) (99 * n) := fun k hks => by
  have := h _ (kinds_without hk k)
  have hw := without_len hk.up hks
  rw [show (s.filter fun x => !decide (x = k)).length = n by omega] at this
  exact this
theorem PB.due {ss : List Int} (hs : Shares ss) {P : List Nat → Rat} (h : PB ss P) {s : List Nat} (hk : Kinds ss.length s) (h0 : s ≠ []) : QB (dueT ss P s) (dB s.length) (99 * s.length) := by
  cases hn : s.length with
  | zero => exact absurd (List.length_eq_zero_iff.mp hn) h0
  | succ n =>
    have h1 := accG hs (h.sub hk hn) s (fun _ h => h)
    have hp := sumP_pos hs h0 hk.lt
    have hle := sumP_le hs hk
    unfold dueT
    refine (h1.over (n := (sumP ss s).toNat) (e := 6) (w := 99 * (n + 1)) (by omega) (by show _ ≤ 64; omega) ?_).mono (by rw [hn]; exact Nat.le_refl _) (Nat.le_refl _)
    generalize hS : (sumP ss s).toNat = S
    have : 1 ≤ S := by omega
    rw [Nat.mul_add, Nat.add_mul, Nat.mul_one]
    have : 99 ≤ 99 * S := by omega
    omega
theorem PB.fr {ss : List Int} (hs : Shares ss) {P : List Nat → Rat} (h : PB ss P) {s : List Nat} (hk : Kinds ss.length s) : FrB (P s) 1300 := by
  have h1 := hk.len
  have h2 := hs.few
  have h3 := dB_le (n := s.length) (by omega)
  exact ((h s hk).frB (e := 10) (by show _ < 1024; omega)).mono (by omega)
theorem PB.dueFr {ss : List Int} (hs : Shares ss) {P : List Nat → Rat} (h : PB ss P) {s : List Nat} (hk : Kinds ss.length s) (h0 : s ≠ []) : FrB (dueT ss P s) 1300 := by
  have h1 := hk.len
  have h2 := hs.few
  have h3 := dB_le (n := s.length) (by omega)
  exact ((h.due hs hk h0).frB (e := 10) (by show _ < 1024; omega)).mono (by omega)
theorem PB.accFr {ss : List Int} (hs : Shares ss) {P : List Nat → Rat} (h : PB ss P) {s : List Nat} (hk : Kinds ss.length s) (i : Nat) : FrB (dueAcc ss P s (s.take i)) 1300 := by
  have h1 := hk.len
  have h2 := hs.few
  cases hn : s.length with
  | zero =>
    have : s = [] := List.length_eq_zero_iff.mp hn
    subst this
    have := shares_sum hs
    have e : ss.sum = ((ss.sum.toNat : Nat) : Int) := by omega
    have : dueAcc ss P [] (List.take i []) = ((ss.sum : Int) : Rat) := by simp [dueAcc]
    rw [this, e]
    exact ((QB.nat ss.sum.toNat).frB (e := 10) (by show _ < 1024; omega)).mono (by decide)
  | succ n =>
    have hb := accG hs (h.sub hk hn) (s.take i) fun k hk => List.mem_of_mem_take hk
    have hl : (s.take i).length ≤ n + 1 := by rw [List.length_take]; omega
    have hsl : sumP ss (s.take i) ≤ 45 := by
      have := sumP_le9 hs (s.take i)
      omega
    have hd : (s.take i).length * dB n + 6 ≤ dB (n + 1) := by
      show _ ≤ (n + 1) * dB n + 6
      exact Nat.add_le_add_right (Nat.mul_le_mul_right _ hl) 6
    have hd2 := dB_le (n := n + 1) (by omega)
    have hv : 45 + 99 * n * (sumP ss (s.take i)).toNat ≤ 45 + 99 * 4 * 45 := by
      refine Nat.add_le_add_left (Nat.mul_le_mul (Nat.mul_le_mul_left _ (by omega)) (by omega)) _
    exact (hb.frB (e := 15) (by show _ < 32768; omega)).mono (by omega)
def priceQ (c : Nat) (s : List Nat) : Rat := ((c * s.length : Nat) : Int)
theorem price_QB {c : Nat} (hc : c ≤ 99) (s : List Nat) : QB (priceQ c s) (dB s.length) (99 * s.length) := (QB.nat (c * s.length)).mono (Nat.zero_le _) (Nat.mul_le_mul_right _ hc)
theorem gen_PB {ss : List Int} (hs : Shares ss) {c : Nat} (hc : c ≤ 99) {g : List Nat → Rat → Rat} (hg : ∀ s x, g s x = x ∨ g s x = priceQ c s) : PB ss (genT ss g) := by
  have : ∀ (n : Nat) (s : List Nat), s.length ≤ n → Kinds ss.length s → QB (genT ss g s) (dB s.length) (99 * s.length) := by
    intro n
    induction n with
    | zero =>
      intro s hl hk
      have : s = [] := List.length_eq_zero_iff.mp (by omega)
      subst this
      exact ⟨Rat.le_refl, Rat.le_refl, Nat.le_refl 1⟩
    | succ n ih =>
      intro s hl hk
      by_cases h0 : s = []
      · subst h0; exact ⟨Rat.le_refl, Rat.le_refl, Nat.le_refl 1⟩
      · rw [genT_step ss g hk.up h0]
        have hd : QB (dueT ss (genT ss g) s) (dB s.length) (99 * s.length) := by
          have hP : PB ss (fun t => if t.length ≤ n then genT ss g t else 0) := fun t ht => by
            show QB (if t.length ≤ n then genT ss g t else 0) _ _
            split
            · exact ih t (by assumption) ht
            · exact ⟨Rat.le_refl, by exact_mod_cast Nat.zero_le _, Nat.one_le_two_pow⟩
          have h1 := hP.due hs hk h0
          have e : dueT ss (fun t => if t.length ≤ n then genT ss g t else 0) s = dueT ss (genT ss g) s := by
            unfold dueT
            rw [dueAcc_congr (P' := genT ss g) (fun k hks => ?_) s (fun _ h => h)]
            show (if _ then _ else _) = _
            rw [if_pos (by have := without_len hk.up hks; omega)]
          rw [e] at h1
          exact h1
        rcases hg s (dueT ss (genT ss g) s) with h | h
        · rw [h]; exact hd
        · rw [h]; exact price_QB hc s
  exact fun s hk => this s.length s (Nat.le_refl _) hk
/-! the laws of costs -/
def minQ (a b : Rat) : Rat := if a < b then a else b
def costT (ss : List Int) (c : Nat) : List Nat → Rat := genT ss fun s x => minQ (priceQ c s) x
def buyP (ss : List Int) (c : Nat) (s : List Nat) : Bool := !decide (dueT ss (costT ss c) s < priceQ c s)
def planT (ss : List Int) (c : Nat) (b : List Nat → Bool) : List Nat → Rat := genT ss fun s x => if b s = true then priceQ c s else x
theorem cost_PB {ss : List Int} (hs : Shares ss) {c : Nat} (hc : c ≤ 99) : PB ss (costT ss c) := gen_PB hs hc fun s x => by
  unfold minQ
  split
  · exact Or.inr rfl
  · exact Or.inl rfl
theorem plan_PB {ss : List Int} (hs : Shares ss) {c : Nat} (hc : c ≤ 99) (b : List Nat → Bool) : PB ss (planT ss c b) := gen_PB hs hc fun s x => by
  split
  · exact Or.inr rfl
  · exact Or.inl rfl
theorem cost_step (ss : List Int) (c : Nat) {s : List Nat} (hs : s.Pairwise (· < ·)) (h0 : s ≠ []) : costT ss c s = minQ (priceQ c s) (dueT ss (costT ss c) s) := genT_step ss _ hs h0
theorem plan_step (ss : List Int) (c : Nat) (b : List Nat → Bool) {s : List Nat} (hs : s.Pairwise (· < ·)) (h0 : s ≠ []) : planT ss c b s = if b s = true then priceQ c s else dueT ss (planT ss c b) s := genT_step ss _ hs h0
theorem plan_told (ss : List Int) (c : Nat) {s : List Nat} (hs : s.Pairwise (· < ·)) : planT ss c (buyP ss c) s = costT ss c s := gen_of rfl (fun s hp h0 => by
  rw [cost_step ss c hp h0]
  unfold buyP minQ
  by_cases h : dueT ss (costT ss c) s < priceQ c s
  · rw [if_neg (by simp [h]), if_neg (by grind)]
  · rw [if_pos (by simp [h])]
    split <;> grind) _ s rfl hs
theorem plan_least {ss : List Int} (hs : Shares ss) (c : Nat) (b : List Nat → Bool) {s : List Nat} (hp : s.Pairwise (· < ·)) : costT ss c s ≤ planT ss c b s := gen_mono hs (fun s x y h => by
  show minQ (priceQ c s) x ≤ if b s = true then priceQ c s else y
  unfold minQ
  split <;> split <;> grind) _ s rfl hp
theorem cost_dearer {ss : List Int} (hs : Shares ss) (c : Nat) {s : List Nat} (hp : s.Pairwise (· < ·)) : costT ss c s ≤ costT ss (c + 1) s := gen_mono hs (fun s x y h => by
  show minQ (priceQ c s) x ≤ minQ (priceQ (c + 1) s) y
  have hq : priceQ c s ≤ priceQ (c + 1) s := by
    unfold priceQ
    exact Rat.intCast_le_intCast.mpr (Int.ofNat_le.mpr (Nat.mul_le_mul_right _ (Nat.le_succ c)))
  unfold minQ
  split <;> split <;> grind) _ s rfl hp
theorem plan_draw (ss : List Int) (c : Nat) {b : List Nat → Bool} (hb : ∀ s, b s = false) {s : List Nat} (hp : s.Pairwise (· < ·)) : planT ss c b s = timeT ss s := gen_of (timeT_nil ss) (fun s hp h0 => by
  rw [hb]
  exact (timeT_step ss hp h0).symm) _ s rfl hp
theorem plan_buy (ss : List Int) (c : Nat) {b : List Nat → Bool} (hb : ∀ s, b s = true) {s : List Nat} (hp : s.Pairwise (· < ·)) (h0 : s ≠ []) : planT ss c b s = priceQ c s := by
  rw [plan_step ss c b hp h0, hb, if_pos rfl]
theorem time_PB {ss : List Int} (hs : Shares ss) : PB ss (timeT ss) := fun s hk => (time_bound hs s.length s rfl hk).mono (Nat.le_refl _) (Nat.mul_le_mul_right _ (by decide))
/-! words -/
def f_dueG : FSp := fun args m R => ∃ (ss : List Int) (s : List Nat) (p : Addr) (kvs : List (List Key × Val)) (P : List Nat → Rat), args = [.d (tupI ss), .v (.ref p), .d (tupN s)] ∧ Shares ss ∧ Kinds ss.length s ∧ s ≠ [] ∧ Dat m p kvs ∧ PB ss P ∧
  (∀ k ∈ s, getV kvs (kI (kn (s.filter fun x => !decide (x = k)))) = some (.d (frac (P (s.filter fun x => !decide (x = k)))))) ∧ R (.d (frac (dueT ss P s))) m
theorem dueG_T : ∀ args m R, f_dueNumber args m R → f_dueG args m R := by
  rintro args m R ⟨ss, s, p, kvs, rfl, hs, hk, h0, hd, hg, q⟩
  rw [timeT_step ss hk.up h0] at q
  exact ⟨ss, s, p, kvs, timeT ss, rfl, hs, hk, h0, hd, time_PB hs, hg, q⟩
def f_rising : FSp := fun args m R => ∃ ss : List Int, args = [.d (tupI ss)] ∧ Shares ss ∧ R (.lt ((rsX ss.length).map kn)) m
def f_lesser : FSp := fun args m R => ∃ p q : Rat, args = [.d (frac p), .d (frac q)] ∧ FrB p 3900 ∧ FrB q 3900 ∧ R (.d (frac (minQ p q))) m
def f_needPrice : FSp := fun args m R => ∃ (ss : List Int) (c : Nat), args = [.d (tupI ss), .d (.int (c : Int))] ∧ Shares ss ∧ c ≤ 99 ∧ R (.d .none) m
def f_costsOf : FSp := fun args m R => ∃ (ss : List Int) (c : Nat), args = [.d (tupI ss), .d (.int (c : Int))] ∧ Shares ss ∧ c ≤ 99 ∧ ∀ p, m p = none → R (.v (.ref p)) (put m p (.dT (tabT (costT ss c) ([] :: rsX ss.length))))
def tabS (f : List Nat → Str) (l : List (List Nat)) : List (List Int × Val) := l.map fun s => (kn s, .d (.str (f s)))
def told (b : Bool) : Str := if b = true then "buy" else "draw"
def f_planOf : FSp := fun args m R => ∃ (ss : List Int) (c : Nat), args = [.d (tupI ss), .d (.int (c : Int))] ∧ Shares ss ∧ c ≤ 99 ∧ ∀ p, m p = none → R (.v (.ref p)) (put m p (.dT (dI (tabS (fun s => told (buyP ss c s)) (rsX ss.length)))))
def f_arePlans : FSp := fun args m R => ∃ (ss : List Int) (p : Addr) (b : List Nat → Bool), args = [.v (.ref p), .d (tupI ss)] ∧ Shares ss ∧ m p = some (.dT (dI (tabS (fun s => told (b s)) (rsX ss.length)))) ∧ R (.d (.bool true)) m
def f_planCost : FSp := fun args m R => ∃ (ss : List Int) (c : Nat) (p : Addr) (b : List Nat → Bool), args = [.d (tupI ss), .d (.int (c : Int)), .v (.ref p)] ∧ Shares ss ∧ c ≤ 99 ∧ m p = some (.dT (dI (tabS (fun s => told (b s)) (rsX ss.length)))) ∧ R (.d (frac (planT ss c b (List.range ss.length)))) m
def f_isPaper : FSp := fun args m R => ∃ (ss : List Int) (p : Addr) (P : List Nat → Rat), args = [.v (.ref p), .d (tupI ss)] ∧ Shares ss ∧ PB ss P ∧ P [] = 0 ∧ m p = some (.dT (tabT P ([] :: rsX ss.length))) ∧ R (.d (.bool true)) m
def f_isCostPaper : FSp := fun args m R => ∃ (ss : List Int) (c : Nat) (p : Addr), args = [.v (.ref p), .d (tupI ss), .d (.int (c : Int))] ∧ Shares ss ∧ c ≤ 99 ∧ m p = some (.dT (tabT (costT ss c) ([] :: rsX ss.length))) ∧ R (.d (.bool true)) m
theorem getV_tabS {f : List Nat → Str} {s : List Nat} : ∀ {l : List (List Nat)}, s ∈ l → getV (dI (tabS f l)) (kI (kn s)) = some (.d (.str (f s)))
  | [], h => by cases h
  | t :: l, h => by
    unfold getV tabS dI
    rw [List.map_cons, List.map_cons, List.find?_cons]
    by_cases e : t = s
    · subst e; simp
    · have h1 : ¬ kI (kn t) = kI (kn s) := fun z => e (kn_inj (kI_inj z))
      rw [show decide (kI (kn t) = kI (kn s)) = false from decide_eq_false h1]
      rcases List.mem_cons.mp h with h | h
      · exact absurd h.symm e
      · exact getV_tabS h
theorem putV_tabS {f : List Nat → Str} {s : List Nat} {l : List (List Nat)} (h : s ∉ l) : putV (dI (tabS f l)) (kI (kn s)) (.d (.str (f s))) = dI (tabS f (l ++ [s])) := by
  rw [putV_new _ fun p hp => ?_]
  · unfold tabS dI; rw [List.map_append, List.map_append]; rfl
  · obtain ⟨kv, hkv, rfl⟩ := List.mem_map.mp hp
    obtain ⟨t, ht, rfl⟩ := List.mem_map.mp hkv
    exact fun z => h (kn_inj (kI_inj z) ▸ ht)
theorem told_in (b : Bool) : told b ∈ (["draw", "buy"] : List Str) := by cases b <;> decide
theorem told_buy (b : Bool) : decide (told b = "buy") = b := by cases b <;> decide
theorem rsX_nodup {n : Nat} (h : n ≤ 5) : ((rsX n).map kn).Nodup := (rsX_facts ⟨n, by omega⟩).2.2.1.map _ fun a b ne e => ne (kn_inj e)
end DL

/-! sorted(d.items()), d with tuples for keys -/
namespace DL
open PySem L2 PySem.Spec PyProof.Rows

mutual
def flD : PyData → Bool
  | .none => true
  | .bool _ => true
  | .int _ => true
  | .str _ => true
  | .list _ => false
  | .tuple ds => flDAll ds
  | .dict _ => false
def flDAll : List PyData → Bool
  | [] => true
  | d :: ds => flD d && flDAll ds
end
section
variable {X : Cx} {pins : List (Addr × Obj)} {σ : L2.St} {H : Hp} {s : Shared}
mutual
theorem rd0 (I : Inv X pins σ H s) : ∀ (d : PyData) (v : V) (u : Value), flD d = true → Rp X.K H d v → RelV v u → Reads s.heap u d []
  | .none, v, u, _, h, r => by rw [rp_none.mp h] at r; cases r; exact Reads.none
  | .bool b, v, u, _, h, r => by rw [rp_bool.mp h] at r; cases r; exact Reads.bool b
  | .int i, v, u, _, h, r => by
    rw [rp_int.mp h] at r
    obtain ⟨t, rfl⟩ := r
    exact Reads.int i t
  | .str x, v, u, _, h, r => by
    rw [rp_str.mp h] at r
    obtain ⟨t, rfl⟩ := r
    exact Reads.str x t
  | .list ds, v, u, n, _, _ => by simp [flD] at n
  | .dict ds, v, u, n, _, _ => by simp [flD] at n
  | .tuple ds, v, u, n, h, r => by
    obtain ⟨a, xs, rfl, h2, h3⟩ := rp_tuple.mp h
    cases r
    obtain ⟨its, rv, ⟨o, ho, hc, n2, hd⟩, _⟩ := I.tuple h2
    exact Reads.tuple ho hc hd (rd0All I ds xs its (by simpa [flD] using n) h3 rv)
theorem rd0All (I : Inv X pins σ H s) : ∀ (ds : List PyData) (vs : List V) (us : List Value), flDAll ds = true → RpAll X.K H ds vs → Vals vs us → ReadsAll s.heap us ds []
  | [], vs, us, _, h, r => by rw [rpa_nil.mp h] at r; cases r; exact ReadsAll.nil
  | d :: ds, vs, us, n, h, r => by
    obtain ⟨x, t, rfl, h1, h2⟩ := rpa_cons.mp h
    simp only [flDAll, Bool.and_eq_true] at n
    cases r with
    | cons r1 r2 => exact ReadsAll.cons (as := []) (bs := []) (rd0 I d x _ n.1 h1 r1) (rd0All I ds t _ n.2 h2 r2)
end
end
abbrev It := List Int × V × PyData
def encI (e : List Int × PyData) : PyData := .tuple [tupI e.1, e.2]
def encE (e : It) : PyData := .tuple [tupI e.1, e.2.2]
def rSortIt (K : PySem.W.Frag) : List V → Hp → VK → Prop := fun vs H Q => ∃ (p a : Addr) (es : List It), vs = [.ref p] ∧ H p = some (DX.itemsO p a) ∧ H a = some (.dT (es.map fun e => (kI e.1, e.2.1))) ∧ es.length ≤ 1000 ∧
  (∀ e ∈ es, Rp K H e.2.2 e.2.1 ∧ flD e.2.2 = true ∧ e.2.2.depth ≤ 10) ∧ PySem.W.AllAlike (es.map encE) ∧
  ∀ (H' : Hp) (l : Addr) (zs : List (Addr × It)), (∀ b o, H b = some o → H' b = some o) → H l = none → H' l = some (.lst (zs.map fun z => V.ref z.1)) → zs.map (·.2) = es.mergeSort (PySem.W.dataLe false encE) →
    (∀ z ∈ zs, H z.1 = none ∧ z.2 ∈ es ∧ ∃ q, H' z.1 = some (.tup [.ref q, z.2.2.1]) ∧ H q = some (.tup ((kI z.2.1).map kV))) → Q (.ref l) H'
theorem each_zip {as : List Addr} {es : List It} (h : as.length = es.length) : PySem.W.EachIs (fun (v : Value) (b : Addr × It) => v = .ref b.1) (as.map Value.ref) (as.zip es) := by
  induction as generalizing es with
  | nil => cases es with | nil => exact .nil | cons _ _ => cases h
  | cons a as ih => cases es with
    | nil => cases h
    | cons e es => exact .cons rfl (ih (by simpa using h))
theorem cr_sortIt {X : Cx} (hc : X.calm = true) (hu : X.A.units + 64 < cLine) : CallR X (.builtin "sorted") (rSortIt X.K) := by
  intro pins s σ H xs us Q I r h
  obtain ⟨p, a, es, rfl, hp, ha, hsz, hv, hal, q⟩ := h
  obtain rfl := Vals.ref1 r
  have view : s.heap.IsItemsView p a := (show ObjOk X.prog X.w H s.heap p (DX.itemsO p a) from I.hok p _ hp).1
  obtain ⟨z, hd, xs', rel, o, en, ep, ho, hx, hdat, hes, his, hn⟩ := dt_of I.hok ha
  have l1 : (es.map fun e => (kI e.1, e.2.1)).length = xs'.length := Paired.length rel
  rw [List.length_map] at l1
  have l2 : en.size = xs'.length := size_of_entries hes
  have hh : X.A.handled = none := I.ok.hd hc
  refine DT.sortedI (es := en) (ep := ep) hh view ⟨o, ho, hx, hdat⟩ (by rw [sizeLine_eq]; omega) fun h' tk as hk hlt hl hG => ?_
  have lak : as.length = es.length := by omega
  have nd : as.Nodup := List.Pairwise.imp (fun h => Nat.ne_of_lt h) hG.rise
  -- what was made of each entry
  have pr : ∀ (j : Nat) (b : Addr) (e : It), as[j]? = some b → es[j]? = some e → ∃ (kq : Addr) (u : Value), H kq = some (.tup ((kI e.1).map kV)) ∧ RelV e.2.1 u ∧ h'.get? b = some { cls := .type "tuple", data := .seq #[Value.ref kq, u] } := by
    intro j b e hj hej
    obtain ⟨ent, he, hg⟩ := hG.pairs j b hj
    rw [entry_at hes j] at he
    cases hxj : xs'[j]? with
    | none => rw [hxj] at he; cases he
    | some x =>
      rw [hxj] at he
      have een := Option.some.inj he
      obtain ⟨e0, he0, r1, r2, r3⟩ := DX.pget rel hxj
      rw [List.getElem?_map, hej] at he0
      cases he0
      refine ⟨x.2.1, x.2.2, r2, r3, ?_⟩
      rw [hg, ← een]
      rfl
  have hob : (h'.push { cls := .type "list", data := .seq (as.map Value.ref).toArray }).get? h'.objs.size = some (seqObj "list" (as.map Value.ref).toArray 0) := Heap.get?_push_size _ rfl
  have kb : ∀ b o, s.heap.get? b = some o → (h'.push { cls := .type "list", data := .seq (as.map Value.ref).toArray }).get? b = some o := fun b o e => Heap.get?_push_of_some _ (hk b o e)
  have ne0 : ∀ b o, h'.get? b = some o → b ≠ h'.objs.size := fun b o e => Nat.ne_of_lt (Heap.lt_size e)
  have ka : ∀ b o, h'.get? b = some o → (h'.push { cls := .type "list", data := .seq (as.map Value.ref).toArray }).get? b = some o := fun b o e => Heap.get?_push_of_some _ e
  generalize h'.push { cls := .type "list", data := .seq (as.map Value.ref).toArray } = h2 at hob kb ka ⊢
  have rdE : ∀ (j : Nat) (b : Addr) (e : It), as[j]? = some b → es[j]? = some e → Reads h2 (.ref b) (encE e) [] := by
    intro j b e hj hej
    obtain ⟨kq, u, hkq, hu', hg⟩ := pr j b e hj hej
    obtain ⟨v1, v2, _⟩ := hv e (List.mem_of_getElem? hej)
    have k1 := tup_reads I hkq
    have e1 : (kI e.1).map keyD = e.1.map PyData.int := by unfold kI; rw [List.map_map]; rfl
    rw [e1] at k1
    have k2 := rd0 I _ _ _ v2 v1 hu'
    exact Reads.tuple (ka _ _ hg) rfl rfl (ReadsAll.cons (as := []) (bs := []) (PyProof.Rows.Reads.keeps (fun b o e => kb b o e) k1) (ReadsAll.cons (as := []) (bs := []) (PyProof.Rows.Reads.keeps (fun b o e => kb b o e) k2) ReadsAll.nil))
  have zipAt : ∀ z ∈ as.zip es, ∃ j : Nat, as[j]? = some z.1 ∧ es[j]? = some z.2 := fun z hz => by
    obtain ⟨j, hj⟩ := List.mem_iff_getElem?.mp hz
    exact ⟨j, List.getElem?_zip_eq_some.mp hj⟩
  have m2 : (as.zip es).map (·.2) = es := List.map_snd_zip (by rw [lak]; exact Nat.le_refl _)
  have encM : (as.zip es).map (fun b => encE b.2) = es.map encE := by
    have := congrArg (List.map encE) m2
    rw [List.map_map] at this
    exact this
  refine PySem.W.list_sort_data (A := X.A.in1) (s := { s with heap := h2, toks := tk }) (bs := as.zip es) (enc := fun b => encE b.2) (R := fun (v : Value) (b : Addr × It) => v = .ref b.1) hob (each_zip lak) ?_ (by rw [encM]; exact hal) (PySem.W.Sortable.tuples fun b => ⟨_, _, rfl⟩) (by rw [List.length_zip, lak, Nat.min_self, sizeLine_eq]; omega) (fun b hb => ?_) fun out hlen hE => ?_
  · exact (PySem.W.each_mem (each_zip lak)).mono fun v b ⟨hvb, hb⟩ => by
      subst hvb
      obtain ⟨j, j1, j2⟩ := zipAt b hb
      exact ⟨[], rdE j _ _ j1 j2, fun z => nomatch z⟩
  · obtain ⟨j, j1, j2⟩ := zipAt b hb
    obtain ⟨_, _, hdp⟩ := hv b.2 (List.mem_of_getElem? j2)
    have : (encE b.2).depth ≤ 12 := by
      unfold encE
      simp only [PyData.depth, PyData.depthAll, tupI, depth_ints]
      omega
    show X.A.units + 1 + 1 + (encE b.2).depth < cLine
    omega
  · show EP X pins σ Q (.ref h'.objs.size) { s with heap := sortedHeap h2 h'.objs.size (as.map Value.ref) out.toArray, toks := tk }
    generalize hzs : (as.zip es).mergeSort (PySem.W.dataLe false fun b => encE b.2) = zs at hE
    have pz : zs.Perm (as.zip es) := by rw [← hzs]; exact List.mergeSort_perm _ _
    have ez : zs.map (·.2) = es.mergeSort (PySem.W.dataLe false encE) := by
      have hm := List.map_mergeSort (r := PySem.W.dataLe false fun b : Addr × It => encE b.2) (s := PySem.W.dataLe false encE) (f := fun b : Addr × It => b.2) (l := as.zip es) (fun a _ b _ => rfl)
      rw [m2] at hm
      rw [← hzs]; exact hm
    have hout : out = zs.map fun z => Value.ref z.1 := by
      clear hlen ez pz hzs
      induction hE with
      | nil => rfl
      | cons h1 h2 ih => rw [h1, ih]; rfl
    have kF : ∀ b o, b ≠ h'.objs.size → h2.get? b = some o → (sortedHeap h2 h'.objs.size (as.map Value.ref) out.toArray).get? b = some o := fun b o hb e => (PyProof.Rows.sortedHeap_old hb (Heap.lt_size e)).trans e
    have kS : ∀ b o, s.heap.get? b = some o → (sortedHeap h2 h'.objs.size (as.map Value.ref) out.toArray).get? b = some o := fun b o e => kF b o (ne0 _ _ (hk b o e)) (kb b o e)
    obtain ⟨eF, heF⟩ := PyProof.Rows.sortedHeap_at (vs := as.map Value.ref) (out := out.toArray) hob
    have I1 : Inv X pins σ H { s with heap := sortedHeap h2 h'.objs.size (as.map Value.ref) out.toArray, toks := tk } := I.kept (t' := tk) kS
    have hn0 : H h'.objs.size = none := I.hok.fresh (Nat.le_of_lt hlt)
    have hzl : zs.length = es.length := by rw [pz.length_eq, List.length_zip, lak, Nat.min_self]
    have rv : Vals (zs.map fun z => V.ref z.1) out := by
      rw [hout]
      exact vals_maps (fun z : Addr × It => V.ref z.1) (fun z => Value.ref z.1) zs fun _ _ => rfl
    have I2 : Inv X pins σ (upd H h'.objs.size (.lst (zs.map fun z => V.ref z.1))) { s with heap := sortedHeap h2 h'.objs.size (as.map Value.ref) out.toArray, toks := tk } :=
      I1.take (h' := sortedHeap h2 h'.objs.size (as.map Value.ref) out.toArray) (t' := tk) (fun b ob _ e => e) (I.fpOk (Nat.le_of_lt hlt) hn0) ⟨by rw [List.length_map, sizeLine_eq]; omega, out, eF, rv, heF⟩
    obtain ⟨H2, I3, g, qt⟩ := DX.takeT (P := fun b vs => ∃ (j : Nat) (e : It) (kq : Addr), as[j]? = some b ∧ es[j]? = some e ∧ vs = [.ref kq, e.2.1] ∧ H kq = some (.tup ((kI e.1).map kV))) I as _ I2 nd fun b hb => by
      obtain ⟨j, hj⟩ := List.mem_iff_getElem?.mp hb
      have hje : j < es.length := by rw [← lak]; exact (List.getElem?_eq_some_iff.mp hj).1
      obtain ⟨kq, u, hkq, hu', hg⟩ := pr j b es[j] hj (List.getElem?_eq_getElem hje)
      have hbl : s.heap.objs.size ≤ b := Nat.le_of_lt (hG.above b hb)
      refine ⟨hbl, ?_, [.ref kq, es[j].2.1], ⟨j, es[j], kq, hj, List.getElem?_eq_getElem hje, rfl, hkq⟩, fun H3 => ⟨(by rw [sizeLine_eq]; show 2 ≤ 16777216; omega), [Value.ref kq, u], .cons rfl (.cons hu' .nil), ⟨_, kF _ _ (ne0 _ _ hg) (ka _ _ hg), rfl, 0, rfl⟩⟩⟩
      rw [upd_ne (ne0 _ _ hg)]
      exact I.hok.fresh hbl
    have gr : ∀ b o, H b = some o → H2 b = some o := fun b o e => g b o (by rw [upd_ne (ne_of_none e hn0)]; exact e)
    refine ⟨.ref h'.objs.size, H2, I3, rfl, q H2 h'.objs.size zs gr hn0 (g _ _ upd_same) ez fun z' hz' => ?_⟩
    obtain ⟨i, i1, i2⟩ := zipAt z' (pz.mem_iff.mp hz')
    obtain ⟨vs, ⟨j, e, kq, j1, j2, ev, hkq⟩, hH⟩ := qt z'.1 (List.mem_of_getElem? i1)
    have eij : i = j := (List.getElem?_inj (List.getElem?_eq_some_iff.mp i1).1 nd).mp (i1.trans j1.symm)
    subst eij
    have ee : e = z'.2 := Option.some.inj (j2.symm.trans i2)
    subst ee
    refine ⟨I.hok.fresh (Nat.le_of_lt (hG.above _ (List.mem_of_getElem? i1))), List.mem_of_getElem? i2, kq, ?_, hkq⟩
    rw [ev] at hH
    exact hH
/-! everything that is known and may not change -/
section
variable {K : PySem.W.Frag} {m : Mm} {H G : Hp}
theorem Sta.all (S : Sta K m H G) : Sta K m H (fun a => if m a = none then H a else none) ∧ Le G (fun a => if m a = none then H a else none) := by
  have hle : Le G (fun a => if m a = none then H a else none) := fun a o h => by
    have hm : m a = none := by
      cases e : m a with
      | none => rfl
      | some u => rw [S.dis a u e] at h; cases h
    show (if m a = none then H a else none) = some o
    rw [if_pos hm]; exact S.sub a o h
  refine ⟨⟨fun a o h => ?_, fun a o h => (S.mem a o h).mono hle rfl, fun a o h => ?_⟩, hle⟩
  · have h : (if m a = none then H a else none) = some o := h
    by_cases hm : m a = none
    · rw [if_pos hm] at h; exact h
    · rw [if_neg hm] at h; cases h
  · show (if m a = none then H a else none) = none
    rw [if_neg (by rw [h]; exact fun z => nomatch z)]
theorem Sta.grow {H' : Hp} (S : Sta K m H G) (h : ∀ b o, H b = some o → H' b = some o) : Sta K m H' G := by
  refine ⟨fun a o e => h a o (S.sub a o e), fun a o e => ?_, S.dis⟩
  obtain ⟨u, hu⟩ := (S.mem a o e).some
  exact (S.mem a o e).mono (Le.refl G) ((h a u hu).trans hu.symm)
theorem Sta.notTup {q : Addr} {xs : List V} (S : Sta K m H G) (h : H q = some (.tup xs)) : m q = none := by
  cases e : m q with
  | none => rfl
  | some o =>
    have := S.mem q o e
    cases o with
    | lst rs => obtain ⟨ys, h1, _⟩ := this; rw [h] at h1; cases h1
    | dT kvs => obtain ⟨ys, h1, _⟩ := this; rw [h] at h1; cases h1
    | dK kvs => obtain ⟨ys, h1, _⟩ := this; rw [h] at h1; cases h1
    | lk od es kvs => have h1 := this.1; rw [h] at h1; cases h1
    | box => obtain ⟨n, h1⟩ := this; rw [h] at h1; cases h1
    | g P => exact absurd h (this.2.2.2 xs)
theorem KVs.its : ∀ {kds : List (List Int × PyData)} {es : List (List Key × V)}, KVs K G (kds.map fun e => (kI e.1, Val.d e.2)) es → ∃ its : List It, es = its.map (fun e => (kI e.1, e.2.1)) ∧ its.map (fun e => (e.1, e.2.2)) = kds ∧ ∀ e ∈ its, Rp K G e.2.2 e.2.1
  | [], es, h => ⟨[], h, rfl, fun _ z => nomatch z⟩
  | e :: kds, es, h => by
    obtain ⟨v, u, rfl, h2, h3⟩ := h
    obtain ⟨its, rfl, e2, e3⟩ := KVs.its h3
    refine ⟨(e.1, v, e.2) :: its, rfl, by rw [List.map_cons, e2], fun x hx => ?_⟩
    rcases List.mem_cons.mp hx with rfl | hx
    · exact h2.rp
    · exact e3 x hx
theorem Le.at {G G' : Hp} (h : Le G G') {a : Addr} {o : HO} (e : G a = some o) : G' a = some o := h a o e
theorem rp_items {G4 : Hp} : ∀ {zs : List (Addr × It)}, (∀ z ∈ zs, Rp K G4 (encE z.2) (.ref z.1)) → RpAll K G4 (zs.map fun z => encE z.2) (zs.map fun z => V.ref z.1)
  | [], _ => rpa_nil.mpr rfl
  | z :: zs, h => rpa_cons.mpr ⟨_, _, rfl, h z List.mem_cons_self, rp_items fun y hy => h y (List.mem_cons_of_mem _ hy)⟩
variable {r : List Val} {Q : Val → Mm → Prop} {te : TE}
theorem ev_sortItems (h : Ev K te r m fun x m1 => ∃ (p : Addr) (kds : List (List Int × PyData)), x = .v (.ref p) ∧ m1 p = some (.dT (kds.map fun e => (kI e.1, Val.d e.2))) ∧ kds.length ≤ 1000 ∧
      (∀ e ∈ kds, flD e.2 = true ∧ e.2.depth ≤ 10) ∧ PySem.W.AllAlike (kds.map encI) ∧ Q (.d (.list ((kds.mergeSort (PySem.W.dataLe false encI)).map encI))) m1) :
    Ev K (tCB (rSortIt K) (tCons (tBM0 K "dict" DX.rItemsT te) tNil)) r m Q := fun σ H G S L R k =>
  h σ H G S L _ fun v H1 G1 x m1 ⟨p, kds, hx, hm, hlen, hfl, hal, q⟩ S1 e1 r1 => by
    subst hx
    obtain rfl := r1.eq
    obtain ⟨es, hes, hk⟩ := S1.mem p _ hm
    obtain ⟨its, rfl, ek, hrp⟩ := hk.its
    refine ⟨.inr (.inr (.inl ⟨rfl, .inr ⟨_, hes⟩⟩)), p, _, rfl, rfl, hes, fun z hz => ?_⟩
    have hzp : p ≠ z := fun e => by rw [e, hz] at hes; cases hes
    have S2 := S1.fix (o := DX.itemsO z p) hz
    have hg := S1.free hz
    have eK : its.map encE = kds.map encI := by rw [← ek, List.map_map]; rfl
    refine ⟨z, p, its, rfl, upd_same, by rw [upd_ne hzp]; exact hes, by have := congrArg List.length ek; rw [List.length_map] at this; omega, fun e he => ?_, by rw [eK]; exact hal, fun H' l zs gr hl hH ez hz' => ?_⟩
    · obtain ⟨f1, f2⟩ := hfl (e.1, e.2.2) (by rw [← ek]; exact List.mem_map.mpr ⟨e, he, rfl⟩)
      exact ⟨Rp.mono S2.sub _ _ (Rp.mono (Le.new hg) _ _ (hrp e he)), f1, f2⟩
    · have S3 := S2.grow gr
      obtain ⟨S4, l4⟩ := S3.all
      have hG4 : ∀ b o, m1 b = none → H' b = some o → (fun a => if m1 a = none then H' a else none) b = some o := fun b o h1 h2 => by
        show (if m1 b = none then H' b else none) = some o
        rw [if_pos h1]; exact h2
      have es2 : (kds.mergeSort (PySem.W.dataLe false encI)).map encI = zs.map fun z => encE z.2 := by
        have hmm := List.map_mergeSort (r := PySem.W.dataLe false encE) (s := PySem.W.dataLe false encI) (f := fun e : It => (e.1, e.2.2)) (l := its) (fun a _ b _ => rfl)
        rw [ek, ← ez] at hmm
        rw [← hmm, List.map_map, List.map_map]; rfl
      rw [es2] at q
      refine k _ H' _ _ m1 q S4 (e1.trans ((Le.new hg).trans l4)) (.d (rp_list.mpr ⟨l, _, rfl, Rd.of (hG4 l _ (S2.freeM hl) hH), rp_items fun y hy => ?_⟩))
      obtain ⟨y1, y2, qq, y3, y4⟩ := hz' y hy
      have hq' := gr _ _ y4
      rw [kI_kV] at hq'
      have mq : m1 qq = none := S2.notTup y4
      have key : Rp K (fun a => if m1 a = none then H' a else none) (tupI y.2.1) (.ref qq) := rp_tuple.mpr ⟨qq, _, rfl, SqT.of (hG4 _ _ mq hq'), rpa_ints _⟩
      exact rp_tuple.mpr ⟨y.1, _, rfl, SqT.of (hG4 _ _ (S2.freeM y1) y3), rpa_cons.mpr ⟨_, _, rfl, key, rpa_cons.mpr ⟨_, _, rfl, Rp.mono ((Le.new hg).trans l4) _ _ (hrp _ y2), rpa_nil.mpr rfl⟩⟩⟩
end
theorem pe_sortItems {X : Cx} {o : Expr} {to : TE} {apos cpos p pos : Pos} {j : Nat} (K : PySem.W.Frag) (hr : Room j X.A) (hg : Gl X "sorted") (hm : X.mg "sorted" = none) (ho : PE X o to) (hK : X.K = K := by rfl) (hc : X.calm = true := by rfl)
    (hbase : attributeBase o "items" X.env (eval o X.env) = eval o X.env := by rfl) (hline : (apos.endLine == cpos.line) = true := by rfl)
    (hs : starEach [Expr.Call (.Attribute o "items" apos) [] [] cpos] X.env = [(false, eval (.Call (.Attribute o "items" apos) [] [] cpos) X.env)] := by rfl) :
    PE X (.Call (.Name "sorted" p) [.Call (.Attribute o "items" apos) [] [] cpos] [] pos) (tCB (rSortIt K) (tCons (tBM0 K "dict" DX.rItemsT to) tNil)) := by
  subst hK
  exact pe_callB (cr_sortIt hc (by have := hr.un; omega)) hg hm (by decide +kernel) (pa_cons (pe_bm0 PySem.F.plainAttrs_dict PySem.F.slot_dict_items PySem.F.type_dict_items DX.mt_itemsT ho hbase hline) pa_nil)
/-! in whatever order they were put in -/
theorem alike_keys (x y : List Int) : PySem.W.alike (tupI x) (tupI y) = true := by
  unfold tupI
  simp only [PySem.W.alike]
  exact PySem.W.alike_ints x y
theorem eqv_keys (x y : List Int) : PyData.eqv (tupI x) (tupI y) = decide (x = y) := by
  rw [← eqvAll_ints]; simp only [PyData.eqv, tupI]
theorem lt_keys (x y : List Int) : PySem.W.dataLt (tupI x) (tupI y) = decide (x < y) := by
  unfold tupI
  rw [PySem.W.dataLt_tuple]
  exact PySem.W.dataLt_ints x y
theorem sort_perm {l l' : List (List Int × PyData)} (hp : l.Perm l') (hn : (l.map (·.1)).Nodup) (hv : ∀ e ∈ l, ∀ e' ∈ l, PySem.W.alike e.2 e'.2 = true) : l.mergeSort (PySem.W.dataLe false encI) = l'.mergeSort (PySem.W.dataLe false encI) := by
  have T := PySem.W.sortLe_total (PyProof.Rows.listOrd itemOrd) false fun b : List Int × PyData => PySem.W.keyToks (encI b)
  have p1 := List.mergeSort_perm l (PySem.W.dataLe false encI)
  have p2 := List.mergeSort_perm l' (PySem.W.dataLe false encI)
  have s1 := List.pairwise_mergeSort (le := PySem.W.dataLe false encI) T.trans (fun a b => by rw [Bool.or_eq_true]; exact T.total a b) l
  have s2 := List.pairwise_mergeSort (le := PySem.W.dataLe false encI) T.trans (fun a b => by rw [Bool.or_eq_true]; exact T.total a b) l'
  refine List.Perm.eq_of_pairwise (le := fun a b => PySem.W.dataLe false encI a b = true) (fun a b ha hb h1 h2 => ?_) s1 s2 (p1.trans (hp.trans p2.symm))
  have ha : a ∈ l := p1.mem_iff.mp ha
  have hb : b ∈ l := hp.mem_iff.mpr (p2.mem_iff.mp hb)
  have g1 : PySem.W.dataLt (encI b) (encI a) = false := by simpa [PySem.W.dataLe_eq] using h1
  have g2 : PySem.W.dataLt (encI a) (encI b) = false := by simpa [PySem.W.dataLe_eq] using h2
  have ek : a.1 = b.1 := by
    unfold encI at g1 g2
    rw [PySem.W.dataLt_pair (alike_keys _ _) (hv _ hb _ ha), eqv_keys, lt_keys] at g1
    rw [PySem.W.dataLt_pair (alike_keys _ _) (hv _ ha _ hb), eqv_keys, lt_keys] at g2
    by_cases h : a.1 = b.1
    · exact h
    · have h' : ¬ b.1 = a.1 := fun e => h e.symm
      rw [decide_eq_false h', if_neg (by decide)] at g1
      rw [decide_eq_false h, if_neg (by decide)] at g2
      have g1 := of_decide_eq_false g1
      have g2 := of_decide_eq_false g2
      exact absurd (List.le_antisymm (List.not_lt.mp g1) (List.not_lt.mp g2)) h
  have inj : ∀ {l : List (List Int × PyData)}, (l.map (·.1)).Nodup → ∀ {x y : List Int × PyData}, x ∈ l → y ∈ l → x.1 = y.1 → x = y := by
    intro l
    induction l with
    | nil => intro _ x y hx; cases hx
    | cons z t ih =>
      intro hn x y hx hy e
      rw [List.map_cons, List.nodup_cons] at hn
      rcases List.mem_cons.mp hx with e1 | h1
      · rcases List.mem_cons.mp hy with e2 | h2
        · rw [e1, e2]
        · exact absurd (show z.1 ∈ t.map (·.1) from List.mem_map.mpr ⟨y, h2, by rw [← e, e1]⟩) hn.1
      · rcases List.mem_cons.mp hy with e2 | h2
        · exact absurd (show z.1 ∈ t.map (·.1) from List.mem_map.mpr ⟨x, h1, by rw [e, e2]⟩) hn.1
        · exact ih hn.2 h1 h2 e
  exact inj hn ha hb ek
/-! d.clear() -/
def rClearT : V → List V → Hp → VK → Prop := fun x vs H Q => ∃ (a : Addr) (kvs : List (List Key × V)), x = .ref a ∧ vs = [] ∧ H a = some (.dT kvs) ∧ Q .non (upd H a (.dT []))
theorem meets_clearT {prog : Program} {w : World} (d : Addr) : MeetsIn prog w (Builtin.«dict.clear» ⟨[.ref d], []⟩) (fun _ R s => ∃ (xs : List (List Key × Addr × Value)), s.heap.DictOfH (tupleKind (mixKind prog w)) d xs ∧ xs.length ≤ sizeLine ∧
    ∀ h', h'.DictOfH (tupleKind (mixKind prog w)) d [] → Heap.SameBut d s.heap h' → R (.ok (.ret .none)) { s with heap := h' }) := by
  refine .of_wp ?_
  rintro A R s ⟨xs, hm, hsz, h⟩
  obtain ⟨o, es, ep, ho, hc, hdat, hes, his, hn⟩ := id hm
  have hz : es.size ≤ sizeLine := by rw [size_of_entries hes]; exact hsz
  unfold Builtin.«dict.clear» Builtin.Dict.noArgs
  refine wpAny_bind (wpAny_bind (wpAny_notOrdered_dict hm.typeIs ?_))
  show wpAny _ _ (pure d) _ _ s
  refine wpAny_pure (wpAny_bind (wpAny_dictEntries ho hdat (wpAny_bind ?_)))
  unfold bearsInstanceDictMark
  refine wpAny_bind (wpAny_load ho (wpAny_pure (wpAny_bind (wpAny_updateDictKeys (hz := hz) ho hdat ?_))))
  have hnew : (s.heap.update d (Obj.mapDictKeys fun _ => #[])).DictOfH (tupleKind (mixKind prog w)) d [] :=
    ⟨_, _, ep + 1, Heap.get?_update_self _ ho (Obj.isFreed_of_dict (Obj.data_mapDictKeys hdat _)), hc.mapDictKeys _, Obj.data_mapDictKeys hdat _, rfl, (fun _ z => nomatch z), List.nodup_nil⟩
  have hR := h _ hnew (Heap.SameBut.update ..)
  split
  · exact wpAny_bind (wpAny_letGo (wpAny_pure ⟨.none, rfl, hR⟩))
  · exact wpAny_bind (wpAny_pure (wpAny_pure ⟨.none, rfl, hR⟩))
theorem mt_clearT {X : Cx} : MtR X "dict.clear" rClearT := by
  intro pins s σ H x vs v us Q I rx rv h
  obtain ⟨a, kvs, rfl, rfl, e, q⟩ := h
  obtain rfl : v = Value.ref a := rx
  have hus := rv.zero
  subst hus
  obtain ⟨z, hd, xs, rel, dd⟩ := dt_of I.hok e
  refine call_meetsIn PySem.F.slot_dict_clear dd.typeIs PySem.F.entry_dict_clear (PySem.F.args_dict_clear_1 _) (meets_clearT a) ⟨xs, dd, by rw [← Paired.length rel]; exact z, fun h' dd' hs => ?_⟩
  obtain ⟨o, es, ep, g1, g2, g3, g4, g5, g6⟩ := dd'
  exact ⟨.non, _, d_write (ob := .dT []) (t' := s.toks) I (by rw [e]; exact True.intro) hs ⟨o, g1⟩ ⟨Nat.zero_le _, hd, [], Paired.nil, o, es, ep, g1, g2, g3, g4, g6⟩, rfl, q⟩
theorem pe_clearT {X : Cx} {o : Expr} {to : TE} {apos cpos : Pos} (K : PySem.W.Frag) (ho : PE X o to) (hK : X.K = K := by rfl) (hbase : attributeBase o "clear" X.env (eval o X.env) = eval o X.env := by rfl) (hline : (apos.endLine == cpos.line) = true := by rfl) : PE X (.Call (.Attribute o "clear" apos) [] [] cpos) (tBM0 K "dict" rClearT to) := by
  subst hK
  exact pe_bm0 PySem.F.plainAttrs_dict PySem.F.slot_dict_clear PySem.F.type_dict_clear mt_clearT ho hbase hline
section
variable {K : PySem.W.Frag} {m : Mm} {r : List Val} {Q : Val → Mm → Prop} {te : TE}
theorem ev_clearT (h : Ev K te r m fun x m1 => ∃ (p : Addr) (kvs : List (List Key × Val)), x = .v (.ref p) ∧ m1 p = some (.dT kvs) ∧ Q (.d .none) (put m1 p (.dT []))) : Ev K (tBM0 K "dict" rClearT te) r m Q := fun σ H G S L R k =>
  h σ H G S L _ fun v H1 G1 x m1 ⟨p, kvs, hx, hm, q⟩ S1 e1 r1 => by
    subst hx
    obtain rfl := r1.eq
    obtain ⟨es, hes, hk⟩ := S1.mem p _ hm
    exact ⟨.inr (.inr (.inl ⟨rfl, .inr ⟨_, hes⟩⟩)), p, _, rfl, rfl, hes, k _ _ G1 _ _ q (S1.chg hm ⟨[], upd_same, rfl⟩) e1 vr_none⟩
end
/-! the numbers of a paper, as pairs -/
def prsQ (f : List Nat → Rat) (l : List (List Nat)) : List (List Int × PyData) := l.map fun s => (kn s, frac (f s))
theorem tabT_prs (f : List Nat → Rat) (l : List (List Nat)) : tabT f l = (prsQ f l).map fun e => (kI e.1, Val.d e.2) := by
  unfold tabT prsQ; rw [List.map_map]; rfl
theorem alike_frac (p q : Rat) : PySem.W.alike (frac p) (frac q) = true := by
  unfold frac; simp [PySem.W.alike, PySem.W.alikeAll]
theorem prs_alike (f : List Nat → Rat) (l : List (List Nat)) : PySem.W.AllAlike ((prsQ f l).map encI) := by
  intro d hd d' hd'
  obtain ⟨e, he, rfl⟩ := List.mem_map.mp hd
  obtain ⟨e', he', rfl⟩ := List.mem_map.mp hd'
  obtain ⟨s, _, rfl⟩ := List.mem_map.mp he
  obtain ⟨s', _, rfl⟩ := List.mem_map.mp he'
  show PySem.W.alike (.tuple [tupI (kn s), frac (f s)]) (.tuple [tupI (kn s'), frac (f s')]) = true
  simp only [PySem.W.alike, PySem.W.alikeAll, alike_keys, alike_frac, Bool.and_self]
theorem prs_flat (f : List Nat → Rat) (l : List (List Nat)) : ∀ e ∈ prsQ f l, flD e.2 = true ∧ e.2.depth ≤ 10 := fun e he => by
  obtain ⟨s, _, rfl⟩ := List.mem_map.mp he
  exact ⟨by unfold frac; simp [flD, flDAll], by rw [depth_frac]; decide⟩
theorem prs_sort {f : List Nat → Rat} {l l' : List (List Nat)} (h : l.Perm l') (hn : l.Nodup) : (prsQ f l).mergeSort (PySem.W.dataLe false encI) = (prsQ f l').mergeSort (PySem.W.dataLe false encI) := by
  refine sort_perm (h.map _) ?_ fun e he e' he' => ?_
  · unfold prsQ
    rw [List.map_map]
    exact hn.map _ fun a b ne e => ne (kn_inj e)
  · obtain ⟨s, _, rfl⟩ := List.mem_map.mp he
    obtain ⟨s', _, rfl⟩ := List.mem_map.mp he'
    exact alike_frac _ _
theorem sh_prs {f : List Nat → Rat} {l : List (List Nat)} (hl : l.length ≤ 40) (h : ∀ s ∈ l, s.length ≤ 5 ∧ (∀ k ∈ s, k ≤ 10) ∧ FrB (f s) 1300) : Sh (.list (((prsQ f l).mergeSort (PySem.W.dataLe false encI)).map encI)) 3 400000 := by
  have h1 : ∀ d ∈ ((prsQ f l).mergeSort (PySem.W.dataLe false encI)).map encI, Sh d 2 8007 := fun d hd => by
    obtain ⟨e, he, rfl⟩ := List.mem_map.mp hd
    obtain ⟨s, hs, rfl⟩ := List.mem_map.mp ((List.mergeSort_perm _ _).mem_iff.mp he)
    obtain ⟨g1, g2, g3⟩ := h s hs
    have t1 : Sh (tupI (kn s)) 1 4000 := by
      have : Sh (.tuple ((kn s).map PyData.int)) 1 38 := sh_tuple (k := 0) (n := 5) (c := 5) (fun d hd => by
        obtain ⟨i, hi, rfl⟩ := List.mem_map.mp hd
        obtain ⟨k, hk, rfl⟩ := List.mem_map.mp hi
        have := g2 k hk
        exact sh_int (a := 4) (by show _ < 16; omega) (by decide) (by decide)) (by unfold kn; rw [List.length_map, List.length_map]; exact g1)
      exact this.mono (Nat.le_refl _) (by decide)
    have t2 : Sh (frac (f s)) 1 4000 := sh_frac (g3.mono (show 1300 ≤ 1900 by decide)) (by decide) (by decide)
    exact sh_tuple (k := 1) (n := 4000) (c := 2) (fun d hd => by
      rcases List.mem_cons.mp hd with rfl | hd
      · exact t1
      · rw [List.mem_singleton.mp hd]; exact t2) (Nat.le_refl 2)
  exact (sh_list (c := 40) h1 (by rw [List.length_map, List.length_mergeSort]; unfold prsQ; rw [List.length_map]; exact hl)).mono (Nat.le_refl _) (by decide)
end DL

/-! k01: shares and fractions known among all sorts of things -/
namespace DL
open PySem L2 PySem.Spec PyProof.Rows

/-! == of lists of unlike length -/
def rEqLen (K : PySem.W.Frag) : R2 := fun x y H Q => ∃ (a b : Addr) (xs ys : List V), x = .ref a ∧ y = .ref b ∧ SqL K H a xs ∧ SqL K H b ys ∧ xs.length ≠ ys.length ∧ Q (.bl false) H
theorem op_eqLen {X : Cx} (hu : X.A.units + 64 < cLine) : OpR X (compareOp .Eq) (rEqLen X.K) := by
  intro pins s σ H x y v u Q I rx ry h
  obtain ⟨a, b, xs, ys, rfl, rfl, h1, h2, hn, q⟩ := h
  cases rx
  cases ry
  obtain ⟨i1, r1, l1, _⟩ := I.list h1
  obtain ⟨i2, r2, l2, _⟩ := I.list h2
  refine SeqAt.eq_list_lengthsAt l1.isList l2.isList ?_ (by omega) ⟨.bl false, H, I, rfl, q⟩
  have e1 := r1.length
  have e2 := r2.length
  simp only [List.size_toArray, bne_iff_ne]
  omega
def rEqL (K : PySem.W.Frag) : R2 := fun x y H Q => rEqA K x y H Q ∨ rEqLen K x y H Q
theorem kEqL (K : PySem.W.Frag) {X : Cx} {j : Nat} (hr : Room j X.A) (h : X.K = K := by rfl) : OpR X (compareOp .Eq) (rEqL K) := h ▸ ((oEq hr).or (op_eqLen hr.units))
section
variable {K : PySem.W.Frag} {r : List Val} {m : Mm} {Q : Val → Mm → Prop}
theorem o2_eqNilL {ds : List PyData} (q : Q (.d (.bool (decide (ds = [])))) m) : Op2 K (rEqL K) (.d (.list ds)) (.d (.list [])) m Q := by
  by_cases h : ds = []
  · subst h
    intro H G v w S a b R k
    exact Or.inl (o2_eq (by decide +kernel) (by decide +kernel) (by rw [show PyData.eqv (.list []) (.list []) = true by decide +kernel]; rw [decide_eq_true rfl] at q; exact q) H G v w S a b R k)
  · intro H G v w S a b R k
    rw [decide_eq_false h] at q
    obtain ⟨p, xs, rfl, h2, h3⟩ := rp_list.mp a.rp
    obtain ⟨p', ys, rfl, h4, h5⟩ := rp_list.mp b.rp
    refine Or.inr ⟨p, p', xs, ys, rfl, rfl, Or.inl (Le.rd S.sub h2), Or.inl (Le.rd S.sub h4), ?_, k _ H G _ m q S (Le.refl G) vr_bool⟩
    rw [h3.length, h5.length]
    intro e
    exact h (List.length_eq_zero_iff.mp e)
theorem o2_eqL {x y : Val} (h : Op2 K (rEqA K) x y m Q) : Op2 K (rEqL K) x y m Q := fun H G v w S a b R k => Or.inl (h H G v w S a b R k)
/-- {'a': 1} -/
theorem ev_dispS {k : Str} {i : Int} (q : Q (.d (.dict [(.str k, .int i)])) m) : Ev K (tDisp [(tC (.str k), tC (.int i))]) r m Q := fun σ H G S L R kk p hp => by
  have hg := S.free hp
  refine ⟨upd_same, [(.inr k, .int i)], rfl, by show 1 ≤ 15; decide, ?_⟩
  rw [upd_upd]
  refine kk _ _ (upd G p (.dK [(.inr k, .int i)])) _ m q (S.fix hp) (Le.new hg) (.d ?_)
  rw [Rp]
  refine ⟨p, rfl, Or.inr ⟨_, upd_same, ?_⟩⟩
  rw [RpK]
  refine ⟨.inr k, .int i, [], rfl, rfl, by rw [Rp], ?_⟩
  rw [RpK]
end
/-! what may be shown -/
theorem sh_strI {i : Int} (h : Bt i 110) : Sh (.str (toString i)) 0 1300 := by
  have hl := (sh_int (a := 110) h (by decide) (by decide)).ln
  simp only [PyData.shown] at hl
  refine ⟨by simp [PyData.hasDict], by simp [PyData.depth], by simp [PyData.showable], ?_⟩
  simp only [PyData.shown]
  refine Nat.le_trans (PySem.StrLaws.reprText_len _ fun c hc => ?_) (by omega)
  rw [Str.ofString_eq_toList] at hc
  have : c ∈ ((toString i).toList.map Char.toNat) := by simpa using hc
  obtain ⟨ch, _, rfl⟩ := List.mem_map.mp this
  have := ch.valid
  have : ch.toNat < 0x110000 := by
    have h := ch.valid
    simp only [UInt32.isValidChar, Nat.isValidChar] at h
    show ch.val.toNat < _
    omega
  exact Nat.lt_of_lt_of_le this (by decide)
theorem shd_strI {i : Int} (h : Bt i 110) : ShD (.str (toString i)) 0 1300 := by
  have := sh_strI h
  exact ⟨by simp [noL], this.dp, this.sh, this.ln⟩
def secSm' : List PyData → Bool
  | [.int _, .int b] => decide (b.natAbs < 2 ^ 110)
  | _ => true
def TOk (x : PyData) : Prop := ShOk x ∧ szFrac x
def BiOk (d : PyData) : Prop := Sh d 3 2000 ∧ ShD d 3 2000
theorem bi_int {i : Int} (h : Bt i 200) : BiOk (.int i) := by
  have s := (sh_int (a := 200) h (by decide) (by decide)).mono (show 0 ≤ 3 by decide) (show 200 + 1 ≤ 2000 by decide)
  exact ⟨s, by simp only [noL], s.dp, s.sh, s.ln⟩
theorem bi_strI {i : Int} (h : Bt i 110) : BiOk (.str (toString i)) := by
  have s := (sh_strI h).mono (show 0 ≤ 3 by decide) (show 1300 ≤ 2000 by decide)
  exact ⟨s, by simp only [noL], s.dp, s.sh, s.ln⟩
theorem bi_bool (b : Bool) : BiOk (.bool b) := by
  have s := (sh_bool b).mono (show 0 ≤ 3 by decide) (show 5 ≤ 2000 by decide)
  exact ⟨s, by simp only [noL], s.dp, s.sh, s.ln⟩
theorem bi_none : BiOk .none := by
  have s := sh_none.mono (show 0 ≤ 3 by decide) (show 4 ≤ 2000 by decide)
  exact ⟨s, by simp only [noL], s.dp, s.sh, s.ln⟩
theorem shOk_tupS {ds : List PyData} (h : ∀ d ∈ ds, Sh d 3 2000) (hl : ds.length ≤ 40) : ShOk (.tuple ds) := Or.inl ⟨_, _, sh_tuple h hl, by decide, by decide⟩
theorem shOk_lstS {ds : List PyData} (h : ∀ d ∈ ds, Sh d 3 2000) (hl : ds.length ≤ 40) : ShOk (.list ds) := Or.inl ⟨_, _, sh_list h hl, by decide, by decide⟩
theorem shOk_tupT {ds : List PyData} (h : ∀ d ∈ ds, ShD d 3 2000) (hl : ds.length ≤ 40) : ShOk (.tuple ds) := Or.inr ⟨Or.inl ⟨_, rfl⟩, by
  obtain ⟨h1, h2, h3, h4⟩ := shd_tuple h hl
  exact ⟨h1, Nat.le_trans h2 (by decide), h3, Nat.le_trans h4 (by decide)⟩⟩
theorem sz_tuple {ds : List PyData} (h : ∀ i : Int, PyData.int i ∈ ds → Bt i 8000) : szFrac (.tuple ds) := by
  match ds, h with
  | [.int _, .int b], h => exact h b (by simp)
  | [], _ => simp [szFrac]
  | [_], _ => simp [szFrac]
  | [.none, _], _ => simp [szFrac]
  | [.bool _, _], _ => simp [szFrac]
  | [.str _, _], _ => simp [szFrac]
  | [.list _, _], _ => simp [szFrac]
  | [.tuple _, _], _ => simp [szFrac]
  | [.dict _, _], _ => simp [szFrac]
  | [.int _, .none], _ => simp [szFrac]
  | [.int _, .bool _], _ => simp [szFrac]
  | [.int _, .str _], _ => simp [szFrac]
  | [.int _, .list _], _ => simp [szFrac]
  | [.int _, .tuple _], _ => simp [szFrac]
  | [.int _, .dict _], _ => simp [szFrac]
  | _ :: _ :: _ :: _, _ => simp [szFrac]
theorem sz_second {ds : List PyData} (h : secSm' ds = true) : szFrac (.tuple ds) := by
  match ds, h with
  | [.int _, .int b], h => exact Bt.mono (a := 110) (show b.natAbs < 2 ^ 110 from of_decide_eq_true h) (by decide)
  | [], _ => simp [szFrac]
  | [_], _ => simp [szFrac]
  | [.none, _], _ => simp [szFrac]
  | [.bool _, _], _ => simp [szFrac]
  | [.str _, _], _ => simp [szFrac]
  | [.list _, _], _ => simp [szFrac]
  | [.tuple _, _], _ => simp [szFrac]
  | [.dict _, _], _ => simp [szFrac]
  | [.int _, .none], _ => simp [szFrac]
  | [.int _, .bool _], _ => simp [szFrac]
  | [.int _, .str _], _ => simp [szFrac]
  | [.int _, .list _], _ => simp [szFrac]
  | [.int _, .tuple _], _ => simp [szFrac]
  | [.int _, .dict _], _ => simp [szFrac]
  | _ :: _ :: _ :: _, _ => simp [szFrac]
def oddA : List PyData := [.none, .bool true, .bool false, .int (-1), .int 0, .int 1, .str "", .str "1", .tuple [], .list [], .tuple [.int 0], .list [.int 1], .tuple [.int 0, .int 1], .dict [(.str "a", .int 1)], .dict [], .int ((10 : Int) ^ 29), .tuple [.int 1, .int 2], .tuple [.int 2, .int 4]]
def oddB : List PyData := [.tuple [.tuple [.int 1, .int 2]], .tuple [.int 1, .int 0], .tuple [.int 3, .int (-1)], .tuple [.bool true, .int 1], .tuple [.int 1, .int 2, .int 3], .tuple [.list [.int 1]]]
def oddL : List PyData := oddA ++ oddB
def tupDict : PyData → Bool
  | .tuple _ => true
  | .dict _ => true
  | _ => false
def intSm : PyData → Bool
  | .int i => decide (i.natAbs < 2 ^ 110)
  | _ => true
def secSm : PyData → Bool
  | .tuple ds => secSm' ds
  | _ => true
theorem odd_chk : ∀ o ∈ oddL, ((!o.hasDict || (noL o && tupDict o)) && (decide (o.depth ≤ 3) && (o.showable && (decide (o.shown.length ≤ 100) && (intSm o && secSm o))))) = true := by decide +kernel
theorem odd_facts {o : PyData} (h : o ∈ oddL) : (Sh o 3 2000 ∨ ShD o 3 2000) ∧ TOk o ∧ ∀ i, o = .int i → Bt i 110 := by
  have := odd_chk o h
  simp only [Bool.and_eq_true, Bool.or_eq_true, decide_eq_true_eq, Bool.not_eq_true'] at this
  obtain ⟨h1, h2, h3, h4, h5, h6⟩ := this
  have hsz : szFrac o := by
    match o, h6 with
    | .tuple ds, h6 =>
      refine sz_second ?_
      exact h6
    | .none, _ => simp [szFrac]
    | .bool _, _ => simp [szFrac]
    | .int _, _ => simp [szFrac]
    | .str _, _ => simp [szFrac]
    | .list _, _ => simp [szFrac]
    | .dict _, _ => simp [szFrac]
  refine ⟨?_, ⟨?_, hsz⟩, fun i e => ?_⟩
  · rcases h1 with h1 | ⟨h1, _⟩
    · exact Or.inl ⟨h1, h2, h3, Nat.le_trans h4 (by decide)⟩
    · exact Or.inr ⟨h1, h2, h3, Nat.le_trans h4 (by decide)⟩
  · rcases h1 with h1 | ⟨h1, h0⟩
    · exact Or.inl ⟨3, 100, ⟨h1, h2, h3, h4⟩, by decide, by decide⟩
    · refine Or.inr ⟨?_, h1, Nat.le_trans h2 (by decide), h3, Nat.le_trans h4 (by decide)⟩
      match o, h0 with
      | .tuple ds, _ => exact Or.inl ⟨ds, rfl⟩
      | .dict kvs, _ => exact Or.inr ⟨kvs, rfl⟩
  · subst e
    have h5 : i.natAbs < 2 ^ 110 := by simpa [intSm] using h5
    exact h5
def f_odd : FSp := fun args m R => ∃ p : Addr, args = [.v (.ref p)] ∧ m p = some .box ∧ ∀ o ∈ oddL, R (.d o) m
def f_bent01 : FSp := fun args m R => ∃ (p : Addr) (row : List Int) (o : PyData), args = [.v (.ref p), .d (tupI row), .d o] ∧ m p = some .box ∧ 0 < row.length ∧ row.length ≤ 5 ∧ (∀ i ∈ row, Bt i 108) ∧ o ∈ oddL ∧ ∀ x, TOk x → R (.d x) m
theorem filter_nil_all {ds : List PyData} : decide ((ds.filter fun d => !okS d) = []) = ds.all okS := by
  rw [Bool.eq_iff_iff, decide_eq_true_eq, List.filter_eq_nil_iff, List.all_eq_true]
  exact ⟨fun h d hd => by simpa using h d hd, fun h d hd => by simpa using h d hd⟩
theorem tok_ints {is : List Int} (h : ∀ i ∈ is, Bt i 200) (hl : is.length ≤ 40) : TOk (tupI is) := by
  refine ⟨shOk_tupS (fun d hd => ?_) (by rw [List.length_map]; exact hl), sz_tuple fun i hi => ?_⟩
  · obtain ⟨i, hi, rfl⟩ := List.mem_map.mp hd
    exact (bi_int (h i hi)).1
  · obtain ⟨j, hj, e⟩ := List.mem_map.mp hi
    have e : j = i := by injection e
    subst e
    exact (h j hj).mono (by decide)
theorem tok_lst {is : List Int} (h : ∀ i ∈ is, Bt i 200) (hl : is.length ≤ 40) : TOk (.list (is.map PyData.int)) := by
  refine ⟨shOk_lstS (fun d hd => ?_) (by rw [List.length_map]; exact hl), by simp [szFrac]⟩
  obtain ⟨i, hi, rfl⟩ := List.mem_map.mp hd
  exact (bi_int (h i hi)).1
/-- ints, something between -/
theorem tok_mid {a b : List Int} {ns : List PyData} (ha : ∀ i ∈ a, Bt i 200) (hb : ∀ i ∈ b, Bt i 200) (hn : (∀ d ∈ ns, Sh d 3 2000) ∨ ∀ d ∈ ns, ShD d 3 2000) (hi : ∀ i : Int, PyData.int i ∈ ns → Bt i 200) (hl : a.length + ns.length + b.length ≤ 40) :
    TOk (.tuple (a.map PyData.int ++ ns ++ b.map PyData.int)) := by
  have hlen : (a.map PyData.int ++ ns ++ b.map PyData.int).length ≤ 40 := by simp only [List.length_append, List.length_map]; omega
  refine ⟨?_, sz_tuple fun i hi' => ?_⟩
  · rcases hn with hn | hn
    · refine shOk_tupS (fun d hd => ?_) hlen
      rcases List.mem_append.mp hd with hd | hd
      · rcases List.mem_append.mp hd with hd | hd
        · obtain ⟨i, hi, rfl⟩ := List.mem_map.mp hd
          exact (bi_int (ha i hi)).1
        · exact hn d hd
      · obtain ⟨i, hi, rfl⟩ := List.mem_map.mp hd
        exact (bi_int (hb i hi)).1
    · refine shOk_tupT (fun d hd => ?_) hlen
      rcases List.mem_append.mp hd with hd | hd
      · rcases List.mem_append.mp hd with hd | hd
        · obtain ⟨i, hi, rfl⟩ := List.mem_map.mp hd
          exact (bi_int (ha i hi)).2
        · exact hn d hd
      · obtain ⟨i, hi, rfl⟩ := List.mem_map.mp hd
        exact (bi_int (hb i hi)).2
  · rcases List.mem_append.mp hi' with hd | hd
    · rcases List.mem_append.mp hd with hd | hd
      · obtain ⟨j, hj, e⟩ := List.mem_map.mp hd
        have e : j = i := by injection e
        subst e
        exact (ha j hj).mono (by decide)
      · exact (hi i hd).mono (by decide)
    · obtain ⟨j, hj, e⟩ := List.mem_map.mp hd
      have e : j = i := by injection e
      subst e
      exact (hb j hj).mono (by decide)
theorem sh_lst1 {i : Int} (h : Bt i 110) : Sh (.list [.int i]) 3 2000 := (sh_list (k := 0) (n := 111) (c := 1) (ds := [.int i]) (fun d hd => by rw [List.mem_singleton.mp hd]; exact sh_int (a := 110) h (by decide) (by decide)) (Nat.le_refl 1)).mono (by decide) (by decide)
def newsL (one : Int) (o : PyData) : List PyData := [.tuple [], .tuple [.int one, .int one], .tuple [.int 0], .tuple [.int 10], .tuple [.int (0 - one)], .tuple [.bool (decide (one = 1))], .tuple [.str (toString one)], .tuple [o], .tuple [.list [.int one]], .tuple [.int (one + 1)], .tuple [.none]]
theorem news_ok {one : Int} {o : PyData} (h : Bt one 108) (ho : o ∈ oddL) {x : PyData} (hx : x ∈ newsL one o) : ∃ ns, x = .tuple ns ∧ ns.length ≤ 2 ∧ ((∀ d ∈ ns, Sh d 3 2000) ∨ ∀ d ∈ ns, ShD d 3 2000) ∧ ∀ i : Int, PyData.int i ∈ ns → Bt i 200 := by
  obtain ⟨h1, _, h3⟩ := odd_facts ho
  have hone : Bt one 200 := h.mono (by decide)
  have hneg : Bt (0 - one) 200 := by
    have := h.neg
    rw [show -one = 0 - one by omega] at this
    exact this.mono (by decide)
  have hsuc : Bt (one + 1) 200 := (h.add (bt_lit (i := 1) (n := 1) (a := 108) (by decide) (by decide)) (Nat.le_refl _) (by decide)).mono (by decide)
  have one1 : ∀ {d : PyData}, (Sh d 3 2000 ∨ ShD d 3 2000) → (∀ i, d = .int i → Bt i 200) → ∃ ns, PyData.tuple [d] = .tuple ns ∧ ns.length ≤ 2 ∧ ((∀ d ∈ ns, Sh d 3 2000) ∨ ∀ d ∈ ns, ShD d 3 2000) ∧ ∀ i : Int, PyData.int i ∈ ns → Bt i 200 := fun {d} hd hi => by
    refine ⟨[d], rfl, by show 1 ≤ 2; decide, ?_, fun i hm => hi i (List.mem_singleton.mp hm).symm⟩
    rcases hd with hd | hd
    · exact Or.inl fun e he => by rw [List.mem_singleton.mp he]; exact hd
    · exact Or.inr fun e he => by rw [List.mem_singleton.mp he]; exact hd
  simp only [newsL, List.mem_cons, List.not_mem_nil, or_false] at hx
  rcases hx with rfl | rfl | rfl | rfl | rfl | rfl | rfl | rfl | rfl | rfl | rfl
  · exact ⟨[], rfl, by decide, Or.inl (fun _ z => by cases z), (fun _ z => by cases z)⟩
  · refine ⟨_, rfl, by show 2 ≤ 2; decide, Or.inl fun d hd => ?_, fun i hi => ?_⟩
    · simp only [List.mem_cons, List.not_mem_nil, or_false, or_self] at hd
      rw [hd]; exact (bi_int hone).1
    · simp only [List.mem_cons, List.not_mem_nil, or_false, or_self, PyData.int.injEq] at hi
      rw [hi]; exact hone
  · exact one1 (Or.inl (bi_int (bt_lit (n := 1) (by decide) (by decide))).1) fun i e => by cases e; exact bt_lit (n := 1) (by decide) (by decide)
  · exact one1 (Or.inl (bi_int (bt_lit (n := 4) (by decide) (by decide))).1) fun i e => by cases e; exact bt_lit (n := 4) (by decide) (by decide)
  · exact one1 (Or.inl (bi_int hneg).1) fun i e => by cases e; exact hneg
  · exact one1 (Or.inl (bi_bool _).1) fun i e => nomatch e
  · exact one1 (Or.inl (bi_strI (h.mono (by decide))).1) fun i e => nomatch e
  · exact one1 h1 fun i e => (h3 i e).mono (by decide)
  · exact one1 (Or.inl (sh_lst1 (h.mono (by decide)))) fun i e => nomatch e
  · exact one1 (Or.inl (bi_int hsuc).1) fun i e => by cases e; exact hsuc
  · exact one1 (Or.inl bi_none.1) fun i e => nomatch e
end DL

/-! so many of each: defs that call themselves, needs, the mean by what is still needed -/
namespace DL
open PySem L2

section
variable {P : Program} {w : World} {K : PySem.W.Frag} {mg : Str → Option Value} {base : Heap}
/-- a word that asks what never is -/
theorem cl_zero {k : Nat} {x qual : Str} {st : Stmt} {f : Addr} {fd : FuncData} {ps : List Str} {sp : FSp} (F : Fun K x qual st f fd) (h : ∀ args m R, ¬ sp args m R) (hm : mg x = some (.ref f)) (hb : Binds K fd ps []) : Cl P w K mg base k x sp :=
  ⟨f, fd, ps, ⟨fun vs H Q E ⟨m, G, args, R, _, _, hf, _⟩ => (h _ _ _ hf).elim, fun A outer s H args us vs Q E _ _ _ _ ⟨m, G, as, R, _, _, hf, _⟩ => (h _ _ _ hf).elim⟩, hm, F.kp, hb⟩
end
/-! slices of tuples of ints -/
section
variable {K : PySem.W.Frag} {r : List Val} {m : Mm} {Q : Val → Mm → Prop} {te : TE}
theorem ev_slTt {tl th : TO} (h : Ev K te r m fun x m1 => ∃ ns, x = .t ns ∧ EvO K tl r m1 fun lo m2 => EvO K th r m2 fun hi m3 => Q (.t ((ns.drop (HT.sIx ns.length 0 lo)).take (HT.sIx ns.length ns.length hi - HT.sIx ns.length 0 lo))) m3) : Ev K (tSl (rSlA K) te tl th) r m Q := fun σ H G S L R k =>
  h σ H G S L _ fun v H1 G1 x m1 ⟨ns, hx, h1⟩ S1 e1 r1 => h1 σ H1 G1 S1 (L.mono e1) _ fun H2 G2 lo m2 h2 S2 e2 => h2 σ H2 G2 S2 (L.mono (e1.trans e2)) _ fun H3 G3 hi m3 q S3 e3 => by
    subst hx
    have r3 := r1.mono (e2.trans e3)
    cases r3 with
    | t ht =>
      rename_i a
      refine ⟨a, ns.map V.int, rfl, SqT.of (S3.sub _ _ ht), fun hw => ?_, fun _ l hl => ?_⟩
      · rw [List.length_map] at hw
        have e := cut_whole ns hw
        have q : Q (.t ns) m3 := e ▸ q
        exact k _ H3 G3 _ m3 q S3 (e1.trans (e2.trans e3)) (.t ht)
      · have hg := S3.free hl
        have e : cutV (ns.map V.int) lo hi = ((ns.drop (HT.sIx ns.length 0 lo)).take (HT.sIx ns.length ns.length hi - HT.sIx ns.length 0 lo)).map V.int := by
          unfold cutV
          rw [List.length_map, List.map_take, List.map_drop]
        rw [e]
        exact k _ _ (upd G3 l _) _ m3 q (S3.fix hl) (e1.trans (e2.trans (e3.trans (Le.new hg)))) (.t upd_same)
theorem cutI_take (ns : List Int) (a : Nat) : (ns.drop (HT.sIx ns.length 0 none)).take (HT.sIx ns.length ns.length (some (a : Int)) - HT.sIx ns.length 0 none) = ns.take a := by
  rw [HT.sIx_none, HT.sIx_nat, List.drop_zero, Nat.sub_zero]
  by_cases h : a ≤ ns.length
  · rw [Nat.min_eq_left h]
  · rw [Nat.min_eq_right (by omega), List.take_of_length_le (Nat.le_refl _), List.take_of_length_le (by omega)]
theorem cutI_drop (ns : List Int) (a : Nat) : (ns.drop (HT.sIx ns.length 0 (some (a : Int)))).take (HT.sIx ns.length ns.length none - HT.sIx ns.length 0 (some (a : Int))) = ns.drop a := by
  rw [HT.sIx_none, HT.sIx_nat]
  by_cases h : a ≤ ns.length
  · rw [Nat.min_eq_left h, List.take_of_length_le (by rw [List.length_drop]; exact Nat.le_refl _)]
  · rw [Nat.min_eq_right (by omega), Nat.sub_self, List.take_zero, List.drop_of_length_le (by omega)]
end
/-! needs -/
structure NeedV (n : Nat) (v : List Nat) : Prop where
  len : v.length = n
  few : ∀ x ∈ v, x ≤ 3
def lessV (v : List Nat) (k : Nat) : List Nat := v.take k ++ [v.getD k 0 - 1] ++ v.drop (k + 1)
def suppV (v : List Nat) : List Nat := (List.range v.length).filter fun k => decide (0 < v.getD k 0)
def f_oneLess : FSp := fun args m R => ∃ (v : List Nat) (k : Nat), args = [.t (kn v), .d (.int (k : Int))] ∧ k < v.length ∧ v.length ≤ 100 ∧ R (.t (kn (lessV v k))) m
theorem lessV_set {v : List Nat} {k : Nat} (h : k < v.length) : lessV v k = v.set k (v.getD k 0 - 1) := by
  unfold lessV
  rw [List.set_eq_take_append_cons_drop, if_pos h, List.append_assoc]; rfl
theorem NeedV.less {n : Nat} {v : List Nat} (h : NeedV n v) {k : Nat} (hk : k < n) : NeedV n (lessV v k) := by
  have hk : k < v.length := by rw [h.len]; exact hk
  rw [lessV_set hk]
  refine ⟨by rw [List.length_set]; exact h.len, fun x hx => ?_⟩
  rcases List.mem_or_eq_of_mem_set hx with hx | hx
  · exact h.few x hx
  · have : v.getD k 0 ≤ 3 := by
      rw [List.getD_eq_getElem?_getD, List.getElem?_eq_getElem hk]
      exact h.few _ (List.getElem_mem hk)
    omega
theorem sum_setN : ∀ {v : List Nat} {k : Nat} (x : Nat), k < v.length → (v.set k x).sum + v.getD k 0 = v.sum + x
  | [], k, x, h => by simp at h
  | a :: v, 0, x, _ => by simp [List.getD]; omega
  | a :: v, k + 1, x, h => by
    have ih := sum_setN (v := v) (k := k) x (by simpa using h)
    simp only [List.set_cons_succ, List.sum_cons, List.getD_cons_succ]
    omega
theorem lessV_sum {v : List Nat} {k : Nat} (hk : k < v.length) (h0 : 0 < v.getD k 0) : (lessV v k).sum + 1 = v.sum := by
  rw [lessV_set hk]
  have := sum_setN (v := v) (v.getD k 0 - 1) hk
  omega
theorem supp_mem {v : List Nat} {k : Nat} : k ∈ suppV v ↔ k < v.length ∧ 0 < v.getD k 0 := by
  unfold suppV
  rw [List.mem_filter, List.mem_range, decide_eq_true_eq]
theorem supp_kinds {n : Nat} {v : List Nat} (h : NeedV n v) : Kinds n (suppV v) := ⟨List.pairwise_lt_range.filter _, fun k hk => by have := (supp_mem.mp hk).1; rw [h.len] at this; exact this⟩
theorem supp_nil {v : List Nat} (h : suppV v = []) : v = List.replicate v.length 0 := by
  refine List.ext_getElem (by rw [List.length_replicate]) fun k h1 h2 => ?_
  rw [List.getElem_replicate]
  cases hz : v[k] with
  | zero => rfl
  | succ j =>
    have : k ∈ suppV v := supp_mem.mpr ⟨h1, by rw [List.getD_eq_getElem?_getD, List.getElem?_eq_getElem h1]; show 0 < v[k]; omega⟩
    rw [h] at this; cases this
theorem supp_zero (n : Nat) : suppV (List.replicate n 0) = [] := by
  unfold suppV
  rw [List.filter_eq_nil_iff]
  intro k hk
  have hk := List.mem_range.mp hk
  rw [List.length_replicate] at hk
  simp [List.getD_eq_getElem?_getD, hk]
/-! the mean by what is still needed -/
def accN (ss : List Int) (P : List Nat → Rat) (v l : List Nat) : Rat := l.foldl (fun acc k => acc + ((ss.getD k 0 : Int) : Rat) * P (lessV v k)) ((ss.sum : Int) : Rat)
def mnNF (ss : List Int) : Nat → List Nat → Rat
  | 0, _ => 0
  | n + 1, v => if suppV v = [] then 0 else accN ss (mnNF ss n) v (suppV v) * mkRat 1 (sumP ss (suppV v)).toNat
def mnN (ss : List Int) (v : List Nat) : Rat := mnNF ss v.sum v
theorem accN_congr {ss : List Int} {P P' : List Nat → Rat} {v : List Nat} : ∀ (l : List Nat), (∀ k ∈ l, P (lessV v k) = P' (lessV v k)) → accN ss P v l = accN ss P' v l := by
  intro l hl
  unfold accN
  generalize ((ss.sum : Int) : Rat) = a
  induction l generalizing a with
  | nil => rfl
  | cons k t ih =>
    rw [List.foldl_cons, List.foldl_cons, hl k List.mem_cons_self]
    exact ih (fun x hx => hl x (List.mem_cons_of_mem _ hx)) _
theorem sum_zero {v : List Nat} (h : suppV v = []) : v.sum = 0 := by
  rw [supp_nil h]; simp
theorem mnN_step (ss : List Int) (v : List Nat) : mnN ss v = if suppV v = [] then 0 else accN ss (mnN ss) v (suppV v) * mkRat 1 (sumP ss (suppV v)).toNat := by
  by_cases h : suppV v = []
  · rw [if_pos h]
    unfold mnN
    rw [sum_zero h]; rfl
  · rw [if_neg h]
    obtain ⟨k0, hk0⟩ := List.exists_mem_of_ne_nil _ h
    obtain ⟨a1, a2⟩ := supp_mem.mp hk0
    have hs := lessV_sum a1 a2
    unfold mnN
    cases hn : v.sum with
    | zero => omega
    | succ n =>
      show (if suppV v = [] then 0 else _) = _
      rw [if_neg h]
      refine congrArg (· * _) (accN_congr _ fun k hk => ?_)
      obtain ⟨b1, b2⟩ := supp_mem.mp hk
      have := lessV_sum b1 b2
      rw [show n = (lessV v k).sum by omega]
/-! bounds -/
theorem accN_eq {ss : List Int} {P : List Nat → Rat} {v : List Nat} (l : List Nat) : accN ss P v l = ((ss.sum : Int) : Rat) + (l.map fun k => ((ss.getD k 0 : Int) : Rat) * P (lessV v k)).sum := by
  unfold accN
  generalize ((ss.sum : Int) : Rat) = a
  induction l generalizing a with
  | nil => simp [Rat.add_zero]
  | cons k t ih => rw [List.foldl_cons, ih, List.map_cons, List.sum_cons, Rat.add_assoc]
def allD (ss : List Int) : Nat := ((allS ss.length).filter fun s => !s.isEmpty).foldr (fun s a => (sumP ss s).toNat * a) 1
theorem allD_ok {ss : List Int} (hs : Shares ss) : 0 < allD ss ∧ allD ss ≤ 2 ^ 192 := by
  have hf := hs.few
  obtain ⟨h1, h2⟩ := fold_le (fun s => (sumP ss s).toNat) (l := (allS ss.length).filter fun s => !s.isEmpty) fun s hs' => by
    obtain ⟨a1, a2⟩ := List.mem_filter.mp hs'
    have := sum_ok hs a1 (fun e => by rw [e] at a2; simp at a2)
    exact ⟨this.1, this.2.1⟩
  refine ⟨h1, Nat.le_trans h2 (Nat.pow_le_pow_right (by decide) ?_)⟩
  have : ((allS ss.length).filter fun s => !s.isEmpty).length ≤ 32 := by
    refine Nat.le_trans (List.length_filter_le _ _) ?_
    rw [allS_len]
    exact Nat.pow_le_pow_right (by decide) hf
  omega
theorem allS_filter : ∀ (n : Nat) (p : Nat → Bool), (List.range n).filter p ∈ allS n
  | 0, p => by simp [allS]
  | n + 1, p => by
    have ih := allS_filter n p
    rw [List.range_succ, List.filter_append]
    unfold allS
    by_cases h : p n = true
    · simp [h, ih]
    · simp [h, ih]
theorem supp_allS {n : Nat} {v : List Nat} (h : NeedV n v) : suppV v ∈ allS n := by
  unfold suppV
  rw [h.len]
  exact allS_filter n _
theorem allD_dvd {ss : List Int} {s : List Nat} (h : s ∈ allS ss.length) (h0 : s ≠ []) : (sumP ss s).toNat ∣ allD ss :=
  dvd_fold (fun s => (sumP ss s).toNat) (List.mem_filter.mpr ⟨h, by cases s with | nil => exact absurd rfl h0 | cons a t => rfl⟩)
theorem InD.mulZ {q : Rat} {D : Nat} (h : InD q D) (a : Int) : InD ((a : Rat) * q) D := by
  obtain ⟨x, hx⟩ := h
  exact ⟨a * x, by rw [Rat.mul_assoc, hx, Rat.intCast_mul]⟩
theorem acc_b {ss : List Int} (hs : Shares ss) {P : List Nat → Rat} {v l : List Nat} {D c : Nat} (hl : l.length ≤ 5) (h : ∀ k ∈ l, ChB (P (lessV v k)) D c) : ChB (accN ss P v l) D (45 + 45 * c) := by
  have hsum := shares_sum hs
  rw [accN_eq]
  have each : ∀ k ∈ l, 0 ≤ ((ss.getD k 0 : Int) : Rat) * P (lessV v k) ∧ ((ss.getD k 0 : Int) : Rat) * P (lessV v k) ≤ ((9 * c : Nat) : Rat) := fun k hk => by
    obtain ⟨h1, h2⟩ := getD_bounds hs k
    have e : ss.getD k 0 = (((ss.getD k 0).toNat : Nat) : Int) := by omega
    refine ch_mul ⟨?_, ?_⟩ ⟨(h k hk).nn, (h k hk).le⟩
    · rw [e]; exact Rat.intCast_nonneg.mpr (Int.natCast_nonneg _)
    · rw [e, Rat.intCast_natCast]; exact Rat.natCast_le_natCast.mpr (by omega)
  obtain ⟨b1, b2⟩ := ch_sum each
  have e : ss.sum = ((ss.sum.toNat : Nat) : Int) := by omega
  have s1 : (0 : Rat) ≤ ((ss.sum : Int) : Rat) := by rw [e]; exact Rat.intCast_nonneg.mpr (Int.natCast_nonneg _)
  have s2 : ((ss.sum : Int) : Rat) ≤ ((45 : Nat) : Rat) := by rw [e, Rat.intCast_natCast]; exact Rat.natCast_le_natCast.mpr (by omega)
  refine ⟨Rat.add_nonneg s1 b1, ?_, (InD.int _ _).add (InD.sum fun k hk => (h k hk).ind.mulZ _)⟩
  have b3 : (((l.length * (9 * c) : Nat)) : Rat) ≤ ((45 * c : Nat) : Rat) := Rat.natCast_le_natCast.mpr (by
    have : l.length * (9 * c) ≤ 5 * (9 * c) := Nat.mul_le_mul_right _ hl
    omega)
  rw [Rat.natCast_add]
  have b4 := Rat.le_trans b2 b3
  grind
theorem mnN_b {ss : List Int} (hs : Shares ss) : ∀ (n : Nat) (v : List Nat), NeedV ss.length v → v.sum = n → ChB (mnN ss v) (allD ss ^ n) (2 ^ (6 * (n + 1)))
  | n, v, hv, hn => by
    rw [mnN_step]
    by_cases h : suppV v = []
    · rw [if_pos h]
      exact ⟨Rat.le_refl, Rat.natCast_nonneg, InD.int 0 _⟩
    · rw [if_neg h]
      have hS := supp_allS hv
      obtain ⟨k0, hk0⟩ := List.exists_mem_of_ne_nil _ h
      obtain ⟨a1, a2⟩ := supp_mem.mp hk0
      have hs1 := lessV_sum a1 a2
      match n, hn with
      | 0, hn => omega
      | n + 1, hn =>
        have ih : ∀ k ∈ suppV v, ChB (mnN ss (lessV v k)) (allD ss ^ n) (2 ^ (6 * (n + 1))) := fun k hk => by
          obtain ⟨b1, b2⟩ := supp_mem.mp hk
          exact mnN_b hs n _ (hv.less (by rw [← hv.len]; exact b1)) (by have := lessV_sum b1 b2; omega)
        have hl5 : (suppV v).length ≤ 5 := Nat.le_trans (allS_mem _ _ hS).1 hs.few
        have c := acc_b hs hl5 ih
        obtain ⟨g1, g2, g3⟩ := sum_ok hs hS h
        have w := ch_mul (u := 45 + 45 * 2 ^ (6 * (n + 1))) (v := 1) ⟨c.nn, c.le⟩ (q := mkRat 1 (sumP ss (suppV v)).toNat) (by
          rw [Rat.mkRat_eq_div]
          have z := (QB.nat 1).over (n := (sumP ss (suppV v)).toNat) (e := 6) (w := 1) g1 g2 (by omega)
          have e2 : (((1 : Nat) : Int) : Rat) * mkRat 1 (sumP ss (suppV v)).toNat = ((1 : Int) : Rat) / (((sumP ss (suppV v)).toNat : Nat) : Rat) := by
            rw [Rat.mkRat_eq_div]
            show ((1 : Int) : Rat) * _ = _
            rw [show ((1 : Int) : Rat) = 1 from rfl, Rat.one_mul]
          rw [e2] at z
          exact ⟨z.nn, z.le⟩)
        refine ⟨w.1, Rat.le_trans w.2 (Rat.natCast_le_natCast.mpr ?_), ?_⟩
        · have e : 2 ^ (6 * (n + 1 + 1)) = 64 * 2 ^ (6 * (n + 1)) := by rw [Nat.mul_add 6 (n + 1) 1, Nat.pow_add]; omega
          have p : 2 ^ 6 ≤ 2 ^ (6 * (n + 1)) := Nat.pow_le_pow_right (by decide) (by omega)
          rw [e]
          generalize 2 ^ (6 * (n + 1)) = X at *
          omega
        · refine InD.dvd (c.ind.frac 1 g1) ?_
          rw [Nat.pow_succ]
          exact Nat.mul_dvd_mul_left _ (allD_dvd hS h)
theorem allD_pow {ss : List Int} (hs : Shares ss) {n : Nat} (hn : n ≤ 9) : 0 < allD ss ^ n ∧ allD ss ^ n ≤ 2 ^ 1728 := by
  obtain ⟨h1, h2⟩ := allD_ok hs
  refine ⟨Nat.pow_pos h1, Nat.le_trans (Nat.pow_le_pow_left h2 n) ?_⟩
  have e : (2 ^ 192) ^ n = 2 ^ (192 * n) := (Nat.pow_mul 2 192 n).symm
  rw [e]
  exact Nat.pow_le_pow_right (by decide) (show 192 * n ≤ 1728 by omega)
theorem mnN_fr {ss : List Int} (hs : Shares ss) {v : List Nat} (hv : NeedV ss.length v) (hn : v.sum ≤ 9) : FrB (mnN ss v) 1900 := by
  have c := mnN_b hs _ v hv rfl
  obtain ⟨h1, h2⟩ := allD_pow hs hn
  refine (c.frB (e := 61) h1 h2 (Nat.pow_lt_pow_right (by decide) (by omega))).mono (by decide)
theorem accN_fr {ss : List Int} (hs : Shares ss) {v l : List Nat} (hv : NeedV ss.length v) (hn : v.sum ≤ 9) (hsub : ∀ k ∈ l, k ∈ suppV v) (hl : l.length ≤ 5) : FrB (accN ss (mnN ss) v l) 1900 := by
  by_cases h : suppV v = []
  · have : l = [] := List.eq_nil_iff_forall_not_mem.mpr fun k hk => by have := hsub k hk; rw [h] at this; cases this
    subst this
    have c := acc_b hs (P := mnN ss) (v := v) (l := []) (D := 1) (c := 0) (by decide) (fun k hk => nomatch hk)
    exact (c.frB (d := 0) (e := 6) (by decide) (by decide) (by decide)).mono (by decide)
  · have ih : ∀ k ∈ l, ChB (mnN ss (lessV v k)) (allD ss ^ (v.sum - 1)) (2 ^ (6 * 9)) := fun k hk => by
      obtain ⟨b1, b2⟩ := supp_mem.mp (hsub k hk)
      have e := lessV_sum b1 b2
      have c := mnN_b hs _ _ (hv.less (k := k) (by rw [← hv.len]; exact b1)) (show (lessV v k).sum = v.sum - 1 by omega)
      exact ⟨c.nn, Rat.le_trans c.le (Rat.natCast_le_natCast.mpr (Nat.pow_le_pow_right (by decide) (by omega))), c.ind⟩
    obtain ⟨h1, h2⟩ := allD_pow hs (n := v.sum - 1) (by omega)
    exact ((acc_b hs hl ih).frB (e := 61) h1 h2 (by decide)).mono (by decide)
/-! what is known -/
structure TabN (n : Nat) (l : List (List Nat)) : Prop where
  nd : l.Nodup
  nv : ∀ v ∈ l, NeedV n v
  zero : List.replicate n 0 ∈ l
theorem nd_len {α : Type} [BEq α] [LawfulBEq α] : ∀ {l r : List α}, l.Nodup → (∀ x ∈ l, x ∈ r) → l.length ≤ r.length
  | [], r, _, _ => Nat.zero_le _
  | x :: l, r, hn, hs => by
    obtain ⟨h1, h2⟩ := List.nodup_cons.mp hn
    have := nd_len (r := r.erase x) h2 fun y hy => (List.mem_erase_of_ne (fun (e : y = x) => h1 (by rw [← e]; exact hy))).mpr (hs y (List.mem_cons_of_mem _ hy))
    have hx := hs x List.mem_cons_self
    have e := List.length_erase_of_mem hx
    have := List.length_pos_of_mem hx
    rw [List.length_cons]
    omega
def allN : Nat → List (List Nat)
  | 0 => [[]]
  | n + 1 => (allN n).flatMap fun v => (List.range 4).map fun x => x :: v
theorem allN_len : ∀ n, (allN n).length = 4 ^ n
  | 0 => rfl
  | n + 1 => by
    have ih := allN_len n
    unfold allN
    rw [Nat.pow_succ, ← ih]
    generalize allN n = l
    induction l with
    | nil => rfl
    | cons a t ih => rw [List.flatMap_cons, List.length_append, ih, List.length_cons, List.length_map, List.length_range]; omega
theorem need_mem : ∀ {n : Nat} {v : List Nat}, NeedV n v → v ∈ allN n
  | 0, [], _ => List.mem_singleton.mpr rfl
  | 0, x :: v, h => by have := h.len; simp at this
  | n + 1, [], h => by have := h.len; simp at this
  | n + 1, x :: v, h => List.mem_flatMap.mpr ⟨v, need_mem ⟨by have := h.len; simpa using this, fun y hy => h.few y (List.mem_cons_of_mem _ hy)⟩, List.mem_map.mpr ⟨x, List.mem_range.mpr (by have := h.few x List.mem_cons_self; omega), rfl⟩⟩
theorem TabN.len {n : Nat} (hn : n ≤ 5) {l : List (List Nat)} (h : TabN n l) : l.length ≤ 1024 := by
  refine Nat.le_trans (nd_len h.nd fun v hv => need_mem (h.nv v hv)) ?_
  rw [allN_len]
  exact Nat.pow_le_pow_right (by decide) hn
theorem TabN.add {n : Nat} {l : List (List Nat)} (h : TabN n l) {v : List Nat} (hv : NeedV n v) (hm : v ∉ l) : TabN n (l ++ [v]) :=
  ⟨List.nodup_append.mpr ⟨h.nd, by simp, fun a ha b hb => by rw [List.mem_singleton.mp hb]; exact fun e => hm (e ▸ ha)⟩, fun u hu => by
    rcases List.mem_append.mp hu with hu | hu
    · exact h.nv u hu
    · rw [List.mem_singleton.mp hu]; exact hv, List.mem_append_left _ h.zero⟩
def f_meanOf (d : Nat) : FSp := fun args m R => ∃ (ss : List Int) (v : List Nat) (p : Addr) (l : List (List Nat)), args = [.d (tupI ss), .t (kn v), .v (.ref p)] ∧ Shares ss ∧ NeedV ss.length v ∧ v.sum < d ∧ v.sum ≤ 9 ∧ TabN ss.length l ∧ m p = some (.dT (tabT (mnN ss) l)) ∧
  ∀ l', TabN ss.length l' → v ∈ l' → R (.d (frac (mnN ss v))) (put m p (.dT (tabT (mnN ss) l')))
theorem getV_tabNo {f : List Nat → Rat} {s : List Nat} : ∀ {l : List (List Nat)}, s ∉ l → getV (tabT f l) (kI (kn s)) = none
  | [], _ => rfl
  | a :: l, h => by
    have e2 : ¬ kI (kn a) = kI (kn s) := fun z => h (by rw [kn_inj (kI_inj z)]; exact List.mem_cons_self)
    have := getV_tabNo (f := f) (s := s) (l := l) fun z => h (List.mem_cons_of_mem _ z)
    unfold tabT at this ⊢
    rw [List.map_cons]
    simp only [getV, List.find?_cons, e2, decide_false] at this ⊢
    exact this
theorem kn_take (v : List Nat) (k : Nat) : (kn v).take k = kn (v.take k) := List.map_take.symm
theorem kn_drop (v : List Nat) (k : Nat) : (kn v).drop k = kn (v.drop k) := List.map_drop.symm
theorem kn_app (a b : List Nat) : kn a ++ kn b = kn (a ++ b) := List.map_append.symm
theorem kn_at {v : List Nat} {k : Nat} (h : k < v.length) : atI ((kn v).map PyData.int) (k : Int) = some (.int ((v.getD k 0 : Nat) : Int)) := by
  unfold kn
  rw [atI_nth, List.map_map, List.getElem?_map, List.getD_eq_getElem?_getD, List.getElem?_eq_getElem h]; rfl
theorem put_self {m : Mm} {a : Addr} {o : MO} (h : m a = some o) : put m a o = m := by
  funext b
  by_cases e : b = a
  · subst e; rw [put_same, h]
  · rw [put_ne e]
theorem updQ_self (f : List Nat → Rat) (t : List Nat) : updQ f t (f t) = f := by
  funext u
  unfold updQ
  by_cases e : u = t
  · rw [if_pos e, e]
  · rw [if_neg e]
theorem tabN_put {n : Nat} {f : List Nat → Rat} {l : List (List Nat)} (h : TabN n l) {v : List Nat} (hv : NeedV n v) : ∃ l', TabN n l' ∧ v ∈ l' ∧ putV (tabT f l) (kI (kn v)) (.d (frac (f v))) = tabT f l' := by
  by_cases hm : v ∈ l
  · exact ⟨l, h, hm, by rw [putV_tabT hm, updQ_self]⟩
  · exact ⟨l ++ [v], h.add hv hm, List.mem_append_right _ (List.mem_singleton.mpr rfl), putV_tab hm⟩
theorem accN_snoc {ss : List Int} {P : List Nat → Rat} {v l : List Nat} (k : Nat) : accN ss P v (l ++ [k]) = accN ss P v l + ((ss.getD k 0 : Int) : Rat) * P (lessV v k) := by
  unfold accN
  rw [List.foldl_append]; rfl
/-! (0,) * n as a key -/
section
variable {K : PySem.W.Frag} {m : Mm} {Q : Val → Mm → Prop}
theorem o2_mulTt {i : Int} {n : Nat} (h1 : 1 ≤ n) (h2 : n ≤ 1000) (q : Q (.t (List.replicate n i)) m) : Op2 K (rMul K) (.t [i]) (.d (.int (n : Int))) m Q := fun H G v w S a b R k => by
  rw [int_of b]
  cases a with
  | @t _ p h =>
    by_cases e : n = 1
    · subst e
      exact Or.inr (Or.inr (Or.inl ⟨p, [V.int i], rfl, rfl, S.sqT (SqT.of h), k _ H G _ m q S (Le.refl G) (.t h)⟩))
    · refine Or.inr (Or.inl ⟨p, (n : Int), [V.int i], rfl, rfl, S.sqT (SqT.of h), List.cons_ne_nil _ _, by omega, by omega, by show 1 ≤ 1000; decide, fun l hl => ?_⟩)
      have hg := S.free hl
      have en : ((n : Int)).toNat = n := by omega
      rw [en]
      have e2 : (List.replicate n [V.int i]).flatten = (List.replicate n i).map V.int := by simp
      rw [e2]
      exact k _ _ (upd G l _) _ m q (S.fix hl) (Le.new hg) (.t upd_same)
end
/-! how many states, what is right -/
def stN : List Nat → Nat
  | [] => 1
  | x :: v => (x + 1) * stN v
theorem stN_app : ∀ a b : List Nat, stN (a ++ b) = stN a * stN b
  | [], b => by simp [stN]
  | x :: a, b => by rw [List.cons_append, stN, stN, stN_app a b, Nat.mul_assoc]
theorem few_sum' : ∀ n : _root_.Fin 6, ∀ v ∈ allN n.val, stN v ≤ 64 → v.sum ≤ 9 := by decide +kernel
theorem few_sum {n : Nat} (h5 : n ≤ 5) {v : List Nat} (hv : NeedV n v) (h : stN v ≤ 64) : v.sum ≤ 9 := few_sum' ⟨n, by omega⟩ v (need_mem hv) h
theorem stN_le {n : Nat} : ∀ {v : List Nat}, (∀ x ∈ v, x ≤ 3) → v.length ≤ n → stN v ≤ 4 ^ n
  | [], _, _ => Nat.pow_pos (by decide)
  | x :: v, h, hl => by
    cases n with
    | zero => simp at hl
    | succ n =>
      have ih := stN_le (n := n) (v := v) (fun y hy => h y (List.mem_cons_of_mem _ hy)) (by simpa using hl)
      have := h x List.mem_cons_self
      rw [stN, Nat.pow_succ, Nat.mul_comm]
      exact Nat.mul_le_mul ih (by omega)
def okN : PyData → Bool
  | .int i => decide (0 ≤ i) && decide (i ≤ 3)
  | _ => false
def rightN (n : Nat) : PyData → Bool
  | .tuple ds => decide (ds.length = n) && ds.all okN
  | _ => false
theorem right_of {n : Nat} {v : List Nat} (h : NeedV n v) : rightN n (.tuple ((kn v).map PyData.int)) = true := by
  show (decide (((v.map fun (k : Nat) => (k : Int)).map PyData.int).length = n) && _) = true
  rw [List.length_map, List.length_map, h.len, decide_eq_true rfl, Bool.true_and, List.all_eq_true]
  intro d hd
  obtain ⟨i, hi, rfl⟩ := List.mem_map.mp hd
  obtain ⟨x, hx, rfl⟩ := List.mem_map.mp hi
  have := h.few x hx
  simp [okN]
  omega
def f_rightNeeds : FSp := fun args m R => ∃ (x : PyData) (ss : List Int), args = [.d x, .d (tupI ss)] ∧ ss.length ≤ 5 ∧ R (.d (.bool (rightN ss.length x))) m
def f_rightMany : FSp := fun args m R => ∃ (x : PyData) (n : Nat), args = [.d x, .d (.int (n : Int))] ∧ n ≤ 5 ∧ R (.d (.bool (rightN n x))) m
def f_areNeeds : FSp := fun args m R => ∃ (x : PyData) (ss : List Int), args = [.d x, .d (tupI ss)] ∧ Shares ss ∧ R (.d (.bool (rightN ss.length x))) m
def f_needNeeds : FSp := fun args m R => ∃ (x : PyData) (ss : List Int), args = [.d (tupI ss), .d x] ∧ Shares ss ∧ rightN ss.length x = true ∧ R (.d .none) m
def f_needFew : FSp := fun args m R => ∃ (v : List Nat), args = [.d (.tuple ((kn v).map PyData.int))] ∧ v.length ≤ 5 ∧ (∀ x ∈ v, x ≤ 3) ∧ stN v ≤ 64 ∧ R (.d .none) m
def f_drawnNeeds : FSp := fun args m R => ∃ (p : Addr) (n b : Nat), args = [.v (.ref p), .d (.int (n : Int)), .d (.int (b : Int))] ∧ m p = some .box ∧ 1 ≤ n ∧ n ≤ 5 ∧ 1 ≤ b ∧ b ≤ 64 ∧ ∀ v, NeedV n v → stN v ≤ b → R (.t (kn v)) m
def f_meanNeeds : FSp := fun args m R => ∃ (ss : List Int) (v : List Nat), args = [.d (tupI ss), .t (kn v)] ∧ Shares ss ∧ NeedV ss.length v ∧ stN v ≤ 64 ∧ R (.d (frac (mnN ss v))) m
end DL

/-! k23: the mean by needs, all states in order -/
namespace DL
open PySem L2
section
variable {K : PySem.W.Frag} {r : List Val} {m : Mm} {Q : Val → Mm → Prop} {te : TE}
theorem ev_mapR1t {ta : TA} {j n : Nat} (h : EvA K ta r m fun xs m1 => xs = [.d (.int (n : Int))] ∧ m1 = m) (hn : n ≤ 100000) (f : Nat → List Int)
    (hs : ∀ (i : Nat) m', i < n → Ext m m' → Ev K te (r.set j (.d (.int (i : Int)))) m' fun y m3 => y = .t (f i) ∧ m3 = m') (q : Q (.lt ((List.range n).map f)) m) : Ev K (tLc (iRng1 ta) (gName j) tYes te [j]) r m Q := fun σ H G S L R k =>
  h σ H G S L _ fun vs H1 G1 xs m1 ⟨hx, hm⟩ S1 e1 r1 => by
    subst hx hm
    obtain ⟨v1, rfl, a1⟩ := vrs1 r1
    have a1 := int_of a1
    subst a1
    have en : ((n : Int)).toNat = n := by omega
    refine ⟨(n : Int), rfl, by omega, by omega, ?_⟩
    rw [en]
    intro D hD
    have hmD := S1.freeM hD
    refine lc_range (lo := 0) (n := n) (LcV K m1 G1 D fun i acc => acc = ((List.range i).map f).map Val.t) (lcv_start S1 hD rfl) ?_ ?_
    · intro i H' hi hP
      rw [Int.zero_add]
      exact ⟨wipe1 σ j _, lcv_turn hmD (by omega) (fun G' e' => sl_in (L.mono e1) e' (rp_int.mpr rfl)) (fun m' acc hx hw => evt_yes ⟨rfl, fun _ => (hs i m' hi hx).imp fun y m3 e => ⟨e.2, by rw [hw, e.1, List.range_succ, List.map_append, List.map_append]; rfl⟩, (fun g => nomatch g)⟩) hP⟩
    · intro H' hP
      exact lcv_end hmD hP (fun acc hw => ⟨_, hw, q⟩) fun v H' G' x m' q S' e' r' => k v H' G' x m' q S' (e1.trans e') r'
end
def extN (l : List (List Nat)) (x : Nat) : List (List Nat) := l.flatMap fun s => (List.range (x + 1)).map fun k => s ++ [k]
def stsOf (v : List Nat) : List (List Nat) := v.foldl extN [[]]
theorem sts_snoc (v : List Nat) (x : Nat) : stsOf (v ++ [x]) = extN (stsOf v) x := by
  unfold stsOf
  rw [List.foldl_append]; rfl
theorem ext_mem {l : List (List Nat)} {x : Nat} {s : List Nat} : s ∈ extN l x ↔ ∃ u ∈ l, ∃ k, k ≤ x ∧ s = u ++ [k] := by
  unfold extN
  rw [List.mem_flatMap]
  refine ⟨fun ⟨u, hu, hs⟩ => ?_, fun ⟨u, hu, k, hk, e⟩ => ⟨u, hu, List.mem_map.mpr ⟨k, List.mem_range.mpr (by omega), e.symm⟩⟩⟩
  obtain ⟨k, hk, e⟩ := List.mem_map.mp hs
  exact ⟨u, hu, k, by have := List.mem_range.mp hk; omega, e.symm⟩
theorem ext_len (l : List (List Nat)) (x : Nat) : (extN l x).length = l.length * (x + 1) := by
  unfold extN
  induction l with
  | nil => simp
  | cons a t ih => rw [List.flatMap_cons, List.length_append, ih, List.length_map, List.length_range, List.length_cons, Nat.succ_mul, Nat.add_comm]
/-- a row as a number, base four -/
def val4 (s : List Nat) : Nat := s.foldl (fun a x => 4 * a + x) 0
theorem val4_snoc (s : List Nat) (k : Nat) : val4 (s ++ [k]) = 4 * val4 s + k := by
  unfold val4
  rw [List.foldl_append]; rfl
theorem val4_mono : ∀ {b : List Nat} {a a' : Nat}, a < a' → b.foldl (fun a x => 4 * a + x) a < b.foldl (fun a x => 4 * a + x) a'
  | [], _, _, h => h
  | x :: b, a, a', h => val4_mono (b := b) (show 4 * a + x < 4 * a' + x by omega)
theorem val4_less {s : List Nat} {k : Nat} (hk : k < s.length) (h0 : 0 < s.getD k 0) : val4 (lessV s k) < val4 s := by
  have e : s = s.take k ++ [s.getD k 0] ++ s.drop (k + 1) := by
    have : s.getD k 0 = s[k] := by rw [List.getD_eq_getElem?_getD, List.getElem?_eq_getElem hk]; rfl
    rw [this, List.append_assoc, List.singleton_append, List.getElem_cons_drop, List.take_append_drop]
  have e2 : val4 s = val4 (s.take k ++ [s.getD k 0] ++ s.drop (k + 1)) := congrArg val4 e
  rw [e2]
  unfold lessV val4
  rw [List.foldl_append, List.foldl_append, List.foldl_append, List.foldl_append]
  exact val4_mono (by show 4 * _ + (s.getD k 0 - 1) < 4 * _ + s.getD k 0; omega)
structure Sts (v : List Nat) (l : List (List Nat)) : Prop where
  len : l.length = stN v
  mem : ∀ s ∈ l, s.length = v.length ∧ (∀ x ∈ s, x ≤ 3) ∧ s.sum ≤ v.sum ∧ ∀ k, k < s.length → lessV s k ∈ l
  up : l.Pairwise fun a b => val4 a < val4 b
  self : v ∈ l
theorem less_snoc {s : List Nat} {x k : Nat} : lessV (s ++ [x]) k = if k < s.length then lessV s k ++ [x] else if k = s.length then s ++ [x - 1] else lessV (s ++ [x]) k := by
  by_cases h : k < s.length
  · rw [if_pos h, lessV_set h, lessV_set (by rw [List.length_append]; show k < s.length + 1; omega)]
    rw [List.set_append_left _ _ h]
    congr 2
    rw [List.getD_eq_getElem?_getD, List.getElem?_append_left h, List.getD_eq_getElem?_getD]
  · rw [if_neg h]
    by_cases e : k = s.length
    · rw [if_pos e, e, lessV_set (by rw [List.length_append]; show s.length < s.length + 1; omega)]
      rw [List.set_append_right _ _ (Nat.le_refl _), Nat.sub_self]
      simp [List.getD_eq_getElem?_getD]
    · rw [if_neg e]
theorem sts_snoc_ok {v : List Nat} {x : Nat} (hx : x ≤ 3) {l : List (List Nat)} (h : Sts v l) : Sts (v ++ [x]) (extN l x) := by
  refine ⟨?_, fun s hs => ?_, ?_, ext_mem.mpr ⟨v, h.self, x, Nat.le_refl _, rfl⟩⟩
  · rw [ext_len, h.len, stN_app]
    simp only [stN, Nat.mul_one]
  · obtain ⟨u, hu, k, hk, rfl⟩ := ext_mem.mp hs
    obtain ⟨m1, m2, m3, m4⟩ := h.mem u hu
    refine ⟨by rw [List.length_append, List.length_append, m1]; rfl, fun y hy => ?_, ?_, fun j hj => ?_⟩
    · rcases List.mem_append.mp hy with hy | hy
      · exact m2 y hy
      · rw [List.mem_singleton.mp hy]; omega
    · rw [List.sum_append, List.sum_append]
      simp only [List.sum_cons, List.sum_nil]
      omega
    · rw [less_snoc]
      have hj : j < u.length + 1 := by rw [List.length_append] at hj; exact hj
      by_cases hju : j < u.length
      · rw [if_pos hju]
        exact ext_mem.mpr ⟨_, m4 j hju, k, hk, rfl⟩
      · rw [if_neg hju, if_pos (by omega)]
        exact ext_mem.mpr ⟨u, hu, k - 1, by omega, rfl⟩
  · unfold extN
    refine List.pairwise_flatMap.mpr ⟨fun u hu => ?_, h.up.imp fun {a b} hab => ?_⟩
    · refine List.pairwise_map.mpr (List.pairwise_lt_range.imp fun {a b} hab => ?_)
      rw [val4_snoc, val4_snoc]; omega
    · intro y hy z hz
      obtain ⟨k, hk, rfl⟩ := List.mem_map.mp hy
      obtain ⟨k', hk', rfl⟩ := List.mem_map.mp hz
      have := List.mem_range.mp hk
      rw [val4_snoc, val4_snoc]; omega
theorem sts_ok : ∀ (n : Nat) {v : List Nat}, v.length = n → (∀ x ∈ v, x ≤ 3) → Sts v (stsOf v)
  | 0, v, hl, _ => by
    have : v = [] := List.length_eq_zero_iff.mp hl
    subst this
    exact ⟨rfl, fun s hs => by
      have : s = [] := List.mem_singleton.mp hs
      subst this
      exact ⟨rfl, (fun x hx => by cases hx), Nat.le_refl _, fun k hk => absurd hk (Nat.not_lt_zero _)⟩, List.pairwise_singleton .., List.mem_singleton.mpr rfl⟩
  | n + 1, v, hl, h3 => by
    have hne : v ≠ [] := fun e => by rw [e] at hl; cases hl
    obtain ⟨u, x, rfl⟩ : ∃ u x, v = u ++ [x] := ⟨v.dropLast, v.getLast hne, (List.dropLast_concat_getLast hne).symm⟩
    rw [sts_snoc]
    exact sts_snoc_ok (h3 x (List.mem_append_right _ (List.mem_singleton.mpr rfl))) (sts_ok n (by rw [List.length_append] at hl; simpa using hl) fun y hy => h3 y (List.mem_append_left _ hy))
theorem Sts.nodup {v : List Nat} {l : List (List Nat)} (h : Sts v l) : l.Nodup := h.up.imp fun hab e => by rw [e] at hab; exact absurd hab (Nat.lt_irrefl _)
theorem Sts.ahead {v : List Nat} {l : List (List Nat)} (h : Sts v l) {i : Nat} {s : List Nat} (hi : l[i]? = some s) {k : Nat} (hk : k ∈ suppV s) : lessV s k ∈ l.take i := by
  obtain ⟨b1, b2⟩ := supp_mem.mp hk
  have hm := (h.mem s (List.mem_of_getElem? hi)).2.2.2 k b1
  have hv := val4_less b1 b2
  have hil := (List.getElem?_eq_some_iff.mp hi).1
  have he := (List.getElem?_eq_some_iff.mp hi).2
  have e : l = l.take i ++ s :: l.drop (i + 1) := by
    rw [← he, List.getElem_cons_drop, List.take_append_drop]
  rw [e] at hm
  have up := h.up
  rw [e] at up
  rcases List.mem_append.mp hm with hm | hm
  · exact hm
  · exfalso
    have up2 := (List.pairwise_append.mp up).2.1
    rcases List.mem_cons.mp hm with hm | hm
    · rw [hm] at hv; exact Nat.lt_irrefl _ hv
    · have := (List.pairwise_cons.mp up2).1 _ hm
      omega
theorem eqv_nilI (ks : List Nat) : PyData.eqv (.list (ks.map intN)) (.list []) = decide (ks = []) := by
  cases ks with
  | nil => rfl
  | cons a t => rfl
theorem shaped_kinds (ks : List Nat) : SeqAt.shaped (.list (ks.map intN)) = true := by
  have e : ks.map intN = (ks.map fun (k : Nat) => (k : Int)).map PyData.int := by rw [List.map_map]; rfl
  rw [e]
  exact shaped_listI _
theorem ext_step {l : List (List Nat)} {x j : Nat} {s : List Nat} (h : l[j]? = some s) : extN (l.take (j + 1)) x = extN (l.take j) x ++ (List.range (x + 1)).map fun k => s ++ [k] := by
  unfold extN
  rw [take_one h, List.flatMap_append]
  simp
theorem updQ_two (f : List Nat → Rat) (t : List Nat) (a : Rat) : updQ (updQ f t a) t (f t) = f := by
  funext u
  unfold updQ
  by_cases e : u = t
  · rw [if_pos e, e]
  · rw [if_neg e, if_neg e]
end DL

/-! k24: so many draws with so many of each, by times: plain mathematics -/
namespace DL
open PySem L2 RZ
/-- sum over the first n numbers -/
def sg (n : Nat) (f : Nat → Int) : Int := ((List.range n).map f).sum
theorem sg_zero (f : Nat → Int) : sg 0 f = 0 := rfl
theorem sg_succ (n : Nat) (f : Nat → Int) : sg (n + 1) f = sg n f + f n := by
  unfold sg
  rw [List.range_succ, List.map_append, List.sum_append]
  simp
theorem sg_congr {n : Nat} {f g : Nat → Int} (h : ∀ i, i < n → f i = g i) : sg n f = sg n g := by
  unfold sg
  exact congrArg List.sum (List.map_congr_left fun i hi => h i (List.mem_range.mp hi))
theorem sg_first : ∀ (n : Nat) (f : Nat → Int), sg (n + 1) f = f 0 + sg n fun i => f (i + 1)
  | 0, f => by rw [sg_succ, sg_zero, sg_zero]; omega
  | n + 1, f => by rw [sg_succ, sg_first n f, sg_succ n fun i => f (i + 1)]; omega
theorem sg_add (n : Nat) (f g : Nat → Int) : sg n (fun i => f i + g i) = sg n f + sg n g := by
  induction n with
  | zero => rfl
  | succ n ih => rw [sg_succ, sg_succ, sg_succ, ih]; omega
theorem sg_mul (n : Nat) (a : Int) (f : Nat → Int) : sg n (fun i => a * f i) = a * sg n f := by
  induction n with
  | zero => rw [sg_zero, sg_zero, Int.mul_zero]
  | succ n ih => rw [sg_succ, sg_succ, ih, Int.mul_add]
theorem sg_nil (n : Nat) : sg n (fun _ => 0) = 0 := by
  induction n with
  | zero => rfl
  | succ n ih => rw [sg_succ, ih]; rfl
theorem sg_comm (n m : Nat) (f : Nat → Nat → Int) : sg n (fun i => sg m fun j => f i j) = sg m fun j => sg n fun i => f i j := by
  induction n with
  | zero => rw [sg_zero]; exact (sg_nil m).symm
  | succ n ih =>
    rw [sg_succ, ih, ← sg_add]
    exact sg_congr fun j _ => (sg_succ n fun i => f i j).symm
theorem sg_rev (n : Nat) (f : Nat → Int) : sg n f = sg n fun i => f (n - 1 - i) := by
  induction n generalizing f with
  | zero => rfl
  | succ n ih =>
    rw [sg_succ, sg_first, ih, Int.add_comm]
    have e : (sg n fun i => f (n - 1 - i)) = sg n fun i => f (n + 1 - 1 - (i + 1)) := sg_congr fun i hi => by
      show f (n - 1 - i) = f (n + 1 - 1 - (i + 1))
      rw [show n + 1 - 1 - (i + 1) = n - 1 - i by omega]
    rw [e]
    rfl
/-- how many ways to choose -/
def ch : Nat → Nat → Nat
  | _, 0 => 1
  | 0, _ + 1 => 0
  | n + 1, m + 1 => ch n m + ch n (m + 1)
theorem ch_zero (n : Nat) : ch n 0 = 1 := by cases n <;> rfl
theorem ch_over : ∀ (n m : Nat), n < m → ch n m = 0
  | 0, m + 1, _ => rfl
  | n + 1, m + 1, h => by rw [ch, ch_over n m (by omega), ch_over n (m + 1) (by omega)]
theorem chs_mul : ∀ (n m : Nat), (m + 1) * ch (n + 1) (m + 1) = (n + 1) * ch n m
  | 0, 0 => rfl
  | 0, m + 1 => by rw [ch_over 1 (m + 1 + 1) (by omega), ch_over 0 (m + 1) (by omega)]; omega
  | n + 1, 0 => by
    have ih := chs_mul n 0
    rw [ch_zero] at ih
    have e1 : ch (n + 1 + 1) (0 + 1) = ch (n + 1) 0 + ch (n + 1) (0 + 1) := rfl
    rw [e1, ch_zero]
    omega
  | n + 1, m + 1 => by
    have h1 := chs_mul n m
    have h2 := chs_mul n (m + 1)
    have e1 : ch (n + 1 + 1) (m + 1 + 1) = ch (n + 1) (m + 1) + ch (n + 1) (m + 1 + 1) := rfl
    have e2 : ch (n + 1) (m + 1) = ch n m + ch n (m + 1) := rfl
    rw [e1, Nat.mul_add, h2]
    have e3 : (m + 1 + 1) * ch (n + 1) (m + 1) = (m + 1) * ch (n + 1) (m + 1) + ch (n + 1) (m + 1) := by rw [Nat.succ_mul (m + 1)]
    rw [e3, h1]
    have e4 : (n + 1 + 1) * ch (n + 1) (m + 1) = (n + 1) * ch (n + 1) (m + 1) + ch (n + 1) (m + 1) := by rw [Nat.succ_mul (n + 1)]
    rw [e4, e2, Nat.mul_add]
    omega
/-- by times: pairs of a share and a need, the last one first -/
def gT : List (Int × Nat) → Nat → Int
  | [], n => if n = 0 then 1 else 0
  | (s, x) :: r, n => sg (n + 1) fun m => if x ≤ m then gT r (n - m) * ((ch n m : Int) * s ^ m) else 0
def lessP : List (Int × Nat) → Nat → List (Int × Nat)
  | [], _ => []
  | (s, x) :: r, 0 => (s, x - 1) :: r
  | p :: r, k + 1 => p :: lessP r k
def shP (l : List (Int × Nat)) (k : Nat) : Int := (l.getD k (0, 0)).1
theorem gT_step : ∀ (l : List (Int × Nat)) (n : Nat), gT l (n + 1) = sg l.length fun k => shP l k * gT (lessP l k) n
  | [], n => rfl
  | (s, x) :: r, n => by
    have hA : (sg (n + 1 + 1) fun m => if x ≤ m then gT r (n + 1 - m) * ((ch n m : Int) * s ^ m) else 0) = sg r.length fun k => shP r k * gT ((s, x) :: lessP r k) n := by
      rw [sg_succ, ch_over n (n + 1) (by omega)]
      have e0 : (if x ≤ n + 1 then gT r (n + 1 - (n + 1)) * (((0 : Nat) : Int) * s ^ (n + 1)) else 0) = 0 := by
        split
        · rw [show ((0 : Nat) : Int) = 0 from rfl, Int.zero_mul, Int.mul_zero]
        · rfl
      rw [e0, Int.add_zero]
      have e1 : (sg (n + 1) fun m => if x ≤ m then gT r (n + 1 - m) * ((ch n m : Int) * s ^ m) else 0) = sg (n + 1) fun m => sg r.length fun k => shP r k * (if x ≤ m then gT (lessP r k) (n - m) * ((ch n m : Int) * s ^ m) else 0) := sg_congr fun m hm => by
        by_cases h : x ≤ m
        · rw [if_pos h, show n + 1 - m = (n - m) + 1 by omega, gT_step r (n - m), Int.mul_comm, ← sg_mul]
          refine sg_congr fun k _ => ?_
          rw [if_pos h]
          generalize (ch n m : Int) * s ^ m = c
          rw [Int.mul_left_comm, Int.mul_comm c]
        · rw [if_neg h]
          have : (sg r.length fun k => shP r k * (if x ≤ m then gT (lessP r k) (n - m) * ((ch n m : Int) * s ^ m) else 0)) = sg r.length fun _ => 0 := sg_congr fun k _ => by rw [if_neg h, Int.mul_zero]
          rw [this, sg_nil]
      rw [e1, sg_comm]
      refine sg_congr fun k _ => ?_
      rw [sg_mul]
      rfl
    have hB : (sg (n + 1) fun m => if x ≤ m + 1 then gT r (n - m) * ((ch n m : Int) * s ^ (m + 1)) else 0) = s * gT ((s, x - 1) :: r) n := by
      show _ = s * sg (n + 1) _
      rw [← sg_mul]
      refine sg_congr fun m _ => ?_
      by_cases h : x ≤ m + 1
      · rw [if_pos h, if_pos (by omega), Int.pow_succ]
        generalize gT r (n - m) = a
        generalize (ch n m : Int) = b
        generalize s ^ m = c
        rw [Int.mul_comm c s, Int.mul_left_comm b s c, Int.mul_left_comm a s]
      · rw [if_neg h, if_neg (by omega), Int.mul_zero]
    show (sg (n + 1 + 1) fun m => if x ≤ m then gT r (n + 1 - m) * ((ch (n + 1) m : Int) * s ^ m) else 0) = sg (r.length + 1) _
    rw [sg_first r.length]
    show _ = s * gT ((s, x - 1) :: r) n + sg r.length fun k => shP r k * gT ((s, x) :: lessP r k) n
    rw [← hA, ← hB, sg_first (n + 1), sg_first (n + 1) fun m => if x ≤ m then gT r (n + 1 - m) * ((ch n m : Int) * s ^ m) else 0]
    rw [ch_zero, ch_zero]
    have e : (sg (n + 1) fun i => if x ≤ i + 1 then gT r (n + 1 - (i + 1)) * ((ch (n + 1) (i + 1) : Int) * s ^ (i + 1)) else 0) = (sg (n + 1) fun m => if x ≤ m + 1 then gT r (n - m) * ((ch n m : Int) * s ^ (m + 1)) else 0) + sg (n + 1) fun i => if x ≤ i + 1 then gT r (n + 1 - (i + 1)) * ((ch n (i + 1) : Int) * s ^ (i + 1)) else 0 := by
      rw [← sg_add]
      refine sg_congr fun m _ => ?_
      by_cases h : x ≤ m + 1
      · rw [if_pos h, if_pos h, if_pos h, show n + 1 - (m + 1) = n - m by omega, ← Int.mul_add, ← Int.add_mul]
        rfl
      · rw [if_neg h, if_neg h, if_neg h]; rfl
    rw [e]
    omega
/-! turn by turn -/
def vP : Nat → List (Int × Nat) → Int
  | 0, l => if (l.all fun p => decide (p.2 = 0)) = true then 1 else 0
  | n + 1, l => sg l.length fun k => shP l k * vP n (lessP l k)
theorem gT_zero : ∀ l : List (Int × Nat), gT l 0 = if (l.all fun p => decide (p.2 = 0)) = true then 1 else 0
  | [] => rfl
  | (s, x) :: r => by
    have ih := gT_zero r
    show sg 1 _ = _
    rw [sg_succ, sg_zero, Int.zero_add]
    by_cases h : x = 0
    · subst h
      rw [if_pos (Nat.le_refl 0), Nat.sub_self, ih, ch_zero, Int.pow_zero]
      rw [show ((1 : Nat) : Int) * 1 = 1 from rfl, Int.mul_one, List.all_cons, decide_eq_true rfl, Bool.true_and]
    · rw [if_neg (by omega)]
      simp [h]
theorem gT_vP : ∀ (n : Nat) (l : List (Int × Nat)), gT l n = vP n l
  | 0, l => gT_zero l
  | n + 1, l => by
    rw [gT_step, vP]
    exact sg_congr fun k _ => by rw [gT_vP n]
theorem lessP_len : ∀ (l : List (Int × Nat)) (k : Nat), (lessP l k).length = l.length
  | [], _ => rfl
  | (s, x) :: r, 0 => rfl
  | p :: r, k + 1 => by rw [lessP, List.length_cons, List.length_cons, lessP_len r k]
theorem lessP_set : ∀ {l : List (Int × Nat)} {k : Nat}, k < l.length → lessP l k = l.set k ((l.getD k (0, 0)).1, (l.getD k (0, 0)).2 - 1)
  | [], k, h => by simp at h
  | (s, x) :: r, 0, h => rfl
  | p :: r, k + 1, h => by
    rw [lessP, lessP_set (by simpa using h), List.set_cons_succ, List.getD_cons_succ]
theorem getD_rev {l : List (Int × Nat)} {k : Nat} (h : k < l.length) : l.reverse.getD k (0, 0) = l.getD (l.length - 1 - k) (0, 0) := by
  rw [List.getD_eq_getElem?_getD, List.getD_eq_getElem?_getD, List.getElem?_reverse h]
theorem set_rev {l : List (Int × Nat)} {k : Nat} (h : k < l.length) (x : Int × Nat) : l.reverse.set k x = (l.set (l.length - 1 - k) x).reverse := by
  refine List.ext_getElem (by simp) fun i h1 h2 => ?_
  have hi : i < l.length := by simpa using h1
  rw [List.getElem_set, List.getElem_reverse, List.getElem_reverse, List.getElem_set]
  simp only [List.length_set]
  by_cases e : k = i
  · rw [if_pos e, if_pos (by omega)]
  · rw [if_neg e, if_neg (by omega)]
theorem vP_rev : ∀ (n : Nat) (l : List (Int × Nat)), vP n l.reverse = vP n l
  | 0, l => by rw [vP, vP, List.all_reverse]
  | n + 1, l => by
    rw [vP, vP, List.length_reverse, sg_rev]
    refine sg_congr fun k hk => ?_
    have hk2 : l.length - 1 - k < l.length := by omega
    have e : l.length - 1 - (l.length - 1 - k) = k := by omega
    unfold shP
    rw [lessP_set (by rw [List.length_reverse]; exact hk2), lessP_set hk, getD_rev hk2, e, set_rev hk2, e, vP_rev n]
def uN (ss : List Int) : Nat → List Nat → Int
  | 0, v => if v = List.replicate v.length 0 then 1 else 0
  | n + 1, v => sg ss.length fun k => ss.getD k 0 * uN ss n (lessV v k)
theorem zip_zero : ∀ {ss : List Int} {v : List Nat}, v.length = ss.length → (((ss.zip v).all fun p => decide (p.2 = 0)) = true ↔ v = List.replicate v.length 0)
  | [], [], _ => by simp
  | [], _ :: _, h => by simp at h
  | _ :: _, [], h => by simp at h
  | s :: ss, x :: v, h => by
    have ih := zip_zero (ss := ss) (v := v) (by simpa using h)
    rw [List.zip_cons_cons, List.all_cons, Bool.and_eq_true, ih, List.length_cons, List.replicate_succ, List.cons.injEq, decide_eq_true_eq]
theorem uN_vP (ss : List Int) : ∀ (n : Nat) {v : List Nat}, v.length = ss.length → uN ss n v = vP n (ss.zip v)
  | 0, v, h => by
    rw [uN, vP]
    by_cases e : v = List.replicate v.length 0
    · rw [if_pos e, if_pos ((zip_zero h).mpr e)]
    · rw [if_neg e, if_neg fun z => e ((zip_zero h).mp z)]
  | n + 1, v, h => by
    have hl : (ss.zip v).length = ss.length := by rw [List.length_zip, h, Nat.min_self]
    rw [uN, vP, hl]
    refine sg_congr fun k hk => ?_
    have hkv : k < v.length := by omega
    have hkz : k < (ss.zip v).length := by omega
    have eg : (ss.zip v).getD k (0, 0) = (ss.getD k 0, v.getD k 0) := by
      rw [List.getD_eq_getElem?_getD, List.getD_eq_getElem?_getD, List.getD_eq_getElem?_getD, List.getElem?_eq_getElem hkz, List.getElem?_eq_getElem hk, List.getElem?_eq_getElem hkv]
      simp
    have el : lessP (ss.zip v) k = ss.zip (lessV v k) := by
      rw [lessP_set hkz, eg, lessV_set hkv]
      refine List.ext_getElem (by simp) fun i h1 h2 => ?_
      simp only [List.getElem_set, List.getElem_zip]
      by_cases e : k = i
      · subst e
        rw [if_pos rfl, if_pos rfl, List.getD_eq_getElem?_getD, List.getElem?_eq_getElem hk]
        rfl
      · rw [if_neg e, if_neg e]
    unfold shP
    rw [eg, el, uN_vP ss n (by rw [lessV_set hkv, List.length_set]; exact h)]
theorem uN_gT {ss : List Int} {v : List Nat} (n : Nat) (h : v.length = ss.length) : uN ss n v = gT (ss.zip v).reverse n := by
  rw [uN_vP ss n h, gT_vP, vP_rev]
/-! the dict of a turn -/
def totF (F : List Nat → Int) (l : List (List Nat)) (φ : List Nat → Int) : Int := (l.map fun s => F s * φ s).sum
theorem tot_same {F G : List Nat → Int} {φ : List Nat → Int} {l : List (List Nat)} (h : ∀ s ∈ l, F s = G s) : totF F l φ = totF G l φ := by
  unfold totF
  exact congrArg List.sum (List.map_congr_left fun s hs => by rw [h s hs])
theorem tot_in {F : List Nat → Int} {φ : List Nat → Int} {t : List Nat} {x : Int} : ∀ {l : List (List Nat)}, l.Nodup → t ∈ l → totF (addF F (t, x)) l φ = totF F l φ + x * φ t
  | a :: l, hn, ht => by
    obtain ⟨h1, h2⟩ := List.nodup_cons.mp hn
    unfold totF
    rw [List.map_cons, List.sum_cons, List.map_cons, List.sum_cons]
    by_cases e : a = t
    · subst e
      have := tot_same (F := addF F (a, x)) (G := F) (φ := φ) (l := l) fun s hs => by
        have : s ≠ a := fun e => h1 (e ▸ hs)
        simp [addF, this]
      unfold totF at this
      rw [this]
      have e2 : addF F (a, x) a = F a + x := by simp [addF]
      rw [e2, Int.add_mul]
      omega
    · have hm : t ∈ l := by
        rcases List.mem_cons.mp ht with h | h
        · exact absurd h.symm e
        · exact h
      have ih := tot_in (F := F) (φ := φ) (x := x) h2 hm
      unfold totF at ih
      rw [ih]
      have e2 : addF F (t, x) a = F a := by simp [addF, e]
      rw [e2]
      omega
theorem tot_add {F : List Nat → Int} {l : List (List Nat)} (hn : l.Nodup) (off : ∀ s, s ∉ l → F s = 0) (t : List Nat) (x : Int) (φ : List Nat → Int) : totF (addF F (t, x)) (insL l t) φ = totF F l φ + x * φ t := by
  unfold insL
  by_cases h : t ∈ l
  · rw [if_pos h]; exact tot_in hn h
  · rw [if_neg h]
    have e := tot_same (F := addF F (t, x)) (G := F) (φ := φ) (l := l) fun s hs => by
      have : s ≠ t := fun e => h (e ▸ hs)
      simp [addF, this]
    unfold totF at e ⊢
    rw [List.map_append, List.sum_append, e]
    have e2 : addF F (t, x) t = x := by simp [addF, off t h]
    simp [e2]
structure TabG (n : Nat) (F : List Nat → Int) (l : List (List Nat)) : Prop where
  nd : l.Nodup
  nv : ∀ s ∈ l, NeedV n s
  off : ∀ s, s ∉ l → F s = 0
  nn : ∀ s, 0 ≤ F s
theorem TabG.add {n : Nat} {F : List Nat → Int} {l : List (List Nat)} (h : TabG n F l) {t : List Nat} (ht : NeedV n t) {x : Int} (hx : 0 ≤ x) : TabG n (addF F (t, x)) (insL l t) := by
  have nn : ∀ s, 0 ≤ addF F (t, x) s := fun s => by
    have := h.nn s
    unfold addF
    split <;> omega
  unfold insL
  by_cases hm : t ∈ l
  · rw [if_pos hm]
    exact ⟨h.nd, h.nv, fun s hs => by
      have : s ≠ t := fun e => hs (e ▸ hm)
      simp [addF, this, h.off s hs], nn⟩
  · rw [if_neg hm]
    refine ⟨List.nodup_append.mpr ⟨h.nd, by simp, fun a ha b hb => by rw [List.mem_singleton.mp hb]; exact fun e => hm (e ▸ ha)⟩, fun s hs => ?_, fun s hs => ?_, nn⟩
    · rcases List.mem_append.mp hs with hs | hs
      · exact h.nv s hs
      · rw [List.mem_singleton.mp hs]; exact ht
    · have h1 : s ∉ l := fun z => hs (List.mem_append_left _ z)
      have h2 : s ≠ t := fun e => hs (by rw [e]; exact List.mem_append_right _ (List.mem_singleton.mpr rfl))
      simp [addF, h2, h.off s h1]
theorem TabG.len {n : Nat} (hn : n ≤ 5) {F : List Nat → Int} {l : List (List Nat)} (h : TabG n F l) : l.length ≤ 1024 := by
  refine Nat.le_trans (nd_len h.nd fun v hv => need_mem (h.nv v hv)) ?_
  rw [allN_len]
  exact Nat.pow_le_pow_right (by decide) hn
theorem tot_ge {F : List Nat → Int} (nn : ∀ s, 0 ≤ F s) : ∀ (l : List (List Nat)), 0 ≤ totF F l (fun _ => 1) ∧ ∀ s ∈ l, F s ≤ totF F l fun _ => 1
  | [] => ⟨Int.le_refl _, fun _ h => nomatch h⟩
  | a :: l => by
    obtain ⟨h1, h2⟩ := tot_ge nn l
    have ha := nn a
    have e : totF F (a :: l) (fun _ => 1) = F a + totF F l fun _ => 1 := by
      unfold totF
      rw [List.map_cons, List.sum_cons, Int.mul_one]
    rw [e]
    refine ⟨by omega, fun s hs => ?_⟩
    rcases List.mem_cons.mp hs with rfl | hs
    · omega
    · have := h2 s hs; omega
theorem TabG.le {n : Nat} {F : List Nat → Int} {l : List (List Nat)} (h : TabG n F l) (s : List Nat) : F s ≤ totF F l fun _ => 1 := by
  obtain ⟨h1, h2⟩ := tot_ge h.nn l
  by_cases hs : s ∈ l
  · exact h2 s hs
  · rw [h.off s hs]; exact h1
/-- what is left at nothing more to need -/
theorem tot_none {n : Nat} {F : List Nat → Int} : ∀ {l : List (List Nat)}, l.Nodup → (∀ s ∈ l, s.length = n) → totF F l (fun s => if s = List.replicate s.length 0 then 1 else 0) = if List.replicate n 0 ∈ l then F (List.replicate n 0) else 0
  | [], _, _ => rfl
  | a :: l, hn, hl => by
    obtain ⟨h1, h2⟩ := List.nodup_cons.mp hn
    have ih := tot_none (F := F) h2 fun s hs => hl s (List.mem_cons_of_mem _ hs)
    have e : totF F (a :: l) (fun s => if s = List.replicate s.length 0 then 1 else 0) = F a * (if a = List.replicate a.length 0 then 1 else 0) + totF F l fun s => if s = List.replicate s.length 0 then 1 else 0 := by
      unfold totF
      rw [List.map_cons, List.sum_cons]
    rw [e, ih, hl a List.mem_cons_self]
    by_cases ha : a = List.replicate n 0
    · subst ha
      rw [if_pos rfl, if_neg h1, if_pos List.mem_cons_self]
      omega
    · have : (List.replicate n 0 ∈ a :: l) ↔ List.replicate n 0 ∈ l := by
        rw [List.mem_cons]
        exact ⟨fun h => h.resolve_left fun e => ha e.symm, Or.inr⟩
      rw [if_neg ha, Int.mul_zero, Int.zero_add]
      simp only [this]
theorem TabG.none {n : Nat} {F : List Nat → Int} {l : List (List Nat)} (h : TabG n F l) : totF F l (fun s => if s = List.replicate s.length 0 then 1 else 0) = F (List.replicate n 0) := by
  rw [tot_none h.nd fun s hs => (h.nv s hs).len]
  by_cases hz : List.replicate n 0 ∈ l
  · rw [if_pos hz]
  · rw [if_neg hz, h.off _ hz]
def stpN (ss : List Int) (φ : List Nat → Int) : List Nat → Int := fun s => sg ss.length fun k => ss.getD k 0 * φ (lessV s k)
def stepN (ss : List Int) : Nat → (List Nat → Int) → List Nat → Int
  | 0, φ => φ
  | i + 1, φ => stepN ss i (stpN ss φ)
theorem step_uN (ss : List Int) : ∀ (i j : Nat), stepN ss i (uN ss j) = uN ss (i + j)
  | 0, j => by rw [Nat.zero_add]; rfl
  | i + 1, j => by
    have e : stpN ss (uN ss j) = uN ss (j + 1) := rfl
    rw [stepN, e, step_uN ss i (j + 1)]
    congr 1
    omega
theorem sg_shares (ss : List Int) : (sg ss.length fun k => ss.getD k 0) = ss.sum := sumP_range ss
theorem step_one (ss : List Int) : ∀ (i : Nat) (c : Int), stepN ss i (fun _ => c) = fun _ => ss.sum ^ i * c
  | 0, c => by rw [stepN]; funext s; rw [Int.pow_zero, Int.one_mul]
  | i + 1, c => by
    have e : stpN ss (fun _ => c) = fun _ => ss.sum * c := by
      funext s
      unfold stpN
      have := sg_mul ss.length c fun k => ss.getD k 0
      rw [sg_shares] at this
      rw [Int.mul_comm ss.sum, ← this]
      exact sg_congr fun k _ => Int.mul_comm _ _
    rw [stepN, e, step_one ss i]
    funext s
    rw [Int.pow_succ, Int.mul_assoc]
theorem tot_snoc (F : List Nat → Int) (l : List (List Nat)) (s : List Nat) (φ : List Nat → Int) : totF F (l ++ [s]) φ = totF F l φ + F s * φ s := by
  unfold totF
  rw [List.map_append, List.sum_append]
  simp
theorem tabG_bt {ss : List Int} (hs : Shares ss) {F : List Nat → Int} {l : List (List Nat)} (h : TabG ss.length F l) {i : Nat} (hi : i ≤ 8) {v : List Nat} (ht : ∀ φ, totF F l φ = stepN ss i φ v) (s : List Nat) : Bt (F s) 60 := by
  have h1 : F s ≤ ss.sum ^ i * 1 := by
    have := h.le s
    rw [ht, step_one] at this
    exact this
  have h2 := h.nn s
  rw [Int.mul_one] at h1
  have hsum := shares_sum hs
  have e : ss.sum = ((ss.sum.toNat : Nat) : Int) := by omega
  rw [e, ← Int.natCast_pow] at h1
  have h3 : ss.sum.toNat ^ i ≤ 45 ^ 8 := Nat.le_trans (Nat.pow_le_pow_left (show ss.sum.toNat ≤ 45 by omega) i) (Nat.pow_le_pow_right (by decide) hi)
  exact bt_lit (n := 60) (by show _ < 1152921504606846976; omega) (by decide)
def shareN (ss : List Int) (n : Nat) (v : List Nat) : Rat := mkRat (uN ss n v) (ss.sum.toNat ^ n)
def f_needsShare : FSp := fun args m R => ∃ (ss : List Int) (v : List Nat) (n : Nat), args = [.d (tupI ss), .t (kn v), .d (.int (n : Int))] ∧ Shares ss ∧ NeedV ss.length v ∧ stN v ≤ 64 ∧ n ≤ 8 ∧ R (.d (frac (shareN ss n v))) m
theorem t24_pos {ss : List Int} (hs : Shares ss) (n : Nat) : 0 < ss.sum.toNat ^ n := by
  have hsum := shares_sum hs
  exact Nat.pow_pos (by omega)
theorem t24_bt {ss : List Int} (hs : Shares ss) {n : Nat} (hn : n ≤ 8) : Bt ((ss.sum.toNat ^ n : Nat) : Int) 60 := by
  have hsum := shares_sum hs
  have h3 : ss.sum.toNat ^ n ≤ 45 ^ 8 := Nat.le_trans (Nat.pow_le_pow_left (show ss.sum.toNat ≤ 45 by omega) n) (Nat.pow_le_pow_right (by decide) hn)
  exact bt_lit (n := 60) (by show _ < 1152921504606846976; omega) (by decide)
theorem kiZ {X : Cx} (K : PySem.W.Frag) {tg e : Expr} {ta : TA} (hp : PI X tg e (iZipA X.K ta)) (h : X.K = K := by rfl) : PI X tg e (iZipA K ta) := h ▸ hp
section
variable {K : PySem.W.Frag} {r : List Val} {m : Mm} {Q : Val → Mm → Prop} {N : List Val → Mm → Prop} {E : Val → Mm → Prop} {t : TS} {te : TE}
/-- for a, b in zip(two tuples of ints of one length) -/
theorem w_forZt {ta : TA} {j1 j2 : Nat} {xs ys : List Int} (h : EvA K ta r m fun zs m1 => zs = [.d (tupI xs), .d (tupI ys)] ∧ m1 = m) (hl : xs.length = ys.length) (W : Nat → List Val → Mm → Prop) (h0 : W 0 r m)
    (hs : ∀ (i : Nat) (x y : Int) r' m', xs[i]? = some x → ys[i]? = some y → W i r' m' → Wp K t ((r'.set j1 (.d (.int x))).set j2 (.d (.int y))) m' (W (i + 1)) E) (hd : ∀ r' m', W xs.length r' m' → N r' m') :
    Wp K (tFor (iZipA K ta) (gTup K 2 (gCons (gName j1) (gCons (gName j2) gNil))) t) r m N E := fun σ H G D S L a b =>
  h σ H G S L _ fun vs H1 G1 zs m1 ⟨hx, hm⟩ S1 e1 r1 => by
    subst hx hm
    obtain ⟨v, w, rfl, rv, rw'⟩ := vrs2 r1
    obtain ⟨p, us, rfl, hs1, hA⟩ := rp_tuple.mp rv.rp
    obtain ⟨p', us', rfl, hs2, hB⟩ := rp_tuple.mp rw'.rp
    have hA := hA.ints
    have hB := hB.ints
    subst hA hB
    refine ⟨p, p', _, _, rfl, Or.inr ⟨S1.sqT hs1, S1.sqT hs2, for_zipT (xs := xs.map V.int) (ys := ys.map V.int) (by rw [List.length_map, List.length_map, hl]) (fun i σ' H' => ∃ G' r' m', W i r' m' ∧ Sta K m' H' G' ∧ Le G1 G' ∧ Sl K G' r' σ') ⟨G1, r, _, h0, S1, Le.refl G1, L.mono e1⟩ ?_ ?_ ?_⟩⟩
    · rintro i σ' H' ⟨G', r', m', _, S', e', _⟩
      exact ⟨S'.sqT (e'.sqT hs1), S'.sqT (e'.sqT hs2)⟩
    · rintro i x1 x2 T σ' H' hx1 hx2 ⟨G', r', m', hw, S', e', L'⟩ hT
      rw [List.getElem?_map, Option.map_eq_some_iff] at hx1 hx2
      obtain ⟨x, hx, rfl⟩ := hx1
      obtain ⟨y, hy, rfl⟩ := hx2
      have e2 : Le G' (upd G' T (.tup [.int x, .int y])) := Le.new (S'.free hT)
      refine ⟨T, _, rfl, SqT.of upd_same, rfl, _, [.int y], rfl, .int y, [], rfl, rfl, ?_⟩
      exact hs i x y r' m' hx hy hw _ _ (upd G' T (.tup [.int x, .int y])) _ (S'.fix hT) (((L'.mono e2).set (r := .d (.int x)) vr_int j1).set (r := .d (.int y)) vr_int j2)
        (fun σ3 H3 G3 r3 m3 h3 S3 e3 L3 => ⟨G3, r3, m3, h3, S3, e'.trans (e2.trans e3), L3⟩) (fun v H3 G3 x m3 n3 S3 e3 L3 => b v H3 G3 x m3 n3 S3 (e1.trans (e'.trans (e2.trans e3))) L3)
    · rintro σ' H' ⟨G', r', m', hw, S', e', L'⟩
      rw [List.length_map] at hw
      exact a σ' H' G' r' m' (hd r' m' hw) S' (e1.trans e') L'
end
section
variable {K : PySem.W.Frag} {r : List Val} {m : Mm} {Q : Val → Mm → Prop} {te : TE}
/-- a list just made, data from now on -/
theorem ev_frz (h : Ev K te r m fun x m1 => ∃ p ds, x = .v (.ref p) ∧ m1 p = some (.lst (ds.map Val.d)) ∧ Q (.d (.list ds)) (del m1 p)) : Ev K te r m Q := fun σ H G S L R k =>
  h σ H G S L _ fun v H1 G1 x m1 ⟨p, ds, hx, hm, q⟩ S1 e1 r1 => by
    subst hx
    have hr := r1.eq
    subst hr
    obtain ⟨xs, h1, h2⟩ := S1.mem p _ hm
    have hg := S1.dis p _ hm
    exact k _ H1 _ _ _ q (S1.freeze hm h1) (e1.trans (Le.new hg)) (.d (rp_list.mpr ⟨p, xs, rfl, Rd.of upd_same, RpAll.mono (Le.new (o := .lst xs) hg) ds xs h2.toAll⟩))
end
/-- ways to put m more among the a that are there, each with its share -/
def wayT (s : Int) (a m : Nat) : Int := (ch (a + m) m : Int) * s ^ m
theorem way_zero (s : Int) (a : Nat) : wayT s a 0 = 1 := by
  unfold wayT
  rw [ch_zero, Int.pow_zero]; rfl
theorem way_step (s : Int) (a m : Nat) : wayT s a m * s * ((a : Int) + (m : Int) + 1) = wayT s a (m + 1) * ((m : Int) + 1) := by
  unfold wayT
  have h := chs_mul (a + m) m
  have h : ((m : Int) + 1) * (ch (a + m + 1) (m + 1) : Int) = ((a : Int) + (m : Int) + 1) * (ch (a + m) m : Int) := by exact_mod_cast h
  rw [show a + (m + 1) = a + m + 1 by omega, Int.pow_succ]
  generalize (ch (a + m) m : Int) = c at *
  generalize (ch (a + m + 1) (m + 1) : Int) = d at *
  generalize s ^ m = e at *
  have : c * e * s * ((a : Int) + (m : Int) + 1) = (((a : Int) + (m : Int) + 1) * c) * (e * s) := by
    rw [Int.mul_comm _ ((a : Int) + (m : Int) + 1), Int.mul_assoc c, ← Int.mul_assoc]
  rw [this, ← h, Int.mul_comm ((m : Int) + 1) d, Int.mul_assoc, Int.mul_assoc, Int.mul_comm ((m : Int) + 1)]
/-! bounds -/
theorem sg_le {n : Nat} {f : Nat → Int} {c : Int} (h : ∀ i, i < n → 0 ≤ f i ∧ f i ≤ c) : 0 ≤ sg n f ∧ sg n f ≤ (n : Int) * c := by
  induction n with
  | zero => rw [sg_zero]; simp
  | succ n ih =>
    obtain ⟨h1, h2⟩ := ih fun i hi => h i (by omega)
    obtain ⟨h3, h4⟩ := h n (by omega)
    rw [sg_succ, Int.natCast_succ, Int.add_mul, Int.one_mul]
    omega
theorem shP_less : ∀ (l : List (Int × Nat)) (k j : Nat), shP (lessP l k) j = shP l j
  | [], _, _ => rfl
  | (s, x) :: r, 0, 0 => rfl
  | (s, x) :: r, 0, j + 1 => by unfold shP lessP; rw [List.getD_cons_succ, List.getD_cons_succ]
  | p :: r, k + 1, 0 => by cases p; rfl
  | p :: r, k + 1, j + 1 => by
    have := shP_less r k j
    unfold shP at this ⊢
    rw [lessP, List.getD_cons_succ, List.getD_cons_succ]
    exact this
theorem vP_b : ∀ (n : Nat) {l : List (Int × Nat)}, l.length ≤ 5 → (∀ k, 0 ≤ shP l k ∧ shP l k ≤ 9) → 0 ≤ vP n l ∧ vP n l ≤ ((45 ^ n : Nat) : Int)
  | 0, l, _, _ => by
    rw [vP]
    split <;> simp
  | n + 1, l, hl, hb => by
    rw [vP]
    have hp : (0 : Int) ≤ ((45 ^ n : Nat) : Int) := Int.natCast_nonneg _
    obtain ⟨h1, h2⟩ := sg_le (n := l.length) (f := fun k => shP l k * vP n (lessP l k)) (c := 9 * ((45 ^ n : Nat) : Int)) fun k _ => by
      obtain ⟨a1, a2⟩ := vP_b n (l := lessP l k) (by rw [lessP_len]; exact hl) fun j => by rw [shP_less]; exact hb j
      obtain ⟨b1, b2⟩ := hb k
      exact ⟨Int.mul_nonneg b1 a1, Int.mul_le_mul b2 a2 a1 (by decide)⟩
    refine ⟨h1, Int.le_trans h2 ?_⟩
    rw [Nat.pow_succ, Int.natCast_mul]
    have : (l.length : Int) * (9 * ((45 ^ n : Nat) : Int)) ≤ 5 * (9 * ((45 ^ n : Nat) : Int)) := Int.mul_le_mul_of_nonneg_right (by omega) (by omega)
    generalize ((45 ^ n : Nat) : Int) = X at *
    show _ ≤ X * 45
    omega
theorem ch_le : ∀ n m, ch n m ≤ 2 ^ n
  | n, 0 => by rw [ch_zero]; exact Nat.pow_pos (by decide)
  | 0, m + 1 => by rw [ch_over 0 (m + 1) (by omega)]; exact Nat.zero_le _
  | n + 1, m + 1 => by
    have h1 := ch_le n m
    have h2 := ch_le n (m + 1)
    rw [ch, Nat.pow_succ]
    omega
theorem way_b {s : Int} (h0 : 0 ≤ s) (h9 : s ≤ 9) {a m : Nat} (h : a + m ≤ 8) : 0 ≤ wayT s a m ∧ wayT s a m ≤ 11019960576 := by
  obtain ⟨t, rfl⟩ : ∃ t : Nat, s = (t : Int) := ⟨s.toNat, by omega⟩
  unfold wayT
  rw [← Int.natCast_pow, ← Int.natCast_mul]
  refine ⟨Int.natCast_nonneg _, ?_⟩
  have h1 : ch (a + m) m ≤ 2 ^ 8 := Nat.le_trans (ch_le _ _) (Nat.pow_le_pow_right (by decide) h)
  have h2 : t ^ m ≤ 9 ^ 8 := Nat.le_trans (Nat.pow_le_pow_left (show t ≤ 9 by omega) m) (Nat.pow_le_pow_right (by decide) (by omega))
  have h3 := Nat.mul_le_mul h1 h2
  have e : 2 ^ 8 * 9 ^ 8 = 11019960576 := by decide
  omega
/-! rows -/
def rowD (N : Nat) (g : Nat → Int) : List PyData := (List.range (N + 1)).map fun n => .int (g n)
theorem rowD_len (N : Nat) (g : Nat → Int) : (rowD N g).length = N + 1 := by unfold rowD; rw [List.length_map, List.length_range]
theorem rowD_at {N : Nat} {g : Nat → Int} {i : Nat} (h : i ≤ N) : (rowD N g)[i]? = some (.int (g i)) := by
  unfold rowD
  rw [List.getElem?_map, List.getElem?_range (by omega)]; rfl
def updN (g : Nat → Int) (a : Nat) (x : Int) : Nat → Int := fun n => if n = a then x else g n
theorem rowD_set {N : Nat} {g : Nat → Int} {a : Nat} {x : Int} : (rowD N g).set a (.int x) = rowD N (updN g a x) := by
  unfold rowD updN
  refine List.ext_getElem (by simp) fun i h1 h2 => ?_
  rw [List.getElem_set, List.getElem_map, List.getElem_map, List.getElem_range]
  by_cases e : a = i
  · rw [if_pos e, if_pos e.symm]
  · rw [if_neg e, if_neg fun z => e z.symm]
theorem rowD_congr {N : Nat} {g h : Nat → Int} (e : ∀ n, n ≤ N → g n = h n) : rowD N g = rowD N h := by
  unfold rowD
  exact List.map_congr_left fun n hn => by rw [e n (by have := List.mem_range.mp hn; omega)]
/-- what the first A of a row have told -/
def toldT (g : Nat → Int) (s : Int) (x A n : Nat) : Int := sg A fun a => if a ≤ n ∧ x ≤ n - a then g a * wayT s a (n - a) else 0
theorem told_all {l : List (Int × Nat)} {s : Int} {x N n : Nat} (hn : n ≤ N) : toldT (gT l) s x (N + 1) n = gT ((s, x) :: l) n := by
  unfold toldT
  have cut : ∀ d, sg (n + 1 + d) (fun a => if a ≤ n ∧ x ≤ n - a then gT l a * wayT s a (n - a) else 0) = sg (n + 1) fun a => if a ≤ n ∧ x ≤ n - a then gT l a * wayT s a (n - a) else 0 := by
    intro d
    induction d with
    | zero => rfl
    | succ d ih =>
      rw [← Nat.add_assoc, sg_succ, ih, if_neg (by omega), Int.add_zero]
  have := cut (N - n)
  rw [show n + 1 + (N - n) = N + 1 by omega] at this
  rw [this, sg_rev]
  show _ = sg (n + 1) _
  refine sg_congr fun m hm => ?_
  have e1 : n + 1 - 1 - m = n - m := by omega
  have e2 : n - (n - m) = m := by omega
  rw [e1, e2]
  by_cases h : x ≤ m
  · rw [if_pos ⟨by omega, h⟩, if_pos h]
    unfold wayT
    rw [show n - m + m = n by omega]
  · rw [if_neg (fun z => h z.2), if_neg h]
def f_byTimes : FSp := fun args m R => ∃ (ss : List Int) (v : List Nat) (N : Nat), args = [.d (tupI ss), .d (tupI (kn v)), .d (.int (N : Int))] ∧ Shares ss ∧ NeedV ss.length v ∧ N ≤ 8 ∧ R (.d (.int (gT (ss.zip v).reverse N))) m
theorem rows_start (N : Nat) : [PyData.int 1] ++ (List.replicate N [PyData.int 0]).flatten = rowD N (gT []) := by
  unfold rowD
  rw [rep_flat, List.range_succ_eq_map, List.map_cons, List.map_map]
  have e : List.replicate N (PyData.int 0) = (List.range N).map ((fun n => PyData.int (gT [] n)) ∘ Nat.succ) := by
    refine List.ext_getElem (by simp) fun i h1 h2 => ?_
    simp [gT]
  rw [e]
  rfl
theorem later_start (N : Nat) : (List.replicate (N + 1) [PyData.int 0]).flatten = rowD N fun _ => 0 := by
  unfold rowD
  rw [rep_flat]
  refine List.ext_getElem (by simp) fun i h1 h2 => ?_
  simp
def preT (ss : List Int) (v : List Nat) (i : Nat) : List (Int × Nat) := ((ss.zip v).take i).reverse
theorem pre_step {ss : List Int} {v : List Nat} {i : Nat} {s : Int} {x : Nat} (h1 : ss[i]? = some s) (h2 : v[i]? = some x) : preT ss v (i + 1) = (s, x) :: preT ss v i := by
  unfold preT
  have h : (ss.zip v)[i]? = some (s, x) := by rw [List.getElem?_zip_eq_some]; exact ⟨h1, h2⟩
  rw [take_one h, List.reverse_append]; rfl
theorem pre_b {ss : List Int} (hs : Shares ss) {v : List Nat} {i : Nat} (n : Nat) : 0 ≤ gT (preT ss v i) n ∧ gT (preT ss v i) n ≤ ((45 ^ n : Nat) : Int) := by
  rw [gT_vP]
  refine vP_b n ?_ fun k => ?_
  · unfold preT
    have := hs.few
    rw [List.length_reverse, List.length_take, List.length_zip]; omega
  · unfold shP preT
    rw [List.getD_eq_getElem?_getD]
    cases h : ((List.take i (ss.zip v)).reverse)[k]? with
    | none => exact ⟨by decide, by decide⟩
    | some p =>
      have hm := List.mem_of_getElem? h
      rw [List.mem_reverse] at hm
      have hm := List.mem_of_mem_take hm
      obtain ⟨a, b⟩ := p
      have := hs.each a (List.of_mem_zip hm).1
      show 0 ≤ a ∧ a ≤ 9
      omega
end DL

/-! comprehensions over what is not known ahead -/
namespace DL
open PySem L2
section
variable {K : PySem.W.Frag} {r : List Val} {m : Mm} {Q : Val → Mm → Prop} {te : TE} {tt : TT}
theorem ev_lcTI {tl : TE} {j : Nat} (h : Ev K tl r m fun x m1 => ∃ ds, x = .d (.tuple ds) ∧ ds.length ≤ 100000 ∧ ∃ W : Nat → List PyData → Prop, W 0 [] ∧
    (∀ i d m' acc, ds[i]? = some d → Ext m1 m' → W i acc → EvT K tt (r.set j (.d d)) m' fun b m2 => m2 = m' ∧ (b = true → Ev K te (r.set j (.d d)) m' fun x m3 => m3 = m' ∧ ∃ y, x = .d y ∧ W (i + 1) (acc ++ [y])) ∧ (b = false → W (i + 1) acc)) ∧
    (∀ acc, W ds.length acc → Q (.d (.list acc)) m1)) : Ev K (tLc (iTup K tl) (gName j) tt te [j]) r m Q := fun σ H G S L R k =>
  h σ H G S L _ fun v H1 G1 x m1 ⟨ds, hx, hn, W, h0, hs, hd⟩ S1 e1 r1 => by
    subst hx
    obtain ⟨p, xs, hv, hs1, hA⟩ := rp_tuple.mp r1.rp
    refine ⟨p, hv, ⟨xs, S1.sqT hs1⟩, fun D hD => ?_⟩
    have hmD := S1.freeM hD
    refine lc_tup (xs := xs) (LcW K m1 G1 D W) (lc_start S1 hD h0) ?_ ?_ ?_
    · rintro i H' hi ⟨G', acc, _, _, S', e'⟩
      exact S'.sqT (e'.sqT hs1)
    · intro i y H' hy hP
      obtain ⟨d, hd1, hd2⟩ := hA.get hy
      have hi : i < 100000 := by
        have := (List.getElem?_eq_some_iff.mp hy).1
        rw [hA.length] at this
        omega
      exact ⟨wipe1 σ j y, lc_turn hmD hi (fun G' e' => sl_in (L.mono e1) e' (Rp.mono e' d y hd2)) (fun m' acc hx hw => hs i d m' acc hd1 hx hw) hP⟩
    · intro H' hP
      rw [hA.length] at hP
      exact lc_end hmD hP hd fun v H' G' x m' q S' e' r' => k v H' G' x m' q S' (e1.trans e') r'
theorem ev_lcLI {tl : TE} {j : Nat} (h : Ev K tl r m fun x m1 => ∃ ds, x = .d (.list ds) ∧ ds.length ≤ 100000 ∧ ∃ W : Nat → List PyData → Prop, W 0 [] ∧
    (∀ i d m' acc, ds[i]? = some d → Ext m1 m' → W i acc → EvT K tt (r.set j (.d d)) m' fun b m2 => m2 = m' ∧ (b = true → Ev K te (r.set j (.d d)) m' fun x m3 => m3 = m' ∧ ∃ y, x = .d y ∧ W (i + 1) (acc ++ [y])) ∧ (b = false → W (i + 1) acc)) ∧
    (∀ acc, W ds.length acc → Q (.d (.list acc)) m1)) : Ev K (tLc (iList K tl) (gName j) tt te [j]) r m Q := fun σ H G S L R k =>
  h σ H G S L _ fun v H1 G1 x m1 ⟨ds, hx, hn, W, h0, hs, hd⟩ S1 e1 r1 => by
    subst hx
    obtain ⟨p, xs, hv, hs1, hA⟩ := rp_list.mp r1.rp
    have hs1 : SqL K G1 p xs := Or.inl hs1
    refine ⟨p, hv, ⟨xs, S1.sqL hs1⟩, fun D hD => ?_⟩
    have hmD := S1.freeM hD
    refine lc_list (xs := xs) (LcW K m1 G1 D W) (lc_start S1 hD h0) ?_ ?_ ?_
    · rintro i H' hi ⟨G', acc, _, _, S', e'⟩
      exact S'.sqL (e'.sqL hs1)
    · intro i y H' hy hP
      obtain ⟨d, hd1, hd2⟩ := hA.get hy
      have hi : i < 100000 := by
        have := (List.getElem?_eq_some_iff.mp hy).1
        rw [hA.length] at this
        omega
      exact ⟨wipe1 σ j y, lc_turn hmD hi (fun G' e' => sl_in (L.mono e1) e' (Rp.mono e' d y hd2)) (fun m' acc hx hw => hs i d m' acc hd1 hx hw) hP⟩
    · intro H' hP
      rw [hA.length] at hP
      exact lc_end hmD hP hd fun v H' G' x m' q S' e' r' => k v H' G' x m' q S' (e1.trans e') r'
theorem ev_mapTI {tl : TE} {j : Nat} {α : Type} {f : α → PyData} (h : Ev K tl r m fun x m1 => ∃ xs : List α, x = .d (.tuple (xs.map f)) ∧ xs.length ≤ 100000 ∧ ∃ g : α → PyData,
    (∀ (x : α) m', x ∈ xs → Ext m1 m' → Ev K te (r.set j (.d (f x))) m' fun y m3 => y = .d (g x) ∧ m3 = m') ∧ Q (.d (.list (xs.map g))) m1) : Ev K (tLc (iTup K tl) (gName j) tYes te [j]) r m Q :=
  ev_lcTI (h.imp fun x m1 ⟨xs, e, hn, g, hs, q⟩ => ⟨_, e, by rw [List.length_map]; exact hn, fun i acc => acc = (xs.take i).map g, by simp, fun i d m' acc hd hx hw => by
    obtain ⟨x, h1, rfl⟩ := map_at hd
    exact evt_yes ⟨rfl, fun _ => (hs x m' (List.mem_of_getElem? h1) hx).imp fun y m3 e => ⟨e.2, g x, e.1, by show _ = List.map g (xs.take (i + 1)); rw [hw, take_one h1, List.map_append]; rfl⟩, (fun g => nomatch g)⟩,
    fun acc hw => by have hw : acc = List.map g (xs.take (xs.map f).length) := hw; rw [hw, List.length_map, List.take_length]; exact q⟩)
theorem ev_mapLI {tl : TE} {j : Nat} {α : Type} {f : α → PyData} (h : Ev K tl r m fun x m1 => ∃ xs : List α, x = .d (.list (xs.map f)) ∧ xs.length ≤ 100000 ∧ ∃ g : α → PyData,
    (∀ (x : α) m', x ∈ xs → Ext m1 m' → Ev K te (r.set j (.d (f x))) m' fun y m3 => y = .d (g x) ∧ m3 = m') ∧ Q (.d (.list (xs.map g))) m1) : Ev K (tLc (iList K tl) (gName j) tYes te [j]) r m Q :=
  ev_lcLI (h.imp fun x m1 ⟨xs, e, hn, g, hs, q⟩ => ⟨_, e, by rw [List.length_map]; exact hn, fun i acc => acc = (xs.take i).map g, by simp, fun i d m' acc hd hx hw => by
    obtain ⟨x, h1, rfl⟩ := map_at hd
    exact evt_yes ⟨rfl, fun _ => (hs x m' (List.mem_of_getElem? h1) hx).imp fun y m3 e => ⟨e.2, g x, e.1, by show _ = List.map g (xs.take (i + 1)); rw [hw, take_one h1, List.map_append]; rfl⟩, (fun g => nomatch g)⟩,
    fun acc hw => by have hw : acc = List.map g (xs.take (xs.map f).length) := hw; rw [hw, List.length_map, List.take_length]; exact q⟩)
theorem w_forLtI {tl : TE} {j : Nat} {t : TS} {N : List Val → Mm → Prop} {E : Val → Mm → Prop} (h : Ev K tl r m fun x m1 => ∃ nss, x = .lt nss ∧ ∃ W : Nat → List Val → Mm → Prop, W 0 r m1 ∧
    (∀ (i : Nat) (ns : List Int) r' m', nss[i]? = some ns → W i r' m' → Wp K t (r'.set j (.t ns)) m' (W (i + 1)) E) ∧ (∀ r' m', W nss.length r' m' → N r' m')) : Wp K (tFor (iList K tl) (gName j) t) r m N E := fun σ H G D S L a b =>
  h σ H G S L _ fun v H1 G1 x m1 ⟨nss, hx, W, h0, hs, hd⟩ S1 e1 r1 => by
    subst hx
    cases r1 with
    | @lt _ p xs hs1 hA =>
      have hs1 : SqL K G1 p xs := Or.inl hs1
      refine ⟨p, rfl, ⟨xs, S1.sqL hs1⟩, for_list (xs := xs) (fun i σ' H' => ∃ G' r' m', W i r' m' ∧ Sta K m' H' G' ∧ Le G1 G' ∧ Sl K G' r' σ') ⟨G1, r, _, h0, S1, Le.refl G1, L.mono e1⟩ ?_ ?_ ?_⟩
      · rintro i σ' H' hi ⟨G', r', m', _, S', e', _⟩
        exact S'.sqL (e'.sqL hs1)
      · rintro i y σ' H' hy ⟨G', r', m', hw, S', e', L'⟩
        obtain ⟨ns, c, hns, rfl, hc⟩ := hA.at hy
        refine hs i ns r' m' hns hw (σ'.set j (some (.ref c))) H' G' _ S' (L'.set (r := .t ns) (.t (e' _ _ hc)) j) (fun σ3 H3 G3 r3 m3 h3 S3 e3 L3 => ⟨G3, r3, m3, h3, S3, e'.trans e3, L3⟩) (fun v H3 G3 x m3 n3 S3 e3 L3 => b v H3 G3 x m3 n3 S3 (e1.trans (e'.trans e3)) L3)
      · rintro σ' H' ⟨G', r', m', hw, S', e', L'⟩
        rw [hA.len] at hw
        exact a σ' H' G' r' m' (hd r' m' hw) S' (e1.trans e') L'
end
end DL

/-! pairs of a whole number and a tuple of ints, lists of such, these sorted -/
namespace DL
open PySem L2 PySem.Spec PyProof.Rows
def qP (i : Int) (ns : List Int) : Hp → V → Prop := fun G v => ∃ b c, v = .ref b ∧ G b = some (.tup [.int i, .ref c]) ∧ G c = some (.tup (ns.map V.int))
theorem qP.mono {i : Int} {ns : List Int} {v : V} (G G' : Hp) (e : Le G G') (h : qP i ns G v) : qP i ns G' v := by
  obtain ⟨b, c, h1, h2, h3⟩ := h
  exact ⟨b, c, h1, e _ _ h2, e _ _ h3⟩
def vq (i : Int) (ns : List Int) : Val := .g (qP i ns)
def lqP (qs : List (Int × List Int)) : Hp → V → Prop := fun G v => ∃ (a : Addr) (bs : List (V × Int × List Int)), v = .ref a ∧ Rd G a (.lst (bs.map (·.1))) ∧ bs.map (·.2) = qs ∧ ∀ b ∈ bs, qP b.2.1 b.2.2 G b.1
theorem lqP.mono {qs : List (Int × List Int)} {v : V} (G G' : Hp) (e : Le G G') (h : lqP qs G v) : lqP qs G' v := by
  obtain ⟨a, bs, h1, h2, h3, h4⟩ := h
  exact ⟨a, bs, h1, e.rd h2, h3, fun b hb => (h4 b hb).mono _ _ e⟩
def vlq (qs : List (Int × List Int)) : Val := .g (lqP qs)
section
variable {K : PySem.W.Frag} {r : List Val} {m : Mm} {Q : Val → Mm → Prop} {te tl : TE} {tt : TT}
theorem vq_of {G : Hp} {i : Int} {ns : List Int} {v : V} (h : VR K G (vq i ns) v) : qP i ns G v := by
  cases h with
  | g h _ => exact h
theorem vlq_of {G : Hp} {qs : List (Int × List Int)} {v : V} (h : VR K G (vlq qs) v) : lqP qs G v := by
  cases h with
  | g h _ => exact h
theorem vr_vq {G : Hp} {i : Int} {ns : List Int} {v : V} (h : qP i ns G v) : VR K G (vq i ns) v := .g h qP.mono
theorem vr_vlq {G : Hp} {qs : List (Int × List Int)} {v : V} (h : lqP qs G v) : VR K G (vlq qs) v := .g h lqP.mono
theorem ev_tupQ {t : TA} (h : EvA K t r m fun xs m1 => ∃ i ns, xs = [.d (.int i), .t ns] ∧ Q (vq i ns) m1) : Ev K (tTup t) r m Q := fun σ H G S L R k =>
  h σ H G S L _ fun vs H1 G1 xs m1 ⟨i, ns, hx, q⟩ S1 e1 r1 => by
    subst hx
    obtain ⟨v, w, rfl, h1, h2⟩ := vrs2 r1
    obtain rfl := int_of h1
    cases h2 with
    | @t _ c hc =>
      refine ⟨by show 2 ≤ sizeLine; decide, fun p hp => ?_⟩
      have hg := S1.free hp
      exact k (.ref p) _ (upd G1 p (.tup [.int i, .ref c])) _ m1 q (S1.fix hp) (e1.trans (Le.new hg)) (vr_vq ⟨p, c, rfl, upd_same, Le.new hg _ _ hc⟩)
theorem o2_ixQ {i : Int} {ns : List Int} (q : Q (.t ns) m) : Op2 K (rIx K) (vq i ns) (.d (.int 1)) m Q := fun H G v w S a b R k => by
  obtain ⟨p, c, rfl, h2, h3⟩ := vq_of a
  rw [int_of b]
  refine Or.inr (Or.inl ⟨p, [.int i, .ref c], 1, .ref c, rfl, rfl, S.sqT (SqT.of h2), rfl, ?_⟩)
  exact k _ H G _ m q S (Le.refl G) (.t h3)
/-- [(.., ns) for ns in a list of tuples] -/
theorem ev_mapQ {j : Nat} {nss : List (List Int)} (h : Ev K tl r m fun x m1 => x = .lt nss ∧ m1 = m) (hn : nss.length ≤ 100000) (f : List Int → Int)
    (hs : ∀ ns m', ns ∈ nss → Ext m m' → Ev K te (r.set j (.t ns)) m' fun x m3 => x = vq (f ns) ns ∧ m3 = m') (q : Q (vlq (nss.map fun ns => (f ns, ns))) m) : Ev K (tLc (iList K tl) (gName j) tYes te [j]) r m Q := fun σ H G S L R k =>
  h σ H G S L _ fun v H1 G1 x m1 ⟨hx, hm⟩ S1 e1 r1 => by
    subst hx hm
    cases r1 with
    | @lt _ p xs hs1 hA =>
      have hs1 : SqL K G1 p xs := Or.inl hs1
      refine ⟨p, rfl, ⟨xs, S1.sqL hs1⟩, fun D hD => ?_⟩
      have hmD := S1.freeM hD
      refine lc_list (xs := xs) (LcV K m1 G1 D fun i acc => acc = (nss.take i).map fun ns => vq (f ns) ns) (lcv_start S1 hD (by simp)) ?_ ?_ ?_
      · rintro i H' hi ⟨G', acc, _, _, S', e'⟩
        exact S'.sqL (e'.sqL hs1)
      · intro i y H' hy hP
        obtain ⟨ns, c, hns, rfl, hc⟩ := hA.at hy
        have hi : i < 100000 := by
          have := (List.getElem?_eq_some_iff.mp hy).1
          rw [hA.len] at this
          omega
        refine ⟨wipe1 σ j _, lcv_turn hmD hi (fun G' e' => ?_) (fun m' acc hx hw => evt_yes ⟨rfl, fun _ => (hs ns m' (List.mem_of_getElem? hns) hx).imp fun x m3 e => ⟨e.2, ?_⟩, (fun g => nomatch g)⟩) hP⟩
        · have := (L.mono (e1.trans e')).set (r := .t ns) (.t (e' _ _ hc)) j
          show Sl K G' (r.set j (.t ns)) ((σ.set j none).set j (some (.ref c)))
          rw [List.set_set]
          exact this
        · rw [hw, take_one hns, List.map_append, e.1]; rfl
      · intro H' hP
        rw [hA.len] at hP
        obtain ⟨G', acc, hw, hl, S', e'⟩ := hP
        rw [List.take_length] at hw
        subst hw
        obtain ⟨ys, g1, g2⟩ := S'.mem D _ put_same
        have hg := S'.dis D _ put_same
        have S2 := S'.freeze put_same g1
        rw [del_put hmD] at S2
        refine k _ H' _ _ m1 q S2 (e1.trans (e'.trans (Le.new hg))) (vr_vlq ?_)
        have : ∀ (l : List (List Int)) (ys : List V), VRs K G' (l.map fun ns => vq (f ns) ns) ys → ∃ bs : List (V × Int × List Int), bs.map (·.1) = ys ∧ bs.map (·.2) = l.map (fun ns => (f ns, ns)) ∧ ∀ b ∈ bs, qP b.2.1 b.2.2 G' b.1 := fun l => by
          induction l with
          | nil => intro ys h; have h : ys = [] := h; subst h; exact ⟨[], rfl, rfl, fun _ z => nomatch z⟩
          | cons a t ih =>
            rintro ys ⟨x, u, rfl, h1, h2⟩
            obtain ⟨bs, b1, b2, b3⟩ := ih u h2
            refine ⟨(x, f a, a) :: bs, by rw [List.map_cons, b1], by rw [List.map_cons, b2, List.map_cons], fun b hb => ?_⟩
            rcases List.mem_cons.mp hb with rfl | hb
            · exact vq_of h1
            · exact b3 b hb
        obtain ⟨bs, b1, b2, b3⟩ := this nss ys g2
        exact ⟨D, bs, rfl, by rw [b1]; exact Rd.of upd_same, b2, fun b hb => (b3 b hb).mono _ _ (Le.new hg)⟩
/-- for q in a list of such pairs -/
theorem w_forLQ {j : Nat} {t : TS} {N : List Val → Mm → Prop} {E : Val → Mm → Prop} (h : Ev K tl r m fun x m1 => ∃ qs, x = vlq qs ∧ ∃ W : Nat → List Val → Mm → Prop, W 0 r m1 ∧
    (∀ (i : Nat) (q : Int × List Int) r' m', qs[i]? = some q → W i r' m' → Wp K t (r'.set j (vq q.1 q.2)) m' (W (i + 1)) E) ∧ (∀ r' m', W qs.length r' m' → N r' m')) : Wp K (tFor (iList K tl) (gName j) t) r m N E := fun σ H G D S L a b =>
  h σ H G S L _ fun v H1 G1 x m1 ⟨qs, hx, W, h0, hs, hd⟩ S1 e1 r1 => by
    subst hx
    obtain ⟨p, bs, rfl, hs1, rfl, hb⟩ := vlq_of r1
    have hs1 : SqL K G1 p (bs.map (·.1)) := Or.inl hs1
    refine ⟨p, rfl, ⟨_, S1.sqL hs1⟩, for_list (xs := bs.map (·.1)) (fun i σ' H' => ∃ G' r' m', W i r' m' ∧ Sta K m' H' G' ∧ Le G1 G' ∧ Sl K G' r' σ') ⟨G1, r, _, h0, S1, Le.refl G1, L.mono e1⟩ ?_ ?_ ?_⟩
    · rintro i σ' H' hi ⟨G', r', m', _, S', e', _⟩
      exact S'.sqL (e'.sqL hs1)
    · rintro i y σ' H' hy ⟨G', r', m', hw, S', e', L'⟩
      rw [List.getElem?_map] at hy
      obtain ⟨q, hq, rfl⟩ := Option.map_eq_some_iff.mp hy
      refine hs i q.2 r' m' (by rw [List.getElem?_map, hq]; rfl) hw (σ'.set j (some q.1)) H' G' _ S' (L'.set (r := vq q.2.1 q.2.2) (vr_vq ((hb q (List.mem_of_getElem? hq)).mono _ _ e')) j) (fun σ3 H3 G3 r3 m3 h3 S3 e3 L3 => ⟨G3, r3, m3, h3, S3, e'.trans e3, L3⟩) (fun v H3 G3 x m3 n3 S3 e3 L3 => b v H3 G3 x m3 n3 S3 (e1.trans (e'.trans e3)) L3)
    · rintro σ' H' ⟨G', r', m', hw, S', e', L'⟩
      rw [List.length_map] at hw
      exact a σ' H' G' r' m' (hd r' m' (by rw [List.length_map]; exact hw)) S' (e1.trans e') L'
end
/-! sorted of such a list -/
def encQ (q : Int × List Int) : PyData := .tuple [.int q.1, tupI q.2]
def rSortQ (K : PySem.W.Frag) : List V → Hp → VK → Prop := fun vs H Q => ∃ (a : Addr) (bs : List (V × Int × List Int)), vs = [.ref a] ∧ SqL K H a (bs.map (·.1)) ∧ bs.length ≤ 100000 ∧ (∀ b ∈ bs, Rp K H (encQ b.2) b.1) ∧
  ∀ p, H p = none → Q (.ref p) (upd H p (.lst ((bs.mergeSort (PySem.W.dataLe false fun b => encQ b.2)).map (·.1))))
theorem each_of3 {β : Type} {bs : List (V × β)} : ∀ {us : List Value}, Vals (bs.map (·.1)) us → PySem.W.EachIs (fun (v : Value) (b : V × β) => RelV b.1 v) us bs := by
  induction bs with
  | nil => intro us r; rw [List.map_nil] at r; cases r; exact .nil
  | cons b bs ih =>
    intro us r
    rw [List.map_cons] at r
    cases r with
    | cons r1 r2 => exact .cons r1 (ih r2)
theorem vals_each3 {β : Type} {bs : List (V × β)} : ∀ {us : List Value}, PySem.W.EachIs (fun (v : Value) (b : V × β) => RelV b.1 v) us bs → Vals (bs.map (·.1)) us := by
  induction bs with
  | nil => intro us r; cases r; exact .nil
  | cons b bs ih =>
    intro us r
    cases r with
    | cons r1 r2 => rw [List.map_cons]; exact .cons r1 (ih r2)
theorem alike_encQ (p q : Int × List Int) : PySem.W.alike (encQ p) (encQ q) = true := by
  unfold encQ
  have := alike_keys p.2 q.2
  simp only [PySem.W.alike, PySem.W.alikeAll, this, Bool.and_self]
theorem cr_sortQ {X : Cx} (hu : X.A.units + 64 < cLine) : CallR X (.builtin "sorted") (rSortQ X.K) := by
  rintro pins s σ H vs us Q I r ⟨a, bs, rfl, hs, hz1, hr, q⟩
  obtain ⟨its, rv, hl, hz⟩ := I.list hs
  rw [Vals.ref1 r]
  have hb := each_of3 rv
  refine PySem.W.sorted_data (enc := fun b : V × Int × List Int => encQ b.2) hl.isList hb ?_ (PySem.W.AllAlike.of fun b b' => alike_encQ _ _) (PySem.W.Sortable.tuples fun b => ⟨_, _, rfl⟩) (by rw [List.length_map] at hz; exact hz) (fun b _ => ?_) fun out hlen hE => ?_
  · exact (PySem.W.each_mem hb).mono fun v b ⟨hv, hb⟩ => ⟨[], rd0 I _ _ _ (by
      have : ∀ l : List Int, flDAll (l.map PyData.int) = true := fun l => by
        induction l with
        | nil => rfl
        | cons a t ih => simp only [List.map_cons, flDAll, flD, ih, Bool.and_self]
      simp only [encQ, flD, flDAll, tupI, this, Bool.and_self]) (hr b hb) hv⟩
  · have : (encQ b.2).depth ≤ 12 := by
      unfold encQ
      simp only [PyData.depth, PyData.depthAll, tupI, PySem.W.depth_ints]
      omega
    show X.A.units + 2 + (encQ b.2).depth < cLine
    omega
  · obtain ⟨c, hc⟩ := sortedAll_at s.heap its out.toArray
    have hp := I.hok.fresh (Nat.le_succ s.heap.objs.size)
    refine ⟨.ref (s.heap.objs.size + 1), upd H (s.heap.objs.size + 1) (.lst ((bs.mergeSort (PySem.W.dataLe false fun b => encQ b.2)).map (·.1))), I.laid (t' := s.toks) (fun b o e => sortedAll_old e) (Nat.le_succ _) ⟨?_, out, c, vals_each3 hE, hc⟩, rfl, q _ hp⟩
    rw [List.length_map, List.length_mergeSort]
    rw [List.length_map] at hz; exact hz
theorem kSortQ {X : Cx} {j : Nat} (K : PySem.W.Frag) (hr : Room j X.A) (h : X.K = K := by rfl) : CallR X (.builtin "sorted") (rSortQ K) := h ▸ cr_sortQ (by have := hr.un; omega)
theorem le_fst {p q : Int × List Int} (h : PySem.W.dataLt (encQ q) (encQ p) = false) : p.1 ≤ q.1 := by
  unfold encQ at h
  rw [PySem.W.dataLt_pair (by rfl) (alike_keys _ _), eqv_int] at h
  by_cases e : q.1 = p.1
  · omega
  · rw [decide_eq_false e, if_neg (by decide)] at h
    have h2 := congrFun (congrFun (PySem.W.dataLe_int (fun b : Int => b)) p.1) q.1
    rw [PySem.W.dataLe_eq] at h2
    have h3 : (!PySem.W.dataLt (.int q.1) (.int p.1)) = decide (p.1 ≤ q.1) := h2
    rw [h] at h3
    exact of_decide_eq_true h3.symm
section
variable {K : PySem.W.Frag} {m : Mm} {Q : Val → Mm → Prop}
theorem on_sortQ {qs : List (Int × List Int)} (hl : qs.length ≤ 100000) (q : ∀ qs' : List (Int × List Int), qs'.Perm qs → qs'.Pairwise (fun a b => a.1 ≤ b.1) → Q (vlq qs') m) : OpN K (rSortQ K) [vlq qs] m Q := fun H G vs S a R k => by
  obtain ⟨v, rfl, h⟩ := vrs1 a
  obtain ⟨p, bs, rfl, h1, rfl, hb⟩ := vlq_of h
  rw [List.length_map] at hl
  refine ⟨p, bs, rfl, S.sqL (Or.inl h1), hl, fun b hb' => ?_, fun l hl' => ?_⟩
  · obtain ⟨c, d, e1, e2, e3⟩ := hb b hb'
    rw [e1]
    exact rp_tuple.mpr ⟨c, _, rfl, SqT.of (S.sub _ _ e2), rpa_cons.mpr ⟨_, _, rfl, rp_int.mpr rfl, rpa_cons.mpr ⟨_, _, rfl, rp_tuple.mpr ⟨d, _, rfl, SqT.of (S.sub _ _ e3), rpa_ints _⟩, rpa_nil.mpr rfl⟩⟩⟩
  · have hg := S.free hl'
    have hp := List.mergeSort_perm bs (PySem.W.dataLe false fun b => encQ b.2)
    have T := PySem.W.sortLe_total (PyProof.Rows.listOrd itemOrd) false fun b : V × Int × List Int => PySem.W.keyToks (encQ b.2)
    have s1 := List.pairwise_mergeSort (le := PySem.W.dataLe false fun b : V × Int × List Int => encQ b.2) T.trans (fun a b => by rw [Bool.or_eq_true]; exact T.total a b) bs
    generalize bs.mergeSort (PySem.W.dataLe false fun b => encQ b.2) = cs at *
    have hq := q (cs.map (·.2)) (hp.map _) (List.pairwise_map.mpr (s1.imp fun {a b} hab => le_fst (by simpa [PySem.W.dataLe_eq] using hab)))
    exact k _ _ (upd G l _) _ m hq (S.fix hl') (Le.new hg) (vr_vlq ⟨l, cs, rfl, Rd.of upd_same, rfl, fun b hb' => (hb b (hp.mem_iff.mp hb')).mono _ _ (Le.new hg)⟩)
end
theorem toNat_kn (s : List Nat) : (kn s).map Int.toNat = s := by
  unfold kn
  rw [List.map_map]
  exact (List.map_congr_left fun x _ => by simp).trans (List.map_id s)
theorem perm_back {l : List (List Nat)} {qs : List (Int × List Int)} (h : qs.Perm ((l.map kn).map fun ns => (ns.sum, ns))) : ∃ L : List (List Nat), L.Perm l ∧ qs = L.map fun s => ((kn s).sum, kn s) := by
  have hg : ∀ s : List Nat, (((kn s).sum, kn s) : Int × List Int).2.map Int.toNat = s := fun s => toNat_kn s
  refine ⟨qs.map fun q => q.2.map Int.toNat, ?_, ?_⟩
  · have := h.map fun q : Int × List Int => q.2.map Int.toNat
    rw [List.map_map, List.map_map] at this
    have e : l.map (((fun q : Int × List Int => q.2.map Int.toNat) ∘ fun ns : List Int => (ns.sum, ns)) ∘ kn) = l := (List.map_congr_left fun s _ => toNat_kn s).trans (List.map_id l)
    rw [e] at this
    exact this
  · rw [List.map_map]
    refine ((List.map_congr_left fun q hq => ?_).trans (List.map_id qs)).symm
    have hm := h.mem_iff.mp hq
    rw [List.map_map] at hm
    obtain ⟨s, _, rfl⟩ := List.mem_map.mp hm
    show ((kn ((kn s).map Int.toNat)).sum, kn ((kn s).map Int.toNat)) = _
    rw [toNat_kn]; rfl
theorem kn_sum (s : List Nat) : (kn s).sum = ((s.sum : Nat) : Int) := by
  induction s with
  | nil => rfl
  | cons a t ih => show (a : Int) + (kn t).sum = _; rw [ih, List.sum_cons]; omega
theorem ahead_sum {L : List (List Nat)} (up : L.Pairwise fun a b => a.sum ≤ b.sum) {i : Nat} {s : List Nat} (hi : L[i]? = some s) {u : List Nat} (hm : u ∈ L) (hlt : u.sum < s.sum) : u ∈ L.take i := by
  have he := (List.getElem?_eq_some_iff.mp hi).2
  have e : L = L.take i ++ s :: L.drop (i + 1) := by
    rw [← he, List.getElem_cons_drop, List.take_append_drop]
  rw [e] at hm up
  rcases List.mem_append.mp hm with hm | hm
  · exact hm
  · exfalso
    have up2 := (List.pairwise_append.mp up).2.1
    rcases List.mem_cons.mp hm with hm | hm
    · rw [hm] at hlt; exact Nat.lt_irrefl _ hlt
    · have := (List.pairwise_cons.mp up2).1 _ hm
      omega
def f_needFewKinds : FSp := fun args m R => ∃ ss : List Int, args = [.d (tupI ss)] ∧ ss.length ≤ 3 ∧ R (.d .none) m
def f_together : FSp := fun args m R => ∃ (ss : List Int) (c : Nat), args = [.d (tupI ss), .d (.int (c : Int))] ∧ Shares ss ∧ ss.length ≤ 3 ∧ 1 ≤ c ∧ c ≤ 3 ∧ R (.d (frac (mnN ss (List.replicate ss.length c)))) m
theorem rep_need {n c : Nat} (hc : c ≤ 3) : NeedV n (List.replicate n c) := ⟨List.length_replicate, fun x hx => by rw [List.eq_of_mem_replicate hx]; exact hc⟩
theorem rep_few' : ∀ n : _root_.Fin 4, ∀ c : _root_.Fin 4, stN (List.replicate n.val c.val) ≤ 64 := by decide +kernel
theorem rep_few {n c : Nat} (hn : n ≤ 3) (hc : c ≤ 3) : stN (List.replicate n c) ≤ 64 := rep_few' ⟨n, by omega⟩ ⟨c, by omega⟩
end DL

/-! dicts whose keys are pairs of tuples of ints -/
namespace DL
open PySem L2 PySem.Spec PyProof.Rows
abbrev PK := List Int × List Int
def pkK (k : PK) : NestedKey := .tup [.tup (k.1.map NestedKey.num), .tup (k.2.map NestedKey.num)]
theorem pkK_inj {k l : PK} (h : pkK k = pkK l) : k = l := by
  have hn : ∀ {x y : List Int}, x.map NestedKey.num = y.map NestedKey.num → x = y := fun {x y} e => (List.map_inj_right (fun _ _ z => NestedKey.num.inj z)).mp e
  unfold pkK at h
  injection h with h
  injection h with h1 h2
  injection h1 with h1
  injection h2 with h2 _
  injection h2 with h2
  exact Prod.ext (hn h1) (hn h2)
def PkAt (H : Hp) (b : Addr) (k : PK) : Prop := ∃ c d, H b = some (.tup [.ref c, .ref d]) ∧ H c = some (.tup (k.1.map V.int)) ∧ H d = some (.tup (k.2.map V.int))
theorem PkAt.keep {H H' : Hp} {b : Addr} {k : PK} (e : ∀ c xs, H c = some (.tup xs) → H' c = some (.tup xs)) (h : PkAt H b k) : PkAt H' b k := by
  obtain ⟨c, d, h1, h2, h3⟩ := h
  exact ⟨c, d, e _ _ h1, e _ _ h2, e _ _ h3⟩
theorem PkAt.mono {H H' : Hp} {b : Addr} {k : PK} (e : Le H H') (h : PkAt H b k) : PkAt H' b k := h.keep fun c xs z => e _ _ z
section
variable {P : Program} {w : World} {H : Hp} {h : Heap}
theorem nest_all : ∀ {ns : List Int} {us : List Value}, Vals (ns.map V.int) us → NestedAll h (ns.map NestedKey.num) us
  | [], us, r => by cases r; exact .nil
  | n :: ns, us, r => by
    cases r with
    | cons r1 r2 =>
      obtain ⟨t, rfl⟩ := r1
      exact .cons (.int n t) (nest_all r2)
theorem nest_ints {c : Addr} {ns : List Int} (ok : HOk P w H h) (e : H c = some (.tup (ns.map V.int))) : NestedIs h (.tup (ns.map NestedKey.num)) (.ref c) := by
  have hok := ok c _ e
  obtain ⟨_, us, r, o, g1, g2, n, g3⟩ := hok
  exact .tup g1 g2 g3 (by rw [List.toList_toArray]; exact nest_all r)
theorem depth_nums : ∀ ns : List Int, NestedKey.depthAll (ns.map NestedKey.num) = 0
  | [] => by simp [NestedKey.depthAll]
  | n :: ns => by simp [NestedKey.depthAll, NestedKey.depth, depth_nums ns]
theorem pk_is {b : Addr} {k : PK} (ok : HOk P w H h) (e : PkAt H b k) : (nestedKind P w).is h (pkK k) b := by
  obtain ⟨c, d, h1, h2, h3⟩ := e
  have hok := ok b _ h1
  obtain ⟨_, us, r, o, g1, g2, n, g3⟩ := hok
  refine ⟨.tup g1 g2 g3 ?_, ?_⟩
  · rw [List.toList_toArray]
    cases r with
    | cons r1 r2 =>
      cases r2 with
      | cons r3 r4 =>
        cases r4
        cases r1
        cases r3
        exact .cons (nest_ints ok h2) (.cons (nest_ints ok h3) .nil)
  · unfold pkK
    simp only [NestedKey.depth, NestedKey.depthAll, depth_nums]
    decide
end
abbrev PkE := PK × Addr × V
def valP (es : List PkE) (k : PK) : Option V := (es.find? fun e => decide (e.1 = k)).map (·.2.2)
def putP (es : List PkE) (k : PK) (b : Addr) (v : V) : List PkE := if (valP es k).isSome then es.map (fun e => if e.1 = k then (e.1, e.2.1, v) else e) else es ++ [(k, b, v)]
def PkR (p : PkE) (q : NestedKey × Addr × Value) : Prop := q.1 = pkK p.1 ∧ q.2.1 = p.2.1 ∧ RelV p.2.2 q.2.2
theorem pk_val {es : List PkE} {xs : List (NestedKey × Addr × Value)} (r : Paired PkR es xs) (k : PK) : RelO (valP es k) ((atKey xs (pkK k)).map (·.2)) := by
  induction r with
  | nil => exact True.intro
  | @cons p q ps qs hpq _ ih =>
    obtain ⟨e1, _, e3⟩ := hpq
    by_cases hk : p.1 = k
    · have l1 : valP (p :: ps) k = some p.2.2 := by simp [valP, hk]
      have l2 : atKey (q :: qs) (pkK k) = some q.2 := by simp [atKey, e1, hk]
      rw [l1, l2]; exact e3
    · have hk2 : ¬ pkK p.1 = pkK k := fun z => hk (pkK_inj z)
      have l1 : valP (p :: ps) k = valP ps k := by simp [valP, hk]
      have l2 : atKey (q :: qs) (pkK k) = atKey qs (pkK k) := by simp [atKey, e1, hk2]
      rw [l1, l2]; exact ih
theorem pk_put {es : List PkE} {xs : List (NestedKey × Addr × Value)} (r : Paired PkR es xs) (k : PK) (b : Addr) {v : V} {u : Value} (rv : RelV v u) : Paired PkR (putP es k b v) (storedH xs (pkK k) b u) := by
  have hs : (valP es k).isSome = (atKey xs (pkK k)).isSome := by rw [(pk_val r k).isSome_eq, Option.isSome_map]
  unfold putP storedH
  rw [hs]
  cases hz : (atKey xs (pkK k)).isSome with
  | false => exact Paired.snoc r ⟨rfl, rfl, rv⟩
  | true =>
    simp only [if_true]
    clear hs hz
    induction r with
    | nil => exact .nil
    | @cons p q ps qs hpq _ ih =>
      refine .cons ?_ ih
      obtain ⟨e1, e2, e3⟩ := hpq
      show PkR (if p.1 = k then (p.1, p.2.1, v) else p) (putAt (pkK k) u q)
      unfold putAt
      by_cases hk : p.1 = k
      · rw [if_pos hk, if_pos (by rw [e1, hk])]
        exact ⟨e1, e2, rv⟩
      · rw [if_neg hk, if_neg (fun z => hk (pkK_inj (e1.symm.trans z)))]
        exact ⟨e1, e2, e3⟩
theorem putP_mem {es : List PkE} {k : PK} {b : Addr} {v : V} {e : PkE} (h : e ∈ putP es k b v) : (e.1 = k ∧ e.2.1 = b) ∨ ∃ e' ∈ es, e'.1 = e.1 ∧ e'.2.1 = e.2.1 := by
  unfold putP at h
  split at h
  · obtain ⟨e', h1, rfl⟩ := List.mem_map.mp h
    refine Or.inr ⟨e', h1, ?_⟩
    split <;> exact ⟨rfl, rfl⟩
  · rcases List.mem_append.mp h with h | h
    · exact Or.inr ⟨e, h, rfl, rfl⟩
    · rw [List.mem_singleton.mp h]; exact Or.inl ⟨rfl, rfl⟩
theorem putP_len (es : List PkE) (k : PK) (b : Addr) (v : V) : (putP es k b v).length ≤ es.length + 1 := by
  unfold putP
  split
  · rw [List.length_map]; omega
  · rw [List.length_append]; exact Nat.le_refl _
/-- the dict at a as one object -/
def pkO (P : Program) (w : World) (a : Addr) (es : List PkE) : HO := .ext fun h => (a == sysModules) = false ∧ ∃ xs, Paired PkR es xs ∧ ∃ o en ep, h.get? a = some o ∧ o.ExactDict ∧ o.data = .dict en ep ∧ en.toList = xs.map (entryOfKey (nestedKind P w)) ∧ (xs.map (·.1)).Nodup
def PkOb (P : Program) (w : World) (H : Hp) (a : Addr) (es : List PkE) : Prop := H a = some (pkO P w a es) ∨ es = [] ∧ H a = some (.dT [])
structure PkD (P : Program) (w : World) (H : Hp) (a : Addr) (es : List PkE) : Prop where
  obj : PkOb P w H a es
  keys : ∀ e ∈ es, PkAt H e.2.1 e.1
  few : es.length ≤ 100000
theorem PkD.dict {P : Program} {w : World} {H : Hp} {h : Heap} {a : Addr} {es : List PkE} (ok : HOk P w H h) (x : PkD P w H a es) : (a == sysModules) = false ∧ ∃ xs, Paired PkR es xs ∧ h.DictOfH (nestedKind P w) a xs := by
  rcases x.obj with e | ⟨rfl, e⟩
  · obtain ⟨⟨h0, xs, r, o, en, ep, g1, g2, g3, g4, g5⟩, _⟩ := (show ObjOk P w H h a (pkO P w a es) from ok a _ e)
    refine ⟨h0, xs, r, o, en, ep, g1, g2, g3, g4, fun y hy => ?_, g5⟩
    have all : ∀ {l : List PkE} {ys : List (NestedKey × Addr × Value)}, Paired PkR l ys → (∀ e ∈ l, PkAt H e.2.1 e.1) → ∀ y ∈ ys, (nestedKind P w).is h y.1 y.2.1 := fun {l ys} r => by
      induction r with
      | nil => exact fun _ _ z => nomatch z
      | @cons p q ps qs hpq _ ih =>
        intro hk y hy
        rcases List.mem_cons.mp hy with rfl | hy
        · obtain ⟨e1, e2, _⟩ := hpq
          rw [e1, e2]
          exact pk_is ok (hk p List.mem_cons_self)
        · exact ih (fun e he => hk e (List.mem_cons_of_mem _ he)) y hy
    exact all r x.keys y hy
  · obtain ⟨z, y, xs, r, o, en, ep, g1, g2, g3, g4, _⟩ := (show ObjOk P w H h a (.dT []) from ok a _ e)
    cases r
    exact ⟨y, [], .nil, o, en, ep, g1, g2, g3, g4, (fun _ z => nomatch z), List.nodup_nil⟩
theorem pk_ok {P : Program} {w : World} {H : Hp} {h : Heap} {a : Addr} {es : List PkE} {xs : List (NestedKey × Addr × Value)} (h0 : (a == sysModules) = false) (r : Paired PkR es xs) (d : h.DictOfH (nestedKind P w) a xs) : ObjOk P w H h a (pkO P w a es) := by
  obtain ⟨o, en, ep, g1, g2, g3, g4, _, g5⟩ := d
  refine ⟨⟨h0, xs, r, o, en, ep, g1, g2, g3, g4, g5⟩, ⟨o, g1⟩, fun h1 h2 hh hk => ?_⟩
  obtain ⟨a0, ys, b1, o1, en1, ep1, b2, b3⟩ := hh
  exact ⟨a0, ys, b1, o1, en1, ep1, hk _ b2, b3⟩
/-! readings and rules -/
def tPNotIn (P : Program) (w : World) (ty td : TE) : TE := fun σ H Q => ty σ H fun y H1 => td σ H1 fun x H2 => ∃ a b es k, x = .ref a ∧ y = .ref b ∧ PkAt H2 b k ∧ PkD P w H2 a es ∧ Q (.bl (!(valP es k).isSome)) H2
def tPGet (P : Program) (w : World) (td ty : TE) : TE := fun σ H Q => td σ H fun x H1 => ty σ H1 fun y H2 => ∃ a b es k v, x = .ref a ∧ y = .ref b ∧ PkAt H2 b k ∧ PkD P w H2 a es ∧ valP es k = some v ∧ Q v H2
def sPPut (P : Program) (w : World) (td ty tv : TE) : TS := fun D σ H => tv σ H fun v H1 => td σ H1 fun x H2 => ty σ H2 fun y H3 => ∃ a b es k, x = .ref a ∧ y = .ref b ∧ PkAt H3 b k ∧ PkD P w H3 a es ∧ es.length < 100000 ∧ D.nx σ (upd H3 a (pkO P w a (putP es k b v)))
section
variable {X : Cx} {o i value : Expr} {pos pos' : Pos} {td ty tv : TE} {j : Nat} {P : Program} {w : World}
theorem pk_room {A : Around} (hr : Room j A) : (nestedKind P w).room A.in1 := by
  have := hr.un
  show A.units + 1 + 8 < cLine
  omega
theorem pc_pnotin (hr : Room j X.A) (hi : PE X i ty) (ho : PE X o td) : PC X .NotIn i o (tPNotIn X.prog X.w ty td) := by
  refine ⟨fun pins s σ H Q I hh => ?_⟩
  refine thn (hi.run pins s σ H _ I hh) fun u1 s1 ⟨y, H1, I1, ry, q1⟩ => thn (ho.run pins s1 σ H1 _ I1 q1) fun u2 s2 ⟨x, H2, I2, rx, a, b, es, k, ex, ey, hk, hd, q⟩ => ?_
  subst ex ey
  obtain rfl : u2 = Value.ref a := rx
  obtain rfl : u1 = Value.ref b := ry
  obtain ⟨h0, xs, r, dd⟩ := hd.dict I2.hok
  refine wpAny_notIn_heap (pk_room hr) (pk_is I2.hok hk) h0 dd ?_
  have hv := (pk_val r k).isSome_eq
  rw [Option.isSome_map] at hv
  rw [← hv]
  exact ⟨.bl _, H2, I2.tok _, rfl, q⟩
theorem pe_pget (hr : Room j X.A) (ho : PE X o td) (hi : PE X i ty) (hs : NoSl i) : PE X (.Subscript o i pos) (tPGet X.prog X.w td ty) := by
  refine ⟨fun pins s σ H Q I hh => ?_⟩
  refine subD_of PySem.F.slot_dict_getitem.lookup hs (thn (ho.run pins s σ H _ I hh) fun u1 s1 ⟨x, H1, I1, rx, q1⟩ => thn (hi.run pins s1 σ H1 _ I1 q1) fun u2 s2 ⟨y, H2, I2, ry, a, b, es, k, v, ex, ey, hk, hd, hv, q⟩ => ?_)
  subst ex ey
  obtain rfl : u1 = Value.ref a := rx
  obtain rfl : u2 = Value.ref b := ry
  obtain ⟨h0, xs, r, dd⟩ := hd.dict I2.hok
  refine ⟨dd.typeIs, ?_⟩
  have hq := pk_val r k
  rw [hv] at hq
  obtain ⟨u, hu, ru⟩ := hq.some_of
  obtain ⟨p, hp, hp2⟩ := Option.map_eq_some_iff.mp hu
  refine wpAny_getItem_heap (pk_room hr) (pk_is I2.hok hk) dd hp ?_
  rw [hp2]
  exact ⟨v, H2, I2.tok _, ru, q⟩
theorem ps_pput (hr : Room j X.A) (ho : PE X o td) (hi : PE X i ty) (hv : PE X value tv) (hs : swapsWith value (some (.Subscript o i pos')) pos.line X.env = pure false) :
    PS X (.Assign [.Subscript o i pos'] value pos) (sPPut X.prog X.w td ty tv) := by
  refine ⟨fun pins s σ H D I hh => ?_⟩
  refine wpAny_Assign_Subscript (thn (hv.run pins s σ H _ I hh) fun u0 s1 ⟨v, H1, I1, rv, q1⟩ => thn (ho.run pins s1 σ H1 _ I1 q1) fun u1 s2 ⟨x, H2, I2, rx, q2⟩ => thn (hi.run pins s2 σ H2 _ I2 q2) fun u2 s3 ⟨y, H3, I3, ry, a, b, es, k, ex, ey, hk, hd, hl, q⟩ => ?_) hs
  subst ex ey
  obtain rfl : u1 = Value.ref a := rx
  obtain rfl : u2 = Value.ref b := ry
  obtain ⟨h0, xs, r, dd⟩ := hd.dict I3.hok
  have hxl : xs.length ≤ sizeLine := by
    have := Paired.length r
    rw [sizeLine_eq]; omega
  refine wpAny_setItem_heap (hsz := hxl) (pk_room hr) (pk_is I3.hok hk) dd fun h' dd' hs' => ?_
  have hex : ∃ u, h'.get? a = some u := let ⟨u, _, _, hu, _⟩ := dd'; ⟨u, hu⟩
  have mu : Mut (H3 a) := by
    rcases hd.obj with e | ⟨_, e⟩ <;> rw [e] <;> exact True.intro
  exact ⟨σ, _, I3.write (x := a) (e := a) mu (Or.inl rfl) (fun c u hc z => (hs'.2 c hc).trans z) hex (pk_ok h0 (pk_put r k b rv) dd'), q⟩
end
section
variable {X : Cx} {o i value : Expr} {pos pos' : Pos} {td ty tv : TE} {j : Nat} (P : Program) (w : World)
theorem kPNotIn (hr : Room j X.A) (hi : PE X i ty) (ho : PE X o td) (hP : X.prog = P := by rfl) (hw : X.w = w := by rfl) : PC X .NotIn i o (tPNotIn P w ty td) := hP ▸ hw ▸ pc_pnotin hr hi ho
theorem kPGet (hr : Room j X.A) (ho : PE X o td) (hi : PE X i ty) (hs : NoSl i) (hP : X.prog = P := by rfl) (hw : X.w = w := by rfl) : PE X (.Subscript o i pos) (tPGet P w td ty) := hP ▸ hw ▸ pe_pget hr ho hi hs
theorem kPPut (hr : Room j X.A) (ho : PE X o td) (hi : PE X i ty) (hv : PE X value tv) (hs : swapsWith value (some (.Subscript o i pos')) pos.line X.env = pure false) (hP : X.prog = P := by rfl) (hw : X.w = w := by rfl) :
    PS X (.Assign [.Subscript o i pos'] value pos) (sPPut P w td ty tv) := hP ▸ hw ▸ ps_pput hr ho hi hv hs
end
/-! at the level of data -/
def pkP (k : PK) : Hp → V → Prop := fun G v => ∃ b, v = .ref b ∧ PkAt G b k
theorem pkP.mono {k : PK} {v : V} (G G' : Hp) (e : Le G G') (h : pkP k G v) : pkP k G' v := by
  obtain ⟨b, h1, h2⟩ := h
  exact ⟨b, h1, h2.mono e⟩
def vpk (k : PK) : Val := .g (pkP k)
def pkQ (K : PySem.W.Frag) (P : Program) (w : World) (kvs : List (PK × Val)) : Hp → Hp → Addr → Prop := fun G H a => ∃ es : List PkE, PkOb P w H a es ∧ (∀ e ∈ es, PkAt G e.2.1 e.1) ∧ KVs K G kvs (es.map fun e => (e.1, e.2.2)) ∧ es.length ≤ 100000
def pkM (K : PySem.W.Frag) (P : Program) (w : World) (kvs : List (PK × Val)) : MO := .g (pkQ K P w kvs)
theorem mr_pk {K : PySem.W.Frag} {P : Program} {w : World} {kvs : List (PK × Val)} {G H : Hp} {a : Addr} (h : pkQ K P w kvs G H a) : MR K G H a (pkM K P w kvs) := by
  refine ⟨h, fun G G' H H' e hh ⟨es, h1, h2, h3, h4⟩ => ⟨es, ?_, fun x hx => (h2 x hx).mono e, h3.mono e, h4⟩, ?_, ?_⟩
  · unfold PkOb at h1 ⊢
    rw [hh]; exact h1
  · obtain ⟨es, h1, _⟩ := h
    rcases h1 with h1 | ⟨_, h1⟩ <;> exact ⟨_, h1⟩
  · obtain ⟨es, h1, _⟩ := h
    intro xs z
    rcases h1 with h1 | ⟨_, h1⟩ <;> (rw [z] at h1; cases h1)
theorem valV_pk (es : List PkE) (k : PK) : valV (es.map fun e => (e.1, e.2.2)) k = valP es k := by
  unfold valP
  induction es with
  | nil => rfl
  | cons e es ih =>
    by_cases hk : e.1 = k
    · rw [List.map_cons, valV_pos hk]; simp [hk]
    · rw [List.map_cons, valV_neg hk, ih]; simp [hk]
theorem putK_pk (es : List PkE) (k : PK) (b : Addr) (v : V) : putK (es.map fun e => (e.1, e.2.2)) k v = (putP es k b v).map fun e => (e.1, e.2.2) := by
  unfold putK putP
  rw [valV_any, valV_pk]
  split
  · rw [List.map_map, List.map_map]
    refine List.map_congr_left fun e _ => ?_
    show (if e.1 = k then (e.1, v) else (e.1, e.2.2)) = _
    by_cases hk : e.1 = k
    · simp [hk]
    · simp [hk]
  · rw [List.map_append]; rfl
section
variable {K : PySem.W.Frag} {r : List Val} {m : Mm} {Q : Val → Mm → Prop} {te td ty tv : TE} {P : Program} {w : World}
theorem vpk_of {G : Hp} {k : PK} {v : V} (h : VR K G (vpk k) v) : pkP k G v := by
  cases h with
  | g h _ => exact h
theorem vr_vpk {G : Hp} {k : PK} {v : V} (h : pkP k G v) : VR K G (vpk k) v := .g h pkP.mono
theorem ev_dnewP (q : ∀ p, m p = none → Q (.v (.ref p)) (put m p (pkM K P w []))) : Ev K tDNewT r m Q := fun σ H G S L R k p hp =>
  k (.ref p) _ G _ _ (q p (S.freeM hp)) (S.new hp (mr_pk ⟨[], Or.inr ⟨rfl, upd_same⟩, (fun _ z => nomatch z), rfl, Nat.zero_le _⟩)) (Le.refl G) .v
theorem ev_tupPk {t : TA} (h : EvA K t r m fun xs m1 => ∃ a b, xs = [.t a, .t b] ∧ Q (vpk (a, b)) m1) : Ev K (tTup t) r m Q := fun σ H G S L R k =>
  h σ H G S L _ fun vs H1 G1 xs m1 ⟨a, b, hx, q⟩ S1 e1 r1 => by
    subst hx
    obtain ⟨v1, v2, rfl, h1, h2⟩ := vrs2 r1
    cases h1 with
    | @t _ c hc =>
      cases h2 with
      | @t _ d hd =>
        refine ⟨by show 2 ≤ sizeLine; decide, fun p hp => ?_⟩
        have hg := S1.free hp
        exact k (.ref p) _ (upd G1 p (.tup [.ref c, .ref d])) _ m1 q (S1.fix hp) (e1.trans (Le.new hg)) (vr_vpk ⟨p, rfl, c, d, upd_same, Le.new hg _ _ hc, Le.new hg _ _ hd⟩)
theorem o2_ixP0 {k : PK} (q : Q (.t k.1) m) : Op2 K (rIx K) (vpk k) (.d (.int 0)) m Q := fun H G v u S a b R kk => by
  obtain ⟨p, rfl, c, d, h1, h2, h3⟩ := vpk_of a
  rw [int_of b]
  exact Or.inr (Or.inl ⟨p, [.ref c, .ref d], 0, .ref c, rfl, rfl, S.sqT (SqT.of h1), rfl, kk _ H G _ m q S (Le.refl G) (.t h2)⟩)
theorem o2_ixP1 {k : PK} (q : Q (.t k.2) m) : Op2 K (rIx K) (vpk k) (.d (.int 1)) m Q := fun H G v u S a b R kk => by
  obtain ⟨p, rfl, c, d, h1, h2, h3⟩ := vpk_of a
  rw [int_of b]
  exact Or.inr (Or.inl ⟨p, [.ref c, .ref d], 1, .ref d, rfl, rfl, S.sqT (SqT.of h1), rfl, kk _ H G _ m q S (Le.refl G) (.t h3)⟩)
/-- a pair of tuples as data -/
theorem ev_pk2d (h : Ev K te r m fun x m1 => ∃ k : PK, x = vpk k ∧ Q (.d (.tuple [tupI k.1, tupI k.2])) m1) : Ev K te r m Q := fun σ H G S L R k =>
  h σ H G S L R fun v H1 G1 x m1 ⟨pk, hx, q⟩ S1 e1 r1 => by
    subst hx
    obtain ⟨p, rfl, c, d, h1, h2, h3⟩ := vpk_of r1
    exact k _ H1 G1 _ m1 q S1 e1 (.d (rp_tuple.mpr ⟨p, _, rfl, SqT.of h1, rpa_cons.mpr ⟨_, _, rfl, rp_tuple.mpr ⟨c, _, rfl, SqT.of h2, rpa_ints _⟩, rpa_cons.mpr ⟨_, _, rfl, rp_tuple.mpr ⟨d, _, rfl, SqT.of h3, rpa_ints _⟩, rpa_nil.mpr rfl⟩⟩⟩))
theorem Sta.pk {H G : Hp} {p : Addr} {kvs : List (PK × Val)} (S : Sta K m H G) (hm : m p = some (pkM K P w kvs)) : ∃ es, PkD P w H p es ∧ (∀ e ∈ es, PkAt G e.2.1 e.1) ∧ KVs K G kvs (es.map fun e => (e.1, e.2.2)) := by
  obtain ⟨⟨es, h1, h2, h3, h4⟩, _⟩ := S.mem p _ hm
  exact ⟨es, ⟨h1, fun e he => (h2 e he).mono S.sub, h4⟩, h2, h3⟩
theorem ev_pnotin (h : Ev K ty r m fun y m1 => ∃ k, y = vpk k ∧ Ev K td r m1 fun x m2 => ∃ p kvs, x = .v (.ref p) ∧ m2 p = some (pkM K P w kvs) ∧ Q (.d (.bool (!(getV kvs k).isSome))) m2) : Ev K (tPNotIn P w ty td) r m Q := fun σ H G S L R kk =>
  h σ H G S L _ fun v1 H1 G1 y m1 ⟨k, hy, h1⟩ S1 e1 r1 => h1 σ H1 G1 S1 (L.mono e1) _ fun v2 H2 G2 x m2 ⟨p, kvs, hx, hm, q⟩ S2 e2 r2 => by
    subst hy hx
    obtain rfl := r2.eq
    obtain ⟨b, rfl, hb⟩ := vpk_of (r1.mono e2)
    obtain ⟨es, hd, _, hk⟩ := S2.pk hm
    refine ⟨p, b, es, k, rfl, rfl, hb.mono S2.sub, hd, ?_⟩
    have hg := hk.get k
    rw [valV_pk] at hg
    have e : (valP es k).isSome = (getV kvs k).isSome := by
      cases hz : getV kvs k with
      | none => rw [hg.2 hz]; rfl
      | some z => obtain ⟨v, hv, _⟩ := hg.1 z hz; rw [hv]; rfl
    rw [e]
    exact kk _ H2 G2 _ m2 q S2 (e1.trans e2) vr_bool
theorem ev_pget (h : Ev K td r m fun x m1 => ∃ p, x = .v (.ref p) ∧ Ev K ty r m1 fun y m2 => ∃ k kvs z, y = vpk k ∧ m2 p = some (pkM K P w kvs) ∧ getV kvs k = some z ∧ Q z m2) : Ev K (tPGet P w td ty) r m Q := fun σ H G S L R kk =>
  h σ H G S L _ fun v1 H1 G1 x m1 ⟨p, hx, h1⟩ S1 e1 r1 => h1 σ H1 G1 S1 (L.mono e1) _ fun v2 H2 G2 y m2 ⟨k, kvs, z, hy, hm, hz, q⟩ S2 e2 r2 => by
    subst hy hx
    obtain rfl := r1.eq
    obtain ⟨b, rfl, hb⟩ := vpk_of r2
    obtain ⟨es, hd, _, hk⟩ := S2.pk hm
    have hg := hk.get k
    rw [valV_pk] at hg
    obtain ⟨v, hv, hv2⟩ := hg.1 z hz
    exact ⟨p, b, es, k, v, rfl, rfl, hb.mono S2.sub, hd, hv, kk _ H2 G2 _ m2 q S2 (e1.trans e2) hv2⟩
theorem w_pput {N : List Val → Mm → Prop} {E : Val → Mm → Prop} (h : Ev K tv r m fun x m1 => Ev K td r m1 fun y m2 => ∃ p, y = .v (.ref p) ∧ Ev K ty r m2 fun z m3 => ∃ k kvs, z = vpk k ∧ m3 p = some (pkM K P w kvs) ∧ kvs.length < 100000 ∧ N r (put m3 p (pkM K P w (putV kvs k x)))) : Wp K (sPPut P w td ty tv) r m N E := fun σ H G D S L a b =>
  h σ H G S L _ fun v1 H1 G1 x m1 h1 S1 e1 r1 => h1 σ H1 G1 S1 (L.mono e1) _ fun v2 H2 G2 y m2 ⟨p, hy, h2⟩ S2 e2 r2 => h2 σ H2 G2 S2 (L.mono (e1.trans e2)) _ fun v3 H3 G3 z m3 ⟨k, kvs, hz, hm, hl, q⟩ S3 e3 r3 => by
    subst hy hz
    obtain rfl := r2.eq
    obtain ⟨bk, rfl, hb⟩ := vpk_of r3
    obtain ⟨es, hd, hg, hk⟩ := S3.pk hm
    have hlen := hk.len
    rw [List.length_map] at hlen
    refine ⟨p, bk, es, k, rfl, rfl, hb.mono S3.sub, hd, by omega, ?_⟩
    have hput : KVs K G3 (putV kvs k x) ((putP es k bk v1).map fun e => (e.1, e.2.2)) := by
      rw [← putK_pk]
      exact hk.put k (r1.mono (e2.trans e3))
    refine a σ _ G3 r _ q (S3.chg hm (mr_pk ⟨putP es k bk v1, Or.inl upd_same, fun e he => ?_, hput, ?_⟩)) (e1.trans (e2.trans e3)) (L.mono (e1.trans (e2.trans e3)))
    · rcases putP_mem he with ⟨x1, x2⟩ | ⟨e', x1, x2, x3⟩
      · rw [x1, x2]; exact hb
      · rw [← x2, ← x3]; exact hg e' x1
    · have := putP_len es k bk v1
      omega
/-- a def that a name holds -/
theorem ev_callA {i : Nat} {f : Addr} {sp : FSp} {SP : Addr → Option Sp} {t : TA} (hi : r[i]? = some (.v (.ref f))) (hS : SP f = some (spD K sp)) (h : EvA K t r m fun xs m1 => sp xs m1 Q) : Ev K (tCallA i SP t) r m Q := fun σ H G S L R k => by
  obtain ⟨v, h1, h2⟩ := L.get hi (fun z => nomatch z)
  obtain rfl := h2.eq
  refine ⟨f, _, h1, hS, h σ H G S L _ fun vs H1 G1 xs m1 h3 S1 e1 r1 => ?_⟩
  exact ⟨m1, G1, xs, Q, S1, r1, h3, fun v' H3 G3 z m3 h4 S3 e3 r3 => k v' H3 G3 z m3 h4 S3 (e1.trans e3) r3⟩
end
theorem held_of {P : Program} {w : World} {K : PySem.W.Frag} {mg : Str → Option Value} {base : Heap} {k : Nat} {x : Str} {sp : FSp} (c : Cl P w K mg base k x sp) : ∃ f, mg x = some (.ref f) ∧ Held P w K mg base k f (spD K sp) := by
  obtain ⟨f, fd, ps, h1, h2, h3, h4⟩ := c
  exact ⟨f, h2, ⟨fd, ps, h1, h3, h4⟩⟩
theorem cl_addr {P : Program} {w : World} {K : PySem.W.Frag} {mg : Str → Option Value} {base : Heap} {k : Nat} {x : Str} {sp : FSp} (c : Cl P w K mg base k x sp) : ∃ f, mg x = some (.ref f) := by
  obtain ⟨f, h, _⟩ := held_of c
  exact ⟨f, h⟩
theorem kCallA {X : Cx} {P : Program} {w : World} {K : PySem.W.Frag} {mg : Str → Option Value} {base : Heap} {k j i : Nat} {x : Str} {e : Expr} {es : List Expr} {t : TA} {p pos : Pos} {SP : Addr → Option Sp} (hA : ∀ f sp, SP f = some sp → Held P w K mg base k f sp) (hr : Room j X.A) (hk : k ≤ j) (hN : X.N[i]? = some x) (hv : Vis X.env.scope x) (ha : PA X (e :: es) t)
    (hP : X.prog = P := by rfl) (hw : X.w = w := by rfl) (hK : X.K = K := by rfl) (hmg : X.mg = mg := by rfl) (hbs : X.base = base := by rfl) (hdb : (x == ("__debug__" : Str)) = false := by decide) (hcd : (x == ("__classdict__" : Str)) = false := by decide)
    (h1 : starEach (e :: es) X.env = (false, eval e X.env) :: starEach es X.env := by rfl) (h2 : (backTo pos (starEach es X.env)).any (·.1) = false := by rfl) : PE X (.Call (.Name x p) (e :: es) [] pos) (tCallA i SP t) := by
  subst hP hw hK hmg hbs
  exact pe_callA hA (hr.mono hk) hN hv ha hdb hcd h1 h2
end DL

/-! what the second gatherer lacks when the first one has all -/
namespace DL
open PySem L2
structure GS (n : Nat) (a b : List Nat) : Prop where
  ka : Kinds n a
  kb : Kinds n b
  sub : ∀ k ∈ a, k ∈ b
def gvF (ss : List Int) (wt : Nat → Int) : Nat → List Nat → List Nat → Rat
  | 0, _, b => ((wt b.length : Int) : Rat)
  | n + 1, a, b => if a = [] then ((wt b.length : Int) : Rat) else (b.map fun k => gQ ss k * (if k ∈ a then gvF ss wt n (wo a k) b else gvF ss wt n a (wo b k))).sum * mkRat 1 (sumP ss b).toNat
def gv (ss : List Int) (wt : Nat → Int) (a b : List Nat) : Rat := gvF ss wt (a.length + b.length) a b
/-- behind one more kind for the first -/
def nxG (ss : List Int) (wt : Nat → Int) (a b : List Nat) (k : Nat) : Rat := if k ∈ a then gv ss wt (wo a k) b else gv ss wt a (wo b k)
def acG (ss : List Int) (wt : Nat → Int) (a b l : List Nat) : Rat := (l.map fun k => gQ ss k * nxG ss wt a b k).sum
theorem wo_len {n : Nat} {a : List Nat} (h : Kinds n a) {k : Nat} (hk : k ∈ a) : (wo a k).length + 1 = a.length := without_len h.up hk
theorem wo_kinds {n : Nat} {a : List Nat} (h : Kinds n a) (k : Nat) : Kinds n (wo a k) := kinds_without h k
theorem GS.left {n : Nat} {a b : List Nat} (h : GS n a b) (k : Nat) : GS n (wo a k) b := ⟨wo_kinds h.ka k, h.kb, fun x hx => h.sub x (List.mem_filter.mp hx).1⟩
theorem GS.right {n : Nat} {a b : List Nat} (h : GS n a b) {k : Nat} (hk : k ∉ a) : GS n a (wo b k) := ⟨h.ka, wo_kinds h.kb k, fun x hx => List.mem_filter.mpr ⟨h.sub x hx, by
  have : x ≠ k := fun e => hk (e ▸ hx)
  simp [this]⟩⟩
theorem gv_nil (ss : List Int) (wt : Nat → Int) (b : List Nat) : gv ss wt [] b = ((wt b.length : Int) : Rat) := by
  unfold gv
  cases h : ([] : List Nat).length + b.length with
  | zero => rfl
  | succ n => show (if [] = [] then _ else _) = _; rw [if_pos rfl]
theorem gv_step {ss : List Int} {wt : Nat → Int} {n : Nat} {a b : List Nat} (h : GS n a b) (h0 : a ≠ []) : gv ss wt a b = acG ss wt a b b * mkRat 1 (sumP ss b).toNat := by
  have ha : 0 < a.length := List.length_pos_iff.mpr h0
  unfold gv
  cases hn : a.length + b.length with
  | zero => omega
  | succ j =>
    show (if a = [] then _ else _) = _
    rw [if_neg h0]
    refine congrArg (· * _) (congrArg List.sum (List.map_congr_left fun k hk => ?_))
    unfold nxG gv
    by_cases hka : k ∈ a
    · rw [if_pos hka, if_pos hka]
      have := wo_len h.ka hka
      rw [show j = (wo a k).length + b.length by omega]
    · rw [if_neg hka, if_neg hka]
      have := wo_len h.kb hk
      rw [show j = a.length + (wo b k).length by omega]
def WtOk (wt : Nat → Int) : Prop := ∀ n, n ≤ 5 → 0 ≤ wt n ∧ wt n ≤ 5
theorem kinds_filter {n : Nat} {s : List Nat} (h : Kinds n s) : (List.range n).filter (fun x => decide (x ∈ s)) = s := by
  have n1 : ((List.range n).filter fun x => decide (x ∈ s)).Nodup := List.nodup_range.filter _
  have n2 : s.Nodup := h.up.imp fun e => Nat.ne_of_lt e
  have hp : ((List.range n).filter fun x => decide (x ∈ s)).Perm s := (List.perm_ext_iff_of_nodup n1 n2).mpr fun x => by
    rw [List.mem_filter, List.mem_range, decide_eq_true_eq]
    exact ⟨fun z => z.2, fun z => ⟨h.lt x z, z⟩⟩
  exact hp.eq_of_pairwise (fun a b _ _ h1 h2 => by omega) (List.pairwise_lt_range.filter _) h.up
theorem kinds_allS {n : Nat} {s : List Nat} (h : Kinds n s) : s ∈ allS n := by
  rw [← kinds_filter h]
  exact allS_filter n _
theorem acG_b {ss : List Int} (hs : Shares ss) {wt : Nat → Int} {a b l : List Nat} {D : Nat} (hl : l.length ≤ 5) (h : ∀ k ∈ l, ChB (nxG ss wt a b k) D 5) : ChB (acG ss wt a b l) D 225 := by
  have each : ∀ k ∈ l, 0 ≤ gQ ss k * nxG ss wt a b k ∧ gQ ss k * nxG ss wt a b k ≤ ((9 * 5 : Nat) : Rat) := fun k hk => by
    obtain ⟨h1, h2⟩ := getD_bounds hs k
    have e : ss.getD k 0 = (((ss.getD k 0).toNat : Nat) : Int) := by omega
    unfold gQ
    refine ch_mul ⟨?_, ?_⟩ ⟨(h k hk).nn, (h k hk).le⟩
    · rw [e]; exact Rat.intCast_nonneg.mpr (Int.natCast_nonneg _)
    · rw [e, Rat.intCast_natCast]; exact Rat.natCast_le_natCast.mpr (by omega)
  obtain ⟨b1, b2⟩ := ch_sum each
  refine ⟨b1, Rat.le_trans b2 (Rat.natCast_le_natCast.mpr ?_), InD.sum fun k hk => (h k hk).ind.mulZ _⟩
  have : l.length * (9 * 5) ≤ 5 * (9 * 5) := Nat.mul_le_mul_right _ hl
  omega
theorem gv_avg {ss : List Int} (hs : Shares ss) {b : List Nat} (hb : Kinds ss.length b) (h0 : b ≠ []) {f : Nat → Rat} {c : Nat} (h : ∀ k ∈ b, f k ≤ ((c : Nat) : Rat)) : (b.map fun k => gQ ss k * f k).sum * mkRat 1 (sumP ss b).toNat ≤ ((c : Nat) : Rat) := by
  have hp := sumP_pos hs h0 hb.lt
  have ho := one_over (t := (sumP ss b).toNat) (by omega)
  rw [show (((sumP ss b).toNat : Nat) : Int) = sumP ss b by omega] at ho
  have hle : (b.map fun k => gQ ss k * f k).sum ≤ (b.map fun k => gQ ss k * ((c : Nat) : Rat)).sum := sum_leQ fun k hk => Rat.mul_le_mul_of_nonneg_left (h k hk) (Rat.le_of_lt (gQ_pos hs (hb.lt k hk)))
  have e : (b.map fun k => gQ ss k * ((c : Nat) : Rat)).sum = ((c : Nat) : Rat) * ((sumP ss b : Int) : Rat) := by
    have := sum_mulQ (gQ ss) ((c : Nat) : Rat) b
    rw [show (b.map (gQ ss)).sum = ((sumP ss b : Int) : Rat) from sum_cast ss b] at this
    rw [← this]
    exact congrArg List.sum (List.map_congr_left fun k _ => Rat.mul_comm _ _)
  rw [e] at hle
  have hnn : (0 : Rat) ≤ mkRat 1 (sumP ss b).toNat := by
    rw [← Rat.num_nonneg, Rat.num_mkRat]
    split
    · decide
    · exact Int.ediv_nonneg (by decide) (Int.natCast_nonneg _)
  have h2 := Rat.mul_le_mul_of_nonneg_right hle hnn
  rw [Rat.mul_assoc, ho, Rat.mul_one] at h2
  exact h2
theorem gv_b {ss : List Int} (hs : Shares ss) {wt : Nat → Int} (hw : WtOk wt) : ∀ (n : Nat) {a b : List Nat}, a.length + b.length = n → GS ss.length a b → ChB (gv ss wt a b) (allD ss ^ (n - 1)) 5
  | n, a, b, hn, h => by
    have h5 := hs.few
    by_cases h0 : a = []
    · subst h0
      rw [gv_nil]
      obtain ⟨w1, w2⟩ := hw b.length (by have := h.kb.len; omega)
      refine ⟨Rat.intCast_nonneg.mpr w1, ?_, InD.int _ _⟩
      have := Rat.intCast_le_intCast.mpr w2
      exact this
    · have hb0 : b ≠ [] := fun e => by
        obtain ⟨k, hk⟩ := List.exists_mem_of_ne_nil _ h0
        have := h.sub k hk
        rw [e] at this; cases this
      have la : 0 < a.length := List.length_pos_iff.mpr h0
      have lb : 0 < b.length := List.length_pos_iff.mpr hb0
      have each : ∀ k ∈ b, ChB (nxG ss wt a b k) (allD ss ^ (n - 2)) 5 := fun k hk => by
        unfold nxG
        by_cases hka : k ∈ a
        · rw [if_pos hka]
          have hl := wo_len h.ka hka
          exact gv_b hs hw (n - 1) (by omega) (h.left k)
        · rw [if_neg hka]
          have hl := wo_len h.kb hk
          exact gv_b hs hw (n - 1) (by omega) (h.right hka)
      have c := acG_b hs (wt := wt) (a := a) (b := b) (l := b) (by have := h.kb.len; omega) each
      have hp := sumP_pos hs hb0 h.kb.lt
      rw [gv_step h h0]
      refine ⟨?_, gv_avg hs h.kb hb0 fun k hk => (each k hk).le, ?_⟩
      · refine Rat.mul_nonneg c.nn ?_
        rw [← Rat.num_nonneg, Rat.num_mkRat]
        split
        · decide
        · exact Int.ediv_nonneg (by decide) (Int.natCast_nonneg _)
      · refine InD.dvd (c.ind.frac 1 (b := (sumP ss b).toNat) (by omega)) ?_
        rw [show n - 1 = (n - 2) + 1 by omega, Nat.pow_succ]
        exact Nat.mul_dvd_mul_left _ (allD_dvd (kinds_allS h.kb) hb0)
termination_by n => n
decreasing_by
  all_goals omega
theorem gv_fr {ss : List Int} (hs : Shares ss) {wt : Nat → Int} (hw : WtOk wt) {a b : List Nat} (h : GS ss.length a b) : FrB (gv ss wt a b) 1900 := by
  have h5 := hs.few
  have c := gv_b hs hw _ rfl h
  have l1 := h.ka.len
  have l2 := h.kb.len
  obtain ⟨d1, d2⟩ := allD_pow hs (n := a.length + b.length - 1) (by omega)
  exact (c.frB (e := 4) d1 d2 (by decide)).mono (by decide)
theorem acG_fr {ss : List Int} (hs : Shares ss) {wt : Nat → Int} (hw : WtOk wt) {a b l : List Nat} (h : GS ss.length a b) (h0 : a ≠ []) (hl : l.length ≤ 5) (hsub : ∀ k ∈ l, k ∈ b) : FrB (acG ss wt a b l) 1900 := by
  have h5 := hs.few
  have l1 := h.ka.len
  have l2 := h.kb.len
  have la : 0 < a.length := List.length_pos_iff.mpr h0
  have each : ∀ k ∈ l, ChB (nxG ss wt a b k) (allD ss ^ (a.length + b.length - 2)) 5 := fun k hk => by
    unfold nxG
    by_cases hka : k ∈ a
    · rw [if_pos hka]
      have hl := wo_len h.ka hka
      have := gv_b hs hw (a.length + b.length - 1) (a := wo a k) (b := b) (by omega) (h.left k)
      exact this
    · rw [if_neg hka]
      have hl := wo_len h.kb (hsub k hk)
      have := gv_b hs hw (a.length + b.length - 1) (a := a) (b := wo b k) (by omega) (h.right hka)
      exact this
  obtain ⟨d1, d2⟩ := allD_pow hs (n := a.length + b.length - 2) (by omega)
  exact ((acG_b hs hl each).frB (e := 8) d1 d2 (by decide)).mono (by decide)
theorem nxG_fr {ss : List Int} (hs : Shares ss) {wt : Nat → Int} (hw : WtOk wt) {a b : List Nat} (h : GS ss.length a b) (k : Nat) : FrB (nxG ss wt a b k) 1900 := by
  unfold nxG
  by_cases hka : k ∈ a
  · rw [if_pos hka]; exact gv_fr hs hw (h.left k)
  · rw [if_neg hka]; exact gv_fr hs hw (h.right hka)
theorem acG_snoc {ss : List Int} {wt : Nat → Int} {a b l : List Nat} (k : Nat) : acG ss wt a b (l ++ [k]) = acG ss wt a b l + gQ ss k * nxG ss wt a b k := by
  unfold acG
  rw [List.map_append, List.sum_append]
  simp [Rat.add_zero]
/-! the tables -/
abbrev PN := List Nat × List Nat
def knP (k : PN) : PK := (kn k.1, kn k.2)
theorem knP_inj {k l : PN} (h : knP k = knP l) : k = l := Prod.ext (kn_inj (congrArg Prod.fst h)) (kn_inj (congrArg Prod.snd h))
def tabP (f : PN → Rat) (l : List PN) : List (PK × Val) := l.map fun k => (knP k, .d (frac (f k)))
theorem getP_in {f : PN → Rat} {k : PN} : ∀ {l : List PN}, k ∈ l → getV (tabP f l) (knP k) = some (.d (frac (f k)))
  | a :: l, h => by
    unfold getV tabP
    rw [List.map_cons, List.find?_cons]
    by_cases e : a = k
    · subst e; simp
    · have hne : ¬ knP a = knP k := fun z => e (knP_inj z)
      rw [decide_eq_false hne]
      have hm : k ∈ l := by
        rcases List.mem_cons.mp h with h | h
        · exact absurd h.symm e
        · exact h
      exact getP_in hm
theorem getP_no {f : PN → Rat} {k : PN} : ∀ {l : List PN}, k ∉ l → getV (tabP f l) (knP k) = none
  | [], _ => rfl
  | a :: l, h => by
    unfold getV tabP
    rw [List.map_cons, List.find?_cons]
    have hne : ¬ knP a = knP k := fun z => h (by rw [knP_inj z]; exact List.mem_cons_self)
    rw [decide_eq_false hne]
    exact getP_no fun z => h (List.mem_cons_of_mem _ z)
theorem putP_tab {f : PN → Rat} {k : PN} {l : List PN} : ∃ l', putV (tabP f l) (knP k) (.d (frac (f k))) = tabP f l' ∧ k ∈ l' ∧ (∀ x ∈ l', x ∈ l ∨ x = k) ∧ (l.Nodup → l'.Nodup) := by
  by_cases h : k ∈ l
  · refine ⟨l, ?_, h, fun x hx => Or.inl hx, fun z => z⟩
    unfold putV tabP
    have ha : ((l.map fun k => (knP k, Val.d (frac (f k)))).any fun kv => decide (kv.1 = knP k)) = true := List.any_eq_true.mpr ⟨_, List.mem_map.mpr ⟨k, h, rfl⟩, by simp⟩
    rw [if_pos ha, List.map_map]
    refine List.map_congr_left fun x _ => ?_
    show (if knP x = knP k then (knP x, Val.d (frac (f k))) else (knP x, Val.d (frac (f x)))) = _
    by_cases e : x = k
    · subst e; simp
    · rw [if_neg fun z => e (knP_inj z)]
  · refine ⟨l ++ [k], ?_, List.mem_append_right _ (List.mem_singleton.mpr rfl), fun x hx => ?_, fun hn => List.nodup_append.mpr ⟨hn, by simp, fun a ha b hb => by rw [List.mem_singleton.mp hb]; exact fun e => h (e ▸ ha)⟩⟩
    · rw [putV_new _ fun p hp => ?_]
      · unfold tabP; rw [List.map_append]; rfl
      · obtain ⟨x, hx, rfl⟩ := List.mem_map.mp hp
        exact fun z => h (knP_inj z ▸ hx)
    · rcases List.mem_append.mp hx with hx | hx
      · exact Or.inl hx
      · exact Or.inr (List.mem_singleton.mp hx)
structure TabK (n : Nat) (l : List PN) : Prop where
  nd : l.Nodup
  gs : ∀ k ∈ l, Kinds n k.1 ∧ Kinds n k.2
theorem TabK.len {n : Nat} (hn : n ≤ 5) {l : List PN} (h : TabK n l) : l.length ≤ 1024 := by
  have hm : ∀ k ∈ l, k ∈ (allS n).flatMap fun a => (allS n).map fun b => (a, b) := fun k hk => List.mem_flatMap.mpr ⟨k.1, kinds_allS (h.gs k hk).1, List.mem_map.mpr ⟨k.2, kinds_allS (h.gs k hk).2, rfl⟩⟩
  refine Nat.le_trans (nd_len h.nd hm) ?_
  have hl : ∀ (x y : List (List Nat)), (x.flatMap fun a => y.map fun b => (a, b)).length = x.length * y.length := fun x y => by
    induction x with
    | nil => simp
    | cons a t ih => rw [List.flatMap_cons, List.length_append, ih, List.length_map, List.length_cons, Nat.succ_mul, Nat.add_comm]
  rw [hl, allS_len]
  have : 2 ^ n ≤ 2 ^ 5 := Nat.pow_le_pow_right (by decide) hn
  exact Nat.mul_le_mul this this
theorem TabK.put {n : Nat} {l l' : List PN} (h : TabK n l) {k : PN} (hk : Kinds n k.1 ∧ Kinds n k.2) (hs : ∀ x ∈ l', x ∈ l ∨ x = k) (hn : l.Nodup → l'.Nodup) : TabK n l' := ⟨hn h.nd, fun x hx => by
  rcases hs x hx with hx | rfl
  · exact h.gs x hx
  · exact hk⟩
/-! the words -/
def hmW : Nat → Int := fun n => (n : Int)
def joW : Nat → Int := fun n => if n = 1 then 1 else 0
theorem hmW_ok : WtOk hmW := fun n hn => ⟨Int.natCast_nonneg _, by unfold hmW; omega⟩
theorem joW_ok : WtOk joW := fun n hn => by unfold joW; split <;> omega
def f_worth (wt : Nat → Int) : FSp := fun args m R => ∃ n : Nat, args = [.d (.int (n : Int))] ∧ R (.d (frac ((wt n : Int) : Rat))) m
def f_howMany : FSp := f_worth hmW
def f_justOne : FSp := f_worth joW
def f_taken : FSp := fun args m R => ∃ (a : List Nat) (k : Nat), args = [.t (kn a), .d (.int (k : Int))] ∧ a.length ≤ 100 ∧ R (.t (kn (wo a k))) m
def f_givenOf (K : PySem.W.Frag) (P : Program) (w : World) (mg : Str → Option Value) (d : Nat) : FSp := fun args m R => ∃ (ss : List Int) (a b : List Nat) (f p : Addr) (wt : Nat → Int) (l : List PN),
  args = [.d (tupI ss), .t (kn a), .t (kn b), .v (.ref f), .v (.ref p)] ∧ Shares ss ∧ GS ss.length a b ∧ a.length + b.length < d ∧
  ((mg "how_many" = some (.ref f) ∧ wt = hmW) ∨ (mg "just_one" = some (.ref f) ∧ mg "how_many" ≠ some (.ref f) ∧ wt = joW)) ∧ TabK ss.length l ∧ m p = some (pkM K P w (tabP (fun k => gv ss wt k.1 k.2) l)) ∧
  ∀ l', TabK ss.length l' → R (.d (frac (gv ss wt a b))) (put m p (pkM K P w (tabP (fun k => gv ss wt k.1 k.2) l')))
def f_givenOne (wt : Nat → Int) : FSp := fun args m R => ∃ ss : List Int, args = [.d (tupI ss)] ∧ Shares ss ∧ R (.d (frac (gv ss wt (List.range ss.length) (List.range ss.length)))) m
end DL

/-! k54: what the gatherers' stage refuses -/
namespace DL
open PySem L2
def f_never : FSp := fun _ _ _ => False
def eFewK : List PyData → Except Nat PyData
  | [.tuple ds] => if ds.length ≤ 3 then .ok .none else .error 4
  | _ => .error 9
def preTupT : List PyData → Prop
  | .tuple ds :: _ => ds.length ≤ 1000
  | _ => False
theorem of_needFewKinds {cs : List Addr} : ∀ args m R, f_needFewKinds args m R → fnE cs 1 eFewK preTupT args m R fun _ _ => False := by
  rintro args m R ⟨ss, rfl, h3, q⟩
  have e : eFewK [tupI ss] = .ok .none := if_pos (by rw [List.length_map]; exact h3)
  refine ⟨[tupI ss], rfl, rfl, by show (ss.map PyData.int).length ≤ 1000; rw [List.length_map]; omega, fun d hd => ?_, fun i hi => ?_⟩
  · rw [e] at hd; injection hd with hd; subst hd; exact q
  · rw [e] at hi; cases hi
def rGth (hi : Int) : List PyData → Nat → Prop
  | [sh, x], i => (isShares sh = false ∧ i = 0) ∨ (∃ ss, sh = tupI ss ∧ Shares ss ∧ ((okNum x 1 hi = false ∧ i = 2) ∨ (okNum x 1 hi = true ∧ 3 < ss.length ∧ i = 4)))
  | _, _ => False
def rAsk54 : List PyData → Option Nat → Prop
  | [.int k, sh, x], o => (isShares sh = false ∧ 0 ≤ k ∧ k ≤ 3 ∧ o = some 0) ∨ ∃ ss, sh = tupI ss ∧ Shares ss ∧
     ((k = 0 ∧ okNum x 1 2 = false ∧ o = some 2) ∨ (k = 0 ∧ okNum x 1 2 = true ∧ 3 < ss.length ∧ o = some 4) ∨ (k = 1 ∧ okNum x 1 3 = false ∧ o = some 2) ∨ (k = 1 ∧ okNum x 1 3 = true ∧ 3 < ss.length ∧ o = some 4) ∨ (k = 2 ∧ o = none) ∨ (k = 3 ∧ o = none))
  | _, _ => False
theorem num54 {z w : Int} (h0 : 0 ≤ z) (hw : 4 ≤ w) : ∀ d ∈ [PyData.int 0, .int 4, .int (-1), .bool true, .none, .str "1", .tuple [.int 1], .int (4 + z), .int w, .list [.int 1], .dict []], okNum d 1 2 = false ∧ okNum d 1 3 = false := by
  intro d hd
  simp only [List.mem_cons, List.not_mem_nil, or_false] at hd
  rcases hd with rfl | rfl | rfl | rfl | rfl | rfl | rfl | rfl | rfl | rfl | rfl <;> first | exact ⟨rfl, rfl⟩ | exact ⟨okNum_off (by omega), okNum_off (by omega)⟩
theorem great_shares {ss : List Int} (hs : Shares ss) {z : Nat} (hz : z < 2) : ∃ gs : List Int, cutD (List.replicate 4 (ss.map PyData.int)).flatten none (some ((4 + z : Nat) : Int)) = gs.map PyData.int ∧ Shares gs ∧ 3 < gs.length := by
  have h1 := hs.pos
  have e : (List.replicate 4 (ss.map PyData.int)).flatten = ((List.replicate 4 ss).flatten).map PyData.int := by
    rw [List.map_flatten, List.map_replicate]
  have hl : ((List.replicate 4 ss).flatten).length = 4 * ss.length := by simp; omega
  refine ⟨((List.replicate 4 ss).flatten).take (4 + z), ?_, ⟨?_, ?_, fun x hx => ?_⟩, ?_⟩
  · rw [e]
    unfold cutD
    rw [HT.sIx_none, HT.sIx_nat, List.drop_zero, Nat.sub_zero, List.map_take, List.length_map]
    by_cases h : 4 + z ≤ ((List.replicate 4 ss).flatten).length
    · rw [Nat.min_eq_left h]
    · rw [Nat.min_eq_right (by omega), List.take_of_length_le (by rw [List.length_map]; exact Nat.le_refl _), List.take_of_length_le (by rw [List.length_map]; omega)]
  · rw [List.length_take, hl]; omega
  · rw [List.length_take]; omega
  · have hx := List.mem_of_mem_take hx
    obtain ⟨l, hl, hx⟩ := List.mem_flatten.mp hx
    rw [List.eq_of_mem_replicate hl] at hx
    exact hs.each x hx
  · rw [List.length_take, hl]; omega
theorem shaped_two : SeqAt.shaped (.list [plcs none, plcs none]) = true := shaped_rep none 2
end DL

/-! k64: what the buying stage refuses -/
namespace DL
open PySem L2
def YV (y : Val) : Prop := (∃ x, y = .d x) ∨ ∃ p, y = .v (.ref p)
/-- a thing that is no plan -/
def NoPl (m : Mm) (y : Val) : Prop := (∃ x, y = .d x ∧ isDct x = false) ∨ ∃ (p : Addr) (kvs : List (List Int × Val)), y = .v (.ref p) ∧ m p = some (.dT (dI kvs)) ∧ (kvs = [] ∨ kvs = [([], .d (.str "draw"))] ∨ kvs = [([0], .d (.str "Buy"))] ∨ kvs = [([0], .d .none)])
theorem NoPl.less {m m' : Mm} {y : Val} (h : NoPl m y) (hl : ∀ a o, m a = some o → m' a = some o) : NoPl m' y := by
  rcases h with h | ⟨p, kvs, h1, h2, h3⟩
  · exact Or.inl h
  · exact Or.inr ⟨p, kvs, h1, hl _ _ h2, h3⟩
theorem NoPl.yv {m : Mm} {y : Val} (h : NoPl m y) : YV y := by
  rcases h with ⟨x, rfl, _⟩ | ⟨p, kvs, rfl, _⟩
  · exact Or.inl ⟨_, rfl⟩
  · exact Or.inr ⟨_, rfl⟩
theorem NoPl.ne {m : Mm} {y : Val} (h : NoPl m y) : y ≠ .any := by
  rcases h with ⟨x, rfl, _⟩ | ⟨p, kvs, rfl, _⟩ <;> exact fun h => nomatch h
def f_noPlans : FSp := fun args m R => ∃ (y : Val) (ss : List Int), args = [y, .d (tupI ss)] ∧ Shares ss ∧ NoPl m y ∧ R (.d (.bool false)) m
def f_noCost : FSp := fun args m R => ∃ (y : Val) (ss : List Int) (c : Nat), args = [y, .d (tupI ss), .d (.int (c : Int))] ∧ Shares ss ∧ c ≤ 99 ∧ NoPl m y ∧ R (.d (.bool false)) m
def f_costDrop : FSp := fun args m R => ∃ (ss : List Int) (c : Nat), args = [.d (tupI ss), .d (.int (c : Int))] ∧ Shares ss ∧ c ≤ 99 ∧ ∀ p, R (.v (.ref p)) m
def eNeedPrice : List PyData → Except Nat PyData
  | [sh, x] => if isShares sh = true then (if okNum x 0 99 = true then .ok .none else .error 2) else .error 0
  | _ => .error 9
theorem eNP (sh x : PyData) : eNeedPrice [sh, x] = if isShares sh = true then (if okNum x 0 99 = true then .ok .none else .error 2) else .error 0 := rfl
theorem of_needPrice {cs : List Addr} : ∀ args m R, f_needPrice args m R → fnE cs 2 eNeedPrice anyD args m R fun _ _ => False := by
  rintro args m R ⟨ss, c, rfl, hs, hc, q⟩
  have e : eNeedPrice [tupI ss, .int (c : Int)] = .ok .none := by
    rw [eNP, if_pos (isShares_of hs), if_pos (by simp only [okNum, Bool.and_eq_true, decide_eq_true_eq]; omega)]
  refine ⟨[tupI ss, .int (c : Int)], rfl, rfl, trivial, fun d hd => ?_, fun i hi => ?_⟩
  · rw [e] at hd; injection hd with hd; subst hd; exact q
  · rw [e] at hi; cases hi
def rPrice : List PyData → Nat → Prop
  | [sh, x], i => (isShares sh = false ∧ i = 0) ∨ (∃ ss, sh = tupI ss ∧ Shares ss ∧ okNum x 0 99 = false ∧ i = 2)
  | _, _ => False
theorem price_ok {sh x d : PyData} (h : eNeedPrice [sh, x] = .ok d) {i : Nat} (r : rPrice [sh, x] i) : False := by
  rw [eNP] at h
  rcases r with ⟨h1, _⟩ | ⟨ss, rfl, hs, h2, _⟩
  · rw [h1] at h; cases h
  · rw [if_pos (isShares_of hs), if_neg (by rw [h2]; decide)] at h; cases h
theorem price_no {sh x : PyData} {j : Nat} (h : eNeedPrice [sh, x] = .error j) {i : Nat} (r : rPrice [sh, x] i) : j = i := by
  rw [eNP] at h
  rcases r with ⟨h1, rfl⟩ | ⟨ss, rfl, hs, h2, rfl⟩
  · rw [h1] at h; injection h with h; exact h.symm
  · rw [if_pos (isShares_of hs), if_neg (by rw [h2]; decide)] at h; injection h with h; exact h.symm
theorem price_yes {ss : List Int} (hs : Shares ss) {x : PyData} (hx : okNum x 0 99 = true) {j : Nat} : eNeedPrice [tupI ss, x] ≠ .error j := fun h => by
  rw [eNP] at h
  rw [if_pos (isShares_of hs), if_pos hx] at h; cases h
/-- a def that looks at a thing first -/
def fnY (cs : List Addr) : FSpX := fun args m R X => ∃ (y : Val) (sh x : PyData) (i : Nat), args = [y, .d sh, .d x] ∧ YV y ∧ rPrice [sh, x] i ∧ X (cs.getD i 0) m
def fnY1 (cs : List Addr) : FSpX := fun args m R X => ∃ (y : Val) (sh : PyData), args = [y, .d sh] ∧ YV y ∧ isShares sh = false ∧ X (cs.getD 0 0) m
def fnCost (cs : List Addr) : FSpX := fun args m R X => ∃ (y : Val) (sh x : PyData) (i : Nat), args = [.d sh, .d x, y] ∧ YV y ∧ (rPrice [sh, x] i ∨ ∃ ss, sh = tupI ss ∧ Shares ss ∧ okNum x 0 99 = true ∧ NoPl m y ∧ i = 5) ∧ X (cs.getD i 0) m
def A64 (m : Mm) (k : Int) (sh x : PyData) (y : Val) (o : Option Nat) : Prop := (isShares sh = false ∧ 0 ≤ k ∧ k ≤ 4 ∧ o = some 0) ∨ ∃ ss, sh = tupI ss ∧ Shares ss ∧
  ((0 ≤ k ∧ k ≤ 3 ∧ okNum x 0 99 = false ∧ o = some 2) ∨ (k = 0 ∧ okNum x 0 99 = true ∧ NoPl m y ∧ o = some 5) ∨ (1 ≤ k ∧ k ≤ 4 ∧ (∃ c : Nat, x = .int (c : Int) ∧ c ≤ 99) ∧ NoPl m y ∧ o = none))
def fnAsk64 (cs : List Addr) : FSpX := fun args m R X => ∃ (k : Int) (sh x : PyData) (y : Val) (o : Option Nat), args = [.d (.int k), .d sh, .d x, y] ∧ YV y ∧ A64 m k sh x y o ∧ (o = none → R (.d .none) m) ∧ (∀ i, o = some i → X (cs.getD i 0) m)
def f_told64 : FSp := fun args m R => ∃ (k : Int) (sh x : PyData) (y : Val) (o : Option Nat), args = [.d (.int k), .d sh, .d x, y] ∧ YV y ∧ A64 m k sh x y o ∧ R (.d (plcs o)) m
theorem num64 {z w : Int} (h0 : 0 ≤ z) (hw : 100 ≤ w) : ∀ d ∈ [PyData.int (-1), .int 100, .bool true, .none, .str "1", .tuple [.int 1], .tuple [.int 1, .int 1], .int (100 + z), .int w, .list [.int 1], .dict []], okNum d 0 99 = false := by
  intro d hd
  simp only [List.mem_cons, List.not_mem_nil, or_false] at hd
  rcases hd with rfl | rfl | rfl | rfl | rfl | rfl | rfl | rfl | rfl | rfl | rfl <;> first | exact rfl | exact okNum_off (by omega)
end DL

namespace Law
open PySem L2 DL
def topS (i : Nat) : Stmt := PySem.Challenge.pw_kindsgathered_k64_buying_refused.main.body.getD i (.Pass ⟨0, 0, 0, 0⟩)
local macro_rules | `(tactic| walk_at "dl1") => `(tactic| first
  | with_reducible refine w_seq ?_
  | with_reducible refine w_asg ?_
  | with_reducible refine w_ret ?_
  | with_reducible refine w_drop ?_
  | with_reducible refine w_if ?_
  | with_reducible refine w_par ?_
  | with_reducible refine evt_B ?_
  | with_reducible refine evt_test ?_
  | with_reducible refine evt_and ?_
  | with_reducible refine evt_or ?_
  | with_reducible refine evt_not ?_
  | with_reducible refine evt_yes ?_
  | with_reducible refine ev_lstMul ?_
  | with_reducible refine ev_op ?_
  | with_reducible refine ev_un ?_
  | with_reducible refine ev_callB ?_
  | with_reducible refine ev_call ?_
  | with_reducible refine eva_cons ?_
  | with_reducible refine eva_nil ?_
  | with_reducible refine evo_none ?_
  | with_reducible refine evo_some ?_
  | with_reducible refine ev_slL ?_
  | with_reducible refine ev_slT ?_
  | with_reducible refine ev_and ?_
  | with_reducible refine ev_or ?_
  | with_reducible refine ev_not ?_
  | with_reducible refine ev_chain ?_
  | with_reducible refine ev_tup ?_
  | with_reducible refine ev_if ?_
  | (refine ev_varTN rfl ?_)
  | (refine ev_varT rfl ?_)
  | (refine ev_var rfl (fun h => nomatch h) ?_)
  | with_reducible refine ev_cI ?_
  | with_reducible refine ev_cB ?_
  | with_reducible refine ev_cS ?_
  | with_reducible refine ev_cN ?_
  | with_reducible refine ev_cTy ?_)
local macro_rules | `(tactic| walk_at "dl2") => `(tactic| first
  | with_reducible refine o2_addI ?_
  | with_reducible refine o2_sub ?_
  | with_reducible refine o2_lt ?_
  | with_reducible refine o2_le ?_
  | with_reducible refine o2_gt ?_
  | with_reducible refine o2_ge ?_
  | with_reducible refine o2_eqI ?_
  | with_reducible refine o2_neI ?_
  | with_reducible refine o2_neS ?_
  | with_reducible refine o2_eqS ?_
  | with_reducible refine o1_neg ?_
  | with_reducible refine o2_isB ?_
  | with_reducible refine o2_isNotB ?_
  | with_reducible refine o2_inN ?_
  | with_reducible refine o2_notInN ?_
  | with_reducible refine on_abs ?_
  | with_reducible refine on_max ?_
  | with_reducible refine on_min ?_
  | with_reducible refine o2_ixF0 ?_
  | with_reducible refine o2_ixF1 ?_
  | with_reducible refine on_lenI ?_
  | with_reducible refine on_lenN ?_
  | with_reducible refine on_sumI ?_
  | with_reducible refine on_lenT ?_
  | with_reducible refine on_lenL ?_
  | with_reducible refine on_lenS ?_
  | with_reducible refine on_tupL ?_
  | with_reducible refine on_tupT ?_
  | with_reducible refine on_lstT ?_
  | with_reducible refine on_isiTup ?_
  | with_reducible refine on_isiInt ?_
  | with_reducible refine on_isiBool ?_
  | with_reducible refine on_isiStr ?_
  | with_reducible refine on_isiList ?_
  | with_reducible refine on_isiDict ?_
  | with_reducible refine on_sumL ?_
  | with_reducible refine on_sumT ?_
  | with_reducible refine on_all ?_
  | with_reducible refine on_any ?_
  | refine ⟨_, rfl, ?_⟩
  | refine ⟨_, _, rfl, ?_⟩
  | refine ⟨[], rfl, Nat.le_of_ble_eq_true rfl, ?_⟩
  | refine ⟨[_], rfl, Nat.le_of_ble_eq_true rfl, ?_⟩
  | refine ⟨[_, _], rfl, Nat.le_of_ble_eq_true rfl, ?_⟩
  | refine ⟨[_, _, _], rfl, Nat.le_of_ble_eq_true rfl, ?_⟩)
local macro_rules | `(tactic| walk_at "dl") => `(tactic| first | walk_at "dl1" | walk_at "dl2")
local macro_rules | `(tactic| walk_at "go") => `(tactic| repeat walk_at "dl")
section
variable {P : Program} {w : World} {K : PySem.W.Frag} {mg : Str → Option Value} {base : Heap}
variable {c_NoShares c_NoKind c_NoNumber c_NoNeeds c_TooMany c_NoPlan c_NoLine c_NoText c_GatherError : Addr}
abbrev s_is_whole : Stmt := topS 12
theorem sc_is_whole : FnScope ["thing"] ["thing"] (defScope s_is_whole) := ⟨rfl, rfl, rfl, by decide +kernel, rfl, by decide +kernel, by decide +kernel⟩
theorem ok_is_whole {a : Addr} {fd : FuncData} (F : Fun K "is_whole" "is_whole" s_is_whole a fd) (hm : mg "is_whole" = some (.ref a)) (z_isinstance : mg "isinstance" = none) (z_bool : mg "bool" = none) (z_int : mg "int" = none) :
    Cl P w K mg base 1 "is_whole" f_isWhole := by
  refine ⟨a, fd, ["thing"], fn_ok F sc_is_whole (fun args m R h => ?_) (fun cdv A outer s H E hr => ⟨_, (pss_one (ps_ret (pe_and (pe_callB (kIsi K) (by rfl) z_isinstance (by decide +kernel) (pa_cons (pv 0) (pa_cons (pe_bltn (v := .ty "int") (by rfl) z_int (by decide +kernel) rfl) pa_nil))) (pe_one (pe_not (pe_callB (kIsi K) (by rfl) z_isinstance (by decide +kernel) (pa_cons (pv 0) (pa_cons (pe_bltn (v := .ty "bool") (by rfl) z_bool (by decide +kernel) rfl) pa_nil)))))))), fun args m R h => ?_⟩), hm, F.kp, F.binds (ps := ["thing"]) fun _ _ _ _ _ _ us hl => match us, hl with | [_], _ => rfl⟩
  ·
    obtain ⟨_, rfl, _⟩ := h; rfl
  ·
    obtain ⟨x, rfl, q⟩ := h
    repeat walk_at "dl"
    refine ⟨fun hc => ?_, fun hc => ?_⟩
    · repeat walk_at "dl"
      have e : (!isBoo x) = isInt x := by cases x <;> simp_all [isBoo, isInt, isIntB]
      rw [e]
      exact q
    · have e : isInt x = false := by cases x <;> simp_all [isInt, isIntB]
      rw [e] at q
      exact q

abbrev s_greatest_common : Stmt := topS 13
theorem sc_greatest_common : FnScope ["one", "other"] ["one", "other"] (defScope s_greatest_common) := ⟨rfl, rfl, rfl, by decide +kernel, rfl, by decide +kernel, by decide +kernel⟩
theorem ok_greatest_common {a : Addr} {fd : FuncData} (F : Fun K "greatest_common" "greatest_common" s_greatest_common a fd) (hm : mg "greatest_common" = some (.ref a)) :
    Cl P w K mg base 1 "greatest_common" f_gcd := by
  refine ⟨a, fd, ["one", "other"], fn_ok F sc_greatest_common (fun args m R h => ?_) (fun cdv A outer s H E hr => ⟨_, (pss_cons (ps_while PassesOwn.never (pt_cmpR (kNe K hr) (pv 1) pe_int (nomark _)) (pss_one (ps_par (i := 0) (j := 1) rfl sc_greatest_common.nd rfl rfl (by decide) rfl rfl (pa_cons (pv 1) (pa_cons (pe_op oMod (pv 0) (pv 1)) pa_nil)) rfl)))
      (pss_one (ps_ret (pv 0)))), fun args m R h => ?_⟩), hm, F.kp, F.binds (ps := ["one", "other"]) fun _ _ _ _ _ _ us hl => match us, hl with | [_, _], _ => rfl⟩
  ·
    obtain ⟨_, _, rfl, _⟩ := h; rfl
  ·
    obtain ⟨a0, b0, rfl, q⟩ := h
    refine w_seq (w_while (fun n r m' => m' = m ∧ ∃ x y : Nat, n = y ∧ r = [.d (.int (x : Int)), .d (.int (y : Int))] ∧ Nat.gcd x y = Nat.gcd a0 b0) b0 ⟨rfl, a0, b0, rfl, rfl, rfl⟩ ?_)
    rintro n r m' ⟨rfl, x, y, rfl, rfl, hg⟩
    repeat walk_at "dl"
    refine ⟨fun hc => ?_, fun hc => ?_⟩
    · have hy : n ≠ 0 := by
        intro e
        rw [e] at hc
        simp at hc
      repeat walk_at "dl"
      refine o2_mod (by omega) ?_
      repeat walk_at "dl"
      refine ⟨x % n, Nat.mod_lt x (by omega), rfl, n, x % n, rfl, rfl, ?_⟩
      rw [← hg, Nat.gcd_comm n (x % n), ← Nat.gcd_rec, Nat.gcd_comm]
    · have hy : n = 0 := by
        have : ((n : Nat) : Int) = 0 := by simpa using hc
        omega
      subst hy
      repeat walk_at "dl"
      rw [Nat.gcd_zero_right] at hg
      rw [hg]
      exact q

abbrev s_below : Stmt := topS 19
theorem sc_below : FnScope ["one", "other"] ["one", "other"] (defScope s_below) := ⟨rfl, rfl, rfl, by decide +kernel, rfl, by decide +kernel, by decide +kernel⟩
theorem ok_below {a : Addr} {fd : FuncData} (F : Fun K "below" "below" s_below a fd) (hm : mg "below" = some (.ref a)) :
    Cl P w K mg base 1 "below" f_below := by
  refine ⟨a, fd, ["one", "other"], fn_ok F sc_below (fun args m R h => ?_) (fun cdv A outer s H E hr => ⟨_, (pss_one (ps_ret (pe_cmpR oLt (pe_op (kMul K) (pe_ix (kIx K) (pv 0) pe_int (fun _ _ => rfl)) (pe_ix (kIx K) (pv 1) pe_int (fun _ _ => rfl))) (pe_op (kMul K) (pe_ix (kIx K) (pv 1) pe_int (fun _ _ => rfl)) (pe_ix (kIx K) (pv 0) pe_int (fun _ _ => rfl))) (nomark _)))), fun args m R h => ?_⟩), hm, F.kp, F.binds (ps := ["one", "other"]) fun _ _ _ _ _ _ us hl => match us, hl with | [_, _], _ => rfl⟩
  ·
    obtain ⟨_, _, rfl, _⟩ := h; rfl
  ·
    obtain ⟨p, r, rfl, hp, hr, q⟩ := h
    walk_at "go"
    refine o2_mulI (hp.1.cmul hr.2 (by decide)) ?_
    walk_at "go"
    refine o2_mulI (hr.1.cmul hp.2 (by decide)) ?_
    walk_at "go"
    have e : decide (p.num * (r.den : Int) < r.num * (p.den : Int)) = decide (p < r) := by
      rw [decide_eq_decide]; exact (Rat.lt_iff p r).symm
    rw [e]
    exact q

abbrev s_sum_part : Stmt := topS 26
theorem sc_sum_part : FnScope ["shares", "some", "kind"] ["shares", "some"] (defScope s_sum_part) := ⟨rfl, rfl, rfl, by decide +kernel, rfl, by decide +kernel, by decide +kernel⟩
theorem ok_sum_part {a : Addr} {fd : FuncData} (F : Fun K "sum_part" "sum_part" s_sum_part a fd) (hm : mg "sum_part" = some (.ref a)) (z_sum : mg "sum" = none) :
    Cl P w K mg base 1 "sum_part" f_sumPart := by
  refine ⟨a, fd, ["shares", "some"], fn_ok F sc_sum_part (fun args m R h => ?_) (fun cdv A outer s H E hr => ⟨_, (pss_one (ps_ret (pe_callB (kSum K) (by rfl) z_sum (by decide +kernel) (pa_cons (pe_lc (own := [("kind", 2)]) rfl sc_sum_part.nd (kiT K (pv 1)) (blkOk_by (own := [("kind", 2)]) (N := ["shares", "some", "kind"]) (sc := defScope s_sum_part) (by decide +kernel)) (fun _ _ _ _ _ => (pg_name (i := 2) sc_sum_part.nd rfl (by first | exact Or.inl rfl | exact Or.inr rfl))) (fun _ _ _ _ _ => pts_nil) (fun _ _ _ _ _ => (pe_ix (kIx K) (pv 0) (pv 2) (fun _ _ => rfl)))) pa_nil)))), fun args m R h => ?_⟩), hm, F.kp, F.binds (ps := ["shares", "some"]) fun _ _ _ _ _ _ us hl => match us, hl with | [_, _], _ => rfl⟩
  ·
    obtain ⟨_, _, rfl, _⟩ := h; rfl
  ·
    obtain ⟨ss, ks, rfl, hz, hk, q⟩ := h
    repeat walk_at "dl"
    refine ev_mapT (ds := (ks.map fun (k : Nat) => (k : Int)).map PyData.int) ?_ (by rw [List.length_map, List.length_map]; omega) (fun d => .int (ss.getD (intOf d).toNat 0)) (fun i d m' hd hx => ?_) ?_
    · repeat walk_at "dl"
      exact ⟨rfl, rfl⟩
    · obtain ⟨k, hk1, rfl⟩ : ∃ k, k ∈ ks ∧ d = .int (k : Int) := by
        have := List.mem_of_getElem? hd
        rw [List.map_map] at this
        obtain ⟨k, h1, h2⟩ := List.mem_map.mp this
        exact ⟨k, h1, h2.symm⟩
      repeat walk_at "dl"
      refine o2_ixT (tupI_at (hk k hk1)) ?_
      exact ⟨rfl, rfl⟩
    · repeat walk_at "dl"
      have e : ((ks.map fun (k : Nat) => (k : Int)).map PyData.int).map (fun d => PyData.int (ss.getD (intOf d).toNat 0)) = (ks.map fun k => ss.getD k 0).map PyData.int := by
        rw [List.map_map, List.map_map, List.map_map]
        exact List.map_congr_left fun k _ => rfl
      rw [e]
      refine on_sumL ?_
      exact q

abbrev s_all_some : Stmt := topS 27
theorem sc_all_some : FnScope ["kinds", "found", "kind", "some"] ["kinds"] (defScope s_all_some) := ⟨rfl, rfl, rfl, by decide +kernel, rfl, by decide +kernel, by decide +kernel⟩
theorem ok_all_some {a : Addr} {fd : FuncData} (F : Fun K "all_some" "all_some" s_all_some a fd) (hm : mg "all_some" = some (.ref a)) :
    Cl P w K mg base 1 "all_some" f_allSome := by
  refine ⟨a, fd, ["kinds"], fn_ok F sc_all_some (fun args m R h => ?_) (fun cdv A outer s H E hr => ⟨_, (pss_cons (ps_set (i := 1) sc_all_some.nd rfl (by first | exact Or.inl rfl | exact Or.inr rfl) (pe_lst (pa_cons (pe_tup pa_nil) pa_nil)))
      (pss_cons (ps_for PassesOwn.never rfl (kiL K (pv 0)) (pg_name (i := 2) sc_all_some.nd rfl (by first | exact Or.inl rfl | exact Or.inr rfl)) (pss_one (ps_set (i := 1) sc_all_some.nd rfl (by first | exact Or.inl rfl | exact Or.inr rfl) (pe_op (kAdd K) (pv 1) (pe_lc (own := [("some", 3)]) rfl sc_all_some.nd (kiL K (pv 1)) (blkOk_by (own := [("some", 3)]) (N := ["kinds", "found", "kind", "some"]) (sc := defScope s_all_some) (by decide +kernel)) (fun _ _ _ _ _ => (pg_name (i := 3) sc_all_some.nd rfl (by first | exact Or.inl rfl | exact Or.inr rfl))) (fun _ _ _ _ _ => pts_nil) (fun _ _ _ _ _ => (pe_op (kAdd K) (pv 3) (pe_tup (pa_cons (pv 2) pa_nil)))))))))
      (pss_one (ps_ret (pv 1))))), fun args m R h => ?_⟩), hm, F.kp, F.binds (ps := ["kinds"]) fun _ _ _ _ _ _ us hl => match us, hl with | [_], _ => rfl⟩
  ·
    obtain ⟨_, rfl, _⟩ := h; rfl
  ·
    obtain ⟨ks, rfl, hn, q⟩ := h
    refine w_seq (w_asg (ev_lstT ?_))
    refine eva_cons (ev_tupT ?_)
    walk_at "dl1"
    refine ⟨[], rfl, by decide, ?_⟩
    walk_at "dl1"
    refine ⟨[[]], rfl, by decide, ?_⟩
    refine w_seq (w_forLf (xs := ks) (f := intN) ?_ (fun i r' m' => m' = m ∧ ∃ y, r' = [.d (.list (ks.map intN)), .lt ((allSL (ks.take i)).map kn), y, .any]) ⟨rfl, _, rfl⟩ ?_ ?_)
    · walk_at "go"
      exact ⟨rfl, rfl⟩
    · rintro i k r' m' hk ⟨rfl, y, rfl⟩
      have hl := allSL_len (ks.take i)
      have hp : (2 : Nat) ^ (ks.take i).length ≤ 2 ^ 8 := Nat.pow_le_pow_right (by decide) (by rw [List.length_take]; omega)
      refine w_asg (ev_op (ev_var (x := .lt ((allSL (ks.take i)).map kn)) rfl (fun h => nomatch h) ?_))
      refine ev_mapLt (nss := (allSL (ks.take i)).map kn) (ev_var rfl (fun h => nomatch h) ⟨rfl, rfl⟩) (by rw [List.length_map]; omega) (fun ns => ns ++ [(k : Int)]) (fun ns m2 hns hx => ?_) ?_
      · refine ev_op (ev_var (x := .t ns) rfl (fun h => nomatch h) (ev_tupT ?_))
        walk_at "go"
        obtain ⟨s, hs, rfl⟩ := List.mem_map.mp hns
        have := allSL_mem_len s hs
        rw [List.length_take] at this
        refine o2_addTt (by rw [List.length_map]; show s.length + 1 ≤ 100000; omega) ⟨rfl, rfl⟩
      · refine o2_addLt (by rw [List.length_map, List.length_map, List.length_map]; omega) ?_
        refine ⟨rfl, .d (.int (k : Int)), ?_⟩
        rw [take_one hk, allSL_snoc, List.map_append, List.map_map, List.map_map]
        have e : (allSL (ks.take i)).map ((fun ns => ns ++ [(k : Int)]) ∘ kn) = (allSL (ks.take i)).map (kn ∘ fun s => s ++ [k]) := List.map_congr_left fun s _ => by
          show kn s ++ [(k : Int)] = kn (s ++ [k])
          unfold kn
          rw [List.map_append]; rfl
        rw [e]
        rfl
    · rintro r' m' ⟨rfl, y, rfl⟩
      rw [List.take_length]
      refine w_ret (ev_var rfl (fun h => nomatch h) q)

abbrev s__law_box : Stmt := topS 45
theorem sc__law_box : FnScope ["_law_script", "_law_k", "_law_here", "_law_number", "_law_j", "_law_piece"] ["_law_script", "_law_k"] (defScope s__law_box) := ⟨rfl, rfl, rfl, by decide +kernel, rfl, by decide +kernel, by decide +kernel⟩
theorem ok__law_box {a : Addr} {fd : FuncData} (F : Fun K "_law_box" "_law_box" s__law_box a fd) (hm : mg "_law_box" = some (.ref a)) (z_len : mg "len" = none) (z_range : mg "range" = none) :
    Cl P w K mg base 1 "_law_box" f_box2 := by
  refine ⟨a, fd, ["_law_script", "_law_k"], fn_ok F sc__law_box (fun args m R h => ?_) (fun cdv A outer s H E hr => ⟨_, (pss_cons (ps_set (i := 2) sc__law_box.nd rfl (by first | exact Or.inl rfl | exact Or.inr rfl) (pe_op (kAdd K) (pe_op (kMul K) pe_int (pv 1)) pe_int))
      (pss_cons (ps_if (pt_cmpR oLt (pv 1) (pe_callB (kLen K) (by rfl) z_len (by decide +kernel) (pa_cons (pv 0) pa_nil)) (nomark _)) (pss_one (ps_set (i := 2) sc__law_box.nd rfl (by first | exact Or.inl rfl | exact Or.inr rfl) (pe_ix (kIx K) (pv 0) (pv 1) (fun _ _ => rfl)))) pss_nil)
      (pss_cons (ps_if (pt_cmpR (kEq K hr) (pe_op oMod (pv 2) pe_int) pe_int (nomark _)) (pss_one (ps_ret (pe_lst (pa_cons (pe_op oFdv (pv 2) pe_int) pa_nil)))) pss_nil)
      (pss_cons (ps_set (i := 3) sc__law_box.nd rfl (by first | exact Or.inl rfl | exact Or.inr rfl) pe_int)
      (pss_cons (ps_for PassesOwn.never rfl (pi_range1 (by rfl) z_range (pa_cons pe_int pa_nil)) (pg_name (i := 4) sc__law_box.nd rfl (by first | exact Or.inl rfl | exact Or.inr rfl)) (pss_cons (ps_set (i := 5) sc__law_box.nd rfl (by first | exact Or.inl rfl | exact Or.inr rfl) (pe_op oMod (pe_op (kAdd K) (pe_op (kAdd K) (pe_op (kMul K) (pe_op oMod (pv 2) pe_int) pe_int) (pe_op (kMul K) pe_int (pv 4))) pe_int) pe_int))
      (pss_cons (ps_set (i := 5) sc__law_box.nd rfl (by first | exact Or.inl rfl | exact Or.inr rfl) (pe_op oMod (pe_op (kMul K) (pv 5) (pv 5)) pe_int))
      (pss_one (ps_set (i := 3) sc__law_box.nd rfl (by first | exact Or.inl rfl | exact Or.inr rfl) (pe_op (kAdd K) (pe_op (kMul K) (pv 3) pe_int) (pe_op oMod (pe_op (kMul K) (pv 5) (pe_op (kAdd K) (pv 5) pe_int)) pe_int)))))))
      (pss_one (ps_ret (pe_lst (pa_cons (pv 3) pa_nil))))))))), fun args m R h => ?_⟩), hm, F.kp, F.binds (ps := ["_law_script", "_law_k"]) fun _ _ _ _ _ _ us hl => match us, hl with | [_, _], _ => rfl⟩
  ·
    obtain ⟨_, _, rfl, _⟩ := h; rfl
  ·
    obtain ⟨ns, k, rfl, hk, q⟩ := h
    refine w_seq (w_asg ?_)
    walk_at "go"
    refine o2_mulI (cmul_small (by decide) (by omega)) ?_
    refine ev_cI (o2_addI ?_)
    refine w_seq (Wp.imp (N := fun r1 m1 => m1 = m ∧ ∃ z : Int, r1 = [.scr ns, .d (.int (k : Int)), .d (.int z), .any, .any, .any]) (E := fun _ _ => False) (w_if ?_) ?_ (fun _ _ h => h.elim))
    · walk_at "go"
      by_cases hkl : (k : Int) < (ns.length : Int)
      · refine br_t (decide_eq_true hkl) ?_
        walk_at "go"
        refine o2_ixS (List.getElem?_eq_getElem (by omega)) ?_
        exact ⟨rfl, _, rfl⟩
      · refine br_f (decide_eq_false hkl) (w_next ?_)
        exact ⟨rfl, _, rfl⟩
    rintro r1 m1 ⟨rfl, z, rfl⟩
    walk_at "go"
    refine o2_mod (by decide) ?_
    walk_at "go"
    by_cases hz : z % 2 = 0
    · refine br_t (decide_eq_true hz) (w_ret (ev_lstB ?_))
      walk_at "go"
      refine o2_fdv (cdiv_small (by decide) (by decide)) ?_
      walk_at "go"
      exact q
    · refine br_f (decide_eq_false hz) (w_next ?_)
      walk_at "go"
      refine w_forR1 (n := 16) ?_ (by decide) (fun i r' m' => m' = m1 ∧ ∃ (n : Int) (y z1 : Val), r' = [.scr ns, .d (.int (k : Int)), .d (.int z), .d (.int n), y, z1] ∧ 0 ≤ n ∧ Bt n (33 * i + 1)) ⟨rfl, 0, _, _, rfl, by decide, bt_lit (n := 1) (by decide) (by omega)⟩ ?_ ?_
      · walk_at "go"
        exact ⟨rfl, rfl⟩
      · rintro i r' m' hi ⟨rfl, n, y, z1, rfl, hn, hb⟩
        have hc := Int.emod_nonneg z (show (2147483647 : Int) ≠ 0 by decide)
        have hc2 := Int.emod_lt_of_pos z (show (0 : Int) < 2147483647 by decide)
        walk_at "go"
        refine o2_mod (by decide) ?_
        walk_at "go"
        refine o2_mulI (cmul_small (by omega) (by decide)) ?_
        walk_at "go"
        refine o2_mulI (cmul_small (by decide) (by omega)) ?_
        walk_at "go"
        refine o2_mod (by decide) ?_
        generalize hP : (z % 2147483647 * 48271 + 7919 * (i : Int) + 1) % 2147483647 = P
        have hp0 : 0 ≤ P := by rw [← hP]; exact Int.emod_nonneg _ (by decide)
        have hp1 : P < 2147483647 := by rw [← hP]; exact Int.emod_lt_of_pos _ (by decide)
        walk_at "go"
        refine o2_mulI (cmul_small (by omega) (by omega)) ?_
        walk_at "go"
        refine o2_mod (by decide) ?_
        generalize hP2 : P * P % 2147483629 = P2
        have hp2 : 0 ≤ P2 := by rw [← hP2]; exact Int.emod_nonneg _ (by decide)
        have hp3 : P2 < 2147483629 := by rw [← hP2]; exact Int.emod_lt_of_pos _ (by decide)
        walk_at "go"
        refine o2_mulI (hb.cmul (b := 31) (bt_lit (n := 31) (by decide) (by decide)) (by omega)) ?_
        walk_at "go"
        refine o2_mulI (cmul_small (by omega) (by omega)) ?_
        walk_at "go"
        refine o2_mod (by decide) ?_
        walk_at "go"
        have hw := Int.emod_nonneg (P2 * (P2 + 13)) (show (2147483647 : Int) ≠ 0 by decide)
        have hw1 := Int.emod_lt_of_pos (P2 * (P2 + 13)) (show (0 : Int) < 2147483647 by decide)
        generalize P2 * (P2 + 13) % 2147483647 = w at *
        refine ⟨rfl, n * 2147483647 + w, _, _, rfl, by omega, ?_⟩
        have h1 : Bt (n * 2147483647) (33 * i + 1 + 31) := hb.mul (bt_lit (n := 31) (by decide) (Nat.le_refl _))
        exact (h1.add (bt_lit (i := w) (n := 31) (a := 33 * i + 32) (by show _ < 2147483648; omega) (by omega)) (c := 33 * i + 32) (by omega) (Nat.le_refl _)).mono (by omega)
      · rintro r' m' ⟨rfl, n, y, z1, rfl, hn, hb⟩
        refine w_ret (ev_lstB ?_)
        walk_at "go"
        exact q

abbrev s__law_take : Stmt := topS 46
theorem sc__law_take : FnScope ["_law_box_here", "_law_many", "_law_left", "_law_digit"] ["_law_box_here", "_law_many"] (defScope s__law_take) := ⟨rfl, rfl, rfl, by decide +kernel, rfl, by decide +kernel, by decide +kernel⟩
theorem ok__law_take {a : Addr} {fd : FuncData} (F : Fun K "_law_take" "_law_take" s__law_take a fd) (hm : mg "_law_take" = some (.ref a)) (z_divmod : mg "divmod" = none) :
    Cl P w K mg base 1 "_law_take" f_take := by
  refine ⟨a, fd, ["_law_box_here", "_law_many"], fn_ok F sc__law_take (fun args m R h => ?_) (fun cdv A outer s H E hr => ⟨_, (pss_cons (ps_asg (pe_callB cDivmod (by rfl) z_divmod (by decide +kernel) (pa_cons (pe_ix (kIx K) (pv 0) pe_int (fun _ _ => rfl)) (pa_cons (pv 1) pa_nil))) (kgT K (pg_tup (n := 2) rfl (pgs_cons (pg_name (i := 2) sc__law_take.nd rfl (by first | exact Or.inl rfl | exact Or.inr rfl)) (pgs_cons (pg_name (i := 3) sc__law_take.nd rfl (by first | exact Or.inl rfl | exact Or.inr rfl)) pgs_nil)))))
      (pss_cons (ps_asg (pv 2) (pg_sub (pv 0) pe_int set_list))
      (pss_one (ps_ret (pv 3))))), fun args m R h => ?_⟩), hm, F.kp, F.binds (ps := ["_law_box_here", "_law_many"]) fun _ _ _ _ _ _ us hl => match us, hl with | [_, _], _ => rfl⟩
  ·
    obtain ⟨_, _, rfl, _⟩ := h; rfl
  ·
    obtain ⟨p, k, rfl, hp, hk, hb, q⟩ := h
    refine w_seq (w_asg2 ?_)
    repeat walk_at "dl"
    refine o2_ixB hp fun n => ?_
    repeat walk_at "dl"
    refine on_divmod (hb.cdiv hk (by decide)) ?_
    repeat walk_at "dl"
    refine w_setB (p := p) ?_
    repeat walk_at "dl"
    refine ⟨rfl, ?_⟩
    repeat walk_at "dl"
    refine ⟨rfl, hp, ?_⟩
    repeat walk_at "dl"
    exact q _ (Int.emod_nonneg n (by omega)) (Int.emod_lt_of_pos n hk)

abbrev s__law_classes : Stmt := topS 49
theorem sc__law_classes : FnScope ["_law_e", "_law_found"] ["_law_e"] (defScope s__law_classes) := ⟨rfl, rfl, rfl, by decide +kernel, rfl, by decide +kernel, by decide +kernel⟩
theorem ok__law_classes {a : Addr} {fd : FuncData} (F : Fun K "_law_classes" "_law_classes" s__law_classes a fd) (hm : mg "_law_classes" = some (.ref a)) (z_isinstance : mg "isinstance" = none) (g_NoNeeds : mg "NoNeeds" = some (.ref c_NoNeeds)) (g_NoNumber : mg "NoNumber" = some (.ref c_NoNumber)) (g_NoKind : mg "NoKind" = some (.ref c_NoKind)) (g_NoShares : mg "NoShares" = some (.ref c_NoShares)) (g_NoText : mg "NoText" = some (.ref c_NoText)) (g_NoLine : mg "NoLine" = some (.ref c_NoLine)) (g_NoPlan : mg "NoPlan" = some (.ref c_NoPlan)) (g_TooMany : mg "TooMany" = some (.ref c_TooMany)) :
    ClP P w K mg base 1 "_law_classes" (okE K [c_NoShares, c_NoKind, c_NoNumber, c_NoNeeds, c_TooMany, c_NoPlan, c_NoLine, c_NoText] c_GatherError) (f_lawClasses K [c_NoShares, c_NoKind, c_NoNumber, c_NoNeeds, c_TooMany, c_NoPlan, c_NoLine, c_NoText] c_GatherError) := by
  refine ⟨a, fd, ["_law_e"], fnP_ok F sc__law_classes (fun a D args m R h => ?_) (fun cdv A outer s H E p D hD hsee hr => ?_), hm, F.kp, F.binds (ps := ["_law_e"]) fun _ _ _ _ _ _ us hl => match us, hl with | [_], _ => rfl⟩
  ·
    obtain ⟨_, _, rfl, _⟩ := h; rfl
  · obtain ⟨i0, hX⟩ := hD
    refine ⟨_, (pss_cons (ps_set (i := 1) sc__law_classes.nd rfl (by first | exact Or.inl rfl | exact Or.inr rfl) (pe_lst (pa_cons (pe_callB (kIsP K hsee hX.exc) (by rfl) z_isinstance (by decide +kernel) (pa_cons (pv 0) (pa_cons (pe_glob (v := V.ref c_NoShares) (by rfl) g_NoShares rfl) pa_nil))) (pa_cons (pe_callB (kIsP K hsee hX.exc) (by rfl) z_isinstance (by decide +kernel) (pa_cons (pv 0) (pa_cons (pe_glob (v := V.ref c_NoKind) (by rfl) g_NoKind rfl) pa_nil))) (pa_cons (pe_callB (kIsP K hsee hX.exc) (by rfl) z_isinstance (by decide +kernel) (pa_cons (pv 0) (pa_cons (pe_glob (v := V.ref c_NoNumber) (by rfl) g_NoNumber rfl) pa_nil))) (pa_cons (pe_callB (kIsP K hsee hX.exc) (by rfl) z_isinstance (by decide +kernel) (pa_cons (pv 0) (pa_cons (pe_glob (v := V.ref c_NoNeeds) (by rfl) g_NoNeeds rfl) pa_nil))) pa_nil))))))
      (pss_one (ps_ret (pe_op (kAdd K) (pv 1) (pe_lst (pa_cons (pe_callB (kIsP K hsee hX.exc) (by rfl) z_isinstance (by decide +kernel) (pa_cons (pv 0) (pa_cons (pe_glob (v := V.ref c_TooMany) (by rfl) g_TooMany rfl) pa_nil))) (pa_cons (pe_callB (kIsP K hsee hX.exc) (by rfl) z_isinstance (by decide +kernel) (pa_cons (pv 0) (pa_cons (pe_glob (v := V.ref c_NoPlan) (by rfl) g_NoPlan rfl) pa_nil))) (pa_cons (pe_callB (kIsP K hsee hX.exc) (by rfl) z_isinstance (by decide +kernel) (pa_cons (pv 0) (pa_cons (pe_glob (v := V.ref c_NoLine) (by rfl) g_NoLine rfl) pa_nil))) (pa_cons (pe_callB (kIsP K hsee hX.exc) (by rfl) z_isinstance (by decide +kernel) (pa_cons (pv 0) (pa_cons (pe_glob (v := V.ref c_NoText) (by rfl) g_NoText rfl) pa_nil))) pa_nil))))))))), fun args m R h => ?_⟩
    obtain ⟨i, hX', rfl, q⟩ := h
    refine w_seq (w_asg (ev_lstD ?_))
    refine eva_cons (ev_callB (eva_cons (ev_var rfl (fun h => nomatch h) (eva_cons (ev_cV (eva_nil (on_isE relV_ref (hX'.one 0 (by decide)) ?_)))))))
    refine eva_cons (ev_callB (eva_cons (ev_var rfl (fun h => nomatch h) (eva_cons (ev_cV (eva_nil (on_isE relV_ref (hX'.one 1 (by decide)) ?_)))))))
    refine eva_cons (ev_callB (eva_cons (ev_var rfl (fun h => nomatch h) (eva_cons (ev_cV (eva_nil (on_isE relV_ref (hX'.one 2 (by decide)) ?_)))))))
    refine eva_cons (ev_callB (eva_cons (ev_var rfl (fun h => nomatch h) (eva_cons (ev_cV (eva_nil (on_isE relV_ref (hX'.one 3 (by decide)) ?_)))))))
    refine eva_nil ⟨[_, _, _, _], rfl, by show 4 ≤ 100000; decide, ?_⟩
    refine w_ret (ev_op (ev_var rfl (fun h => nomatch h) (ev_lstD ?_)))
    refine eva_cons (ev_callB (eva_cons (ev_var rfl (fun h => nomatch h) (eva_cons (ev_cV (eva_nil (on_isE relV_ref (hX'.one 4 (by decide)) ?_)))))))
    refine eva_cons (ev_callB (eva_cons (ev_var rfl (fun h => nomatch h) (eva_cons (ev_cV (eva_nil (on_isE relV_ref (hX'.one 5 (by decide)) ?_)))))))
    refine eva_cons (ev_callB (eva_cons (ev_var rfl (fun h => nomatch h) (eva_cons (ev_cV (eva_nil (on_isE relV_ref (hX'.one 6 (by decide)) ?_)))))))
    refine eva_cons (ev_callB (eva_cons (ev_var rfl (fun h => nomatch h) (eva_cons (ev_cV (eva_nil (on_isE relV_ref (hX'.one 7 (by decide)) ?_)))))))
    refine eva_nil ⟨[_, _, _, _], rfl, by show 4 ≤ 100000; decide, ?_⟩
    exact o2_addL (by show 4 + 4 ≤ 100000; decide) q

abbrev s_made : Stmt := topS 14
theorem sc_made : FnScope ["top", "bottom", "both"] ["top", "bottom"] (defScope s_made) := ⟨rfl, rfl, rfl, by decide +kernel, rfl, by decide +kernel, by decide +kernel⟩
theorem ok_made {a : Addr} {fd : FuncData} (F : Fun K "made" "made" s_made a fd) (hm : mg "made" = some (.ref a)) (z_abs : mg "abs" = none) (k_greatest_common : Cl P w K mg base 1 "greatest_common" f_gcd) :
    Cl P w K mg base 2 "made" f_made := by
  refine ⟨a, fd, ["top", "bottom"], fn_ok F sc_made (fun args m R h => ?_) (fun cdv A outer s H E hr => ⟨_, (pss_cons (ps_set (i := 2) sc_made.nd rfl (by first | exact Or.inl rfl | exact Or.inr rfl) (pe_cl k_greatest_common hr (by decide) (by rfl) (pa_cons (pv 1) (pa_cons (pe_callB cAbs (by rfl) z_abs (by decide +kernel) (pa_cons (pv 0) pa_nil)) pa_nil))))
      (pss_one (ps_ret (pe_tup (pa_cons (pe_op oFdv (pv 0) (pv 2)) (pa_cons (pe_op oFdv (pv 1) (pv 2)) pa_nil)))))), fun args m R h => ?_⟩), hm, F.kp, F.binds (ps := ["top", "bottom"]) fun _ _ _ _ _ _ us hl => match us, hl with | [_, _], _ => rfl⟩
  ·
    obtain ⟨_, _, rfl, _⟩ := h; rfl
  ·
    obtain ⟨t, b, rfl, hb, hz, q⟩ := h
    have hp : 0 < Nat.gcd b t.natAbs := Nat.gcd_pos_of_pos_left _ hb
    have hB : Bt ((Nat.gcd b t.natAbs : Nat) : Int) 8000 := hz.le (by
      have := Nat.le_of_dvd hb (Nat.gcd_dvd_left b t.natAbs)
      omega)
    repeat walk_at "dl"
    refine o2_fdv (hB.cdiv (by omega) (by decide)) ?_
    repeat walk_at "dl"
    refine o2_fdv (hB.cdiv (by omega) (by decide)) ?_
    repeat walk_at "dl"
    rw [frac_mk t b (by omega)] at q
    exact q

abbrev s_need_number : Stmt := topS 16
theorem sc_need_number : FnScope ["number", "least", "most"] ["number", "least", "most"] (defScope s_need_number) := ⟨rfl, rfl, rfl, by decide +kernel, rfl, by decide +kernel, by decide +kernel⟩
theorem ok_need_number {a : Addr} {fd : FuncData} (F : Fun K "need_number" "need_number" s_need_number a fd) (hm : mg "need_number" = some (.ref a)) (k_is_whole : Cl P w K mg base 1 "is_whole" f_isWhole) (t_NoNumber : RfT K mg "NoNumber" c_NoNumber) :
    ClX P w K mg base 2 "need_number" (fnE [c_NoShares, c_NoKind, c_NoNumber, c_NoNeeds, c_TooMany, c_NoPlan, c_NoLine, c_NoText] 3 eNeedNumber preNumber) := by
  refine ⟨a, fd, ["number", "least", "most"], fnX_ok F sc_need_number (fun args m R X h => ?_) (fun cdv A outer s H E hr => ⟨_, (pss_one (ps_if (PW.pt (pw_or (pt_not (pt_val (pe_cl k_is_whole hr (by decide) (by rfl) (pa_cons (pv 0) pa_nil)))) (pw_or1 (pt_not (pt_chain oLe oLe (pv 1) (pv 0) (pv 2)))))) (pss_one (ps_rf t_NoNumber (L2N.takes_of rfl rfl rfl rfl) (by rfl))) pss_nil)), fun args m R X h G0 hT => ?_⟩), hm, F.kp, F.binds (ps := ["number", "least", "most"]) fun _ _ _ _ _ _ us hl => match us, hl with | [_, _, _], _ => rfl⟩
  ·
    exact fnE_len h
  ·
    obtain ⟨ds, rfl, hl, hp, h1, h2⟩ := h
    match ds, hp with
    | [x, .int lo, .int hi], _ =>
      refine wx_if ?_
      walk_at "go"
      cases hx : isInt x with
      | false =>
        refine br_t rfl (br_t rfl ?_)
        exact wx_raise (hT _) (h2 2 (if_neg (by cases x <;> first | (intro z; cases z) | cases hx)))
      | true =>
        obtain ⟨i, rfl⟩ := int_shape hx
        refine br_f rfl ?_
        walk_at "go"
        by_cases g1 : lo ≤ i
        · refine br_t (decide_eq_true g1) ?_
          walk_at "go"
          by_cases g2 : i ≤ hi
          · rw [decide_eq_true g2]
            exact br_f rfl (wx_next (h1 _ (if_pos (by simp only [okNum, Bool.and_eq_true, decide_eq_true_eq]; exact ⟨g1, g2⟩))))
          · rw [decide_eq_false g2]
            exact br_t rfl (wx_raise (hT _) (h2 2 (if_neg (by simp only [okNum, Bool.and_eq_true, decide_eq_true_eq]; exact fun z => g2 z.2))))
        · refine br_f (decide_eq_false g1) ⟨_, rfl, br_t rfl ?_⟩
          exact wx_raise (hT _) (h2 2 (if_neg (by simp only [okNum, Bool.and_eq_true, decide_eq_true_eq]; exact fun z => g1 z.1)))

abbrev s_is_shares : Stmt := topS 23
theorem sc_is_shares : FnScope ["thing", "one"] ["thing"] (defScope s_is_shares) := ⟨rfl, rfl, rfl, by decide +kernel, rfl, by decide +kernel, by decide +kernel⟩
theorem ok_is_shares {a : Addr} {fd : FuncData} (F : Fun K "is_shares" "is_shares" s_is_shares a fd) (hm : mg "is_shares" = some (.ref a)) (z_len : mg "len" = none) (z_isinstance : mg "isinstance" = none) (z_tuple : mg "tuple" = none) (z_all : mg "all" = none) (c_MOST_KINDS : ∃ t, mg "MOST_KINDS" = some (.int 5 t)) (c_MOST_SHARE : ∃ t, mg "MOST_SHARE" = some (.int 9 t)) (k_is_whole : Cl P w K mg base 1 "is_whole" f_isWhole) :
    Cl P w K mg base 2 "is_shares" f_isShares := by
  refine ⟨a, fd, ["thing"], fn_ok F sc_is_shares (fun args m R h => ?_) (fun cdv A outer s H E hr => ⟨_, (pss_cons (ps_if (PW.pt (pw_or (pt_not (pt_val (pe_callB (kIsi K) (by rfl) z_isinstance (by decide +kernel) (pa_cons (pv 0) (pa_cons (pe_bltn (v := .ty "tuple") (by rfl) z_tuple (by decide +kernel) rfl) pa_nil))))) (pw_or1 (pt_not (pt_chain oLe oLe pe_int (pe_callB (kLen K) (by rfl) z_len (by decide +kernel) (pa_cons (pv 0) pa_nil)) (pe_gi c_MOST_KINDS (by rfl))))))) (pss_one (ps_ret pe_bl)) pss_nil)
      (pss_one (ps_ret (pe_callB (kAll K) (by rfl) z_all (by decide +kernel) (pa_cons (pe_lc (own := [("one", 1)]) rfl sc_is_shares.nd (kiT K (pv 0)) (blkOk_by (own := [("one", 1)]) (N := ["thing", "one"]) (sc := defScope s_is_shares) (by decide +kernel)) (fun _ _ _ _ _ => (pg_name (i := 1) sc_is_shares.nd rfl (by first | exact Or.inl rfl | exact Or.inr rfl))) (fun _ _ _ _ _ => pts_nil) (fun _ _ _ _ _ => (pe_and (pe_cl k_is_whole hr (by decide) (by rfl) (pa_cons (pv 1) pa_nil)) (pe_one (pe_chain oLe oLe pe_int (pv 1) (pe_gi c_MOST_SHARE (by rfl))))))) pa_nil))))), fun args m R h => ?_⟩), hm, F.kp, F.binds (ps := ["thing"]) fun _ _ _ _ _ _ us hl => match us, hl with | [_], _ => rfl⟩
  ·
    obtain ⟨_, rfl, _⟩ := h; rfl
  ·
    obtain ⟨x, rfl, q⟩ := h
    repeat walk_at "dl"
    cases hx : isTup x with
    | false =>
      refine br_t rfl (br_t rfl ?_)
      repeat walk_at "dl"
      have e : isShares x = false := by cases x <;> first | rfl | cases hx
      rw [e] at q
      exact q
    | true =>
      obtain ⟨ds, rfl⟩ := tup_shape hx
      refine br_f rfl ?_
      repeat walk_at "dl"
      by_cases h1 : (1 : Int) ≤ (ds.length : Int)
      · refine br_t (decide_eq_true h1) ?_
        repeat walk_at "dl"
        by_cases h5 : (ds.length : Int) ≤ 5
        · rw [decide_eq_true h5]
          refine br_f rfl ?_
          refine w_next ?_
          repeat walk_at "dl"
          refine ev_mapT (ds := ds) ?_ (by omega) (fun d => .bool (okS d)) (fun i d m' hd hx => ?_) ?_
          · repeat walk_at "dl"
            exact ⟨rfl, rfl⟩
          · repeat walk_at "dl"
            cases hi : isInt d with
            | false =>
              refine br_f rfl ⟨?_, rfl⟩
              cases d <;> first | rfl | cases hi
            | true =>
              obtain ⟨i, rfl⟩ := int_shape hi
              refine br_t rfl ?_
              repeat walk_at "dl"
              by_cases g1 : (1 : Int) ≤ i
              · refine br_t (decide_eq_true g1) ?_
                repeat walk_at "dl"
                refine ⟨?_, rfl⟩
                show Val.d (.bool (decide (i ≤ 9))) = .d (.bool (decide (1 ≤ i) && decide (i ≤ 9)))
                rw [decide_eq_true g1, Bool.true_and]
              · refine br_f (decide_eq_false g1) ⟨?_, rfl⟩
                show Val.d (.bool false) = .d (.bool (decide (1 ≤ i) && decide (i ≤ 9)))
                rw [decide_eq_false g1, Bool.false_and]
          · repeat walk_at "dl"
            have e : (ds.map fun d => PyData.bool (okS d)) = (ds.map okS).map PyData.bool := by rw [List.map_map]; rfl
            rw [e]
            repeat walk_at "dl"
            have e : (ds.map okS).all id = isShares (.tuple ds) := by
              show _ = (decide (1 ≤ ds.length) && (decide (ds.length ≤ 5) && ds.all okS))
              rw [decide_eq_true (show 1 ≤ ds.length by omega), decide_eq_true (show ds.length ≤ 5 by omega), List.all_map]; rfl
            rw [e]
            exact q
        · rw [decide_eq_false h5]
          refine br_t rfl ?_
          repeat walk_at "dl"
          have e : isShares (.tuple ds) = false := by
            show (decide (1 ≤ ds.length) && (decide (ds.length ≤ 5) && ds.all okS)) = false
            rw [decide_eq_false (show ¬ ds.length ≤ 5 by omega), Bool.false_and, Bool.and_false]
          rw [e] at q
          exact q
      · refine br_f (decide_eq_false h1) ⟨_, rfl, br_t rfl ?_⟩
        repeat walk_at "dl"
        have e : isShares (.tuple ds) = false := by
          show (decide (1 ≤ ds.length) && (decide (ds.length ≤ 5) && ds.all okS)) = false
          rw [decide_eq_false (show ¬ 1 ≤ ds.length by omega), Bool.false_and]
        rw [e] at q
        exact q

abbrev s_are_kinds : Stmt := topS 25
theorem sc_are_kinds : FnScope ["thing", "many", "at", "one"] ["thing", "many"] (defScope s_are_kinds) := ⟨rfl, rfl, rfl, by decide +kernel, rfl, by decide +kernel, by decide +kernel⟩
theorem ok_are_kinds {a : Addr} {fd : FuncData} (F : Fun K "are_kinds" "are_kinds" s_are_kinds a fd) (hm : mg "are_kinds" = some (.ref a)) (z_all : mg "all" = none) (z_isinstance : mg "isinstance" = none) (z_tuple : mg "tuple" = none) (z_range : mg "range" = none) (z_len : mg "len" = none) (k_is_whole : Cl P w K mg base 1 "is_whole" f_isWhole) :
    Cl P w K mg base 2 "are_kinds" f_areKinds := by
  refine ⟨a, fd, ["thing", "many"], fn_ok F sc_are_kinds (fun args m R h => ?_) (fun cdv A outer s H E hr => ⟨_, (pss_cons (ps_if (PW.pt (pw_or (pt_not (pt_val (pe_callB (kIsi K) (by rfl) z_isinstance (by decide +kernel) (pa_cons (pv 0) (pa_cons (pe_bltn (v := .ty "tuple") (by rfl) z_tuple (by decide +kernel) rfl) pa_nil))))) (pw_or1 (pt_not (pt_val (pe_callB (kAll K) (by rfl) z_all (by decide +kernel) (pa_cons (pe_lc (own := [("one", 3)]) rfl sc_are_kinds.nd (kiT K (pv 0)) (blkOk_by (own := [("one", 3)]) (N := ["thing", "many", "at", "one"]) (sc := defScope s_are_kinds) (by decide +kernel)) (fun _ _ _ _ _ => (pg_name (i := 3) sc_are_kinds.nd rfl (by first | exact Or.inl rfl | exact Or.inr rfl))) (fun _ _ _ _ _ => pts_nil) (fun _ _ _ _ _ => (pe_and (pe_cl k_is_whole hr (by decide) (by rfl) (pa_cons (pv 3) pa_nil)) (pe_one (pe_chain oLe oLt pe_int (pv 3) (pv 1)))))) pa_nil))))))) (pss_one (ps_ret pe_bl)) pss_nil)
      (pss_one (ps_ret (pe_callB (kAll K) (by rfl) z_all (by decide +kernel) (pa_cons (pe_lc (own := [("at", 2)]) rfl sc_are_kinds.nd (pi_range2 (by rfl) z_range (pa_cons pe_int (pa_cons (pe_callB (kLen K) (by rfl) z_len (by decide +kernel) (pa_cons (pv 0) pa_nil)) pa_nil))) (blkOk_by (own := [("at", 2)]) (N := ["thing", "many", "at", "one"]) (sc := defScope s_are_kinds) (by decide +kernel)) (fun _ _ _ _ _ => (pg_name (i := 2) sc_are_kinds.nd rfl (by first | exact Or.inl rfl | exact Or.inr rfl))) (fun _ _ _ _ _ => pts_nil) (fun _ _ _ _ _ => (pe_cmpR oLt (pe_ix (kIx K) (pv 0) (pe_op oSub (pv 2) pe_int) (fun _ _ => rfl)) (pe_ix (kIx K) (pv 0) (pv 2) (fun _ _ => rfl)) (nomark _)))) pa_nil))))), fun args m R h => ?_⟩), hm, F.kp, F.binds (ps := ["thing", "many"]) fun _ _ _ _ _ _ us hl => match us, hl with | [_, _], _ => rfl⟩
  ·
    obtain ⟨_, _, rfl, _⟩ := h; rfl
  ·
    obtain ⟨x, n, rfl, hz, q⟩ := h
    repeat walk_at "dl"
    cases hx : isTup x with
    | false =>
      refine br_t rfl (br_t rfl ?_)
      repeat walk_at "dl"
      have e : areKinds x n = false := by cases x <;> first | rfl | cases hx
      rw [e] at q
      exact q
    | true =>
      obtain ⟨ds, rfl⟩ := tup_shape hx
      have hz : ds.length ≤ 90000 := hz
      refine br_f rfl ?_
      repeat walk_at "dl"
      refine ev_mapT (ds := ds) ?_ (by omega) (fun d => .bool (okK n d)) (fun i d m' hd hx => ?_) ?_
      · repeat walk_at "dl"
        exact ⟨rfl, rfl⟩
      · repeat walk_at "dl"
        cases hi : isInt d with
        | false =>
          refine br_f rfl ⟨?_, rfl⟩
          cases d <;> first | rfl | cases hi
        | true =>
          obtain ⟨i, rfl⟩ := int_shape hi
          refine br_t rfl ?_
          repeat walk_at "dl"
          by_cases g1 : (0 : Int) ≤ i
          · refine br_t (decide_eq_true g1) ?_
            repeat walk_at "dl"
            refine ⟨?_, rfl⟩
            show Val.d (.bool (decide (i < n))) = .d (.bool (decide (0 ≤ i) && decide (i < n)))
            rw [decide_eq_true g1, Bool.true_and]
          · refine br_f (decide_eq_false g1) ⟨?_, rfl⟩
            show Val.d (.bool false) = .d (.bool (decide (0 ≤ i) && decide (i < n)))
            rw [decide_eq_false g1, Bool.false_and]
      · repeat walk_at "dl"
        have e : (ds.map fun d => PyData.bool (okK n d)) = (ds.map (okK n)).map PyData.bool := by rw [List.map_map]; rfl
        rw [e]
        repeat walk_at "dl"
        have e : (ds.map (okK n)).all id = ds.all (okK n) := by rw [List.all_map]; rfl
        rw [e]
        cases hk : ds.all (okK n) with
        | false =>
          refine br_t rfl ?_
          repeat walk_at "dl"
          have e : areKinds (.tuple ds) n = false := by
            show (ds.all (okK n) && rising ds) = false
            rw [hk]; rfl
          rw [e] at q
          exact q
        | true =>
          refine br_f rfl ?_
          refine w_next ?_
          have hI : ∀ k, k < ds.length → ds[k]? = some (.int (intOf (ds.getD k .none))) := by
            intro k hk1
            have h2 := List.all_eq_true.mp hk ds[k] (List.getElem_mem hk1)
            rw [List.getD_eq_getElem?_getD, List.getElem?_eq_getElem hk1]
            cases hq : ds[k] with
            | int i => rfl
            | _ => rw [hq] at h2; cases h2
          have fin : Ev K (tCB (rAll K) (tCons (tLc (iRng2 (tCons (tC (.int 1)) (tCons (tCB (rLen K) (tCons (tVar 0) tNil)) tNil))) (gName 2) tYes (tOp rLt (tOp (rIx K) (tVar 0) (tOp DL.rSub (tVar 2) (tC (.int 1)))) (tOp (rIx K) (tVar 0) (tVar 2))) [2]) tNil)) [.d (.tuple ds), .d (.int n), .any, .any] m R := by
            repeat walk_at "dl"
            by_cases h0 : ds = []
            · subst h0
              refine ev_lcR2' ?_ ?_
              · repeat walk_at "dl"
                exact ⟨rfl, rfl⟩
              · repeat walk_at "dl"
                refine on_all (bs := []) ?_
                have e : areKinds (.tuple []) n = true := rfl
                rw [e] at q
                exact q
            have h1 : 1 ≤ ds.length := by
              cases ds with
              | nil => exact absurd rfl h0
              | cons a b => simp
            refine ev_mapR2 (lo := 1) (n := ds.length - 1) ?_ (by omega) (fun i => .bool (decide (intOf (ds.getD i .none) < intOf (ds.getD (i + 1) .none)))) (fun i m' hi hx => ?_) ?_
            · repeat walk_at "dl"
              refine ⟨?_, rfl⟩
              rw [show 1 + (ds.length - 1) = ds.length by omega]
              rfl
            · repeat walk_at "dl"
              rw [show ((1 + i : Nat) : Int) - 1 = (i : Int) by omega]
              refine o2_ixT (by rw [atI_nth]; exact hI i (by omega)) ?_
              repeat walk_at "dl"
              refine o2_ixT (by rw [atI_nth]; exact hI (1 + i) (by omega)) ?_
              repeat walk_at "dl"
              refine ⟨?_, rfl⟩
              rw [Nat.add_comm 1 i]
            · repeat walk_at "dl"
              have e : ((List.range (ds.length - 1)).map fun i => PyData.bool (decide (intOf (ds.getD i .none) < intOf (ds.getD (i + 1) .none)))) = ((List.range (ds.length - 1)).map fun i => decide (intOf (ds.getD i .none) < intOf (ds.getD (i + 1) .none))).map PyData.bool := by rw [List.map_map]; rfl
              rw [e]
              repeat walk_at "dl"
              have e : areKinds (.tuple ds) n = (((List.range (ds.length - 1)).map fun i => decide (intOf (ds.getD i .none) < intOf (ds.getD (i + 1) .none))).all id) := by
                show (ds.all (okK n) && rising ds) = _
                rw [hk, List.all_map]; rfl
              rw [← e]
              exact q
          exact w_ret fin

abbrev s_rising_some : Stmt := topS 33
theorem sc_rising_some : FnScope ["shares", "some"] ["shares"] (defScope s_rising_some) := ⟨rfl, rfl, rfl, by decide +kernel, rfl, by decide +kernel, by decide +kernel⟩
theorem ok_rising_some {a : Addr} {fd : FuncData} (F : Fun K "rising_some" "rising_some" s_rising_some a fd) (hm : mg "rising_some" = some (.ref a)) (z_sorted : mg "sorted" = none) (z_len : mg "len" = none) (z_range : mg "range" = none) (z_list : mg "list" = none) (k_all_some : Cl P w K mg base 1 "all_some" f_allSome) :
    Cl P w K mg base 2 "rising_some" f_rising := by
  refine ⟨a, fd, ["shares"], fn_ok F sc_rising_some (fun args m R h => ?_) (fun cdv A outer s H E hr => ⟨_, (pss_one (ps_ret (pe_lc (own := [("some", 1)]) rfl sc_rising_some.nd (kiL K (kSortLen K (pe_sortLen hr (by rfl) z_sorted (by rfl) z_len (pa_cons (pe_cl k_all_some hr (by decide) (by rfl) (pa_cons (pe_listRg rfl (by rfl) z_list (prg_1 (by rfl) z_range (pe_callB (kLen K) (by rfl) z_len (by decide +kernel) (pa_cons (pv 0) pa_nil)))) pa_nil)) pa_nil)))) (blkOk_by (own := [("some", 1)]) (N := ["shares", "some"]) (sc := defScope s_rising_some) (by decide +kernel)) (fun _ _ _ _ _ => (pg_name (i := 1) sc_rising_some.nd rfl (by first | exact Or.inl rfl | exact Or.inr rfl))) (fun _ _ _ _ _ => (pts_one (pt_cmpR (kNe K hr) (pv 1) (pe_tup pa_nil) (nomark _)))) (fun _ _ _ _ _ => (pv 1))))), fun args m R h => ?_⟩), hm, F.kp, F.binds (ps := ["shares"]) fun _ _ _ _ _ _ us hl => match us, hl with | [_], _ => rfl⟩
  ·
    obtain ⟨_, rfl, _⟩ := h; rfl
  ·
    obtain ⟨ss, rfl, hs, q⟩ := h
    have hfew := hs.few
    have hal : (allS ss.length).length ≤ 32 := by rw [allS_len]; exact Nat.le_trans (Nat.pow_le_pow_right (by decide) hfew) (by decide)
    have hol : (ordX ss.length).length ≤ 32 := (ordX_facts ⟨ss.length, by omega⟩).1
    refine w_ret (ev_filLt (nss := (ordX ss.length).map kn) ?_ (by rw [List.length_map]; omega) (fun ks => !decide (ks = [])) (fun ks m' hks hx => ?_) (fun ks m' hks hx => ?_) ?_)
    · refine ev_sortLen ?_
      walk_at "go"
      refine ev_lstR1 (n := ss.length) (by omega) ?_
      walk_at "go"
      refine ⟨rfl, ?_⟩
      rw [rngD_intN]
      walk_at "go"
      refine ⟨by rw [List.length_range]; omega, ?_⟩
      rw [allSL_range]
      walk_at "go"
      refine ⟨by rw [List.length_map]; omega, ?_⟩
      rw [byLen_kn, ordS_eq]
      exact ⟨rfl, rfl⟩
    · walk_at "go"
      refine o2_ne (shaped_tupI ks) (shaped_tupI []) ?_
      rw [eqv_nilT ks]
      exact ⟨_, rfl, rfl, rfl⟩
    · exact ev_var rfl (fun h => nomatch h) ⟨rfl, rfl⟩
    rw [rsX_filter]
    exact q

abbrev s_lesser : Stmt := topS 38
theorem sc_lesser : FnScope ["one", "other"] ["one", "other"] (defScope s_lesser) := ⟨rfl, rfl, rfl, by decide +kernel, rfl, by decide +kernel, by decide +kernel⟩
theorem ok_lesser {a : Addr} {fd : FuncData} (F : Fun K "lesser" "lesser" s_lesser a fd) (hm : mg "lesser" = some (.ref a)) (k_below : Cl P w K mg base 1 "below" f_below) :
    Cl P w K mg base 2 "lesser" f_lesser := by
  refine ⟨a, fd, ["one", "other"], fn_ok F sc_lesser (fun args m R h => ?_) (fun cdv A outer s H E hr => ⟨_, (pss_one (ps_ret (pe_ifExp (pt_val (pe_cl k_below hr (by decide) (by rfl) (pa_cons (pv 0) (pa_cons (pv 1) pa_nil)))) (pv 0) (pv 1)))), fun args m R h => ?_⟩), hm, F.kp, F.binds (ps := ["one", "other"]) fun _ _ _ _ _ _ us hl => match us, hl with | [_, _], _ => rfl⟩
  ·
    obtain ⟨_, _, rfl, _⟩ := h; rfl
  ·
    obtain ⟨a, b, rfl, ha, hb, q⟩ := h
    unfold minQ at q
    walk_at "go"
    refine ⟨ha, hb, ?_⟩
    walk_at "go"
    by_cases hc : a < b
    · refine br_t (decide_eq_true hc) ?_
      rw [if_pos hc] at q
      walk_at "go"
      exact q
    · refine br_f (decide_eq_false hc) ?_
      rw [if_neg hc] at q
      walk_at "go"
      exact q

abbrev s__law_shares : Stmt := topS 47
theorem sc__law_shares : FnScope ["_law_box_here", "_law_most", "_law_many", "_law_kind", "_law_first", "_law_other", "_law_found", "_law_at", "_law_drawn"] ["_law_box_here", "_law_most"] (defScope s__law_shares) := ⟨rfl, rfl, rfl, by decide +kernel, rfl, by decide +kernel, by decide +kernel⟩
theorem ok__law_shares {a : Addr} {fd : FuncData} (F : Fun K "_law_shares" "_law_shares" s__law_shares a fd) (hm : mg "_law_shares" = some (.ref a)) (z_range : mg "range" = none) (z_int : mg "int" = none) (z_tuple : mg "tuple" = none) (k__law_take : Cl P w K mg base 1 "_law_take" f_take) :
    Cl P w K mg base 2 "_law_shares" f_shares2 := by
  refine ⟨a, fd, ["_law_box_here", "_law_most"], fn_ok F sc__law_shares (fun args m R h => ?_) (fun cdv A outer s H E hr => ⟨_, (pss_cons (ps_set (i := 2) sc__law_shares.nd rfl (by first | exact Or.inl rfl | exact Or.inr rfl) (pe_op (kAdd K) pe_int (pe_cl k__law_take hr (by decide) (by rfl) (pa_cons (pv 0) (pa_cons (pv 1) pa_nil)))))
      (pss_cons (ps_set (i := 3) sc__law_shares.nd rfl (by first | exact Or.inl rfl | exact Or.inr rfl) (pe_cl k__law_take hr (by decide) (by rfl) (pa_cons (pv 0) (pa_cons pe_int pa_nil))))
      (pss_cons (ps_par (i := 4) (j := 5) rfl sc__law_shares.nd rfl rfl (by decide) rfl rfl (pa_cons (pe_op (kAdd K) pe_int (pe_cl k__law_take hr (by decide) (by rfl) (pa_cons (pv 0) (pa_cons pe_int pa_nil)))) (pa_cons (pe_op (kAdd K) pe_int (pe_cl k__law_take hr (by decide) (by rfl) (pa_cons (pv 0) (pa_cons pe_int pa_nil)))) pa_nil)) rfl)
      (pss_cons (ps_set (i := 6) sc__law_shares.nd rfl (by first | exact Or.inl rfl | exact Or.inr rfl) (pe_lst pa_nil))
      (pss_cons (ps_for PassesOwn.never rfl (pi_range1 (by rfl) z_range (pa_cons (pv 2) pa_nil)) (pg_name (i := 7) sc__law_shares.nd rfl (by first | exact Or.inl rfl | exact Or.inr rfl)) (pss_cons (ps_set (i := 8) sc__law_shares.nd rfl (by first | exact Or.inl rfl | exact Or.inr rfl) (pe_op (kAdd K) pe_int (pe_cl k__law_take hr (by decide) (by rfl) (pa_cons (pv 0) (pa_cons pe_int pa_nil)))))
      (pss_one (ps_expr (kBM K (pe_bm PySem.F.plainAttrs_list PySem.F.slot_list_append PySem.F.type_list_append mt_append (pv 6) (pa_cons (pe_ix (kIx K) (pe_lst (pa_cons (pv 8) (pa_cons (pv 4) (pa_cons (pe_ix (kIx K) (pe_lst (pa_cons pe_int (pa_cons pe_int pa_nil))) (pe_callTy cInt (by rfl) z_int (by decide +kernel) (pa_cons (pe_cmpR (kEq K hr) (pv 7) (pe_op oMod (pv 4) (pv 2)) (nomark _)) pa_nil)) (fun _ _ => rfl)) (pa_cons (pe_ix (kIx K) (pe_lst (pa_cons (pv 4) (pa_cons (pv 5) pa_nil))) (pe_op oMod (pv 8) pe_int) (fun _ _ => rfl)) pa_nil))))) (pv 3) (fun _ _ => rfl)) pa_nil)))))))
      (pss_one (ps_ret (pe_callTy (kTup K) (by rfl) z_tuple (by decide +kernel) (pa_cons (pv 6) pa_nil))))))))), fun args m R h => ?_⟩), hm, F.kp, F.binds (ps := ["_law_box_here", "_law_most"]) fun _ _ _ _ _ _ us hl => match us, hl with | [_, _], _ => rfl⟩
  ·
    obtain ⟨_, _, rfl, _⟩ := h; rfl
  ·
    obtain ⟨p, a, rfl, hp, ha1, ha5, q⟩ := h
    walk_at "go"
    refine ⟨hp, by omega, bt_lit (n := 3) (by show _ < 8; omega) (by decide), fun n0 h0 h1 => ?_⟩
    obtain ⟨n, rfl⟩ : ∃ n : Nat, n0 = (n : Int) := ⟨n0.toNat, by omega⟩
    walk_at "go"
    refine ⟨hp, by decide, bt_lit (n := 3) (by decide) (by decide), fun kd hk0 hk1 => ?_⟩
    walk_at "go"
    refine ⟨hp, by decide, bt_lit (n := 4) (by decide) (by decide), fun f hf0 hf1 => ?_⟩
    walk_at "go"
    refine ⟨hp, by decide, bt_lit (n := 4) (by decide) (by decide), fun o ho0 ho1 => ?_⟩
    walk_at "go"
    refine ev_lstM ?_
    walk_at "go"
    refine ⟨by decide, fun l hl => ?_⟩
    have hpl : p ≠ l := ne_of_get hp hl
    walk_at "go"
    refine w_forR1 (n := n + 1) ?_ (by omega) (fun i r' m' => ∃ (acc : List Int) (y7 y8 : Val), acc.length = i ∧ (∀ s ∈ acc, 1 ≤ s ∧ s ≤ 9) ∧ m' = put m l (.lst ((acc.map PyData.int).map Val.d)) ∧ r' = [.v (.ref p), .d (.int a), .d (.int (1 + (n : Int))), .d (.int kd), .d (.int (1 + f)), .d (.int (1 + o)), .v (.ref l), y7, y8]) ⟨[], _, _, rfl, (fun _ h => nomatch h), rfl, rfl⟩ ?_ ?_
    · walk_at "go"
      refine ⟨?_, rfl⟩
      rw [show (1 : Int) + (n : Int) = ((n + 1 : Nat) : Int) by omega]
    · rintro i r' m' hi ⟨acc, y7, y8, hal, has, rfl, rfl⟩
      have hpm : put m l (.lst ((acc.map PyData.int).map Val.d)) p = some .box := by rw [put_ne hpl]; exact hp
      walk_at "go"
      refine ⟨hpm, by decide, bt_lit (n := 4) (by decide) (by decide), fun d hd0 hd1 => ?_⟩
      refine o2_addI ?_
      refine w_drop (ev_app (p := l) (rs := (acc.map PyData.int).map Val.d) ?_)
      walk_at "go"
      refine ⟨rfl, put_same, ?_⟩
      refine ev_op (ev_lstD ?_)
      walk_at "go"
      refine ev_lstD ?_
      walk_at "go"
      refine o2_mod (by omega) ?_
      walk_at "go"
      refine on_intB ?_
      obtain ⟨v1, hv1, hb1, hb2⟩ : ∃ v : Int, atI ([.int 1, .int 9] : List PyData) (if decide ((i : Int) = (1 + f) % (1 + (n : Int))) = true then 1 else 0) = some (.int v) ∧ 1 ≤ v ∧ v ≤ 9 := by
        by_cases h : (i : Int) = (1 + f) % (1 + (n : Int))
        · rw [decide_eq_true h]; exact ⟨9, rfl, by decide, by decide⟩
        · rw [decide_eq_false h]; exact ⟨1, rfl, by decide, by decide⟩
      refine o2_ixL hv1 ?_
      walk_at "go"
      refine ev_lstD ?_
      walk_at "go"
      refine o2_mod (by decide) ?_
      obtain ⟨v2, hv2, hb3, hb4⟩ : ∃ v : Int, atI ([.int (1 + f), .int (1 + o)] : List PyData) ((1 + d) % 2) = some (.int v) ∧ 1 ≤ v ∧ v ≤ 9 := by
        have h2 : (1 + d) % 2 = 0 ∨ (1 + d) % 2 = 1 := by omega
        rcases h2 with h | h
        · rw [h]; exact ⟨1 + f, rfl, by omega, by omega⟩
        · rw [h]; exact ⟨1 + o, rfl, by omega, by omega⟩
      refine o2_ixL hv2 ?_
      walk_at "go"
      refine ⟨[.int (1 + d), .int (1 + f), .int v1, .int v2], rfl, Nat.le_of_ble_eq_true rfl, ?_⟩
      walk_at "go"
      obtain ⟨v3, hv3, hb5, hb6⟩ : ∃ v : Int, atI ([.int (1 + d), .int (1 + f), .int v1, .int v2] : List PyData) kd = some (.int v) ∧ 1 ≤ v ∧ v ≤ 9 := by
        have h4 : kd = 0 ∨ kd = 1 ∨ kd = 2 ∨ kd = 3 := by omega
        rcases h4 with rfl | rfl | rfl | rfl
        · exact ⟨1 + d, rfl, by omega, by omega⟩
        · exact ⟨1 + f, rfl, by omega, by omega⟩
        · exact ⟨v1, rfl, hb1, hb2⟩
        · exact ⟨v2, rfl, hb3, hb4⟩
      refine o2_ixL hv3 ?_
      refine ⟨put_same, by rw [List.length_map, List.length_map]; omega, acc ++ [v3], _, _, by rw [List.length_append, hal]; rfl, fun s hs => ?_, ?_, rfl⟩
      · rcases List.mem_append.mp hs with h | h
        · exact has s h
        · rw [List.mem_singleton.mp h]; exact ⟨hb5, hb6⟩
      · rw [put_put, List.map_append, List.map_append]; rfl
    · rintro r' m' ⟨acc, y7, y8, hal, has, rfl, rfl⟩
      refine w_freeze (i := 6) rfl put_same ?_
      rw [del_put hl]
      walk_at "go"
      exact q acc ⟨by omega, by omega, has⟩ (by omega)

abbrev s__law_no_shares : Stmt := topS 48
theorem sc__law_no_shares : FnScope ["_law_box_here", "_law_some"] ["_law_box_here"] (defScope s__law_no_shares) := ⟨rfl, rfl, rfl, by decide +kernel, rfl, by decide +kernel, by decide +kernel⟩
theorem ok__law_no_shares {a : Addr} {fd : FuncData} (F : Fun K "_law_no_shares" "_law_no_shares" s__law_no_shares a fd) (hm : mg "_law_no_shares" = some (.ref a)) (k__law_take : Cl P w K mg base 1 "_law_take" f_take) :
    Cl P w K mg base 2 "_law_no_shares" f_noShares := by
  refine ⟨a, fd, ["_law_box_here"], fn_ok F sc__law_no_shares (fun args m R h => ?_) (fun cdv A outer s H E hr => ⟨_, (pss_cons (ps_set (i := 1) sc__law_no_shares.nd rfl (by first | exact Or.inl rfl | exact Or.inr rfl) (pe_lst (pa_cons pe_non (pa_cons (pe_tup pa_nil) (pa_cons (pe_tup (pa_cons pe_int pa_nil)) (pa_cons (pe_tup (pa_cons pe_int pa_nil)) (pa_cons (pe_op (kMul K) (pe_tup (pa_cons pe_int pa_nil)) pe_int) (pa_cons (pe_lst (pa_cons pe_int (pa_cons pe_int pa_nil))) (pa_cons (pe_tup (pa_cons pe_int (pa_cons pe_bl pa_nil))) (pa_cons (pe_tup (pa_cons pe_int (pa_cons (pe_un oNeg pe_int) pa_nil))) (pa_cons (pe_tup (pa_cons pe_int (pa_cons pe_str pa_nil))) (pa_cons pe_str (pa_cons pe_int (pa_cons pe_dnewT pa_nil))))))))))))))
      (pss_one (ps_ret (pe_ix (kIx K) (pe_op (kAdd K) (pv 1) (pe_lst (pa_cons (pe_tup (pa_cons pe_int (pa_cons pe_non pa_nil))) (pa_cons (pe_tup (pa_cons (pe_tup (pa_cons pe_int pa_nil)) pa_nil)) (pa_cons (pe_tup (pa_cons pe_int (pa_cons (pe_tup (pa_cons pe_int pa_nil)) pa_nil))) (pa_cons (pe_tup (pa_cons (pe_op oPow pe_int pe_int) pa_nil)) pa_nil)))))) (pe_cl k__law_take hr (by decide) (by rfl) (pa_cons (pv 0) (pa_cons pe_int pa_nil))) (fun _ _ => rfl))))), fun args m R h => ?_⟩), hm, F.kp, F.binds (ps := ["_law_box_here"]) fun _ _ _ _ _ _ us hl => match us, hl with | [_], _ => rfl⟩
  ·
    obtain ⟨_, rfl, _⟩ := h; rfl
  ·
    obtain ⟨p, rfl, hp, q⟩ := h
    refine w_seq (w_asg (ev_lstD ?_))
    walk_at "go"
    refine o2_mulT (n := 6) (by simp) (by decide) (by decide) (by decide) ?_
    refine eva_cons (ev_lstD ?_)
    walk_at "go"
    refine ev_dnewD (eva_nil ⟨[_, _, _, _, _, _, _, _, _, _, _, _], rfl, by show 12 ≤ 100000; decide, ?_⟩)
    refine w_ret (ev_op (ev_op (ev_var rfl (fun h => nomatch h) (ev_lstD ?_))))
    walk_at "go"
    refine o2_pow ⟨by decide, by decide, by decide⟩ ?_
    walk_at "go"
    refine ⟨[_, _, _, _], rfl, by show 4 ≤ 100000; decide, o2_addL (by show 12 + 4 ≤ 100000; decide) ?_⟩
    walk_at "go"
    refine ⟨hp, by decide, bt_lit (n := 5) (by decide) (by decide), fun z h0 h1 => ?_⟩
    refine o2_ixLx h0 h1 fun d hd => q d ?_
    have hall : ∀ d ∈ ([PyData.none, .tuple [], .tuple [.int 0], .tuple [.int 10], .tuple (List.replicate 6 [PyData.int 1]).flatten, .list [.int 1, .int 2], .tuple [.int 1, .bool true], .tuple [.int 1, .int (-1)], .tuple [.int 1, .str "2"], .str "1 2", .int 5, .dict []] ++ [.tuple [.int 1, .none], .tuple [.tuple [.int 1]], .tuple [.int 2, .tuple [.int 1]], .tuple [.int (10 ^ Int.toNat 29)]]), isShares d = false := by decide +kernel
    exact hall d hd

abbrev s__law_only : Stmt := topS 50
theorem sc__law_only : FnScope ["_law_e", "_law_place", "_law_k"] ["_law_e", "_law_place"] (defScope s__law_only) := ⟨rfl, rfl, rfl, by decide +kernel, rfl, by decide +kernel, by decide +kernel⟩
theorem ok__law_only {a : Addr} {fd : FuncData} (F : Fun K "_law_only" "_law_only" s__law_only a fd) (hm : mg "_law_only" = some (.ref a)) (z_isinstance : mg "isinstance" = none) (z_ValueError : mg "ValueError" = none) (z_range : mg "range" = none) (k__law_classes : ClP P w K mg base 1 "_law_classes" (okE K [c_NoShares, c_NoKind, c_NoNumber, c_NoNeeds, c_TooMany, c_NoPlan, c_NoLine, c_NoText] c_GatherError) (f_lawClasses K [c_NoShares, c_NoKind, c_NoNumber, c_NoNeeds, c_TooMany, c_NoPlan, c_NoLine, c_NoText] c_GatherError)) (g_GatherError : mg "GatherError" = some (.ref c_GatherError)) :
    ClP P w K mg base 2 "_law_only" (okE K [c_NoShares, c_NoKind, c_NoNumber, c_NoNeeds, c_TooMany, c_NoPlan, c_NoLine, c_NoText] c_GatherError) (f_lawOnly K [c_NoShares, c_NoKind, c_NoNumber, c_NoNeeds, c_TooMany, c_NoPlan, c_NoLine, c_NoText] c_GatherError) := by
  refine ⟨a, fd, ["_law_e", "_law_place"], fnP_ok F sc__law_only (fun a D args m R h => ?_) (fun cdv A outer s H E p D hD hsee hr => ?_), hm, F.kp, F.binds (ps := ["_law_e", "_law_place"]) fun _ _ _ _ _ _ us hl => match us, hl with | [_, _], _ => rfl⟩
  ·
    obtain ⟨_, _, _, _, _, rfl, _⟩ := h; rfl
  · obtain ⟨i0, hX⟩ := hD
    refine ⟨_, (pss_cons (ps_if (PW.pt (pw_or (pt_not (pt_val (pe_callB (kIsP K hsee hX.exc) (by rfl) z_isinstance (by decide +kernel) (pa_cons (pv 0) (pa_cons (pe_glob (v := V.ref c_GatherError) (by rfl) g_GatherError rfl) pa_nil))))) (pw_or1 (pt_not (pt_val (pe_callB (kIsP K hsee hX.exc) (by rfl) z_isinstance (by decide +kernel) (pa_cons (pv 0) (pa_cons (pe_bltn (v := .ty "ValueError") (by rfl) z_ValueError (by decide +kernel) rfl) pa_nil)))))))) (pss_one (ps_ret pe_bl)) pss_nil)
      (pss_one (ps_ret (pe_cmpR (kEqH K hr) (pe_clP k__law_classes hr (by decide) hsee (by rfl) (pa_cons (pv 0) pa_nil)) (pe_lcH (own := [("_law_k", 2)]) (Sees.hot hsee) sc__law_only.nd (L2H.pi_range1H (by rfl) z_range (pa_cons pe_int pa_nil)) (blkOk_by (own := [("_law_k", 2)]) (N := ["_law_e", "_law_place", "_law_k"]) (sc := defScope s__law_only) (by decide +kernel)) (fun _ _ _ _ _ => (pg_name (i := 2) sc__law_only.nd rfl (by first | exact Or.inl rfl | exact Or.inr rfl))) (fun _ _ _ _ _ => pts_nil) (fun _ _ _ _ _ => (pe_cmpR (kEqH K hr) (pv 2) (pv 1) (nomark _)))) (nomark _))))), fun args m R h => ?_⟩
    obtain ⟨i, n, hX', hi, hn, rfl, q⟩ := h
    refine w_seq (w_if ?_)
    refine evt_or (evt_not (evt_B (ev_callB (eva_cons (ev_var rfl (fun h => nomatch h) (eva_cons (ev_cV (eva_nil (on_isE relV_ref hX'.gt ⟨_, rfl, ?_⟩)))))))))
    refine br_f rfl ?_
    refine evt_not (evt_B (ev_callB (eva_cons (ev_var rfl (fun h => nomatch h) (eva_cons (ev_cV (eva_nil (on_isE relV_ty hX'.val ⟨_, rfl, ?_⟩))))))))
    refine br_f rfl (w_next ?_)
    refine w_ret (ev_op (ev_callP ⟨i, hX'⟩ (eva_cons (ev_var rfl (fun h => nomatch h) (eva_nil ⟨i, hX', rfl, ?_⟩)))))
    refine ev_mapR1 (n := 8) ?_ (by decide) (fun k => .bool (decide ((k : Int) = (n : Int)))) (fun k m' hk hx => ?_) ?_
    · walk_at "go"
      exact ⟨rfl, rfl⟩
    · walk_at "go"
      exact ⟨rfl, rfl⟩
    refine o2_eq ?_ ?_ ?_
    · have h8 : ∀ i : _root_.Fin 8, SeqAt.shaped (.list ((List.range 8).map fun (j : Nat) => PyData.bool (decide (j = i.val)))) = true := by decide +kernel
      exact h8 ⟨i, hi⟩
    · have h8 : ∀ n : _root_.Fin 8, SeqAt.shaped (.list ((List.range 8).map fun (k : Nat) => PyData.bool (decide ((k : Int) = ((n.val : Nat) : Int))))) = true := by decide +kernel
      exact h8 ⟨n, hn⟩
    rw [eqv_only ⟨i, hi⟩ ⟨n, hn⟩]
    exact q

abbrev s_is_fraction : Stmt := topS 15
theorem sc_is_fraction : FnScope ["thing"] ["thing"] (defScope s_is_fraction) := ⟨rfl, rfl, rfl, by decide +kernel, rfl, by decide +kernel, by decide +kernel⟩
theorem ok_is_fraction {a : Addr} {fd : FuncData} (F : Fun K "is_fraction" "is_fraction" s_is_fraction a fd) (hm : mg "is_fraction" = some (.ref a)) (z_len : mg "len" = none) (z_isinstance : mg "isinstance" = none) (z_tuple : mg "tuple" = none) (k_is_whole : Cl P w K mg base 1 "is_whole" f_isWhole) (k_made : Cl P w K mg base 2 "made" f_made) :
    Cl P w K mg base 3 "is_fraction" f_isFrac := by
  refine ⟨a, fd, ["thing"], fn_ok F sc_is_fraction (fun args m R h => ?_) (fun cdv A outer s H E hr => ⟨_, (pss_cons (ps_if (PW.pt (pw_or (pt_not (pt_val (pe_callB (kIsi K) (by rfl) z_isinstance (by decide +kernel) (pa_cons (pv 0) (pa_cons (pe_bltn (v := .ty "tuple") (by rfl) z_tuple (by decide +kernel) rfl) pa_nil))))) (pw_or (pt_cmpR (kNe K hr) (pe_callB (kLen K) (by rfl) z_len (by decide +kernel) (pa_cons (pv 0) pa_nil)) pe_int (nomark _)) (pw_or (pt_not (pt_val (pe_cl k_is_whole hr (by decide) (by rfl) (pa_cons (pe_ix (kIx K) (pv 0) pe_int (fun _ _ => rfl)) pa_nil)))) (pw_or1 (pt_not (pt_val (pe_cl k_is_whole hr (by decide) (by rfl) (pa_cons (pe_ix (kIx K) (pv 0) pe_int (fun _ _ => rfl)) pa_nil))))))))) (pss_one (ps_ret pe_bl)) pss_nil)
      (pss_one (ps_ret (pe_and (pe_cmpR oGe (pe_ix (kIx K) (pv 0) pe_int (fun _ _ => rfl)) pe_int (nomark _)) (pe_one (pe_cmpR (kEq K hr) (pe_cl k_made hr (by decide) (by rfl) (pa_cons (pe_ix (kIx K) (pv 0) pe_int (fun _ _ => rfl)) (pa_cons (pe_ix (kIx K) (pv 0) pe_int (fun _ _ => rfl)) pa_nil))) (pv 0) (nomark _))))))), fun args m R h => ?_⟩), hm, F.kp, F.binds (ps := ["thing"]) fun _ _ _ _ _ _ us hl => match us, hl with | [_], _ => rfl⟩
  ·
    obtain ⟨_, rfl, _⟩ := h; rfl
  ·
    obtain ⟨x, rfl, hz, q⟩ := h
    walk_at "go"
    cases hx : isTup x with
    | false =>
      refine br_t rfl (br_t rfl ?_)
      walk_at "go"
      have e : isFrac x = false := by cases x <;> first | rfl | cases hx
      rw [e] at q
      exact q
    | true =>
      obtain ⟨ds, rfl⟩ := tup_shape hx
      refine br_f rfl ?_
      walk_at "go"
      by_cases h2 : (ds.length : Int) = 2
      · refine br_f (by rw [decide_eq_true h2]; rfl) ?_
        obtain ⟨d0, d1, rfl⟩ : ∃ d0 d1, ds = [d0, d1] := by
          match ds, h2 with
          | [a, b], _ => exact ⟨a, b, rfl⟩
          | [], h => exact absurd h (by decide)
          | [_], h => exact absurd h (by simp)
          | _ :: _ :: _ :: _, h => simp at h; omega
        walk_at "go"
        refine o2_ixT (d := d0) rfl ?_
        walk_at "go"
        cases h0 : isInt d0 with
        | false =>
          refine br_t rfl (br_t rfl ?_)
          walk_at "go"
          have e : isFrac (.tuple [d0, d1]) = false := by cases d0 <;> first | rfl | cases h0
          rw [e] at q
          exact q
        | true =>
          obtain ⟨t, rfl⟩ := int_shape h0
          refine br_f rfl ?_
          walk_at "go"
          refine o2_ixT (d := d1) rfl ?_
          walk_at "go"
          cases h1 : isInt d1 with
          | false =>
            refine br_t rfl ?_
            walk_at "go"
            have e : isFrac (.tuple [.int t, d1]) = false := by cases d1 <;> first | rfl | cases h1
            rw [e] at q
            exact q
          | true =>
            obtain ⟨b, rfl⟩ := int_shape h1
            have hz : Bt b 8000 := hz
            refine br_f rfl (w_next ?_)
            walk_at "go"
            refine o2_ixT (d := .int b) rfl ?_
            walk_at "go"
            by_cases hb : (1 : Int) ≤ b
            · refine br_t (decide_eq_true hb) ?_
              obtain ⟨n, rfl⟩ : ∃ n : Nat, b = (n : Int) := ⟨b.toNat, by omega⟩
              walk_at "go"
              refine o2_ixT (d := .int t) rfl ?_
              walk_at "go"
              refine o2_ixT (d := .int (n : Int)) rfl ?_
              walk_at "go"
              refine ⟨by omega, hz, ?_⟩
              walk_at "go"
              refine o2_eq (shaped_frac _) (by simp [SeqAt.shaped, PyData.canLay0, PyData.canLayAll0, PyData.depth, PyData.depthAll]) ?_
              rw [eqv_frac2 t n (by omega)]
              have e : isFrac (.tuple [.int t, .int (n : Int)]) = decide (Nat.gcd n t.natAbs = 1) := by
                show (decide (1 ≤ (n : Int)) && decide (Nat.gcd ((n : Int)).toNat t.natAbs = 1)) = _
                rw [decide_eq_true hb, Int.toNat_natCast, Bool.true_and]
              rw [e] at q
              exact q
            · refine br_f (decide_eq_false hb) ?_
              have e : isFrac (.tuple [.int t, .int b]) = false := by
                show (decide (1 ≤ b) && decide (Nat.gcd b.toNat t.natAbs = 1)) = false
                rw [decide_eq_false hb, Bool.false_and]
              rw [e] at q
              exact q
      · refine br_t (by rw [decide_eq_false h2]; rfl) (br_t rfl ?_)
        walk_at "go"
        have e : isFrac (.tuple ds) = false := by
          match ds, h2 with
          | [], _ => rfl
          | [_], _ => simp [isFrac]
          | [a, b], h => exact absurd rfl h
          | _ :: _ :: _ :: _, _ => simp [isFrac]
        rw [e] at q
        exact q

abbrev s_sum_of : Stmt := topS 17
theorem sc_sum_of : FnScope ["one", "other"] ["one", "other"] (defScope s_sum_of) := ⟨rfl, rfl, rfl, by decide +kernel, rfl, by decide +kernel, by decide +kernel⟩
theorem ok_sum_of {a : Addr} {fd : FuncData} (F : Fun K "sum_of" "sum_of" s_sum_of a fd) (hm : mg "sum_of" = some (.ref a)) (k_made : Cl P w K mg base 2 "made" f_made) :
    Cl P w K mg base 3 "sum_of" f_sumOf := by
  refine ⟨a, fd, ["one", "other"], fn_ok F sc_sum_of (fun args m R h => ?_) (fun cdv A outer s H E hr => ⟨_, (pss_one (ps_ret (pe_cl k_made hr (by decide) (by rfl) (pa_cons (pe_op (kAdd K) (pe_op (kMul K) (pe_ix (kIx K) (pv 0) pe_int (fun _ _ => rfl)) (pe_ix (kIx K) (pv 1) pe_int (fun _ _ => rfl))) (pe_op (kMul K) (pe_ix (kIx K) (pv 1) pe_int (fun _ _ => rfl)) (pe_ix (kIx K) (pv 0) pe_int (fun _ _ => rfl)))) (pa_cons (pe_op (kMul K) (pe_ix (kIx K) (pv 0) pe_int (fun _ _ => rfl)) (pe_ix (kIx K) (pv 1) pe_int (fun _ _ => rfl))) pa_nil))))), fun args m R h => ?_⟩), hm, F.kp, F.binds (ps := ["one", "other"]) fun _ _ _ _ _ _ us hl => match us, hl with | [_, _], _ => rfl⟩
  ·
    obtain ⟨_, _, rfl, _⟩ := h; rfl
  ·
    obtain ⟨p, r, rfl, hp, hr, q⟩ := h
    walk_at "go"
    refine o2_mulI (hp.1.cmul hr.2 (by decide)) ?_
    walk_at "go"
    refine o2_mulI (hr.1.cmul hp.2 (by decide)) ?_
    walk_at "go"
    refine o2_mulI (hp.2.cmul hr.2 (by decide)) ?_
    walk_at "go"
    refine ⟨Nat.mul_pos (den_pos p) (den_pos r), ?_, ?_⟩
    · rw [Int.natCast_mul]; exact (hp.2.mul hr.2).mono (by decide)
    · rw [← Rat.add_def']; exact q

abbrev s_times_of : Stmt := topS 18
theorem sc_times_of : FnScope ["one", "other"] ["one", "other"] (defScope s_times_of) := ⟨rfl, rfl, rfl, by decide +kernel, rfl, by decide +kernel, by decide +kernel⟩
theorem ok_times_of {a : Addr} {fd : FuncData} (F : Fun K "times_of" "times_of" s_times_of a fd) (hm : mg "times_of" = some (.ref a)) (k_made : Cl P w K mg base 2 "made" f_made) :
    Cl P w K mg base 3 "times_of" f_timesOf := by
  refine ⟨a, fd, ["one", "other"], fn_ok F sc_times_of (fun args m R h => ?_) (fun cdv A outer s H E hr => ⟨_, (pss_one (ps_ret (pe_cl k_made hr (by decide) (by rfl) (pa_cons (pe_op (kMul K) (pe_ix (kIx K) (pv 0) pe_int (fun _ _ => rfl)) (pe_ix (kIx K) (pv 1) pe_int (fun _ _ => rfl))) (pa_cons (pe_op (kMul K) (pe_ix (kIx K) (pv 0) pe_int (fun _ _ => rfl)) (pe_ix (kIx K) (pv 1) pe_int (fun _ _ => rfl))) pa_nil))))), fun args m R h => ?_⟩), hm, F.kp, F.binds (ps := ["one", "other"]) fun _ _ _ _ _ _ us hl => match us, hl with | [_, _], _ => rfl⟩
  ·
    obtain ⟨_, _, rfl, _⟩ := h; rfl
  ·
    obtain ⟨p, r, rfl, hp, hr, q⟩ := h
    walk_at "go"
    refine o2_mulI (hp.1.cmul hr.1 (by decide)) ?_
    walk_at "go"
    refine o2_mulI (hp.2.cmul hr.2 (by decide)) ?_
    walk_at "go"
    refine ⟨Nat.mul_pos (den_pos p) (den_pos r), ?_, ?_⟩
    · rw [Int.natCast_mul]; exact (hp.2.mul hr.2).mono (by decide)
    · rw [← Rat.mul_def']; exact q

abbrev s_need_shares : Stmt := topS 24
theorem sc_need_shares : FnScope ["shares"] ["shares"] (defScope s_need_shares) := ⟨rfl, rfl, rfl, by decide +kernel, rfl, by decide +kernel, by decide +kernel⟩
theorem ok_need_shares {a : Addr} {fd : FuncData} (F : Fun K "need_shares" "need_shares" s_need_shares a fd) (hm : mg "need_shares" = some (.ref a)) (k_is_shares : Cl P w K mg base 2 "is_shares" f_isShares) (t_NoShares : RfT K mg "NoShares" c_NoShares) :
    ClX P w K mg base 3 "need_shares" (fnE [c_NoShares, c_NoKind, c_NoNumber, c_NoNeeds, c_TooMany, c_NoPlan, c_NoLine, c_NoText] 1 eNeedShares anyD) := by
  refine ⟨a, fd, ["shares"], fnX_ok F sc_need_shares (fun args m R X h => ?_) (fun cdv A outer s H E hr => ⟨_, (pss_one (ps_if (pt_not (pt_val (pe_cl k_is_shares hr (by decide) (by rfl) (pa_cons (pv 0) pa_nil)))) (pss_one (ps_rf t_NoShares (L2N.takes_of rfl rfl rfl rfl) (by rfl))) pss_nil)), fun args m R X h G0 hT => ?_⟩), hm, F.kp, F.binds (ps := ["shares"]) fun _ _ _ _ _ _ us hl => match us, hl with | [_], _ => rfl⟩
  ·
    exact fnE_len h
  ·
    obtain ⟨ds, rfl, hl, _, h1, h2⟩ := h
    obtain ⟨x, rfl⟩ := List.length_eq_one_iff.mp hl
    refine wx_if ?_
    walk_at "go"
    cases hx : isShares x with
    | true => exact br_f rfl (wx_next (h1 _ (if_pos hx)))
    | false => exact br_t rfl (wx_raise (hT _) (h2 0 (if_neg (by rw [hx]; decide))))

abbrev s_are_plans : Stmt := topS 34
theorem sc_are_plans : FnScope ["thing", "shares", "some"] ["thing", "shares"] (defScope s_are_plans) := ⟨rfl, rfl, rfl, by decide +kernel, rfl, by decide +kernel, by decide +kernel⟩
theorem ok_are_plans {a : Addr} {fd : FuncData} (F : Fun K "are_plans" "are_plans" s_are_plans a fd) (hm : mg "are_plans" = some (.ref a)) (z_len : mg "len" = none) (z_isinstance : mg "isinstance" = none) (z_dict : mg "dict" = none) (z_str : mg "str" = none) (k_rising_some : Cl P w K mg base 2 "rising_some" f_rising) (k_are_kinds : Cl P w K mg base 2 "are_kinds" f_areKinds) :
    Cl P w K mg base 3 "are_plans" f_noPlans := by
  refine ⟨a, fd, ["thing", "shares"], fn_ok F sc_are_plans (fun args m R h => ?_) (fun cdv A outer s H E hr => ⟨_, (pss_cons (ps_if (PW.pt (pw_or (pt_not (pt_val (pe_callB (kIsi K) (by rfl) z_isinstance (by decide +kernel) (pa_cons (pv 0) (pa_cons (pe_bltn (v := .ty "dict") (by rfl) z_dict (by decide +kernel) rfl) pa_nil))))) (pw_or1 (pt_cmpR (kNe K hr) (pe_callB kLenT (by rfl) z_len (by decide +kernel) (pa_cons (pv 0) pa_nil)) (pe_callB (kLen K) (by rfl) z_len (by decide +kernel) (pa_cons (pe_cl k_rising_some hr (by decide) (by rfl) (pa_cons (pv 1) pa_nil)) pa_nil)) (nomark _))))) (pss_one (ps_ret pe_bl)) pss_nil)
      (pss_cons (ps_lock (ps_for PassesOwn.never rfl (pi_keys (pv 0)) (pg_name (i := 2) sc_are_plans.nd rfl (by first | exact Or.inl rfl | exact Or.inr rfl)) (pss_cons (ps_if (PW.pt (pw_or (pt_not (pt_val (pe_cl k_are_kinds hr (by decide) (by rfl) (pa_cons (pv 2) (pa_cons (pe_callB (kLen K) (by rfl) z_len (by decide +kernel) (pa_cons (pv 1) pa_nil)) pa_nil))))) (pw_or1 (pt_cmpR (kEq K hr) (pv 2) (pe_tup pa_nil) (nomark _))))) (pss_one (ps_ret pe_bl)) pss_nil)
      (pss_one (ps_if (PW.pt (pw_or (pt_not (pt_val (pe_callB (kIsi K) (by rfl) z_isinstance (by decide +kernel) (pa_cons (pe_dget (hu_of hr) (pv 0) (pv 2) (fun _ _ => rfl)) (pa_cons (pe_bltn (v := .ty "str") (by rfl) z_str (by decide +kernel) rfl) pa_nil))))) (pw_or1 (pt_cmpR (oNotInS K) (pe_dget (hu_of hr) (pv 0) (pv 2) (fun _ _ => rfl)) (pe_tup (pa_cons pe_str (pa_cons pe_str pa_nil))) rfl)))) (pss_one (ps_ret pe_bl)) pss_nil)))))
      (pss_one (ps_ret pe_bl)))), fun args m R h => ?_⟩), hm, F.kp, F.binds (ps := ["thing", "shares"]) fun _ _ _ _ _ _ us hl => match us, hl with | [_, _], _ => rfl⟩
  ·
    obtain ⟨_, _, rfl, _⟩ := h; rfl
  ·
    obtain ⟨y, ss, rfl, hs, hy, q⟩ := h
    have h5 := hs.few
    have h1 := hs.pos
    obtain ⟨o1, o2, o3, o4, o5, o6⟩ := rsX_facts ⟨ss.length, by omega⟩
    have o5 : (rsX ss.length).length + 1 = (allS ss.length).length := o5
    have o6 : ∀ s ∈ rsX ss.length, s ∈ allS ss.length ∧ s ≠ [] := o6
    rw [allS_len] at o5
    rcases hy with ⟨x, rfl, hx⟩ | ⟨p, kvs, rfl, hm, hk⟩
    · walk_at "go"
      rw [hx]
      refine br_t rfl (br_t rfl ?_)
      walk_at "go"
      exact q
    walk_at "go"
    refine on_isiDT hm ?_
    walk_at "go"
    refine br_f rfl ?_
    walk_at "go"
    refine on_lenDT hm ?_
    walk_at "go"
    refine ⟨hs, ?_⟩
    walk_at "go"
    refine on_lenLt ?_
    walk_at "go"
    have hlen : (dI kvs).length = kvs.length := by unfold dI; rw [List.length_map]
    rw [hlen, List.length_map]
    by_cases hne : kvs.length = (rsX ss.length).length
    · have hn1 : ss.length = 1 ∧ kvs.length = 1 := by
        have hk1 : kvs.length ≤ 1 := by rcases hk with rfl | rfl | rfl | rfl <;> decide
        have : ss.length = 1 ∨ 2 ≤ ss.length := by omega
        rcases this with e | e
        · rw [e] at o5
          exact ⟨e, by rw [hne, e]; omega⟩
        · have : 2 ^ 2 ≤ 2 ^ ss.length := Nat.pow_le_pow_right (by decide) e
          omega
      obtain ⟨hn1, hk1⟩ := hn1
      refine br_f (by rw [hne]; simp) (w_next ?_)
      refine w_seq (w_forD (p := p) (kvs := kvs) hm (fun od es => ev_var rfl (fun h => nomatch h) ⟨rfl, rfl⟩) (fun i r' m' => i = 0 ∧ m' = m ∧ ∃ y, r' = [.v (.ref p), .d (tupI ss), y]) ⟨rfl, rfl, _, rfl⟩ ?_ ?_)
      · rintro i k z r' m' od es hkz ⟨rfl, rfl, y, rfl⟩ hm2
        have hst : ∀ od es, put (put m' p (.lk od es (kvs.map fun kv => (kI kv.1, kv.2)))) p (.dT (kvs.map fun kv => (kI kv.1, kv.2))) = m' := fun od es => by
          rw [put_put]
          exact put_self hm
        rcases hk with rfl | rfl | rfl | rfl
        · cases hk1
        · have hkz : ([], Val.d (.str "draw")) = (k, z) := Option.some.inj hkz
          cases hkz
          walk_at "go"
          refine ⟨by show shortD (tupI []); simp [shortD, tupI], ?_⟩
          rw [show areKinds (tupI []) ss.length = true by rfl]
          walk_at "go"
          refine br_f rfl ?_
          walk_at "go"
          refine o2_eq (shaped_tupI []) (shaped_tupI []) ?_
          rw [show PyData.eqv (tupI []) (.tuple []) = true from (eqv_nilT []).trans rfl]
          walk_at "go"
          refine br_t rfl ?_
          walk_at "go"
          exact ⟨put_same, by rw [hst od es]; exact q⟩
        · have hkz : ([0], Val.d (.str "Buy")) = (k, z) := Option.some.inj hkz
          cases hkz
          walk_at "go"
          refine ⟨by show shortD (tupI [0]); simp [shortD, tupI], ?_⟩
          rw [show areKinds (tupI [0]) ss.length = true by rw [hn1]; rfl]
          walk_at "go"
          refine br_f rfl ?_
          walk_at "go"
          refine o2_eq (shaped_tupI [0]) (shaped_tupI []) ?_
          rw [show PyData.eqv (tupI [0]) (.tuple []) = false from (eqv_nilT [0]).trans rfl]
          walk_at "go"
          refine br_f rfl (w_next ?_)
          refine w_if (evt_or (evt_not (evt_B (ev_callB (eva_cons (ev_dgetV (ns := [0]) rfl (ev_var rfl (fun h => nomatch h) ⟨p, _, _, rfl, Or.inr ⟨od, es, put_same⟩, rfl, ?_⟩)))))))
          walk_at "go"
          refine br_f rfl ?_
          refine evt_test (ev_op (ev_dgetV (ns := [0]) rfl (ev_var rfl (fun h => nomatch h) ⟨p, _, _, rfl, Or.inr ⟨od, es, put_same⟩, rfl, ?_⟩)))
          walk_at "go"
          refine o2_inStrs (xs := ["draw", "buy"]) (neg := true) ?_
          walk_at "go"
          refine br_t (by decide +kernel) ?_
          walk_at "go"
          exact ⟨put_same, by rw [hst od es]; exact q⟩
        · have hkz : ([0], Val.d .none) = (k, z) := Option.some.inj hkz
          cases hkz
          walk_at "go"
          refine ⟨by show shortD (tupI [0]); simp [shortD, tupI], ?_⟩
          rw [show areKinds (tupI [0]) ss.length = true by rw [hn1]; rfl]
          walk_at "go"
          refine br_f rfl ?_
          walk_at "go"
          refine o2_eq (shaped_tupI [0]) (shaped_tupI []) ?_
          rw [show PyData.eqv (tupI [0]) (.tuple []) = false from (eqv_nilT [0]).trans rfl]
          walk_at "go"
          refine br_f rfl (w_next ?_)
          refine w_if (evt_or (evt_not (evt_B (ev_callB (eva_cons (ev_dgetV (ns := [0]) rfl (ev_var rfl (fun h => nomatch h) ⟨p, _, _, rfl, Or.inr ⟨od, es, put_same⟩, rfl, ?_⟩)))))))
          walk_at "go"
          refine br_t rfl (br_t rfl ?_)
          walk_at "go"
          exact ⟨put_same, by rw [hst od es]; exact q⟩
      · rintro r' m' ⟨h0, _⟩
        omega
    · refine br_t (by simp only [Bool.not_eq_true', decide_eq_false_iff_not]; omega) ?_
      walk_at "go"
      exact q

abbrev s_due_number : Stmt := topS 29
theorem sc_due_number : FnScope ["shares", "paper", "some", "found", "kind", "others", "one"] ["shares", "paper", "some"] (defScope s_due_number) := ⟨rfl, rfl, rfl, by decide +kernel, rfl, by decide +kernel, by decide +kernel⟩
theorem ok_due_number {a : Addr} {fd : FuncData} (F : Fun K "due_number" "due_number" s_due_number a fd) (hm : mg "due_number" = some (.ref a)) (z_sum : mg "sum" = none) (z_tuple : mg "tuple" = none) (k_sum_of : Cl P w K mg base 3 "sum_of" f_sumOf) (k_times_of : Cl P w K mg base 3 "times_of" f_timesOf) (k_sum_part : Cl P w K mg base 1 "sum_part" f_sumPart) :
    Cl P w K mg base 4 "due_number" f_dueG := by
  refine ⟨a, fd, ["shares", "paper", "some"], fn_ok F sc_due_number (fun args m R h => ?_) (fun cdv A outer s H E hr => ⟨_, (pss_cons (ps_set (i := 3) sc_due_number.nd rfl (by first | exact Or.inl rfl | exact Or.inr rfl) (pe_tup (pa_cons (pe_callB (kSum K) (by rfl) z_sum (by decide +kernel) (pa_cons (pv 0) pa_nil)) (pa_cons pe_int pa_nil))))
      (pss_cons (ps_for PassesOwn.never rfl (kiT K (pv 2)) (pg_name (i := 4) sc_due_number.nd rfl (by first | exact Or.inl rfl | exact Or.inr rfl)) (pss_cons (ps_set (i := 5) sc_due_number.nd rfl (by first | exact Or.inl rfl | exact Or.inr rfl) (pe_callTy (kTup K) (by rfl) z_tuple (by decide +kernel) (pa_cons (pe_lc (own := [("one", 6)]) rfl sc_due_number.nd (kiT K (pv 2)) (blkOk_by (own := [("one", 6)]) (N := ["shares", "paper", "some", "found", "kind", "others", "one"]) (sc := defScope s_due_number) (by decide +kernel)) (fun _ _ _ _ _ => (pg_name (i := 6) sc_due_number.nd rfl (by first | exact Or.inl rfl | exact Or.inr rfl))) (fun _ _ _ _ _ => (pts_one (pt_cmpR (kNe K hr) (pv 6) (pv 4) (nomark _)))) (fun _ _ _ _ _ => (pv 6))) pa_nil)))
      (pss_one (ps_set (i := 3) sc_due_number.nd rfl (by first | exact Or.inl rfl | exact Or.inr rfl) (pe_cl k_sum_of hr (by decide) (by rfl) (pa_cons (pv 3) (pa_cons (pe_cl k_times_of hr (by decide) (by rfl) (pa_cons (pe_tup (pa_cons (pe_ix (kIx K) (pv 0) (pv 4) (fun _ _ => rfl)) (pa_cons pe_int pa_nil))) (pa_cons (pe_dget (hu_of hr) (pv 1) (pv 5) (fun _ _ => rfl)) pa_nil))) pa_nil)))))))
      (pss_one (ps_ret (pe_cl k_times_of hr (by decide) (by rfl) (pa_cons (pv 3) (pa_cons (pe_tup (pa_cons pe_int (pa_cons (pe_cl k_sum_part hr (by decide) (by rfl) (pa_cons (pv 0) (pa_cons (pv 2) pa_nil))) pa_nil))) pa_nil))))))), fun args m R h => ?_⟩), hm, F.kp, F.binds (ps := ["shares", "paper", "some"]) fun _ _ _ _ _ _ us hl => match us, hl with | [_, _, _], _ => rfl⟩
  ·
    obtain ⟨_, _, _, _, _, rfl, _⟩ := h; rfl
  ·
    obtain ⟨ss, s, p, kvs, P, rfl, hs, hk, h0, hd, hB, hg, q⟩ := h
    have hsl := hk.len
    have hfew := hs.few
    have hsum := shares_sum hs
    walk_at "go"
    refine w_forTf (xs := s) (f := intN) ?_ (fun i r' m' => m' = m ∧ ∃ y4 y5, r' = [.d (tupI ss), .v (.ref p), .d (tupN s), .d (frac (dueAcc ss (P) s (s.take i))), y4, y5, .any]) ⟨rfl, _, _, rfl⟩ ?_ ?_
    · walk_at "go"
      exact ⟨by rw [tupN_eq], rfl⟩
    · rintro i k r' m' hi ⟨rfl, y4, y5, rfl⟩
      have hks := List.mem_of_getElem? hi
      have hkl := hk.lt k hks
      have hf := hB.fr hs (kinds_without hk k)
      have ha := hB.accFr hs hk i
      have hb9 := getD_bounds hs k
      have hw : FrB (((ss.getD k 0 : Int)) : Rat) 8 := ⟨bt_lit (n := 8) (by show (ss.getD k 0).natAbs < 256; omega) (by decide), bt_lit (n := 1) (by show 1 < 2; decide) (by decide)⟩
      walk_at "go"
      refine ev_filTf (xs := s) (f := intN) ?_ (by omega) (fun x => !decide (x = k)) intN (fun x m2 hx hxx => ?_) (fun x m2 hx hxx hq => ?_) ?_
      · walk_at "go"
        exact ⟨by rw [tupN_eq], rfl⟩
      · walk_at "go"
        refine ⟨?_, rfl⟩
        rw [show decide ((x : Int) = (k : Int)) = decide (x = k) from decide_eq_decide.mpr (by omega)]
      · walk_at "go"
        exact ⟨rfl, rfl⟩
      walk_at "dl1"
      refine on_tupLtN ?_
      walk_at "go"
      refine o2_ixT (tupI_at hkl) ?_
      walk_at "go"
      refine ev_dgetV (ns := kn (s.filter fun x => !decide (x = k))) rfl ?_
      refine ev_var rfl (fun h => nomatch h) ⟨p, kvs, _, rfl, hd, hg k hks, ?_⟩
      walk_at "go"
      refine ⟨((ss.getD k 0 : Int) : Rat), _, rfl, hw.mono (by decide), hf.mono (by decide), ?_⟩
      walk_at "go"
      refine ⟨ha.mono (by decide), (hw.mul hf (c := 1400) (by decide)).mono (by decide), ?_⟩
      refine ⟨rfl, .d (.int (k : Int)), .t (kn (s.filter fun x => !decide (x = k))), ?_⟩
      have e : dueAcc ss (P) s (s.take (i + 1)) = dueAcc ss (P) s (s.take i) + ((ss.getD k 0 : Int) : Rat) * P (s.filter fun x => !decide (x = k)) := by
        unfold dueAcc
        rw [take_one hi, List.foldl_append]; rfl
      rw [e]
      rfl
    · rintro r' m' ⟨rfl, y4, y5, rfl⟩
      have ha := hB.accFr hs hk s.length
      have hp := sumP_pos hs h0 hk.lt
      have hle := sumP_le hs hk
      rw [List.take_length] at ha ⊢
      walk_at "go"
      refine ⟨by omega, hk.lt, ?_⟩
      walk_at "go"
      have ho : FrB (mkRat 1 (sumP ss s).toNat) 8 := frB_mk (bt_lit (n := 1) (by decide) (by decide)) (bt_lit (n := 8) (by show _ < 256; omega) (by decide)) (by omega)
      refine ⟨_, mkRat 1 (sumP ss s).toNat, ?_, ha.mono (by decide), ho.mono (by decide), ?_⟩
      · rw [frac_unit (by omega), show (((sumP ss s).toNat : Nat) : Int) = sumP ss s by omega]
      exact q

abbrev s_is_paper : Stmt := topS 30
theorem sc_is_paper : FnScope ["thing", "shares", "every", "some"] ["thing", "shares"] (defScope s_is_paper) := ⟨rfl, rfl, rfl, by decide +kernel, rfl, by decide +kernel, by decide +kernel⟩
theorem ok_is_paper {a : Addr} {fd : FuncData} (F : Fun K "is_paper" "is_paper" s_is_paper a fd) (hm : mg "is_paper" = some (.ref a)) (z_range : mg "range" = none) (z_len : mg "len" = none) (z_list : mg "list" = none) (z_isinstance : mg "isinstance" = none) (z_dict : mg "dict" = none) (c_NOUGHT : ∃ a, mg "NOUGHT" = some (.ref a) ∧ ∀ G, Rp K G (.tuple [.int 0, .int 1]) (.ref a)) (k_all_some : Cl P w K mg base 1 "all_some" f_allSome) (k_are_kinds : Cl P w K mg base 2 "are_kinds" f_areKinds) (k_is_fraction : Cl P w K mg base 3 "is_fraction" f_isFrac) :
    Cl P w K mg base 4 "is_paper" f_noPlans := by
  obtain ⟨a_NOUGHT, h_NOUGHT, d_NOUGHT⟩ := c_NOUGHT
  refine ⟨a, fd, ["thing", "shares"], fn_ok F sc_is_paper (fun args m R h => ?_) (fun cdv A outer s H E hr => ⟨_, (pss_cons (ps_set (i := 2) sc_is_paper.nd rfl (by first | exact Or.inl rfl | exact Or.inr rfl) (pe_cl k_all_some hr (by decide) (by rfl) (pa_cons (pe_listRg rfl (by rfl) z_list (prg_1 (by rfl) z_range (pe_callB (kLen K) (by rfl) z_len (by decide +kernel) (pa_cons (pv 1) pa_nil)))) pa_nil)))
      (pss_cons (ps_if (PW.pt (pw_or (pt_not (pt_val (pe_callB (kIsi K) (by rfl) z_isinstance (by decide +kernel) (pa_cons (pv 0) (pa_cons (pe_bltn (v := .ty "dict") (by rfl) z_dict (by decide +kernel) rfl) pa_nil))))) (pw_or1 (pt_cmpR (kNe K hr) (pe_callB kLenT (by rfl) z_len (by decide +kernel) (pa_cons (pv 0) pa_nil)) (pe_callB (kLen K) (by rfl) z_len (by decide +kernel) (pa_cons (pv 2) pa_nil)) (nomark _))))) (pss_one (ps_ret pe_bl)) pss_nil)
      (pss_cons (ps_lock (ps_for PassesOwn.never rfl (pi_keys (pv 0)) (pg_name (i := 3) sc_is_paper.nd rfl (by first | exact Or.inl rfl | exact Or.inr rfl)) (pss_cons (ps_if (pt_not (pt_val (pe_cl k_are_kinds hr (by decide) (by rfl) (pa_cons (pv 3) (pa_cons (pe_callB (kLen K) (by rfl) z_len (by decide +kernel) (pa_cons (pv 1) pa_nil)) pa_nil))))) (pss_one (ps_ret pe_bl)) pss_nil)
      (pss_one (ps_if (PW.pt (pw_or (pt_not (pt_val (pe_cl k_is_fraction hr (by decide) (by rfl) (pa_cons (pe_dget (hu_of hr) (pv 0) (pv 3) (fun _ _ => rfl)) pa_nil)))) (pw_or1 (pt_cmpR oLt (pe_ix (kIx K) (pe_dget (hu_of hr) (pv 0) (pv 3) (fun _ _ => rfl)) pe_int (fun _ _ => rfl)) pe_int (nomark _))))) (pss_one (ps_ret pe_bl)) pss_nil)))))
      (pss_one (ps_ret (pe_cmpR (kEq K hr) (pe_dget (hu_of hr) (pv 0) (pe_tup pa_nil) (fun _ _ => rfl)) (pe_glob (v := V.ref a_NOUGHT) (by rfl) h_NOUGHT rfl) (nomark _))))))), fun args m R h => ?_⟩), hm, F.kp, F.binds (ps := ["thing", "shares"]) fun _ _ _ _ _ _ us hl => match us, hl with | [_, _], _ => rfl⟩
  ·
    obtain ⟨_, _, rfl, _⟩ := h; rfl
  ·
    obtain ⟨y, ss, rfl, hs, hy, q⟩ := h
    have h5 := hs.few
    have h1 := hs.pos
    obtain ⟨o1, o2, o3, o4, o5, o6⟩ := rsX_facts ⟨ss.length, by omega⟩
    have o5 : (rsX ss.length).length + 1 = (allS ss.length).length := o5
    have o6 : ∀ s ∈ rsX ss.length, s ∈ allS ss.length ∧ s ≠ [] := o6
    rw [allS_len] at o5
    walk_at "go"
    refine ev_lstR1 (n := ss.length) (by omega) ?_
    walk_at "go"
    refine ⟨rfl, ?_⟩
    rw [rngD_intN]
    walk_at "go"
    refine ⟨by rw [List.length_range]; omega, ?_⟩
    rw [allSL_range]
    rcases hy with ⟨x, rfl, hx⟩ | ⟨p, kvs, rfl, hm, hk⟩
    · walk_at "go"
      rw [hx]
      refine br_t rfl (br_t rfl ?_)
      walk_at "go"
      exact q
    walk_at "go"
    refine on_isiDT hm ?_
    walk_at "go"
    refine br_f rfl ?_
    walk_at "go"
    refine on_lenDT hm ?_
    walk_at "go"
    refine on_lenLt ?_
    walk_at "go"
    have hlen : (dI kvs).length = kvs.length := by unfold dI; rw [List.length_map]
    have hk1 : kvs.length ≤ 1 := by rcases hk with rfl | rfl | rfl | rfl <;> decide
    have h2 : 2 ^ 1 ≤ 2 ^ ss.length := Nat.pow_le_pow_right (by decide) h1
    rw [hlen, List.length_map, allS_len]
    refine br_t (by simp only [Bool.not_eq_true', decide_eq_false_iff_not]; omega) ?_
    walk_at "go"
    exact q

abbrev s_is_plan : Stmt := topS 35
theorem sc_is_plan : FnScope ["thing", "shares"] ["thing", "shares"] (defScope s_is_plan) := ⟨rfl, rfl, rfl, by decide +kernel, rfl, by decide +kernel, by decide +kernel⟩
theorem fok_is_plan {a : Addr} {fd : FuncData} (F : Fun K "is_plan" "is_plan" s_is_plan a fd) (hm : mg "is_plan" = some (.ref a)) (k_need_shares : Cl P w K mg base 3 "need_shares" f_needShares) (k_are_plans : Cl P w K mg base 3 "are_plans" f_noPlans) :
    FnOk P w K mg base CX0 4 a fd ["thing", "shares"] (spD K f_noPlans) := by
  refine fn_ok F sc_is_plan (fun args m R h => ?_) (fun cdv A outer s H E hr => ⟨_, (pss_cons (ps_expr (pe_cl k_need_shares hr (by decide) (by rfl) (pa_cons (pv 1) pa_nil)))
      (pss_one (ps_ret (pe_cl k_are_plans hr (by decide) (by rfl) (pa_cons (pv 0) (pa_cons (pv 1) pa_nil)))))), fun args m R h => ?_⟩)
  ·
    obtain ⟨_, _, rfl, _⟩ := h; rfl
  ·
    obtain ⟨y, ss, rfl, hs, hy, q⟩ := h
    walk_at "go"
    refine ⟨isShares_of hs, ?_⟩
    refine w_ret (ev_call (eva_cons ?_))
    refine ev_var rfl hy.ne ?_
    walk_at "go"
    exact ⟨hs, hy, q⟩
theorem ok_is_plan {a : Addr} {fd : FuncData} (F : Fun K "is_plan" "is_plan" s_is_plan a fd) (hm : mg "is_plan" = some (.ref a)) (o : FnOk P w K mg base CX0 4 a fd ["thing", "shares"] (spD K f_noPlans)) : Cl P w K mg base 4 "is_plan" f_noPlans := ⟨a, fd, ["thing", "shares"], o, hm, F.kp, F.binds (ps := ["thing", "shares"]) fun _ _ _ _ _ _ us hl => match us, hl with | [_, _], _ => rfl⟩
theorem okx_is_plan {a : Addr} {fd : FuncData} (F : Fun K "is_plan" "is_plan" s_is_plan a fd) (hm : mg "is_plan" = some (.ref a)) (k_are_plans : Cl P w K mg base 3 "are_plans" f_noPlans) (q_need_shares : ClX P w K mg base 3 "need_shares" (fnE [c_NoShares, c_NoKind, c_NoNumber, c_NoNeeds, c_TooMany, c_NoPlan, c_NoLine, c_NoText] 1 eNeedShares anyD)) (o : FnOk P w K mg base CX0 4 a fd ["thing", "shares"] (spD K f_noPlans)) :
    ClX P w K mg base 4 "is_plan" (orX f_noPlans (fnY1 [c_NoShares, c_NoKind, c_NoNumber, c_NoNeeds, c_TooMany, c_NoPlan, c_NoLine, c_NoText])) := by
  refine ⟨a, fd, ["thing", "shares"], fnOk_or o (fnX_ok F sc_is_plan (fun args m R X h => ?_) (fun cdv A outer s H E hr => ⟨_, (pss_cons (ps_expr (pe_clX q_need_shares hr (by decide) (by rfl) (L2N.takes_of rfl rfl rfl rfl) (pa_cons (pv 1) pa_nil)))
      (PSs.nox (pss_one (ps_ret (pe_cl k_are_plans hr (by decide) (by rfl) (pa_cons (pv 0) (pa_cons (pv 1) pa_nil))))))), fun args m R X h G0 hT => ?_⟩)), hm, F.kp, F.binds (ps := ["thing", "shares"]) fun _ _ _ _ _ _ us hl => match us, hl with | [_, _], _ => rfl⟩
  ·
    obtain ⟨_, _, rfl, _⟩ := h; rfl
  ·
    obtain ⟨y, sh, rfl, _, hsh, hX⟩ := h
    refine wx_seq (wx_drop (evx_call (hT _) ?_))
    walk_at "go"
    refine ⟨[sh], rfl, rfl, trivial, fun d hd => ?_, fun j hj => ?_⟩
    · rw [nShares_ok hd] at hsh; cases hsh
    · obtain ⟨_, rfl⟩ := nShares_no hj
      exact hX

abbrev s_need_price : Stmt := topS 36
theorem sc_need_price : FnScope ["shares", "price"] ["shares", "price"] (defScope s_need_price) := ⟨rfl, rfl, rfl, by decide +kernel, rfl, by decide +kernel, by decide +kernel⟩
theorem ok_need_price {a : Addr} {fd : FuncData} (F : Fun K "need_price" "need_price" s_need_price a fd) (hm : mg "need_price" = some (.ref a)) (c_MOST_PRICE : ∃ t, mg "MOST_PRICE" = some (.int 99 t)) (q_need_shares : ClX P w K mg base 3 "need_shares" (fnE [c_NoShares, c_NoKind, c_NoNumber, c_NoNeeds, c_TooMany, c_NoPlan, c_NoLine, c_NoText] 1 eNeedShares anyD)) (q_need_number : ClX P w K mg base 2 "need_number" (fnE [c_NoShares, c_NoKind, c_NoNumber, c_NoNeeds, c_TooMany, c_NoPlan, c_NoLine, c_NoText] 3 eNeedNumber preNumber)) :
    ClX P w K mg base 4 "need_price" (fnE [c_NoShares, c_NoKind, c_NoNumber, c_NoNeeds, c_TooMany, c_NoPlan, c_NoLine, c_NoText] 2 eNeedPrice anyD) := by
  refine ⟨a, fd, ["shares", "price"], fnX_ok F sc_need_price (fun args m R X h => ?_) (fun cdv A outer s H E hr => ⟨_, (pss_cons (ps_expr (pe_clX q_need_shares hr (by decide) (by rfl) (L2N.takes_of rfl rfl rfl rfl) (pa_cons (pv 0) pa_nil)))
      (pss_one (ps_expr (pe_clX q_need_number hr (by decide) (by rfl) (L2N.takes_of rfl rfl rfl rfl) (pa_cons (pv 1) (pa_cons pe_int (pa_cons (pe_gi c_MOST_PRICE (by rfl)) pa_nil))))))), fun args m R X h G0 hT => ?_⟩), hm, F.kp, F.binds (ps := ["shares", "price"]) fun _ _ _ _ _ _ us hl => match us, hl with | [_, _], _ => rfl⟩
  ·
    exact fnE_len h
  ·
    obtain ⟨ds, rfl, hl, _, h1, h2⟩ := h
    match ds, hl with
    | [sh, x], _ =>
      refine wx_seq (wx_drop (evx_call (hT _) ?_))
      walk_at "go"
      refine ⟨[sh], rfl, rfl, trivial, fun d hd => ?_, fun j hj => ?_⟩
      rotate_left
      · obtain ⟨hx, rfl⟩ := nShares_no hj
        exact h2 0 (by rw [eNP, hx]; rfl)
      have hsh := nShares_ok hd
      refine wx_drop (evx_call (hT _) ?_)
      walk_at "go"
      refine ⟨[x, .int 0, .int 99], rfl, rfl, trivial, fun d hd => ?_, fun j hj => ?_⟩
      · exact h1 _ (by rw [eNP, if_pos hsh, if_pos (nNumber_ok hd)])
      · obtain ⟨hx, rfl⟩ := nNumber_no hj
        exact h2 2 (by rw [eNP, if_pos hsh, if_neg (by rw [hx]; decide)])

abbrev s_plan_cost : Stmt := topS 37
theorem sc_plan_cost : FnScope ["shares", "price", "plan", "found", "some"] ["shares", "price", "plan"] (defScope s_plan_cost) := ⟨rfl, rfl, rfl, by decide +kernel, rfl, by decide +kernel, by decide +kernel⟩
theorem ok_plan_cost {a : Addr} {fd : FuncData} (F : Fun K "plan_cost" "plan_cost" s_plan_cost a fd) (hm : mg "plan_cost" = some (.ref a)) (z_len : mg "len" = none) (z_range : mg "range" = none) (z_tuple : mg "tuple" = none) (c_NOUGHT : ∃ a, mg "NOUGHT" = some (.ref a) ∧ ∀ G, Rp K G (.tuple [.int 0, .int 1]) (.ref a)) (k_are_plans : Cl P w K mg base 3 "are_plans" f_noPlans) (k_rising_some : Cl P w K mg base 2 "rising_some" f_rising) (k_due_number : Cl P w K mg base 4 "due_number" f_dueG) (q_need_price : ClX P w K mg base 4 "need_price" (fnE [c_NoShares, c_NoKind, c_NoNumber, c_NoNeeds, c_TooMany, c_NoPlan, c_NoLine, c_NoText] 2 eNeedPrice anyD)) (t_NoPlan : RfT K mg "NoPlan" c_NoPlan) :
    ClX P w K mg base 5 "plan_cost" (fnCost [c_NoShares, c_NoKind, c_NoNumber, c_NoNeeds, c_TooMany, c_NoPlan, c_NoLine, c_NoText]) := by
  obtain ⟨a_NOUGHT, h_NOUGHT, d_NOUGHT⟩ := c_NOUGHT
  refine ⟨a, fd, ["shares", "price", "plan"], fnX_ok F sc_plan_cost (fun args m R X h => ?_) (fun cdv A outer s H E hr => ⟨_, (pss_cons (ps_expr (pe_clX q_need_price hr (by decide) (by rfl) (L2N.takes_of rfl rfl rfl rfl) (pa_cons (pv 0) (pa_cons (pv 1) pa_nil))))
      (pss_cons (ps_if (pt_not (pt_val (pe_cl k_are_plans hr (by decide) (by rfl) (pa_cons (pv 2) (pa_cons (pv 0) pa_nil))))) (pss_one (ps_rf t_NoPlan (L2N.takes_of rfl rfl rfl rfl) (by rfl))) pss_nil)
      (PSs.nox (pss_cons (ps_set (i := 3) sc_plan_cost.nd rfl (by first | exact Or.inl rfl | exact Or.inr rfl) (pe_disp1 hr (pe_tup pa_nil) (pe_glob (v := V.ref a_NOUGHT) (by rfl) h_NOUGHT rfl)))
      (pss_cons (ps_for PassesOwn.never rfl (kiL K (pe_cl k_rising_some hr (by decide) (by rfl) (pa_cons (pv 0) pa_nil))) (pg_name (i := 4) sc_plan_cost.nd rfl (by first | exact Or.inl rfl | exact Or.inr rfl)) (pss_one (ps_if (pt_cmpR (kEq K hr) (pe_dget (hu_of hr) (pv 2) (pv 4) (fun _ _ => rfl)) pe_str (nomark _)) (pss_one (ps_dput (hu_of hr) (pv 3) (pv 4) (pe_tup (pa_cons (pe_op (kMul K) (pv 1) (pe_callB (kLen K) (by rfl) z_len (by decide +kernel) (pa_cons (pv 4) pa_nil))) (pa_cons pe_int pa_nil))) rfl)) (pss_one (ps_dput (hu_of hr) (pv 3) (pv 4) (pe_cl k_due_number hr (by decide) (by rfl) (pa_cons (pv 0) (pa_cons (pv 3) (pa_cons (pv 4) pa_nil)))) rfl)))))
      (pss_one (ps_ret (pe_dget (hu_of hr) (pv 3) (pe_tupRg rfl (by rfl) z_tuple (prg_1 (by rfl) z_range (pe_callB (kLen K) (by rfl) z_len (by decide +kernel) (pa_cons (pv 0) pa_nil)))) (fun _ _ => rfl))))))))), fun args m R X h G0 hT => ?_⟩), hm, F.kp, F.binds (ps := ["shares", "price", "plan"]) fun _ _ _ _ _ _ us hl => match us, hl with | [_, _, _], _ => rfl⟩
  ·
    obtain ⟨_, _, _, _, rfl, _⟩ := h; rfl
  ·
    obtain ⟨y, sh, x, i, rfl, hyn, hF, hX⟩ := h
    rcases hF with hF | ⟨ss, rfl, hs, hx, hy, rfl⟩
    · refine wx_seq (wx_drop (evx_call (hT _) ?_))
      walk_at "go"
      refine ⟨[sh, x], rfl, rfl, trivial, fun d hd => ?_, fun j hj => ?_⟩
      · exact (price_ok hd hF).elim
      · obtain rfl := price_no hj hF
        exact hX
    · refine wx_seq (wx_drop (evx_call (hT _) ?_))
      walk_at "go"
      refine ⟨[tupI ss, x], rfl, rfl, trivial, fun d hd => ?_, fun j hj => (price_yes hs hx hj).elim⟩
      refine wx_seq (wx_if (evt_not (evt_B (ev_call (eva_cons ?_)))))
      refine ev_var rfl hy.ne ?_
      walk_at "go"
      refine ⟨hs, hy, ?_⟩
      refine ⟨_, rfl, br_t rfl ?_⟩
      exact wx_raise (hT _) hX

abbrev s_costs_of : Stmt := topS 39
theorem sc_costs_of : FnScope ["shares", "price", "found", "some"] ["shares", "price"] (defScope s_costs_of) := ⟨rfl, rfl, rfl, by decide +kernel, rfl, by decide +kernel, by decide +kernel⟩
theorem ok_costs_of {a : Addr} {fd : FuncData} (F : Fun K "costs_of" "costs_of" s_costs_of a fd) (hm : mg "costs_of" = some (.ref a)) (z_len : mg "len" = none) (c_NOUGHT : ∃ a, mg "NOUGHT" = some (.ref a) ∧ ∀ G, Rp K G (.tuple [.int 0, .int 1]) (.ref a)) (k_rising_some : Cl P w K mg base 2 "rising_some" f_rising) (k_lesser : Cl P w K mg base 2 "lesser" f_lesser) (k_due_number : Cl P w K mg base 4 "due_number" f_dueG) :
    Cl P w K mg base 5 "costs_of" f_costsOf := by
  obtain ⟨a_NOUGHT, h_NOUGHT, d_NOUGHT⟩ := c_NOUGHT
  refine ⟨a, fd, ["shares", "price"], fn_ok F sc_costs_of (fun args m R h => ?_) (fun cdv A outer s H E hr => ⟨_, (pss_cons (ps_set (i := 2) sc_costs_of.nd rfl (by first | exact Or.inl rfl | exact Or.inr rfl) (pe_disp1 hr (pe_tup pa_nil) (pe_glob (v := V.ref a_NOUGHT) (by rfl) h_NOUGHT rfl)))
      (pss_cons (ps_for PassesOwn.never rfl (kiL K (pe_cl k_rising_some hr (by decide) (by rfl) (pa_cons (pv 0) pa_nil))) (pg_name (i := 3) sc_costs_of.nd rfl (by first | exact Or.inl rfl | exact Or.inr rfl)) (pss_one (ps_dput (hu_of hr) (pv 2) (pv 3) (pe_cl k_lesser hr (by decide) (by rfl) (pa_cons (pe_tup (pa_cons (pe_op (kMul K) (pv 1) (pe_callB (kLen K) (by rfl) z_len (by decide +kernel) (pa_cons (pv 3) pa_nil))) (pa_cons pe_int pa_nil))) (pa_cons (pe_cl k_due_number hr (by decide) (by rfl) (pa_cons (pv 0) (pa_cons (pv 2) (pa_cons (pv 3) pa_nil)))) pa_nil))) rfl)))
      (pss_one (ps_ret (pv 2))))), fun args m R h => ?_⟩), hm, F.kp, F.binds (ps := ["shares", "price"]) fun _ _ _ _ _ _ us hl => match us, hl with | [_, _], _ => rfl⟩
  ·
    obtain ⟨_, _, rfl, _⟩ := h; rfl
  ·
    obtain ⟨ss, c, rfl, hs, hc, q⟩ := h
    have hfew := hs.few
    have h1 := hs.pos
    obtain ⟨o1, o2, o3, o4, o5, o6⟩ := rsX_facts ⟨ss.length, by omega⟩
    have o4 : (rsX ss.length).length ≤ 31 := o4
    have o6 : ∀ s ∈ rsX ss.length, s ∈ allS ss.length ∧ s ≠ [] := o6
    have hah : ∀ i s, (rsX ss.length)[i]? = some s → (∀ k ∈ s, wo s k ∈ [] :: (rsX ss.length).take i) ∧ s ∉ [] :: (rsX ss.length).take i := fun i s hi => rsX_ahead ⟨ss.length, by omega⟩ ⟨i, by have := (List.getElem?_eq_some_iff.mp hi).1; omega⟩ s hi
    have hB := cost_PB hs hc
    refine w_seq (w_asg (ev_disp1 fun p hp => ev_tupT ?_))
    walk_at "dl1"
    refine ⟨[], rfl, by decide, _, rfl, ev_cG d_NOUGHT ⟨put_same, ?_⟩⟩
    rw [put_put]
    refine w_seq (w_forLt (nss := (rsX ss.length).map kn) ?_ (fun i r' m' => m' = put m p (.dT (tabT (costT ss c) ([] :: (rsX ss.length).take i))) ∧ ∃ y, r' = [.d (tupI ss), .d (.int (c : Int)), .v (.ref p), y]) ⟨rfl, _, rfl⟩ ?_ ?_)
    · walk_at "go"
      refine ⟨hs, ?_⟩
      exact ⟨rfl, rfl⟩
    · rintro i ks r' m' hi ⟨rfl, y, rfl⟩
      obtain ⟨s, hsi, rfl⟩ : ∃ s, (rsX ss.length)[i]? = some s ∧ ks = kn s := by
        rw [List.getElem?_map] at hi
        cases hx : (rsX ss.length)[i]? with
        | none => rw [hx] at hi; cases hi
        | some s => rw [hx] at hi; cases hi; exact ⟨s, rfl, rfl⟩
      obtain ⟨hsa, h0⟩ := o6 s (List.mem_of_getElem? hsi)
      have hk := allS_kinds hsa
      have hkl := hk.len
      obtain ⟨ha1, ha2⟩ := hah i s hsi
      refine w_dputV (ns := kn s) rfl ?_
      walk_at "go"
      refine o2_mulI (cmul_small (by omega) (by omega)) ?_
      walk_at "go"
      refine ⟨ss, s, p, _, costT ss c, rfl, hs, hk, h0, Or.inl put_same, hB, fun k hks => getV_tab (ha1 k hks), ?_⟩
      walk_at "go"
      refine ⟨priceQ c s, dueT ss (costT ss c) s, ?_, ?_, (hB.dueFr hs hk h0).mono (by decide), ?_⟩
      · unfold priceQ
        rw [frac_int, Int.natCast_mul]
      · exact ((price_QB hc s).frB (e := 10) (by show _ < 1024; omega)).mono (by have := dB_le (n := s.length) (by omega); omega)
      rw [← cost_step ss c hk.up h0]
      refine ev_var rfl (fun h => nomatch h) ⟨p, _, rfl, put_same, ?_, ?_⟩
      · rw [tab_len, List.length_cons, List.length_take]; omega
      · rw [put_put, putV_tab ha2, List.cons_append, ← take_one hsi]
        exact ⟨rfl, _, rfl⟩
    · rintro r' m' ⟨rfl, y, rfl⟩
      rw [List.length_map, List.take_length]
      walk_at "go"
      exact q p hp

abbrev s_is_cost_paper : Stmt := topS 40
theorem sc_is_cost_paper : FnScope ["thing", "shares", "price", "some"] ["thing", "shares", "price"] (defScope s_is_cost_paper) := ⟨rfl, rfl, rfl, by decide +kernel, rfl, by decide +kernel, by decide +kernel⟩
theorem fok_is_cost_paper {a : Addr} {fd : FuncData} (F : Fun K "is_cost_paper" "is_cost_paper" s_is_cost_paper a fd) (hm : mg "is_cost_paper" = some (.ref a)) (z_len : mg "len" = none) (k_need_price : Cl P w K mg base 4 "need_price" f_needPrice) (k_is_paper : Cl P w K mg base 4 "is_paper" f_noPlans) (k_rising_some : Cl P w K mg base 2 "rising_some" f_rising) (k_lesser : Cl P w K mg base 2 "lesser" f_lesser) (k_due_number : Cl P w K mg base 4 "due_number" f_dueG) :
    FnOk P w K mg base CX0 5 a fd ["thing", "shares", "price"] (spD K f_noCost) := by
  refine fn_ok F sc_is_cost_paper (fun args m R h => ?_) (fun cdv A outer s H E hr => ⟨_, (pss_cons (ps_expr (pe_cl k_need_price hr (by decide) (by rfl) (pa_cons (pv 1) (pa_cons (pv 2) pa_nil))))
      (pss_cons (ps_if (pt_not (pt_val (pe_cl k_is_paper hr (by decide) (by rfl) (pa_cons (pv 0) (pa_cons (pv 1) pa_nil))))) (pss_one (ps_ret pe_bl)) pss_nil)
      (pss_cons (ps_for PassesOwn.never rfl (kiL K (pe_cl k_rising_some hr (by decide) (by rfl) (pa_cons (pv 1) pa_nil))) (pg_name (i := 3) sc_is_cost_paper.nd rfl (by first | exact Or.inl rfl | exact Or.inr rfl)) (pss_one (ps_if (pt_cmpR (kNe K hr) (pe_dget (hu_of hr) (pv 0) (pv 3) (fun _ _ => rfl)) (pe_cl k_lesser hr (by decide) (by rfl) (pa_cons (pe_tup (pa_cons (pe_op (kMul K) (pv 2) (pe_callB (kLen K) (by rfl) z_len (by decide +kernel) (pa_cons (pv 3) pa_nil))) (pa_cons pe_int pa_nil))) (pa_cons (pe_cl k_due_number hr (by decide) (by rfl) (pa_cons (pv 1) (pa_cons (pv 0) (pa_cons (pv 3) pa_nil)))) pa_nil))) (nomark _)) (pss_one (ps_ret pe_bl)) pss_nil)))
      (pss_one (ps_ret pe_bl))))), fun args m R h => ?_⟩)
  ·
    obtain ⟨_, _, _, rfl, _⟩ := h; rfl
  ·
    obtain ⟨y, ss, c, rfl, hs, hc, hy, q⟩ := h
    walk_at "go"
    refine ⟨hs, hc, ?_⟩
    refine w_seq (w_if (evt_not (evt_B (ev_call (eva_cons ?_)))))
    refine ev_var rfl hy.ne ?_
    walk_at "go"
    refine ⟨hs, hy, ?_⟩
    refine ⟨_, rfl, br_t rfl ?_⟩
    walk_at "go"
    exact q
theorem ok_is_cost_paper {a : Addr} {fd : FuncData} (F : Fun K "is_cost_paper" "is_cost_paper" s_is_cost_paper a fd) (hm : mg "is_cost_paper" = some (.ref a)) (o : FnOk P w K mg base CX0 5 a fd ["thing", "shares", "price"] (spD K f_noCost)) : Cl P w K mg base 5 "is_cost_paper" f_noCost := ⟨a, fd, ["thing", "shares", "price"], o, hm, F.kp, F.binds (ps := ["thing", "shares", "price"]) fun _ _ _ _ _ _ us hl => match us, hl with | [_, _, _], _ => rfl⟩
theorem okx_is_cost_paper {a : Addr} {fd : FuncData} (F : Fun K "is_cost_paper" "is_cost_paper" s_is_cost_paper a fd) (hm : mg "is_cost_paper" = some (.ref a)) (z_len : mg "len" = none) (k_is_paper : Cl P w K mg base 4 "is_paper" f_noPlans) (k_rising_some : Cl P w K mg base 2 "rising_some" f_rising) (k_lesser : Cl P w K mg base 2 "lesser" f_lesser) (k_due_number : Cl P w K mg base 4 "due_number" f_dueG) (q_need_price : ClX P w K mg base 4 "need_price" (fnE [c_NoShares, c_NoKind, c_NoNumber, c_NoNeeds, c_TooMany, c_NoPlan, c_NoLine, c_NoText] 2 eNeedPrice anyD)) (o : FnOk P w K mg base CX0 5 a fd ["thing", "shares", "price"] (spD K f_noCost)) :
    ClX P w K mg base 5 "is_cost_paper" (orX f_noCost (fnY [c_NoShares, c_NoKind, c_NoNumber, c_NoNeeds, c_TooMany, c_NoPlan, c_NoLine, c_NoText])) := by
  refine ⟨a, fd, ["thing", "shares", "price"], fnOk_or o (fnX_ok F sc_is_cost_paper (fun args m R X h => ?_) (fun cdv A outer s H E hr => ⟨_, (pss_cons (ps_expr (pe_clX q_need_price hr (by decide) (by rfl) (L2N.takes_of rfl rfl rfl rfl) (pa_cons (pv 1) (pa_cons (pv 2) pa_nil))))
      (PSs.nox (pss_cons (ps_if (pt_not (pt_val (pe_cl k_is_paper hr (by decide) (by rfl) (pa_cons (pv 0) (pa_cons (pv 1) pa_nil))))) (pss_one (ps_ret pe_bl)) pss_nil)
      (pss_cons (ps_for PassesOwn.never rfl (kiL K (pe_cl k_rising_some hr (by decide) (by rfl) (pa_cons (pv 1) pa_nil))) (pg_name (i := 3) sc_is_cost_paper.nd rfl (by first | exact Or.inl rfl | exact Or.inr rfl)) (pss_one (ps_if (pt_cmpR (kNe K hr) (pe_dget (hu_of hr) (pv 0) (pv 3) (fun _ _ => rfl)) (pe_cl k_lesser hr (by decide) (by rfl) (pa_cons (pe_tup (pa_cons (pe_op (kMul K) (pv 2) (pe_callB (kLen K) (by rfl) z_len (by decide +kernel) (pa_cons (pv 3) pa_nil))) (pa_cons pe_int pa_nil))) (pa_cons (pe_cl k_due_number hr (by decide) (by rfl) (pa_cons (pv 1) (pa_cons (pv 0) (pa_cons (pv 3) pa_nil)))) pa_nil))) (nomark _)) (pss_one (ps_ret pe_bl)) pss_nil)))
      (pss_one (ps_ret pe_bl)))))), fun args m R X h G0 hT => ?_⟩)), hm, F.kp, F.binds (ps := ["thing", "shares", "price"]) fun _ _ _ _ _ _ us hl => match us, hl with | [_, _, _], _ => rfl⟩
  ·
    obtain ⟨_, _, _, _, rfl, _⟩ := h; rfl
  ·
    obtain ⟨y, sh, x, i, rfl, hyn, hF, hX⟩ := h
    refine wx_seq (wx_drop (evx_call (hT _) ?_))
    walk_at "go"
    refine ⟨[sh, x], rfl, rfl, trivial, fun d hd => ?_, fun j hj => ?_⟩
    · exact (price_ok hd hF).elim
    · obtain rfl := price_no hj hF
      exact hX

abbrev s_cost_paper : Stmt := topS 41
theorem sc_cost_paper : FnScope ["shares", "price"] ["shares", "price"] (defScope s_cost_paper) := ⟨rfl, rfl, rfl, by decide +kernel, rfl, by decide +kernel, by decide +kernel⟩
theorem fok_cost_paper {a : Addr} {fd : FuncData} (F : Fun K "cost_paper" "cost_paper" s_cost_paper a fd) (hm : mg "cost_paper" = some (.ref a)) (k_need_price : Cl P w K mg base 4 "need_price" f_needPrice) (k_costs_of : Cl P w K mg base 5 "costs_of" f_costsOf) :
    FnOk P w K mg base CX0 6 a fd ["shares", "price"] (spD K f_costDrop) := by
  refine fn_ok F sc_cost_paper (fun args m R h => ?_) (fun cdv A outer s H E hr => ⟨_, (pss_cons (ps_expr (pe_cl k_need_price hr (by decide) (by rfl) (pa_cons (pv 0) (pa_cons (pv 1) pa_nil))))
      (pss_one (ps_ret (pe_cl k_costs_of hr (by decide) (by rfl) (pa_cons (pv 0) (pa_cons (pv 1) pa_nil)))))), fun args m R h => ?_⟩)
  ·
    obtain ⟨_, _, rfl, _⟩ := h; rfl
  ·
    obtain ⟨ss, c, rfl, hs, hc, q⟩ := h
    walk_at "go"
    refine ⟨hs, hc, ?_⟩
    refine w_ret (ev_forget (ev_call ?_))
    walk_at "go"
    exact ⟨hs, hc, fun p hp => ⟨m, put_less hp, q p⟩⟩
theorem ok_cost_paper {a : Addr} {fd : FuncData} (F : Fun K "cost_paper" "cost_paper" s_cost_paper a fd) (hm : mg "cost_paper" = some (.ref a)) (o : FnOk P w K mg base CX0 6 a fd ["shares", "price"] (spD K f_costDrop)) : Cl P w K mg base 6 "cost_paper" f_costDrop := ⟨a, fd, ["shares", "price"], o, hm, F.kp, F.binds (ps := ["shares", "price"]) fun _ _ _ _ _ _ us hl => match us, hl with | [_, _], _ => rfl⟩
theorem okx_cost_paper {a : Addr} {fd : FuncData} (F : Fun K "cost_paper" "cost_paper" s_cost_paper a fd) (hm : mg "cost_paper" = some (.ref a)) (k_costs_of : Cl P w K mg base 5 "costs_of" f_costsOf) (q_need_price : ClX P w K mg base 4 "need_price" (fnE [c_NoShares, c_NoKind, c_NoNumber, c_NoNeeds, c_TooMany, c_NoPlan, c_NoLine, c_NoText] 2 eNeedPrice anyD)) (o : FnOk P w K mg base CX0 6 a fd ["shares", "price"] (spD K f_costDrop)) :
    ClX P w K mg base 6 "cost_paper" (orX f_costDrop (fnR [c_NoShares, c_NoKind, c_NoNumber, c_NoNeeds, c_TooMany, c_NoPlan, c_NoLine, c_NoText] 2 rPrice)) := by
  refine ⟨a, fd, ["shares", "price"], fnOk_or o (fnX_ok F sc_cost_paper (fun args m R X h => ?_) (fun cdv A outer s H E hr => ⟨_, (pss_cons (ps_expr (pe_clX q_need_price hr (by decide) (by rfl) (L2N.takes_of rfl rfl rfl rfl) (pa_cons (pv 0) (pa_cons (pv 1) pa_nil))))
      (PSs.nox (pss_one (ps_ret (pe_cl k_costs_of hr (by decide) (by rfl) (pa_cons (pv 0) (pa_cons (pv 1) pa_nil))))))), fun args m R X h G0 hT => ?_⟩)), hm, F.kp, F.binds (ps := ["shares", "price"]) fun _ _ _ _ _ _ us hl => match us, hl with | [_, _], _ => rfl⟩
  ·
    exact fnR_len h
  ·
    obtain ⟨ds, rfl, hl, i, hF, hX⟩ := h
    revert hF
    match ds, hl with
    | [sh, x], _ =>
      intro hF
      refine wx_seq (wx_drop (evx_call (hT _) ?_))
      walk_at "go"
      refine ⟨[sh, x], rfl, rfl, trivial, fun d hd => ?_, fun j hj => ?_⟩
      · exact (price_ok hd hF).elim
      · obtain rfl := price_no hj hF
        exact hX

abbrev s_plan_of : Stmt := topS 42
theorem sc_plan_of : FnScope ["shares", "price", "known", "found", "some", "dearer"] ["shares", "price"] (defScope s_plan_of) := ⟨rfl, rfl, rfl, by decide +kernel, rfl, by decide +kernel, by decide +kernel⟩
theorem ok_plan_of {a : Addr} {fd : FuncData} (F : Fun K "plan_of" "plan_of" s_plan_of a fd) (hm : mg "plan_of" = some (.ref a)) (z_len : mg "len" = none) (k_costs_of : Cl P w K mg base 5 "costs_of" f_costsOf) (k_rising_some : Cl P w K mg base 2 "rising_some" f_rising) (k_below : Cl P w K mg base 1 "below" f_below) (k_due_number : Cl P w K mg base 4 "due_number" f_dueG) :
    Cl P w K mg base 6 "plan_of" f_planOf := by
  refine ⟨a, fd, ["shares", "price"], fn_ok F sc_plan_of (fun args m R h => ?_) (fun cdv A outer s H E hr => ⟨_, (pss_cons (ps_set (i := 2) sc_plan_of.nd rfl (by first | exact Or.inl rfl | exact Or.inr rfl) (pe_cl k_costs_of hr (by decide) (by rfl) (pa_cons (pv 0) (pa_cons (pv 1) pa_nil))))
      (pss_cons (ps_set (i := 3) sc_plan_of.nd rfl (by first | exact Or.inl rfl | exact Or.inr rfl) pe_dnewT)
      (pss_cons (ps_for PassesOwn.never rfl (kiL K (pe_cl k_rising_some hr (by decide) (by rfl) (pa_cons (pv 0) pa_nil))) (pg_name (i := 4) sc_plan_of.nd rfl (by first | exact Or.inl rfl | exact Or.inr rfl)) (pss_cons (ps_set (i := 5) sc_plan_of.nd rfl (by first | exact Or.inl rfl | exact Or.inr rfl) (pe_cl k_below hr (by decide) (by rfl) (pa_cons (pe_cl k_due_number hr (by decide) (by rfl) (pa_cons (pv 0) (pa_cons (pv 2) (pa_cons (pv 4) pa_nil)))) (pa_cons (pe_tup (pa_cons (pe_op (kMul K) (pv 1) (pe_callB (kLen K) (by rfl) z_len (by decide +kernel) (pa_cons (pv 4) pa_nil))) (pa_cons pe_int pa_nil))) pa_nil))))
      (pss_one (ps_dput (hu_of hr) (pv 3) (pv 4) (pe_ifExp (pt_val (pv 5)) pe_str pe_str) rfl))))
      (pss_one (ps_ret (pv 3)))))), fun args m R h => ?_⟩), hm, F.kp, F.binds (ps := ["shares", "price"]) fun _ _ _ _ _ _ us hl => match us, hl with | [_, _], _ => rfl⟩
  ·
    obtain ⟨_, _, rfl, _⟩ := h; rfl
  ·
    obtain ⟨ss, c, rfl, hs, hc, q⟩ := h
    have hfew := hs.few
    have h1 := hs.pos
    obtain ⟨o1, o2, o3, o4, o5, o6⟩ := rsX_facts ⟨ss.length, by omega⟩
    have o4 : (rsX ss.length).length ≤ 31 := o4
    have o6 : ∀ s ∈ rsX ss.length, s ∈ allS ss.length ∧ s ≠ [] := o6
    have hah : ∀ i s, (rsX ss.length)[i]? = some s → (∀ k ∈ s, wo s k ∈ [] :: (rsX ss.length).take i) ∧ s ∉ [] :: (rsX ss.length).take i := fun i s hi => rsX_ahead ⟨ss.length, by omega⟩ ⟨i, by have := (List.getElem?_eq_some_iff.mp hi).1; omega⟩ s hi
    have hB := cost_PB hs hc
    walk_at "go"
    refine ⟨hs, hc, fun p hp => ?_⟩
    refine w_seq (w_asg (ev_dnew fun d hd => ?_))
    have hpd : d ≠ p := fun e => by rw [e, put_same] at hd; cases hd
    have hdm : m d = none := by rw [put_ne hpd] at hd; exact hd
    refine w_seq (w_forLt (nss := (rsX ss.length).map kn) ?_ (fun i r' m' => m' = put (put m p (.dT (tabT (costT ss c) ([] :: rsX ss.length)))) d (.dT (dI (tabS (fun s => told (buyP ss c s)) ((rsX ss.length).take i)))) ∧ ∃ y z, r' = [.d (tupI ss), .d (.int (c : Int)), .v (.ref p), .v (.ref d), y, z]) ⟨rfl, _, _, rfl⟩ ?_ ?_)
    · walk_at "go"
      refine ⟨hs, ?_⟩
      exact ⟨rfl, rfl⟩
    · rintro i ks r' m' hi ⟨rfl, y, z, rfl⟩
      obtain ⟨s, hsi, rfl⟩ : ∃ s, (rsX ss.length)[i]? = some s ∧ ks = kn s := by
        rw [List.getElem?_map] at hi
        cases hx : (rsX ss.length)[i]? with
        | none => rw [hx] at hi; cases hi
        | some s => rw [hx] at hi; cases hi; exact ⟨s, rfl, rfl⟩
      obtain ⟨hsa, h0⟩ := o6 s (List.mem_of_getElem? hsi)
      have hk := allS_kinds hsa
      have hkl := hk.len
      obtain ⟨ha1, ha2⟩ := hah i s hsi
      have hgp : put (put m p (.dT (tabT (costT ss c) ([] :: rsX ss.length)))) d (.dT (dI (tabS (fun s => told (buyP ss c s)) ((rsX ss.length).take i)))) p = some (.dT (tabT (costT ss c) ([] :: rsX ss.length))) := by rw [put_ne (Ne.symm hpd)]; exact put_same
      walk_at "go"
      refine ⟨ss, s, p, _, costT ss c, rfl, hs, hk, h0, Or.inl hgp, hB, fun k hks => getV_tab (by
        rcases List.mem_cons.mp (ha1 k hks) with h | h
        · exact List.mem_cons.mpr (Or.inl h)
        · exact List.mem_cons.mpr (Or.inr (List.mem_of_mem_take h))), ?_⟩
      walk_at "go"
      refine o2_mulI (cmul_small (by omega) (by omega)) ?_
      walk_at "go"
      refine ⟨dueT ss (costT ss c) s, priceQ c s, ?_, (hB.dueFr hs hk h0).mono (by decide), ?_, ?_⟩
      · unfold priceQ
        rw [frac_int, Int.natCast_mul]
      · exact ((price_QB hc s).frB (e := 10) (by show _ < 1024; omega)).mono (by have := dB_le (n := s.length) (by omega); omega)
      refine w_dputV (ns := kn s) rfl ?_
      refine Ev.imp (Q := fun x m1 => x = .d (.str (told (buyP ss c s))) ∧ m1 = put (put m p (.dT (tabT (costT ss c) ([] :: rsX ss.length)))) d (.dT (dI (tabS (fun s => told (buyP ss c s)) ((rsX ss.length).take i))))) ?_ ?_
      · walk_at "go"
        unfold told buyP
        by_cases hc2 : dueT ss (costT ss c) s < priceQ c s
        · refine br_t (decide_eq_true hc2) ?_
          walk_at "go"
          rw [decide_eq_true hc2]
          exact ⟨rfl, rfl⟩
        · refine br_f (decide_eq_false hc2) ?_
          walk_at "go"
          rw [decide_eq_false hc2]
          exact ⟨rfl, rfl⟩
      rintro x m1 ⟨rfl, rfl⟩
      refine ev_var rfl (fun h => nomatch h) ⟨d, _, rfl, put_same, ?_, ?_⟩
      · unfold dI tabS
        rw [List.length_map, List.length_map, List.length_take]; omega
      · rw [put_put, putV_tabS (f := fun s => told (buyP ss c s)) (fun h => ha2 (List.mem_cons_of_mem _ h)), ← take_one hsi]
        exact ⟨rfl, _, _, rfl⟩
    · rintro r' m' ⟨rfl, y, z, rfl⟩
      rw [List.length_map, List.take_length]
      refine w_ret (ev_forget (ev_var rfl (fun h => nomatch h) ⟨put m d (.dT (dI (tabS (fun s => told (buyP ss c s)) (rsX ss.length)))), fun a o h => ?_, q d hdm⟩))
      by_cases ha : a = d
      · subst ha; rw [put_same] at h ⊢; exact h
      · rw [put_ne ha] at h ⊢
        rw [put_ne (ne_of_get h hp)]; exact h

abbrev s_plan_for : Stmt := topS 43
theorem sc_plan_for : FnScope ["shares", "price"] ["shares", "price"] (defScope s_plan_for) := ⟨rfl, rfl, rfl, by decide +kernel, rfl, by decide +kernel, by decide +kernel⟩
theorem fok_plan_for {a : Addr} {fd : FuncData} (F : Fun K "plan_for" "plan_for" s_plan_for a fd) (hm : mg "plan_for" = some (.ref a)) (k_need_price : Cl P w K mg base 4 "need_price" f_needPrice) (k_plan_of : Cl P w K mg base 6 "plan_of" f_planOf) :
    FnOk P w K mg base CX0 7 a fd ["shares", "price"] (spD K f_costDrop) := by
  refine fn_ok F sc_plan_for (fun args m R h => ?_) (fun cdv A outer s H E hr => ⟨_, (pss_cons (ps_expr (pe_cl k_need_price hr (by decide) (by rfl) (pa_cons (pv 0) (pa_cons (pv 1) pa_nil))))
      (pss_one (ps_ret (pe_cl k_plan_of hr (by decide) (by rfl) (pa_cons (pv 0) (pa_cons (pv 1) pa_nil)))))), fun args m R h => ?_⟩)
  ·
    obtain ⟨_, _, rfl, _⟩ := h; rfl
  ·
    obtain ⟨ss, c, rfl, hs, hc, q⟩ := h
    walk_at "go"
    refine ⟨hs, hc, ?_⟩
    refine w_ret (ev_forget (ev_call ?_))
    walk_at "go"
    exact ⟨hs, hc, fun p hp => ⟨m, put_less hp, q p⟩⟩
theorem ok_plan_for {a : Addr} {fd : FuncData} (F : Fun K "plan_for" "plan_for" s_plan_for a fd) (hm : mg "plan_for" = some (.ref a)) (o : FnOk P w K mg base CX0 7 a fd ["shares", "price"] (spD K f_costDrop)) : Cl P w K mg base 7 "plan_for" f_costDrop := ⟨a, fd, ["shares", "price"], o, hm, F.kp, F.binds (ps := ["shares", "price"]) fun _ _ _ _ _ _ us hl => match us, hl with | [_, _], _ => rfl⟩
theorem okx_plan_for {a : Addr} {fd : FuncData} (F : Fun K "plan_for" "plan_for" s_plan_for a fd) (hm : mg "plan_for" = some (.ref a)) (k_plan_of : Cl P w K mg base 6 "plan_of" f_planOf) (q_need_price : ClX P w K mg base 4 "need_price" (fnE [c_NoShares, c_NoKind, c_NoNumber, c_NoNeeds, c_TooMany, c_NoPlan, c_NoLine, c_NoText] 2 eNeedPrice anyD)) (o : FnOk P w K mg base CX0 7 a fd ["shares", "price"] (spD K f_costDrop)) :
    ClX P w K mg base 7 "plan_for" (orX f_costDrop (fnR [c_NoShares, c_NoKind, c_NoNumber, c_NoNeeds, c_TooMany, c_NoPlan, c_NoLine, c_NoText] 2 rPrice)) := by
  refine ⟨a, fd, ["shares", "price"], fnOk_or o (fnX_ok F sc_plan_for (fun args m R X h => ?_) (fun cdv A outer s H E hr => ⟨_, (pss_cons (ps_expr (pe_clX q_need_price hr (by decide) (by rfl) (L2N.takes_of rfl rfl rfl rfl) (pa_cons (pv 0) (pa_cons (pv 1) pa_nil))))
      (PSs.nox (pss_one (ps_ret (pe_cl k_plan_of hr (by decide) (by rfl) (pa_cons (pv 0) (pa_cons (pv 1) pa_nil))))))), fun args m R X h G0 hT => ?_⟩)), hm, F.kp, F.binds (ps := ["shares", "price"]) fun _ _ _ _ _ _ us hl => match us, hl with | [_, _], _ => rfl⟩
  ·
    exact fnR_len h
  ·
    obtain ⟨ds, rfl, hl, i, hF, hX⟩ := h
    revert hF
    match ds, hl with
    | [sh, x], _ =>
      intro hF
      refine wx_seq (wx_drop (evx_call (hT _) ?_))
      walk_at "go"
      refine ⟨[sh, x], rfl, rfl, trivial, fun d hd => ?_, fun j hj => ?_⟩
      · exact (price_ok hd hF).elim
      · obtain rfl := price_no hj hF
        exact hX

abbrev s__law_asked : Stmt := topS 51
theorem sc__law_asked : FnScope ["_law_kind", "_law_shares_here", "_law_price", "_law_plan"] ["_law_kind", "_law_shares_here", "_law_price", "_law_plan"] (defScope s__law_asked) := ⟨rfl, rfl, rfl, by decide +kernel, rfl, by decide +kernel, by decide +kernel⟩
theorem ok__law_asked {a : Addr} {fd : FuncData} (F : Fun K "_law_asked" "_law_asked" s__law_asked a fd) (hm : mg "_law_asked" = some (.ref a)) (q_plan_cost : ClX P w K mg base 5 "plan_cost" (fnCost [c_NoShares, c_NoKind, c_NoNumber, c_NoNeeds, c_TooMany, c_NoPlan, c_NoLine, c_NoText])) (q_is_cost_paper : ClX P w K mg base 5 "is_cost_paper" (orX f_noCost (fnY [c_NoShares, c_NoKind, c_NoNumber, c_NoNeeds, c_TooMany, c_NoPlan, c_NoLine, c_NoText]))) (q_cost_paper : ClX P w K mg base 6 "cost_paper" (orX f_costDrop (fnR [c_NoShares, c_NoKind, c_NoNumber, c_NoNeeds, c_TooMany, c_NoPlan, c_NoLine, c_NoText] 2 rPrice))) (q_plan_for : ClX P w K mg base 7 "plan_for" (orX f_costDrop (fnR [c_NoShares, c_NoKind, c_NoNumber, c_NoNeeds, c_TooMany, c_NoPlan, c_NoLine, c_NoText] 2 rPrice))) (q_is_plan : ClX P w K mg base 4 "is_plan" (orX f_noPlans (fnY1 [c_NoShares, c_NoKind, c_NoNumber, c_NoNeeds, c_TooMany, c_NoPlan, c_NoLine, c_NoText]))) :
    ClX P w K mg base 8 "_law_asked" (fnAsk64 [c_NoShares, c_NoKind, c_NoNumber, c_NoNeeds, c_TooMany, c_NoPlan, c_NoLine, c_NoText]) := by
  refine ⟨a, fd, ["_law_kind", "_law_shares_here", "_law_price", "_law_plan"], fnX_ok F sc__law_asked (fun args m R X h => ?_) (fun cdv A outer s H E hr => ⟨_, (pss_one (ps_if (pt_cmpR (kEq K hr) (pv 0) pe_int (nomark _)) (pss_one (ps_expr (pe_clX q_plan_cost hr (by decide) (by rfl) (L2N.takes_of rfl rfl rfl rfl) (pa_cons (pv 1) (pa_cons (pv 2) (pa_cons (pv 3) pa_nil)))))) (pss_one (ps_if (pt_cmpR (kEq K hr) (pv 0) pe_int (nomark _)) (pss_one (ps_expr (pe_clX q_is_cost_paper hr (by decide) (by rfl) (L2N.takes_of rfl rfl rfl rfl) (pa_cons (pv 3) (pa_cons (pv 1) (pa_cons (pv 2) pa_nil)))))) (pss_one (ps_if (pt_cmpR (kEq K hr) (pv 0) pe_int (nomark _)) (pss_one (ps_expr (pe_clX q_cost_paper hr (by decide) (by rfl) (L2N.takes_of rfl rfl rfl rfl) (pa_cons (pv 1) (pa_cons (pv 2) pa_nil))))) (pss_one (ps_if (pt_cmpR (kEq K hr) (pv 0) pe_int (nomark _)) (pss_one (ps_expr (pe_clX q_plan_for hr (by decide) (by rfl) (L2N.takes_of rfl rfl rfl rfl) (pa_cons (pv 1) (pa_cons (pv 2) pa_nil))))) (pss_one (ps_expr (pe_clX q_is_plan hr (by decide) (by rfl) (L2N.takes_of rfl rfl rfl rfl) (pa_cons (pv 3) (pa_cons (pv 1) pa_nil))))))))))))), fun args m R X h G0 hT => ?_⟩), hm, F.kp, F.binds (ps := ["_law_kind", "_law_shares_here", "_law_price", "_law_plan"]) fun _ _ _ _ _ _ us hl => match us, hl with | [_, _, _, _], _ => rfl⟩
  ·
    obtain ⟨_, _, _, _, _, rfl, _⟩ := h; rfl
  ·
    obtain ⟨k, sh, x, y, o, rfl, hy, hA, hN, hX⟩ := h
    rcases id hy with ⟨yd, rfl⟩ | ⟨yp, rfl⟩
    all_goals
      rcases hA with ⟨hB, k0, k4, rfl⟩ | ⟨ss, rfl, hs, hA⟩
      · have hr : rPrice [sh, x] 0 := Or.inl ⟨hB, rfl⟩
        have : k = 0 ∨ k = 1 ∨ k = 2 ∨ k = 3 ∨ k = 4 := by omega
        rcases this with rfl | rfl | rfl | rfl | rfl
        · refine wx_if ?_
          walk_at "go"
          refine br_t rfl (wx_drop (evx_call (hT _) ?_))
          walk_at "go"
          exact ⟨_, sh, x, 0, rfl, hy, Or.inl hr, hX 0 rfl⟩
        · refine wx_if ?_
          walk_at "go"
          refine br_f rfl (wx_if ?_)
          walk_at "go"
          refine br_t rfl (wx_drop (evx_call (hT _) ?_))
          walk_at "go"
          exact Or.inr ⟨_, sh, x, 0, rfl, hy, hr, hX 0 rfl⟩
        · refine wx_if ?_
          walk_at "go"
          refine br_f rfl (wx_if ?_)
          walk_at "go"
          refine br_f rfl (wx_if ?_)
          walk_at "go"
          refine br_t rfl (wx_drop (evx_call (hT _) ?_))
          walk_at "go"
          exact Or.inr ⟨[sh, x], rfl, rfl, 0, hr, hX 0 rfl⟩
        · refine wx_if ?_
          walk_at "go"
          refine br_f rfl (wx_if ?_)
          walk_at "go"
          refine br_f rfl (wx_if ?_)
          walk_at "go"
          refine br_f rfl (wx_if ?_)
          walk_at "go"
          refine br_t rfl (wx_drop (evx_call (hT _) ?_))
          walk_at "go"
          exact Or.inr ⟨[sh, x], rfl, rfl, 0, hr, hX 0 rfl⟩
        · refine wx_if ?_
          walk_at "go"
          refine br_f rfl (wx_if ?_)
          walk_at "go"
          refine br_f rfl (wx_if ?_)
          walk_at "go"
          refine br_f rfl (wx_if ?_)
          walk_at "go"
          refine br_f rfl (wx_drop (evx_call (hT _) ?_))
          walk_at "go"
          exact Or.inr ⟨_, sh, rfl, hy, hB, hX 0 rfl⟩
      rcases hA with ⟨k0, k3, hx, rfl⟩ | ⟨rfl, hx, hpl, rfl⟩ | ⟨k1, k4, ⟨c, rfl, hc⟩, hpl, rfl⟩
      · have hr : rPrice [tupI ss, x] 2 := Or.inr ⟨ss, rfl, hs, hx, rfl⟩
        have : k = 0 ∨ k = 1 ∨ k = 2 ∨ k = 3 := by omega
        rcases this with rfl | rfl | rfl | rfl
        · refine wx_if ?_
          walk_at "go"
          refine br_t rfl (wx_drop (evx_call (hT _) ?_))
          walk_at "go"
          exact ⟨_, tupI ss, x, 2, rfl, hy, Or.inl hr, hX 2 rfl⟩
        · refine wx_if ?_
          walk_at "go"
          refine br_f rfl (wx_if ?_)
          walk_at "go"
          refine br_t rfl (wx_drop (evx_call (hT _) ?_))
          walk_at "go"
          exact Or.inr ⟨_, tupI ss, x, 2, rfl, hy, hr, hX 2 rfl⟩
        · refine wx_if ?_
          walk_at "go"
          refine br_f rfl (wx_if ?_)
          walk_at "go"
          refine br_f rfl (wx_if ?_)
          walk_at "go"
          refine br_t rfl (wx_drop (evx_call (hT _) ?_))
          walk_at "go"
          exact Or.inr ⟨[tupI ss, x], rfl, rfl, 2, hr, hX 2 rfl⟩
        · refine wx_if ?_
          walk_at "go"
          refine br_f rfl (wx_if ?_)
          walk_at "go"
          refine br_f rfl (wx_if ?_)
          walk_at "go"
          refine br_f rfl (wx_if ?_)
          walk_at "go"
          refine br_t rfl (wx_drop (evx_call (hT _) ?_))
          walk_at "go"
          exact Or.inr ⟨[tupI ss, x], rfl, rfl, 2, hr, hX 2 rfl⟩
      · refine wx_if ?_
        walk_at "go"
        refine br_t rfl (wx_drop (evx_call (hT _) ?_))
        walk_at "go"
        exact ⟨_, tupI ss, x, 5, rfl, hy, Or.inr ⟨ss, rfl, hs, hx, hpl, rfl⟩, hX 5 rfl⟩
      · have : k = 1 ∨ k = 2 ∨ k = 3 ∨ k = 4 := by omega
        rcases this with rfl | rfl | rfl | rfl
        · refine wx_if ?_
          walk_at "go"
          refine br_f rfl (wx_if ?_)
          walk_at "go"
          refine br_t rfl (wx_drop (evx_call (hT _) ?_))
          walk_at "go"
          exact Or.inl ⟨_, ss, c, rfl, hs, hc, hpl, hN rfl⟩
        · refine wx_if ?_
          walk_at "go"
          refine br_f rfl (wx_if ?_)
          walk_at "go"
          refine br_f rfl (wx_if ?_)
          walk_at "go"
          refine br_t rfl (wx_drop (evx_call (hT _) ?_))
          walk_at "go"
          exact Or.inl ⟨ss, c, rfl, hs, hc, fun p => hN rfl⟩
        · refine wx_if ?_
          walk_at "go"
          refine br_f rfl (wx_if ?_)
          walk_at "go"
          refine br_f rfl (wx_if ?_)
          walk_at "go"
          refine br_f rfl (wx_if ?_)
          walk_at "go"
          refine br_t rfl (wx_drop (evx_call (hT _) ?_))
          walk_at "go"
          exact Or.inl ⟨ss, c, rfl, hs, hc, fun p => hN rfl⟩
        · refine wx_if ?_
          walk_at "go"
          refine br_f rfl (wx_if ?_)
          walk_at "go"
          refine br_f rfl (wx_if ?_)
          walk_at "go"
          refine br_f rfl (wx_if ?_)
          walk_at "go"
          refine br_f rfl (wx_drop (evx_call (hT _) ?_))
          walk_at "go"
          exact Or.inl ⟨_, ss, rfl, hs, hpl, hN rfl⟩

abbrev s__law_told : Stmt := topS 52
theorem sc__law_told : FnScope ["_law_kind", "_law_shares_here", "_law_price", "_law_plan", "_law_e", "_law_place"] ["_law_kind", "_law_shares_here", "_law_price", "_law_plan"] (defScope s__law_told) := ⟨rfl, rfl, rfl, by decide +kernel, rfl, by decide +kernel, by decide +kernel⟩
theorem ok__law_told {a : Addr} {fd : FuncData} (F : Fun K "_law_told" "_law_told" s__law_told a fd) (hm : mg "_law_told" = some (.ref a)) (z_range : mg "range" = none) (k__law_only : ClP P w K mg base 2 "_law_only" (okE K [c_NoShares, c_NoKind, c_NoNumber, c_NoNeeds, c_TooMany, c_NoPlan, c_NoLine, c_NoText] c_GatherError) (f_lawOnly K [c_NoShares, c_NoKind, c_NoNumber, c_NoNeeds, c_TooMany, c_NoPlan, c_NoLine, c_NoText] c_GatherError)) (q__law_asked : ClX P w K mg base 8 "_law_asked" (fnAsk64 [c_NoShares, c_NoKind, c_NoNumber, c_NoNeeds, c_TooMany, c_NoPlan, c_NoLine, c_NoText])) (g_GatherError : mg "GatherError" = some (.ref c_GatherError)) (e_NoShares : XT K [c_NoShares, c_NoKind, c_NoNumber, c_NoNeeds, c_TooMany, c_NoPlan, c_NoLine, c_NoText] c_GatherError 0 c_NoShares) (e_NoNumber : XT K [c_NoShares, c_NoKind, c_NoNumber, c_NoNeeds, c_TooMany, c_NoPlan, c_NoLine, c_NoText] c_GatherError 2 c_NoNumber) (e_NoPlan : XT K [c_NoShares, c_NoKind, c_NoNumber, c_NoNeeds, c_TooMany, c_NoPlan, c_NoLine, c_NoText] c_GatherError 5 c_NoPlan) :
    Cl P w K mg base 9 "_law_told" f_told64 := by
  refine ⟨a, fd, ["_law_kind", "_law_shares_here", "_law_price", "_law_plan"], fn_ok F sc__law_told (fun args m R h => ?_) (fun cdv A outer s H E hr => ⟨_, (pss_cons (ps_tryC (i := 4) rfl rfl sc__law_told.nd rfl rfl rfl ⟨by rfl, by decide, .inl g_GatherError⟩ (fun W pn xe tk _ => (pss_one (ps_expr (pe_clX q__law_asked hr (by decide) (by rfl) tk (pa_cons (pv 0) (pa_cons (pv 1) (pa_cons (pv 2) (pa_cons (pv 3) pa_nil)))))))) (fun a oe cls d pn hz hf => pss_noD fun hd => (pss_one (ps_ret (pe_lcH (own := [("_law_place", 5)]) (Sees.hot (sees_suite hz hf hd)) sc__law_told.nd (L2H.pi_range1H (by rfl) z_range (pa_cons pe_int pa_nil)) (blkOk_by (own := [("_law_place", 5)]) (N := ["_law_kind", "_law_shares_here", "_law_price", "_law_plan", "_law_e", "_law_place"]) (sc := defScope s__law_told) (by decide +kernel)) (fun _ _ _ _ _ => (pg_name (i := 5) sc__law_told.nd rfl (by first | exact Or.inl rfl | exact Or.inr rfl))) (fun _ _ _ _ _ => (pts_one (pt_val (pe_clP k__law_only (roomM hr) (by decide) (sees_suite hz hf hd) (by rfl) (pa_cons (pv 4) (pa_cons (pv 5) pa_nil)))))) (fun _ _ _ _ _ => (pv 5)))))))
      (pss_one (ps_ret (pe_lst pa_nil)))), fun args m R h => ?_⟩), hm, F.kp, F.binds (ps := ["_law_kind", "_law_shares_here", "_law_price", "_law_plan"]) fun _ _ _ _ _ _ us hl => match us, hl with | [_, _, _, _], _ => rfl⟩
  ·
    obtain ⟨_, _, _, _, _, rfl, _⟩ := h; rfl
  ·
    obtain ⟨k, sh, x, y, o, rfl, hy, hA, q⟩ := h
    have hL : ∀ i, o = some i → i ∈ [0, 2, 5] := by
      rintro i rfl
      rcases hA with ⟨_, _, _, h⟩ | ⟨ss, _, _, ⟨_, _, _, h⟩ | ⟨_, _, _, h⟩ | ⟨_, _, _, _, h⟩⟩ <;> first | (injection h with h; subst h; simp; done) | cases h
    refine w_seq (w_tryC (fun C m' => m' = m ∧ ∃ i, o = some i ∧ C = [c_NoShares, c_NoKind, c_NoNumber, c_NoNeeds, c_TooMany, c_NoPlan, c_NoLine, c_NoText].getD i 0) (fun W G0 hT => ?_) (fun C m' hC => ?_))
    · refine wx_drop (evx_call hT ?_)
      rcases id hy with ⟨yd, rfl⟩ | ⟨yp, rfl⟩
      all_goals
        walk_at "go"
        refine ⟨k, sh, x, _, o, rfl, hy, hA, ?_, fun i hi => ⟨rfl, i, hi, rfl⟩⟩
        rintro rfl
        exact w_ret (ev_lstD (eva_nil ⟨[], rfl, by decide, q⟩))
    · obtain ⟨rfl, i, rfl, rfl⟩ := hC
      have hi := hL i rfl
      have hX : XT K [c_NoShares, c_NoKind, c_NoNumber, c_NoNeeds, c_TooMany, c_NoPlan, c_NoLine, c_NoText] c_GatherError i ([c_NoShares, c_NoKind, c_NoNumber, c_NoNeeds, c_TooMany, c_NoPlan, c_NoLine, c_NoText].getD i 0) ∧ i < 8 := by
        simp only [List.mem_cons, List.not_mem_nil, or_false] at hi
        rcases hi with rfl | rfl | rfl
        · exact ⟨e_NoShares, by decide⟩
        · exact ⟨e_NoNumber, by decide⟩
        · exact ⟨e_NoPlan, by decide⟩
      refine ⟨hX.1.em, fun a => w_noD (w_ret ?_)⟩
      exact ev_places hX.1 hX.2 rfl (by show 5 < 6; decide) (by decide) q

abbrev s_law : Stmt := topS 53
theorem sc_law : FnScope ["_law_script", "_law_k", "_law_box_here", "_law_shares_here", "_law_some", "_law_price", "_law_no_plan", "_law_kind"] ["_law_script"] (defScope s_law) := ⟨rfl, rfl, rfl, by decide +kernel, rfl, by decide +kernel, by decide +kernel⟩
theorem ok_law {a : Addr} {fd : FuncData} (F : Fun K "law" "law" s_law a fd) (z_range : mg "range" = none) (z_max : mg "max" = none) (z_min : mg "min" = none) (z_len : mg "len" = none) (k__law_box : Cl P w K mg base 1 "_law_box" f_box2) (k__law_told : Cl P w K mg base 9 "_law_told" f_told64) (k__law_no_shares : Cl P w K mg base 2 "_law_no_shares" f_noShares) (k__law_shares : Cl P w K mg base 2 "_law_shares" f_shares2) (k__law_take : Cl P w K mg base 1 "_law_take" f_take) :
    FnG P w K mg base 10 a fd ["_law_script"] (spD K f_law) := by
  refine fnG_ok F sc_law (fun args m R h => ?_) (fun cdv A outer s H E hg hr => ⟨_, (pss_cons (ps_for PassesOwn.never rfl (pi_range1 (by rfl) z_range (pa_cons (pe_callB (cMax rfl) (by rfl) z_max (by decide +kernel) (pa_cons pe_int (pa_cons (pe_callB (cMin rfl) (by rfl) z_min (by decide +kernel) (pa_cons (pe_callB (kLen K) (by rfl) z_len (by decide +kernel) (pa_cons (pv 0) pa_nil)) (pa_cons pe_int pa_nil))) pa_nil))) pa_nil)) (pg_name (i := 1) sc_law.nd rfl (by first | exact Or.inl rfl | exact Or.inr rfl)) (pss_cons (ps_set (i := 2) sc_law.nd rfl (by first | exact Or.inl rfl | exact Or.inr rfl) (pe_cl k__law_box hr (by decide) (by rfl) (pa_cons (pv 0) (pa_cons (pv 1) pa_nil))))
      (pss_cons (ps_if (pt_cmpR (kNe K hr) (pe_lc (own := [("_law_kind", 7)]) rfl sc_law.nd (pi_range1 (by rfl) z_range (pa_cons pe_int pa_nil)) (blkOk_by (own := [("_law_kind", 7)]) (N := ["_law_script", "_law_k", "_law_box_here", "_law_shares_here", "_law_some", "_law_price", "_law_no_plan", "_law_kind"]) (sc := defScope s_law) (by decide +kernel)) (fun _ _ _ _ _ => (pg_name (i := 7) sc_law.nd rfl (by first | exact Or.inl rfl | exact Or.inr rfl))) (fun _ _ _ _ _ => pts_nil) (fun _ _ _ _ _ => (pe_cl k__law_told hr (by decide) (by rfl) (pa_cons (pv 7) (pa_cons (pe_cl k__law_no_shares hr (by decide) (by rfl) (pa_cons (pv 2) pa_nil)) (pa_cons pe_non (pa_cons pe_non pa_nil))))))) (pe_op (kMul K) (pe_lst (pa_cons (pe_lst (pa_cons pe_int pa_nil)) pa_nil)) pe_int) (nomark _)) (pss_one (ps_ret pe_bl)) pss_nil)
      (pss_cons (ps_set (i := 3) sc_law.nd rfl (by first | exact Or.inl rfl | exact Or.inr rfl) (pe_cl k__law_shares hr (by decide) (by rfl) (pa_cons (pv 2) (pa_cons pe_int pa_nil))))
      (pss_cons (ps_set (i := 4) sc_law.nd rfl (by first | exact Or.inl rfl | exact Or.inr rfl) (pe_lst (pa_cons (pe_un oNeg pe_int) (pa_cons pe_int (pa_cons pe_bl (pa_cons pe_non (pa_cons pe_str (pa_cons (pe_tup (pa_cons pe_int pa_nil)) (pa_cons (pe_tup (pa_cons pe_int (pa_cons pe_int pa_nil))) (pa_cons (pe_op (kAdd K) pe_int (pe_cl k__law_take hr (by decide) (by rfl) (pa_cons (pv 2) (pa_cons (pe_op oPow pe_int pe_int) pa_nil)))) (pa_cons (pe_op oPow pe_int pe_int) (pa_cons (pe_lst (pa_cons pe_int pa_nil)) (pa_cons pe_dnewT pa_nil)))))))))))))
      (pss_cons (ps_set (i := 5) sc_law.nd rfl (by first | exact Or.inl rfl | exact Or.inr rfl) (pe_ix (kIx K) (pv 4) (pe_cl k__law_take hr (by decide) (by rfl) (pa_cons (pv 2) (pa_cons pe_int pa_nil))) (fun _ _ => rfl)))
      (pss_cons (ps_if (pt_cmpR (kNe K hr) (pe_lc (own := [("_law_kind", 7)]) rfl sc_law.nd (pi_range1 (by rfl) z_range (pa_cons pe_int pa_nil)) (blkOk_by (own := [("_law_kind", 7)]) (N := ["_law_script", "_law_k", "_law_box_here", "_law_shares_here", "_law_some", "_law_price", "_law_no_plan", "_law_kind"]) (sc := defScope s_law) (by decide +kernel)) (fun _ _ _ _ _ => (pg_name (i := 7) sc_law.nd rfl (by first | exact Or.inl rfl | exact Or.inr rfl))) (fun _ _ _ _ _ => pts_nil) (fun _ _ _ _ _ => (pe_cl k__law_told hr (by decide) (by rfl) (pa_cons (pv 7) (pa_cons (pv 3) (pa_cons (pv 5) (pa_cons pe_non pa_nil))))))) (pe_op (kMul K) (pe_lst (pa_cons (pe_lst (pa_cons pe_int pa_nil)) pa_nil)) pe_int) (nomark _)) (pss_one (ps_ret pe_bl)) pss_nil)
      (pss_cons (ps_set (i := 6) sc_law.nd rfl (by first | exact Or.inl rfl | exact Or.inr rfl) (pe_ix (kIx K) (pe_lst (pa_cons pe_non (pa_cons pe_dnewT (pa_cons (pe_lst pa_nil) (pa_cons (pe_disp1 hr (pe_tup pa_nil) pe_str) (pa_cons pe_str (pa_cons (pe_disp1 hr (pe_tup (pa_cons pe_int pa_nil)) pe_str) (pa_cons (pe_disp1 hr (pe_tup (pa_cons pe_int pa_nil)) pe_non) (pa_cons pe_int pa_nil))))))))) (pe_cl k__law_take hr (by decide) (by rfl) (pa_cons (pv 2) (pa_cons pe_int pa_nil))) (fun _ _ => rfl)))
      (pss_cons (ps_if (PW.pt (pw_or (pt_cmpR (kNe K hr) (pe_cl k__law_told hr (by decide) (by rfl) (pa_cons pe_int (pa_cons (pv 3) (pa_cons pe_int (pa_cons (pv 6) pa_nil))))) (pe_lst (pa_cons pe_int pa_nil)) (nomark _)) (pw_or1 (pt_cmpR (kNe K hr) (pe_cl k__law_told hr (by decide) (by rfl) (pa_cons pe_int (pa_cons (pv 3) (pa_cons (pv 5) (pa_cons (pv 6) pa_nil))))) (pe_lst (pa_cons pe_int pa_nil)) (nomark _))))) (pss_one (ps_ret pe_bl)) pss_nil)
      (pss_one (ps_if (pt_cmpR (kNe K hr) (pe_lc (own := [("_law_kind", 7)]) rfl sc_law.nd (kiT K (pe_tup (pa_cons pe_int (pa_cons pe_int (pa_cons pe_int (pa_cons pe_int pa_nil)))))) (blkOk_by (own := [("_law_kind", 7)]) (N := ["_law_script", "_law_k", "_law_box_here", "_law_shares_here", "_law_some", "_law_price", "_law_no_plan", "_law_kind"]) (sc := defScope s_law) (by decide +kernel)) (fun _ _ _ _ _ => (pg_name (i := 7) sc_law.nd rfl (by first | exact Or.inl rfl | exact Or.inr rfl))) (fun _ _ _ _ _ => pts_nil) (fun _ _ _ _ _ => (pe_cl k__law_told hr (by decide) (by rfl) (pa_cons (pv 7) (pa_cons (pv 3) (pa_cons pe_int (pa_cons (pv 6) pa_nil))))))) (pe_op (kMul K) (pe_lst (pa_cons (pe_lst pa_nil) pa_nil)) pe_int) (nomark _)) (pss_one (ps_ret pe_bl)) pss_nil)))))))))))
      (pss_one (ps_ret pe_bl))), fun args m R h => ?_⟩)
  ·
    obtain ⟨_, rfl, _⟩ := h; rfl
  ·
    obtain ⟨ns, rfl, q⟩ := h
    walk_at "go"
    obtain ⟨n, hn, hn6⟩ : ∃ n : Nat, max (1 : Int) (min (ns.length : Int) 4) = (n : Int) ∧ n ≤ 4 := ⟨(max (1 : Int) (min (ns.length : Int) 4)).toNat, by omega, by omega⟩
    
    refine w_forR1 (n := n) ?_ (by omega) (fun i r' m' => ∃ y1 y2 y3 y4 y5 y6 y7, r' = [.scr ns, y1, y2, y3, y4, y5, y6, y7]) ⟨_, _, _, _, _, _, _, rfl⟩ ?_ ?_
    · walk_at "go"
      exact ⟨by rw [hn], rfl⟩
    · rintro i r' m' hi ⟨y1, y2, y3, y4, y5, y6, y7, rfl⟩
      walk_at "go"
      refine ⟨by omega, ?_⟩
      intro p hp
      have hpb := put_same (m := m') (a := p) (o := .box)
      generalize put m' p .box = M at *
      walk_at "go"
      refine ev_mapR1 (n := 5) ?_ (by decide) (fun _ => plcs (some 0)) (fun k m2 hk hx => ?_) ?_
      · walk_at "go"
        exact ⟨rfl, rfl⟩
      · walk_at "go"
        refine ⟨hx _ _ hpb, fun d hd => ?_⟩
        walk_at "go"
        exact ⟨(k : Int), d, .none, _, some 0, rfl, Or.inl ⟨_, rfl⟩, Or.inl ⟨hd, by omega, by omega, rfl⟩, rfl, rfl⟩
      refine ev_reps (i := 0) (n := 5) (by decide) (o2_neRep ?_)
      walk_at "go"
      refine br_f rfl (w_next ?_)
      walk_at "go"
      refine ⟨hpb, by decide, by decide, fun ss hs hl => ?_⟩
      have h5 := hs.few
      have h1 := hs.pos
      walk_at "go"
      refine ev_lstD ?_
      walk_at "go"
      refine o2_pow ⟨by decide, by decide, by decide⟩ ?_
      walk_at "go"
      refine ⟨hpb, by decide, bt_lit (n := 30) (by decide) (by decide), fun z3 h30 h31 => ?_⟩
      walk_at "go"
      refine o2_pow ⟨by decide, by decide, by decide⟩ ?_
      walk_at "go"
      refine ev_lstD ?_
      walk_at "go"
      refine ev_dnewD (eva_nil ⟨[_, _, _, _, _, _, _, _, _, _, _], rfl, by show 11 ≤ 100000; decide, ?_⟩)
      walk_at "go"
      refine ⟨hpb, by decide, bt_lit (n := 4) (by decide) (by decide), fun z4 h40 h41 => ?_⟩
      refine o2_ixLx h40 h41 fun d3 hd3 => ?_
      have n1 := num64 h30 (by decide) d3 hd3
      walk_at "go"
      refine ev_mapR1 (n := 4) ?_ (by decide) (fun _ => plcs (some 2)) (fun k m2 hk hx => ?_) ?_
      · walk_at "go"
        exact ⟨rfl, rfl⟩
      · walk_at "go"
        exact ⟨(k : Int), tupI ss, d3, _, some 2, rfl, Or.inl ⟨_, rfl⟩, Or.inr ⟨ss, rfl, hs, Or.inl ⟨by omega, by omega, n1, rfl⟩⟩, rfl, rfl⟩
      refine ev_reps (i := 2) (n := 4) (by decide) (o2_neRep ?_)
      walk_at "go"
      refine br_f rfl (w_next ?_)
      -- things that are no plans
      refine w_seq (w_asg (ev_op (ev_lstM ?_)))
      walk_at "go"
      refine ev_dnew fun e1 he1 => ?_
      walk_at "go"
      refine ev_lstD (eva_nil ⟨[], rfl, by decide, ?_⟩)
      walk_at "go"
      refine ev_disp1 fun e2 he2 => ev_tupT (eva_nil ⟨[], rfl, by decide, _, rfl, ev_cS ⟨put_same, ?_⟩⟩)
      rw [put_put]
      walk_at "go"
      refine ev_disp1 fun e3 he3 => ev_tupT (eva_cons (ev_cI (eva_nil ⟨[0], rfl, by decide, _, rfl, ev_cS ⟨put_same, ?_⟩⟩)))
      rw [put_put]
      walk_at "go"
      refine ev_disp1 fun e4 he4 => ev_tupT (eva_cons (ev_cI (eva_nil ⟨[0], rfl, by decide, _, rfl, ev_cN ⟨put_same, ?_⟩⟩)))
      rw [put_put]
      walk_at "go"
      refine ⟨by show 8 ≤ 100000; decide, fun l hl => ?_⟩
      have k1 : ∀ a o, M a = some o → put M e1 (.dT []) a = some o := put_less he1
      have k2 : ∀ a o, put M e1 (.dT []) a = some o → put (put M e1 (.dT [])) e2 (.dT [(kI [], .d (.str "draw"))]) a = some o := put_less he2
      have k3 : ∀ a o, put (put M e1 (.dT [])) e2 (.dT [(kI [], .d (.str "draw"))]) a = some o → put (put (put M e1 (.dT [])) e2 (.dT [(kI [], .d (.str "draw"))])) e3 (.dT [(kI [0], .d (.str "Buy"))]) a = some o := put_less he3
      have k4 : ∀ a o, put (put (put M e1 (.dT [])) e2 (.dT [(kI [], .d (.str "draw"))])) e3 (.dT [(kI [0], .d (.str "Buy"))]) a = some o → put (put (put (put M e1 (.dT [])) e2 (.dT [(kI [], .d (.str "draw"))])) e3 (.dT [(kI [0], .d (.str "Buy"))])) e4 (.dT [(kI [0], .d .none)]) a = some o := put_less he4
      have g1 : put (put (put (put M e1 (.dT [])) e2 (.dT [(kI [], .d (.str "draw"))])) e3 (.dT [(kI [0], .d (.str "Buy"))])) e4 (.dT [(kI [0], .d .none)]) e1 = some (.dT []) := k4 _ _ (k3 _ _ (k2 _ _ put_same))
      have g2 : put (put (put (put M e1 (.dT [])) e2 (.dT [(kI [], .d (.str "draw"))])) e3 (.dT [(kI [0], .d (.str "Buy"))])) e4 (.dT [(kI [0], .d .none)]) e2 = some (.dT [(kI [], .d (.str "draw"))]) := k4 _ _ (k3 _ _ put_same)
      have g3 : put (put (put (put M e1 (.dT [])) e2 (.dT [(kI [], .d (.str "draw"))])) e3 (.dT [(kI [0], .d (.str "Buy"))])) e4 (.dT [(kI [0], .d .none)]) e3 = some (.dT [(kI [0], .d (.str "Buy"))]) := k4 _ _ put_same
      have g4 : put (put (put (put M e1 (.dT [])) e2 (.dT [(kI [], .d (.str "draw"))])) e3 (.dT [(kI [0], .d (.str "Buy"))])) e4 (.dT [(kI [0], .d .none)]) e4 = some (.dT [(kI [0], .d .none)]) := put_same
      have g0 := k4 _ _ (k3 _ _ (k2 _ _ (k1 _ _ hpb)))
      generalize put (put (put (put M e1 (.dT [])) e2 (.dT [(kI [], .d (.str "draw"))])) e3 (.dT [(kI [0], .d (.str "Buy"))])) e4 (.dT [(kI [0], .d .none)]) = M4 at *
      have k5 : ∀ a o, M4 a = some o → put M4 l (.lst [.d .none, .v (.ref e1), .d (.list []), .v (.ref e2), .d (.str "draw"), .v (.ref e3), .v (.ref e4), .d (.int 0)]) a = some o := put_less hl
      walk_at "go"
      refine ⟨k5 _ _ g0, by decide, bt_lit (n := 4) (by decide) (by decide), fun z5 h50 h51 => ?_⟩
      obtain ⟨kk, rfl⟩ : ∃ k : Nat, z5 = (k : Int) := ⟨z5.toNat, by omega⟩
      obtain ⟨y, hy1, hy2⟩ : ∃ y, ([.d .none, .v (.ref e1), .d (.list []), .v (.ref e2), .d (.str "draw"), .v (.ref e3), .v (.ref e4), .d (.int 0)] : List Val)[kk]? = some y ∧ NoPl M4 y := by
        have : kk = 0 ∨ kk = 1 ∨ kk = 2 ∨ kk = 3 ∨ kk = 4 ∨ kk = 5 ∨ kk = 6 ∨ kk = 7 := by omega
        rcases this with rfl | rfl | rfl | rfl | rfl | rfl | rfl | rfl
        · exact ⟨_, rfl, Or.inl ⟨_, rfl, rfl⟩⟩
        · exact ⟨_, rfl, Or.inr ⟨e1, [], rfl, g1, Or.inl rfl⟩⟩
        · exact ⟨_, rfl, Or.inl ⟨_, rfl, rfl⟩⟩
        · exact ⟨_, rfl, Or.inr ⟨e2, [([], .d (.str "draw"))], rfl, g2, Or.inr (Or.inl rfl)⟩⟩
        · exact ⟨_, rfl, Or.inl ⟨_, rfl, rfl⟩⟩
        · exact ⟨_, rfl, Or.inr ⟨e3, [([0], .d (.str "Buy"))], rfl, g3, Or.inr (Or.inr (Or.inl rfl))⟩⟩
        · exact ⟨_, rfl, Or.inr ⟨e4, [([0], .d .none)], rfl, g4, Or.inr (Or.inr (Or.inr rfl))⟩⟩
        · exact ⟨_, rfl, Or.inl ⟨_, rfl, rfl⟩⟩
      refine o2_ixM put_same hy1 ?_
      have hyv := hy2.yv
      have hy3 := hy2.less k5
      generalize put M4 l (.lst [.d .none, .v (.ref e1), .d (.list []), .v (.ref e2), .d (.str "draw"), .v (.ref e3), .v (.ref e4), .d (.int 0)]) = M5 at *
      rcases id hyv with ⟨yd, rfl⟩ | ⟨yp, rfl⟩
      all_goals
        walk_at "go"
        refine ⟨0, tupI ss, .int 99, _, some 5, rfl, hyv, Or.inr ⟨ss, rfl, hs, Or.inr (Or.inl ⟨rfl, rfl, hy3, rfl⟩)⟩, ?_⟩
        walk_at "go"
        refine o2_nePl (i := 5) ?_
        walk_at "go"
        refine br_f rfl ?_
        walk_at "go"
        refine ⟨0, tupI ss, d3, _, some 2, rfl, hyv, Or.inr ⟨ss, rfl, hs, Or.inl ⟨by decide, by decide, n1, rfl⟩⟩, ?_⟩
        walk_at "go"
        refine o2_nePl (i := 2) ?_
        walk_at "go"
        refine br_f rfl (w_next ?_)
        walk_at "go"
        refine ev_mapTf (xs := [1, 2, 3, 4]) (f := intN) ?_ (by decide) (fun _ => plcs none) (fun k m2 hk hx => ?_) ?_
        · walk_at "go"
          exact ⟨[_, _, _, _], rfl, by show 4 ≤ 100000; decide, rfl, rfl⟩
        · have hk4 : 1 ≤ k ∧ k ≤ 4 := by
            simp only [List.mem_cons, List.not_mem_nil, or_false] at hk
            omega
          walk_at "go"
          exact ⟨(k : Int), tupI ss, .int 0, _, none, rfl, hyv, Or.inr ⟨ss, rfl, hs, Or.inr (Or.inr ⟨by omega, by omega, ⟨0, rfl, by decide⟩, hy3.less hx, rfl⟩)⟩, rfl, rfl⟩
        refine ev_reps0 (n := 4) (by decide) ?_
        refine o2_neSame (d := .list (List.replicate 4 (plcs none))) (shaped_rep none 4) ?_
        walk_at "go"
        refine br_f rfl (w_next ?_)
        exact ⟨_, _, _, _, _, _, _, rfl⟩
    · rintro r' m' ⟨y1, y2, y3, y4, y5, y6, y7, rfl⟩
      walk_at "go"
      exact q _

end
theorem law_ends : ∀ ns : List Int, ns.length ≤ 63 → (∀ z ∈ ns, Builtin.Int.intBits z ≤ 1048576) → f_law [.scr ns] (fun _ => none) fun y _ => y = .d (.bool true) := fun ns _ _ => ⟨ns, rfl, fun _ => rfl⟩
section
variable {P : Program} {w : World} {K : PySem.W.Frag} {mg : Str → Option Value}
theorem all_mk {h : Heap} {fa : Addr} (X : K.In h) (G : h.Ns mainGlobals mg) (hfa : mg "law" = some (.ref fa))
    {od1 an1 : Option Addr} {sl1 : Array (Option Value)} {f1 : Addr} {oc1 kV1 dc1 pm1 cd1 ct1 : Value}
    (a1 : PySem.W.nsIn K mainGlobals "is_whole" = some (some (.ref f1))) (l1 : K.lookup f1 = some ⟨oc1, od1, .func (PySem.W.fnOf "is_whole" "is_whole" (defArgs s_is_whole) (defBody s_is_whole) (defScope s_is_whole) .none kV1 dc1 pm1 an1 cd1 ct1), sl1⟩) (c1 : PySem.W.codeIn K cd1 "is_whole" = true) (k1 : PySem.W.keepIn K (.ref f1) = true)
    {od2 an2 : Option Addr} {sl2 : Array (Option Value)} {f2 : Addr} {oc2 kV2 dc2 pm2 cd2 ct2 : Value}
    (a2 : PySem.W.nsIn K mainGlobals "greatest_common" = some (some (.ref f2))) (l2 : K.lookup f2 = some ⟨oc2, od2, .func (PySem.W.fnOf "greatest_common" "greatest_common" (defArgs s_greatest_common) (defBody s_greatest_common) (defScope s_greatest_common) .none kV2 dc2 pm2 an2 cd2 ct2), sl2⟩) (c2 : PySem.W.codeIn K cd2 "greatest_common" = true) (k2 : PySem.W.keepIn K (.ref f2) = true)
    {od3 an3 : Option Addr} {sl3 : Array (Option Value)} {f3 : Addr} {oc3 kV3 dc3 pm3 cd3 ct3 : Value}
    (a3 : PySem.W.nsIn K mainGlobals "below" = some (some (.ref f3))) (l3 : K.lookup f3 = some ⟨oc3, od3, .func (PySem.W.fnOf "below" "below" (defArgs s_below) (defBody s_below) (defScope s_below) .none kV3 dc3 pm3 an3 cd3 ct3), sl3⟩) (c3 : PySem.W.codeIn K cd3 "below" = true) (k3 : PySem.W.keepIn K (.ref f3) = true)
    {od4 an4 : Option Addr} {sl4 : Array (Option Value)} {f4 : Addr} {oc4 kV4 dc4 pm4 cd4 ct4 : Value}
    (a4 : PySem.W.nsIn K mainGlobals "sum_part" = some (some (.ref f4))) (l4 : K.lookup f4 = some ⟨oc4, od4, .func (PySem.W.fnOf "sum_part" "sum_part" (defArgs s_sum_part) (defBody s_sum_part) (defScope s_sum_part) .none kV4 dc4 pm4 an4 cd4 ct4), sl4⟩) (c4 : PySem.W.codeIn K cd4 "sum_part" = true) (k4 : PySem.W.keepIn K (.ref f4) = true)
    {od5 an5 : Option Addr} {sl5 : Array (Option Value)} {f5 : Addr} {oc5 kV5 dc5 pm5 cd5 ct5 : Value}
    (a5 : PySem.W.nsIn K mainGlobals "all_some" = some (some (.ref f5))) (l5 : K.lookup f5 = some ⟨oc5, od5, .func (PySem.W.fnOf "all_some" "all_some" (defArgs s_all_some) (defBody s_all_some) (defScope s_all_some) .none kV5 dc5 pm5 an5 cd5 ct5), sl5⟩) (c5 : PySem.W.codeIn K cd5 "all_some" = true) (k5 : PySem.W.keepIn K (.ref f5) = true)
    {od6 an6 : Option Addr} {sl6 : Array (Option Value)} {f6 : Addr} {oc6 kV6 dc6 pm6 cd6 ct6 : Value}
    (a6 : PySem.W.nsIn K mainGlobals "_law_box" = some (some (.ref f6))) (l6 : K.lookup f6 = some ⟨oc6, od6, .func (PySem.W.fnOf "_law_box" "_law_box" (defArgs s__law_box) (defBody s__law_box) (defScope s__law_box) .none kV6 dc6 pm6 an6 cd6 ct6), sl6⟩) (c6 : PySem.W.codeIn K cd6 "_law_box" = true) (k6 : PySem.W.keepIn K (.ref f6) = true)
    {od7 an7 : Option Addr} {sl7 : Array (Option Value)} {f7 : Addr} {oc7 kV7 dc7 pm7 cd7 ct7 : Value}
    (a7 : PySem.W.nsIn K mainGlobals "_law_take" = some (some (.ref f7))) (l7 : K.lookup f7 = some ⟨oc7, od7, .func (PySem.W.fnOf "_law_take" "_law_take" (defArgs s__law_take) (defBody s__law_take) (defScope s__law_take) .none kV7 dc7 pm7 an7 cd7 ct7), sl7⟩) (c7 : PySem.W.codeIn K cd7 "_law_take" = true) (k7 : PySem.W.keepIn K (.ref f7) = true)
    {od8 an8 : Option Addr} {sl8 : Array (Option Value)} {f8 : Addr} {oc8 kV8 dc8 pm8 cd8 ct8 : Value}
    (a8 : PySem.W.nsIn K mainGlobals "_law_classes" = some (some (.ref f8))) (l8 : K.lookup f8 = some ⟨oc8, od8, .func (PySem.W.fnOf "_law_classes" "_law_classes" (defArgs s__law_classes) (defBody s__law_classes) (defScope s__law_classes) .none kV8 dc8 pm8 an8 cd8 ct8), sl8⟩) (c8 : PySem.W.codeIn K cd8 "_law_classes" = true) (k8 : PySem.W.keepIn K (.ref f8) = true)
    {od9 an9 : Option Addr} {sl9 : Array (Option Value)} {f9 : Addr} {oc9 kV9 dc9 pm9 cd9 ct9 : Value}
    (a9 : PySem.W.nsIn K mainGlobals "made" = some (some (.ref f9))) (l9 : K.lookup f9 = some ⟨oc9, od9, .func (PySem.W.fnOf "made" "made" (defArgs s_made) (defBody s_made) (defScope s_made) .none kV9 dc9 pm9 an9 cd9 ct9), sl9⟩) (c9 : PySem.W.codeIn K cd9 "made" = true) (k9 : PySem.W.keepIn K (.ref f9) = true)
    {od10 an10 : Option Addr} {sl10 : Array (Option Value)} {f10 : Addr} {oc10 kV10 dc10 pm10 cd10 ct10 : Value}
    (a10 : PySem.W.nsIn K mainGlobals "need_number" = some (some (.ref f10))) (l10 : K.lookup f10 = some ⟨oc10, od10, .func (PySem.W.fnOf "need_number" "need_number" (defArgs s_need_number) (defBody s_need_number) (defScope s_need_number) .none kV10 dc10 pm10 an10 cd10 ct10), sl10⟩) (c10 : PySem.W.codeIn K cd10 "need_number" = true) (k10 : PySem.W.keepIn K (.ref f10) = true)
    {od11 an11 : Option Addr} {sl11 : Array (Option Value)} {f11 : Addr} {oc11 kV11 dc11 pm11 cd11 ct11 : Value}
    (a11 : PySem.W.nsIn K mainGlobals "is_shares" = some (some (.ref f11))) (l11 : K.lookup f11 = some ⟨oc11, od11, .func (PySem.W.fnOf "is_shares" "is_shares" (defArgs s_is_shares) (defBody s_is_shares) (defScope s_is_shares) .none kV11 dc11 pm11 an11 cd11 ct11), sl11⟩) (c11 : PySem.W.codeIn K cd11 "is_shares" = true) (k11 : PySem.W.keepIn K (.ref f11) = true)
    {od12 an12 : Option Addr} {sl12 : Array (Option Value)} {f12 : Addr} {oc12 kV12 dc12 pm12 cd12 ct12 : Value}
    (a12 : PySem.W.nsIn K mainGlobals "are_kinds" = some (some (.ref f12))) (l12 : K.lookup f12 = some ⟨oc12, od12, .func (PySem.W.fnOf "are_kinds" "are_kinds" (defArgs s_are_kinds) (defBody s_are_kinds) (defScope s_are_kinds) .none kV12 dc12 pm12 an12 cd12 ct12), sl12⟩) (c12 : PySem.W.codeIn K cd12 "are_kinds" = true) (k12 : PySem.W.keepIn K (.ref f12) = true)
    {od13 an13 : Option Addr} {sl13 : Array (Option Value)} {f13 : Addr} {oc13 kV13 dc13 pm13 cd13 ct13 : Value}
    (a13 : PySem.W.nsIn K mainGlobals "rising_some" = some (some (.ref f13))) (l13 : K.lookup f13 = some ⟨oc13, od13, .func (PySem.W.fnOf "rising_some" "rising_some" (defArgs s_rising_some) (defBody s_rising_some) (defScope s_rising_some) .none kV13 dc13 pm13 an13 cd13 ct13), sl13⟩) (c13 : PySem.W.codeIn K cd13 "rising_some" = true) (k13 : PySem.W.keepIn K (.ref f13) = true)
    {od14 an14 : Option Addr} {sl14 : Array (Option Value)} {f14 : Addr} {oc14 kV14 dc14 pm14 cd14 ct14 : Value}
    (a14 : PySem.W.nsIn K mainGlobals "lesser" = some (some (.ref f14))) (l14 : K.lookup f14 = some ⟨oc14, od14, .func (PySem.W.fnOf "lesser" "lesser" (defArgs s_lesser) (defBody s_lesser) (defScope s_lesser) .none kV14 dc14 pm14 an14 cd14 ct14), sl14⟩) (c14 : PySem.W.codeIn K cd14 "lesser" = true) (k14 : PySem.W.keepIn K (.ref f14) = true)
    {od15 an15 : Option Addr} {sl15 : Array (Option Value)} {f15 : Addr} {oc15 kV15 dc15 pm15 cd15 ct15 : Value}
    (a15 : PySem.W.nsIn K mainGlobals "_law_shares" = some (some (.ref f15))) (l15 : K.lookup f15 = some ⟨oc15, od15, .func (PySem.W.fnOf "_law_shares" "_law_shares" (defArgs s__law_shares) (defBody s__law_shares) (defScope s__law_shares) .none kV15 dc15 pm15 an15 cd15 ct15), sl15⟩) (c15 : PySem.W.codeIn K cd15 "_law_shares" = true) (k15 : PySem.W.keepIn K (.ref f15) = true)
    {od16 an16 : Option Addr} {sl16 : Array (Option Value)} {f16 : Addr} {oc16 kV16 dc16 pm16 cd16 ct16 : Value}
    (a16 : PySem.W.nsIn K mainGlobals "_law_no_shares" = some (some (.ref f16))) (l16 : K.lookup f16 = some ⟨oc16, od16, .func (PySem.W.fnOf "_law_no_shares" "_law_no_shares" (defArgs s__law_no_shares) (defBody s__law_no_shares) (defScope s__law_no_shares) .none kV16 dc16 pm16 an16 cd16 ct16), sl16⟩) (c16 : PySem.W.codeIn K cd16 "_law_no_shares" = true) (k16 : PySem.W.keepIn K (.ref f16) = true)
    {od17 an17 : Option Addr} {sl17 : Array (Option Value)} {f17 : Addr} {oc17 kV17 dc17 pm17 cd17 ct17 : Value}
    (a17 : PySem.W.nsIn K mainGlobals "_law_only" = some (some (.ref f17))) (l17 : K.lookup f17 = some ⟨oc17, od17, .func (PySem.W.fnOf "_law_only" "_law_only" (defArgs s__law_only) (defBody s__law_only) (defScope s__law_only) .none kV17 dc17 pm17 an17 cd17 ct17), sl17⟩) (c17 : PySem.W.codeIn K cd17 "_law_only" = true) (k17 : PySem.W.keepIn K (.ref f17) = true)
    {od18 an18 : Option Addr} {sl18 : Array (Option Value)} {f18 : Addr} {oc18 kV18 dc18 pm18 cd18 ct18 : Value}
    (a18 : PySem.W.nsIn K mainGlobals "is_fraction" = some (some (.ref f18))) (l18 : K.lookup f18 = some ⟨oc18, od18, .func (PySem.W.fnOf "is_fraction" "is_fraction" (defArgs s_is_fraction) (defBody s_is_fraction) (defScope s_is_fraction) .none kV18 dc18 pm18 an18 cd18 ct18), sl18⟩) (c18 : PySem.W.codeIn K cd18 "is_fraction" = true) (k18 : PySem.W.keepIn K (.ref f18) = true)
    {od19 an19 : Option Addr} {sl19 : Array (Option Value)} {f19 : Addr} {oc19 kV19 dc19 pm19 cd19 ct19 : Value}
    (a19 : PySem.W.nsIn K mainGlobals "sum_of" = some (some (.ref f19))) (l19 : K.lookup f19 = some ⟨oc19, od19, .func (PySem.W.fnOf "sum_of" "sum_of" (defArgs s_sum_of) (defBody s_sum_of) (defScope s_sum_of) .none kV19 dc19 pm19 an19 cd19 ct19), sl19⟩) (c19 : PySem.W.codeIn K cd19 "sum_of" = true) (k19 : PySem.W.keepIn K (.ref f19) = true)
    {od20 an20 : Option Addr} {sl20 : Array (Option Value)} {f20 : Addr} {oc20 kV20 dc20 pm20 cd20 ct20 : Value}
    (a20 : PySem.W.nsIn K mainGlobals "times_of" = some (some (.ref f20))) (l20 : K.lookup f20 = some ⟨oc20, od20, .func (PySem.W.fnOf "times_of" "times_of" (defArgs s_times_of) (defBody s_times_of) (defScope s_times_of) .none kV20 dc20 pm20 an20 cd20 ct20), sl20⟩) (c20 : PySem.W.codeIn K cd20 "times_of" = true) (k20 : PySem.W.keepIn K (.ref f20) = true)
    {od21 an21 : Option Addr} {sl21 : Array (Option Value)} {f21 : Addr} {oc21 kV21 dc21 pm21 cd21 ct21 : Value}
    (a21 : PySem.W.nsIn K mainGlobals "need_shares" = some (some (.ref f21))) (l21 : K.lookup f21 = some ⟨oc21, od21, .func (PySem.W.fnOf "need_shares" "need_shares" (defArgs s_need_shares) (defBody s_need_shares) (defScope s_need_shares) .none kV21 dc21 pm21 an21 cd21 ct21), sl21⟩) (c21 : PySem.W.codeIn K cd21 "need_shares" = true) (k21 : PySem.W.keepIn K (.ref f21) = true)
    {od22 an22 : Option Addr} {sl22 : Array (Option Value)} {f22 : Addr} {oc22 kV22 dc22 pm22 cd22 ct22 : Value}
    (a22 : PySem.W.nsIn K mainGlobals "are_plans" = some (some (.ref f22))) (l22 : K.lookup f22 = some ⟨oc22, od22, .func (PySem.W.fnOf "are_plans" "are_plans" (defArgs s_are_plans) (defBody s_are_plans) (defScope s_are_plans) .none kV22 dc22 pm22 an22 cd22 ct22), sl22⟩) (c22 : PySem.W.codeIn K cd22 "are_plans" = true) (k22 : PySem.W.keepIn K (.ref f22) = true)
    {od23 an23 : Option Addr} {sl23 : Array (Option Value)} {f23 : Addr} {oc23 kV23 dc23 pm23 cd23 ct23 : Value}
    (a23 : PySem.W.nsIn K mainGlobals "due_number" = some (some (.ref f23))) (l23 : K.lookup f23 = some ⟨oc23, od23, .func (PySem.W.fnOf "due_number" "due_number" (defArgs s_due_number) (defBody s_due_number) (defScope s_due_number) .none kV23 dc23 pm23 an23 cd23 ct23), sl23⟩) (c23 : PySem.W.codeIn K cd23 "due_number" = true) (k23 : PySem.W.keepIn K (.ref f23) = true)
    {od24 an24 : Option Addr} {sl24 : Array (Option Value)} {f24 : Addr} {oc24 kV24 dc24 pm24 cd24 ct24 : Value}
    (a24 : PySem.W.nsIn K mainGlobals "is_paper" = some (some (.ref f24))) (l24 : K.lookup f24 = some ⟨oc24, od24, .func (PySem.W.fnOf "is_paper" "is_paper" (defArgs s_is_paper) (defBody s_is_paper) (defScope s_is_paper) .none kV24 dc24 pm24 an24 cd24 ct24), sl24⟩) (c24 : PySem.W.codeIn K cd24 "is_paper" = true) (k24 : PySem.W.keepIn K (.ref f24) = true)
    {od25 an25 : Option Addr} {sl25 : Array (Option Value)} {f25 : Addr} {oc25 kV25 dc25 pm25 cd25 ct25 : Value}
    (a25 : PySem.W.nsIn K mainGlobals "is_plan" = some (some (.ref f25))) (l25 : K.lookup f25 = some ⟨oc25, od25, .func (PySem.W.fnOf "is_plan" "is_plan" (defArgs s_is_plan) (defBody s_is_plan) (defScope s_is_plan) .none kV25 dc25 pm25 an25 cd25 ct25), sl25⟩) (c25 : PySem.W.codeIn K cd25 "is_plan" = true) (k25 : PySem.W.keepIn K (.ref f25) = true)
    {od26 an26 : Option Addr} {sl26 : Array (Option Value)} {f26 : Addr} {oc26 kV26 dc26 pm26 cd26 ct26 : Value}
    (a26 : PySem.W.nsIn K mainGlobals "need_price" = some (some (.ref f26))) (l26 : K.lookup f26 = some ⟨oc26, od26, .func (PySem.W.fnOf "need_price" "need_price" (defArgs s_need_price) (defBody s_need_price) (defScope s_need_price) .none kV26 dc26 pm26 an26 cd26 ct26), sl26⟩) (c26 : PySem.W.codeIn K cd26 "need_price" = true) (k26 : PySem.W.keepIn K (.ref f26) = true)
    {od27 an27 : Option Addr} {sl27 : Array (Option Value)} {f27 : Addr} {oc27 kV27 dc27 pm27 cd27 ct27 : Value}
    (a27 : PySem.W.nsIn K mainGlobals "plan_cost" = some (some (.ref f27))) (l27 : K.lookup f27 = some ⟨oc27, od27, .func (PySem.W.fnOf "plan_cost" "plan_cost" (defArgs s_plan_cost) (defBody s_plan_cost) (defScope s_plan_cost) .none kV27 dc27 pm27 an27 cd27 ct27), sl27⟩) (c27 : PySem.W.codeIn K cd27 "plan_cost" = true) (k27 : PySem.W.keepIn K (.ref f27) = true)
    {od28 an28 : Option Addr} {sl28 : Array (Option Value)} {f28 : Addr} {oc28 kV28 dc28 pm28 cd28 ct28 : Value}
    (a28 : PySem.W.nsIn K mainGlobals "costs_of" = some (some (.ref f28))) (l28 : K.lookup f28 = some ⟨oc28, od28, .func (PySem.W.fnOf "costs_of" "costs_of" (defArgs s_costs_of) (defBody s_costs_of) (defScope s_costs_of) .none kV28 dc28 pm28 an28 cd28 ct28), sl28⟩) (c28 : PySem.W.codeIn K cd28 "costs_of" = true) (k28 : PySem.W.keepIn K (.ref f28) = true)
    {od29 an29 : Option Addr} {sl29 : Array (Option Value)} {f29 : Addr} {oc29 kV29 dc29 pm29 cd29 ct29 : Value}
    (a29 : PySem.W.nsIn K mainGlobals "is_cost_paper" = some (some (.ref f29))) (l29 : K.lookup f29 = some ⟨oc29, od29, .func (PySem.W.fnOf "is_cost_paper" "is_cost_paper" (defArgs s_is_cost_paper) (defBody s_is_cost_paper) (defScope s_is_cost_paper) .none kV29 dc29 pm29 an29 cd29 ct29), sl29⟩) (c29 : PySem.W.codeIn K cd29 "is_cost_paper" = true) (k29 : PySem.W.keepIn K (.ref f29) = true)
    {od30 an30 : Option Addr} {sl30 : Array (Option Value)} {f30 : Addr} {oc30 kV30 dc30 pm30 cd30 ct30 : Value}
    (a30 : PySem.W.nsIn K mainGlobals "cost_paper" = some (some (.ref f30))) (l30 : K.lookup f30 = some ⟨oc30, od30, .func (PySem.W.fnOf "cost_paper" "cost_paper" (defArgs s_cost_paper) (defBody s_cost_paper) (defScope s_cost_paper) .none kV30 dc30 pm30 an30 cd30 ct30), sl30⟩) (c30 : PySem.W.codeIn K cd30 "cost_paper" = true) (k30 : PySem.W.keepIn K (.ref f30) = true)
    {od31 an31 : Option Addr} {sl31 : Array (Option Value)} {f31 : Addr} {oc31 kV31 dc31 pm31 cd31 ct31 : Value}
    (a31 : PySem.W.nsIn K mainGlobals "plan_of" = some (some (.ref f31))) (l31 : K.lookup f31 = some ⟨oc31, od31, .func (PySem.W.fnOf "plan_of" "plan_of" (defArgs s_plan_of) (defBody s_plan_of) (defScope s_plan_of) .none kV31 dc31 pm31 an31 cd31 ct31), sl31⟩) (c31 : PySem.W.codeIn K cd31 "plan_of" = true) (k31 : PySem.W.keepIn K (.ref f31) = true)
    {od32 an32 : Option Addr} {sl32 : Array (Option Value)} {f32 : Addr} {oc32 kV32 dc32 pm32 cd32 ct32 : Value}
    (a32 : PySem.W.nsIn K mainGlobals "plan_for" = some (some (.ref f32))) (l32 : K.lookup f32 = some ⟨oc32, od32, .func (PySem.W.fnOf "plan_for" "plan_for" (defArgs s_plan_for) (defBody s_plan_for) (defScope s_plan_for) .none kV32 dc32 pm32 an32 cd32 ct32), sl32⟩) (c32 : PySem.W.codeIn K cd32 "plan_for" = true) (k32 : PySem.W.keepIn K (.ref f32) = true)
    {od33 an33 : Option Addr} {sl33 : Array (Option Value)} {f33 : Addr} {oc33 kV33 dc33 pm33 cd33 ct33 : Value}
    (a33 : PySem.W.nsIn K mainGlobals "_law_asked" = some (some (.ref f33))) (l33 : K.lookup f33 = some ⟨oc33, od33, .func (PySem.W.fnOf "_law_asked" "_law_asked" (defArgs s__law_asked) (defBody s__law_asked) (defScope s__law_asked) .none kV33 dc33 pm33 an33 cd33 ct33), sl33⟩) (c33 : PySem.W.codeIn K cd33 "_law_asked" = true) (k33 : PySem.W.keepIn K (.ref f33) = true)
    {od34 an34 : Option Addr} {sl34 : Array (Option Value)} {f34 : Addr} {oc34 kV34 dc34 pm34 cd34 ct34 : Value}
    (a34 : PySem.W.nsIn K mainGlobals "_law_told" = some (some (.ref f34))) (l34 : K.lookup f34 = some ⟨oc34, od34, .func (PySem.W.fnOf "_law_told" "_law_told" (defArgs s__law_told) (defBody s__law_told) (defScope s__law_told) .none kV34 dc34 pm34 an34 cd34 ct34), sl34⟩) (c34 : PySem.W.codeIn K cd34 "_law_told" = true) (k34 : PySem.W.keepIn K (.ref f34) = true)
    {od35 an35 : Option Addr} {sl35 : Array (Option Value)} {f35 : Addr} {oc35 kV35 dc35 pm35 cd35 ct35 : Value}
    (a35 : PySem.W.nsIn K mainGlobals "law" = some (some (.ref f35))) (l35 : K.lookup f35 = some ⟨oc35, od35, .func (PySem.W.fnOf "law" "law" (defArgs s_law) (defBody s_law) (defScope s_law) .none kV35 dc35 pm35 an35 cd35 ct35), sl35⟩) (c35 : PySem.W.codeIn K cd35 "law" = true) (k35 : PySem.W.keepIn K (.ref f35) = true)
    (z_ValueError : PySem.W.nsIn K mainGlobals "ValueError" = some none)
    (z_abs : PySem.W.nsIn K mainGlobals "abs" = some none)
    (z_all : PySem.W.nsIn K mainGlobals "all" = some none)
    (z_bool : PySem.W.nsIn K mainGlobals "bool" = some none)
    (z_dict : PySem.W.nsIn K mainGlobals "dict" = some none)
    (z_divmod : PySem.W.nsIn K mainGlobals "divmod" = some none)
    (z_int : PySem.W.nsIn K mainGlobals "int" = some none)
    (z_isinstance : PySem.W.nsIn K mainGlobals "isinstance" = some none)
    (z_len : PySem.W.nsIn K mainGlobals "len" = some none)
    (z_list : PySem.W.nsIn K mainGlobals "list" = some none)
    (z_max : PySem.W.nsIn K mainGlobals "max" = some none)
    (z_min : PySem.W.nsIn K mainGlobals "min" = some none)
    (z_range : PySem.W.nsIn K mainGlobals "range" = some none)
    (z_sorted : PySem.W.nsIn K mainGlobals "sorted" = some none)
    (z_str : PySem.W.nsIn K mainGlobals "str" = some none)
    (z_sum : PySem.W.nsIn K mainGlobals "sum" = some none)
    (z_tuple : PySem.W.nsIn K mainGlobals "tuple" = some none)
    {t_MOST_KINDS : Tok} (g_MOST_KINDS : PySem.W.nsIn K mainGlobals "MOST_KINDS" = some (some (.int 5 t_MOST_KINDS)))
    {t_MOST_PRICE : Tok} (g_MOST_PRICE : PySem.W.nsIn K mainGlobals "MOST_PRICE" = some (some (.int 99 t_MOST_PRICE)))
    {t_MOST_SHARE : Tok} (g_MOST_SHARE : PySem.W.nsIn K mainGlobals "MOST_SHARE" = some (some (.int 9 t_MOST_SHARE)))
    {p_NOUGHT : Addr} {e_NOUGHT : Option Addr} {q_NOUGHT : Array (Option Value)} {u_NOUGHT w_NOUGHT : Tok} {n_NOUGHT : Nat} (g_NOUGHT : PySem.W.nsIn K mainGlobals "NOUGHT" = some (some (.ref p_NOUGHT))) (o_NOUGHT : K.lookup p_NOUGHT = some ⟨.type "tuple", e_NOUGHT, .seq #[.int 0 u_NOUGHT, .int 1 w_NOUGHT] n_NOUGHT, q_NOUGHT⟩)
    {c_GatherError : Addr} (n_GatherError : PySem.W.nsIn K mainGlobals "GatherError" = some (some (.ref c_GatherError)))
    {c_NoKind : Addr} (n_NoKind : PySem.W.nsIn K mainGlobals "NoKind" = some (some (.ref c_NoKind)))
    {c_NoLine : Addr} (n_NoLine : PySem.W.nsIn K mainGlobals "NoLine" = some (some (.ref c_NoLine)))
    {c_NoNeeds : Addr} (n_NoNeeds : PySem.W.nsIn K mainGlobals "NoNeeds" = some (some (.ref c_NoNeeds)))
    {c_NoNumber : Addr} (n_NoNumber : PySem.W.nsIn K mainGlobals "NoNumber" = some (some (.ref c_NoNumber)))
    {c_NoPlan : Addr} (n_NoPlan : PySem.W.nsIn K mainGlobals "NoPlan" = some (some (.ref c_NoPlan)))
    {c_NoShares : Addr} (n_NoShares : PySem.W.nsIn K mainGlobals "NoShares" = some (some (.ref c_NoShares)))
    {c_NoText : Addr} (n_NoText : PySem.W.nsIn K mainGlobals "NoText" = some (some (.ref c_NoText)))
    {c_TooMany : Addr} (n_TooMany : PySem.W.nsIn K mainGlobals "TooMany" = some (some (.ref c_TooMany)))
    (q_NoNumber : PySem.W.excIn K c_NoNumber [.type "ValueError", .type "Exception", .type "BaseException", .type "object"] "ValueError.__new__" = true) (kp_NoNumber : PySem.W.keepIn K (.ref c_NoNumber) = true) (bs_NoNumber : PySem.W.subIn K (.ref c_NoNumber) (.type "BaseException") = some true) (ty_NoNumber : PySem.W.typeIn K (.ref c_NoNumber) = some (.type "type"))
    (q_NoPlan : PySem.W.excIn K c_NoPlan [.type "ValueError", .type "Exception", .type "BaseException", .type "object"] "ValueError.__new__" = true) (kp_NoPlan : PySem.W.keepIn K (.ref c_NoPlan) = true) (bs_NoPlan : PySem.W.subIn K (.ref c_NoPlan) (.type "BaseException") = some true) (ty_NoPlan : PySem.W.typeIn K (.ref c_NoPlan) = some (.type "type"))
    (q_NoShares : PySem.W.excIn K c_NoShares [.type "ValueError", .type "Exception", .type "BaseException", .type "object"] "ValueError.__new__" = true) (kp_NoShares : PySem.W.keepIn K (.ref c_NoShares) = true) (bs_NoShares : PySem.W.subIn K (.ref c_NoShares) (.type "BaseException") = some true) (ty_NoShares : PySem.W.typeIn K (.ref c_NoShares) = some (.type "type"))
    (xg_NoNumber : PySem.W.findIn K (.ref c_NoNumber) "__getattribute__" = some (some (.builtin "BaseException.__getattribute__")))
    (xk_NoNumber : PySem.W.findIn K (.ref c_NoNumber) "__getattr__" = some none)
    (xs_NoNumber : PySem.W.subIn K (.ref c_NoNumber) (.type "BaseException") = some true)
    (xd_NoNumber : PySem.W.hasDictIn K c_NoNumber = true)
    (xa_NoNumber : PySem.W.findIn K (.ref c_NoNumber) "__class__" = some (some (.builtin "object.__class__")))
    (xm_NoNumber : PySem.W.mroIn K c_NoNumber (.type "object") = some true)
    (kv_NoNumber : PySem.W.kitOne K (.ref c_NoNumber) (.type "ValueError") = some true)
    (kg_NoNumber : PySem.W.kitOne K (.ref c_NoNumber) (.ref c_GatherError) = some true)
    (em_NoNumber : PySem.W.exmOne K (.ref c_NoNumber) (.ref c_GatherError) = some true)
    (ko0_NoNumber : PySem.W.kitOne K (.ref c_NoNumber) (.ref c_NoShares) = some false)
    (ko1_NoNumber : PySem.W.kitOne K (.ref c_NoNumber) (.ref c_NoKind) = some false)
    (ko2_NoNumber : PySem.W.kitOne K (.ref c_NoNumber) (.ref c_NoNumber) = some true)
    (ko3_NoNumber : PySem.W.kitOne K (.ref c_NoNumber) (.ref c_NoNeeds) = some false)
    (ko4_NoNumber : PySem.W.kitOne K (.ref c_NoNumber) (.ref c_TooMany) = some false)
    (ko5_NoNumber : PySem.W.kitOne K (.ref c_NoNumber) (.ref c_NoPlan) = some false)
    (ko6_NoNumber : PySem.W.kitOne K (.ref c_NoNumber) (.ref c_NoLine) = some false)
    (ko7_NoNumber : PySem.W.kitOne K (.ref c_NoNumber) (.ref c_NoText) = some false)
    (xg_NoPlan : PySem.W.findIn K (.ref c_NoPlan) "__getattribute__" = some (some (.builtin "BaseException.__getattribute__")))
    (xk_NoPlan : PySem.W.findIn K (.ref c_NoPlan) "__getattr__" = some none)
    (xs_NoPlan : PySem.W.subIn K (.ref c_NoPlan) (.type "BaseException") = some true)
    (xd_NoPlan : PySem.W.hasDictIn K c_NoPlan = true)
    (xa_NoPlan : PySem.W.findIn K (.ref c_NoPlan) "__class__" = some (some (.builtin "object.__class__")))
    (xm_NoPlan : PySem.W.mroIn K c_NoPlan (.type "object") = some true)
    (kv_NoPlan : PySem.W.kitOne K (.ref c_NoPlan) (.type "ValueError") = some true)
    (kg_NoPlan : PySem.W.kitOne K (.ref c_NoPlan) (.ref c_GatherError) = some true)
    (em_NoPlan : PySem.W.exmOne K (.ref c_NoPlan) (.ref c_GatherError) = some true)
    (ko0_NoPlan : PySem.W.kitOne K (.ref c_NoPlan) (.ref c_NoShares) = some false)
    (ko1_NoPlan : PySem.W.kitOne K (.ref c_NoPlan) (.ref c_NoKind) = some false)
    (ko2_NoPlan : PySem.W.kitOne K (.ref c_NoPlan) (.ref c_NoNumber) = some false)
    (ko3_NoPlan : PySem.W.kitOne K (.ref c_NoPlan) (.ref c_NoNeeds) = some false)
    (ko4_NoPlan : PySem.W.kitOne K (.ref c_NoPlan) (.ref c_TooMany) = some false)
    (ko5_NoPlan : PySem.W.kitOne K (.ref c_NoPlan) (.ref c_NoPlan) = some true)
    (ko6_NoPlan : PySem.W.kitOne K (.ref c_NoPlan) (.ref c_NoLine) = some false)
    (ko7_NoPlan : PySem.W.kitOne K (.ref c_NoPlan) (.ref c_NoText) = some false)
    (xg_NoShares : PySem.W.findIn K (.ref c_NoShares) "__getattribute__" = some (some (.builtin "BaseException.__getattribute__")))
    (xk_NoShares : PySem.W.findIn K (.ref c_NoShares) "__getattr__" = some none)
    (xs_NoShares : PySem.W.subIn K (.ref c_NoShares) (.type "BaseException") = some true)
    (xd_NoShares : PySem.W.hasDictIn K c_NoShares = true)
    (xa_NoShares : PySem.W.findIn K (.ref c_NoShares) "__class__" = some (some (.builtin "object.__class__")))
    (xm_NoShares : PySem.W.mroIn K c_NoShares (.type "object") = some true)
    (kv_NoShares : PySem.W.kitOne K (.ref c_NoShares) (.type "ValueError") = some true)
    (kg_NoShares : PySem.W.kitOne K (.ref c_NoShares) (.ref c_GatherError) = some true)
    (em_NoShares : PySem.W.exmOne K (.ref c_NoShares) (.ref c_GatherError) = some true)
    (ko0_NoShares : PySem.W.kitOne K (.ref c_NoShares) (.ref c_NoShares) = some true)
    (ko1_NoShares : PySem.W.kitOne K (.ref c_NoShares) (.ref c_NoKind) = some false)
    (ko2_NoShares : PySem.W.kitOne K (.ref c_NoShares) (.ref c_NoNumber) = some false)
    (ko3_NoShares : PySem.W.kitOne K (.ref c_NoShares) (.ref c_NoNeeds) = some false)
    (ko4_NoShares : PySem.W.kitOne K (.ref c_NoShares) (.ref c_TooMany) = some false)
    (ko5_NoShares : PySem.W.kitOne K (.ref c_NoShares) (.ref c_NoPlan) = some false)
    (ko6_NoShares : PySem.W.kitOne K (.ref c_NoShares) (.ref c_NoLine) = some false)
    (ko7_NoShares : PySem.W.kitOne K (.ref c_NoShares) (.ref c_NoText) = some false)
    (x_n : PySem.W.specialIn K (.builtin "object.__class__") "__get__" = some (some (.builtin "getset_descriptor.__get__"))) (x_t : PySem.W.takesIn K (.builtin "object.__class__") = some true)
    : ∃ fd : FuncData, (∀ (s : Shared) (v : Value), BindsTo s fd ⟨[v], []⟩ [("_law_script", v)]) ∧ ∀ base : Heap, K.In base → base.Ns mainGlobals mg → FnG P w K mg base 10 fa fd ["_law_script"] (spD K f_law) := by
  have e := hfa.symm.trans (PySem.W.mg_of X G a35)
  cases e
  have y_ValueError := PySem.W.mg_none_of X G z_ValueError
  have y_abs := PySem.W.mg_none_of X G z_abs
  have y_all := PySem.W.mg_none_of X G z_all
  have y_bool := PySem.W.mg_none_of X G z_bool
  have y_dict := PySem.W.mg_none_of X G z_dict
  have y_divmod := PySem.W.mg_none_of X G z_divmod
  have y_int := PySem.W.mg_none_of X G z_int
  have y_isinstance := PySem.W.mg_none_of X G z_isinstance
  have y_len := PySem.W.mg_none_of X G z_len
  have y_list := PySem.W.mg_none_of X G z_list
  have y_max := PySem.W.mg_none_of X G z_max
  have y_min := PySem.W.mg_none_of X G z_min
  have y_range := PySem.W.mg_none_of X G z_range
  have y_sorted := PySem.W.mg_none_of X G z_sorted
  have y_str := PySem.W.mg_none_of X G z_str
  have y_sum := PySem.W.mg_none_of X G z_sum
  have y_tuple := PySem.W.mg_none_of X G z_tuple
  have x_MOST_KINDS : ∃ t, mg "MOST_KINDS" = some (.int 5 t) := ⟨_, PySem.W.mg_of X G g_MOST_KINDS⟩
  have x_MOST_PRICE : ∃ t, mg "MOST_PRICE" = some (.int 99 t) := ⟨_, PySem.W.mg_of X G g_MOST_PRICE⟩
  have x_MOST_SHARE : ∃ t, mg "MOST_SHARE" = some (.int 9 t) := ⟨_, PySem.W.mg_of X G g_MOST_SHARE⟩
  have x_NOUGHT : ∃ a, mg "NOUGHT" = some (.ref a) ∧ ∀ G, Rp K G (.tuple [.int 0, .int 1]) (.ref a) := ⟨_, PySem.W.mg_of X G g_NOUGHT, fun G => rp_tuple.mpr ⟨_, [V.int 0, V.int 1], rfl, Or.inr ⟨_, _, _, o_NOUGHT, rfl, rfl, (by show 2 ≤ sizeLine; decide), .cons ⟨_, rfl⟩ (.cons ⟨_, rfl⟩ .nil)⟩, rpa_ints [0, 1]⟩⟩
  have y_GatherError : mg "GatherError" = some (.ref c_GatherError) := PySem.W.mg_of X G n_GatherError
  have y_NoKind : mg "NoKind" = some (.ref c_NoKind) := PySem.W.mg_of X G n_NoKind
  have y_NoLine : mg "NoLine" = some (.ref c_NoLine) := PySem.W.mg_of X G n_NoLine
  have y_NoNeeds : mg "NoNeeds" = some (.ref c_NoNeeds) := PySem.W.mg_of X G n_NoNeeds
  have y_NoNumber : mg "NoNumber" = some (.ref c_NoNumber) := PySem.W.mg_of X G n_NoNumber
  have y_NoPlan : mg "NoPlan" = some (.ref c_NoPlan) := PySem.W.mg_of X G n_NoPlan
  have y_NoShares : mg "NoShares" = some (.ref c_NoShares) := PySem.W.mg_of X G n_NoShares
  have y_NoText : mg "NoText" = some (.ref c_NoText) := PySem.W.mg_of X G n_NoText
  have y_TooMany : mg "TooMany" = some (.ref c_TooMany) := PySem.W.mg_of X G n_TooMany
  have r_NoNumber : DL.RfT K mg "NoNumber" c_NoNumber := ⟨y_NoNumber, q_NoNumber, kp_NoNumber, bs_NoNumber, ty_NoNumber⟩
  have r_NoPlan : DL.RfT K mg "NoPlan" c_NoPlan := ⟨y_NoPlan, q_NoPlan, kp_NoPlan, bs_NoPlan, ty_NoPlan⟩
  have r_NoShares : DL.RfT K mg "NoShares" c_NoShares := ⟨y_NoShares, q_NoShares, kp_NoShares, bs_NoShares, ty_NoShares⟩
  have w_NoNumber : DL.XT K [c_NoShares, c_NoKind, c_NoNumber, c_NoNeeds, c_TooMany, c_NoPlan, c_NoLine, c_NoText] c_GatherError 2 c_NoNumber := DL.xt_mk ⟨xg_NoNumber, xk_NoNumber, xs_NoNumber, xd_NoNumber, xa_NoNumber, x_n, x_t, xm_NoNumber⟩ ko0_NoNumber ko1_NoNumber ko2_NoNumber ko3_NoNumber ko4_NoNumber ko5_NoNumber ko6_NoNumber ko7_NoNumber kg_NoNumber kv_NoNumber em_NoNumber
  have w_NoPlan : DL.XT K [c_NoShares, c_NoKind, c_NoNumber, c_NoNeeds, c_TooMany, c_NoPlan, c_NoLine, c_NoText] c_GatherError 5 c_NoPlan := DL.xt_mk ⟨xg_NoPlan, xk_NoPlan, xs_NoPlan, xd_NoPlan, xa_NoPlan, x_n, x_t, xm_NoPlan⟩ ko0_NoPlan ko1_NoPlan ko2_NoPlan ko3_NoPlan ko4_NoPlan ko5_NoPlan ko6_NoPlan ko7_NoPlan kg_NoPlan kv_NoPlan em_NoPlan
  have w_NoShares : DL.XT K [c_NoShares, c_NoKind, c_NoNumber, c_NoNeeds, c_TooMany, c_NoPlan, c_NoLine, c_NoText] c_GatherError 0 c_NoShares := DL.xt_mk ⟨xg_NoShares, xk_NoShares, xs_NoShares, xd_NoShares, xa_NoShares, x_n, x_t, xm_NoShares⟩ ko0_NoShares ko1_NoShares ko2_NoShares ko3_NoShares ko4_NoShares ko5_NoShares ko6_NoShares ko7_NoShares kg_NoShares kv_NoShares em_NoShares
  have F1 := fun_mk (st := s_is_whole) l1 c1 k1
  have F2 := fun_mk (st := s_greatest_common) l2 c2 k2
  have F3 := fun_mk (st := s_below) l3 c3 k3
  have F4 := fun_mk (st := s_sum_part) l4 c4 k4
  have F5 := fun_mk (st := s_all_some) l5 c5 k5
  have F6 := fun_mk (st := s__law_box) l6 c6 k6
  have F7 := fun_mk (st := s__law_take) l7 c7 k7
  have F8 := fun_mk (st := s__law_classes) l8 c8 k8
  have F9 := fun_mk (st := s_made) l9 c9 k9
  have F10 := fun_mk (st := s_need_number) l10 c10 k10
  have F11 := fun_mk (st := s_is_shares) l11 c11 k11
  have F12 := fun_mk (st := s_are_kinds) l12 c12 k12
  have F13 := fun_mk (st := s_rising_some) l13 c13 k13
  have F14 := fun_mk (st := s_lesser) l14 c14 k14
  have F15 := fun_mk (st := s__law_shares) l15 c15 k15
  have F16 := fun_mk (st := s__law_no_shares) l16 c16 k16
  have F17 := fun_mk (st := s__law_only) l17 c17 k17
  have F18 := fun_mk (st := s_is_fraction) l18 c18 k18
  have F19 := fun_mk (st := s_sum_of) l19 c19 k19
  have F20 := fun_mk (st := s_times_of) l20 c20 k20
  have F21 := fun_mk (st := s_need_shares) l21 c21 k21
  have F22 := fun_mk (st := s_are_plans) l22 c22 k22
  have F23 := fun_mk (st := s_due_number) l23 c23 k23
  have F24 := fun_mk (st := s_is_paper) l24 c24 k24
  have F25 := fun_mk (st := s_is_plan) l25 c25 k25
  have F26 := fun_mk (st := s_need_price) l26 c26 k26
  have F27 := fun_mk (st := s_plan_cost) l27 c27 k27
  have F28 := fun_mk (st := s_costs_of) l28 c28 k28
  have F29 := fun_mk (st := s_is_cost_paper) l29 c29 k29
  have F30 := fun_mk (st := s_cost_paper) l30 c30 k30
  have F31 := fun_mk (st := s_plan_of) l31 c31 k31
  have F32 := fun_mk (st := s_plan_for) l32 c32 k32
  have F33 := fun_mk (st := s__law_asked) l33 c33 k33
  have F34 := fun_mk (st := s__law_told) l34 c34 k34
  have F35 := fun_mk (st := s_law) l35 c35 k35
  refine ⟨PySem.W.fnOf "law" "law" (defArgs s_law) (defBody s_law) (defScope s_law) .none kV35 dc35 pm35 an35 cd35 ct35, fun s v => .of_eq rfl, fun base _ _ => ?_⟩
  have C1 : Cl P w K mg base 1 "is_whole" f_isWhole := ok_is_whole (P := P) (w := w) (base := base) F1 (PySem.W.mg_of X G a1) y_isinstance y_bool y_int
  have C2 : Cl P w K mg base 1 "greatest_common" f_gcd := ok_greatest_common (P := P) (w := w) (base := base) F2 (PySem.W.mg_of X G a2) 
  have C3 : Cl P w K mg base 1 "below" f_below := ok_below (P := P) (w := w) (base := base) F3 (PySem.W.mg_of X G a3) 
  have C4 : Cl P w K mg base 1 "sum_part" f_sumPart := ok_sum_part (P := P) (w := w) (base := base) F4 (PySem.W.mg_of X G a4) y_sum
  have C5 : Cl P w K mg base 1 "all_some" f_allSome := ok_all_some (P := P) (w := w) (base := base) F5 (PySem.W.mg_of X G a5) 
  have C6 : Cl P w K mg base 1 "_law_box" f_box2 := ok__law_box (P := P) (w := w) (base := base) F6 (PySem.W.mg_of X G a6) y_len y_range
  have C7 : Cl P w K mg base 1 "_law_take" f_take := ok__law_take (P := P) (w := w) (base := base) F7 (PySem.W.mg_of X G a7) y_divmod
  have C8 : ClP P w K mg base 1 "_law_classes" (okE K [c_NoShares, c_NoKind, c_NoNumber, c_NoNeeds, c_TooMany, c_NoPlan, c_NoLine, c_NoText] c_GatherError) (f_lawClasses K [c_NoShares, c_NoKind, c_NoNumber, c_NoNeeds, c_TooMany, c_NoPlan, c_NoLine, c_NoText] c_GatherError) := ok__law_classes (P := P) (w := w) (base := base) F8 (PySem.W.mg_of X G a8) y_isinstance y_NoNeeds y_NoNumber y_NoKind y_NoShares y_NoText y_NoLine y_NoPlan y_TooMany
  have C9 : Cl P w K mg base 2 "made" f_made := ok_made (P := P) (w := w) (base := base) F9 (PySem.W.mg_of X G a9) y_abs C2
  have X10 : ClX P w K mg base 2 "need_number" (fnE [c_NoShares, c_NoKind, c_NoNumber, c_NoNeeds, c_TooMany, c_NoPlan, c_NoLine, c_NoText] 3 eNeedNumber preNumber) := ok_need_number (P := P) (w := w) (base := base) F10 (PySem.W.mg_of X G a10) C1 r_NoNumber
  have C11 : Cl P w K mg base 2 "is_shares" f_isShares := ok_is_shares (P := P) (w := w) (base := base) F11 (PySem.W.mg_of X G a11) y_len y_isinstance y_tuple y_all x_MOST_KINDS x_MOST_SHARE C1
  have C12 : Cl P w K mg base 2 "are_kinds" f_areKinds := ok_are_kinds (P := P) (w := w) (base := base) F12 (PySem.W.mg_of X G a12) y_all y_isinstance y_tuple y_range y_len C1
  have C13 : Cl P w K mg base 2 "rising_some" f_rising := ok_rising_some (P := P) (w := w) (base := base) F13 (PySem.W.mg_of X G a13) y_sorted y_len y_range y_list C5
  have C14 : Cl P w K mg base 2 "lesser" f_lesser := ok_lesser (P := P) (w := w) (base := base) F14 (PySem.W.mg_of X G a14) C3
  have C15 : Cl P w K mg base 2 "_law_shares" f_shares2 := ok__law_shares (P := P) (w := w) (base := base) F15 (PySem.W.mg_of X G a15) y_range y_int y_tuple C7
  have C16 : Cl P w K mg base 2 "_law_no_shares" f_noShares := ok__law_no_shares (P := P) (w := w) (base := base) F16 (PySem.W.mg_of X G a16) C7
  have C17 : ClP P w K mg base 2 "_law_only" (okE K [c_NoShares, c_NoKind, c_NoNumber, c_NoNeeds, c_TooMany, c_NoPlan, c_NoLine, c_NoText] c_GatherError) (f_lawOnly K [c_NoShares, c_NoKind, c_NoNumber, c_NoNeeds, c_TooMany, c_NoPlan, c_NoLine, c_NoText] c_GatherError) := ok__law_only (P := P) (w := w) (base := base) F17 (PySem.W.mg_of X G a17) y_isinstance y_ValueError y_range C8 y_GatherError
  have C18 : Cl P w K mg base 3 "is_fraction" f_isFrac := ok_is_fraction (P := P) (w := w) (base := base) F18 (PySem.W.mg_of X G a18) y_len y_isinstance y_tuple C1 C9
  have C19 : Cl P w K mg base 3 "sum_of" f_sumOf := ok_sum_of (P := P) (w := w) (base := base) F19 (PySem.W.mg_of X G a19) C9
  have C20 : Cl P w K mg base 3 "times_of" f_timesOf := ok_times_of (P := P) (w := w) (base := base) F20 (PySem.W.mg_of X G a20) C9
  have X21 : ClX P w K mg base 3 "need_shares" (fnE [c_NoShares, c_NoKind, c_NoNumber, c_NoNeeds, c_TooMany, c_NoPlan, c_NoLine, c_NoText] 1 eNeedShares anyD) := ok_need_shares (P := P) (w := w) (base := base) F21 (PySem.W.mg_of X G a21) C11 r_NoShares
  have C21 : Cl P w K mg base 3 "need_shares" f_needShares := X21.cl of_needShares
  have C22 : Cl P w K mg base 3 "are_plans" f_noPlans := ok_are_plans (P := P) (w := w) (base := base) F22 (PySem.W.mg_of X G a22) y_len y_isinstance y_dict y_str C13 C12
  have C23 : Cl P w K mg base 4 "due_number" f_dueG := ok_due_number (P := P) (w := w) (base := base) F23 (PySem.W.mg_of X G a23) y_sum y_tuple C19 C20 C4
  have C24 : Cl P w K mg base 4 "is_paper" f_noPlans := ok_is_paper (P := P) (w := w) (base := base) F24 (PySem.W.mg_of X G a24) y_range y_len y_list y_isinstance y_dict x_NOUGHT C5 C12 C18
  have O25 := fok_is_plan (P := P) (w := w) (base := base) F25 (PySem.W.mg_of X G a25) C21 C22
  have C25 : Cl P w K mg base 4 "is_plan" f_noPlans := ok_is_plan (P := P) (w := w) (base := base) F25 (PySem.W.mg_of X G a25) O25
  have X25 : ClX P w K mg base 4 "is_plan" (orX f_noPlans (fnY1 [c_NoShares, c_NoKind, c_NoNumber, c_NoNeeds, c_TooMany, c_NoPlan, c_NoLine, c_NoText])) := okx_is_plan (P := P) (w := w) (base := base) F25 (PySem.W.mg_of X G a25) C22 X21 O25
  have X26 : ClX P w K mg base 4 "need_price" (fnE [c_NoShares, c_NoKind, c_NoNumber, c_NoNeeds, c_TooMany, c_NoPlan, c_NoLine, c_NoText] 2 eNeedPrice anyD) := ok_need_price (P := P) (w := w) (base := base) F26 (PySem.W.mg_of X G a26) x_MOST_PRICE X21 X10
  have C26 : Cl P w K mg base 4 "need_price" f_needPrice := X26.cl of_needPrice
  have X27 : ClX P w K mg base 5 "plan_cost" (fnCost [c_NoShares, c_NoKind, c_NoNumber, c_NoNeeds, c_TooMany, c_NoPlan, c_NoLine, c_NoText]) := ok_plan_cost (P := P) (w := w) (base := base) F27 (PySem.W.mg_of X G a27) y_len y_range y_tuple x_NOUGHT C22 C13 C23 X26 r_NoPlan
  have C28 : Cl P w K mg base 5 "costs_of" f_costsOf := ok_costs_of (P := P) (w := w) (base := base) F28 (PySem.W.mg_of X G a28) y_len x_NOUGHT C13 C14 C23
  have O29 := fok_is_cost_paper (P := P) (w := w) (base := base) F29 (PySem.W.mg_of X G a29) y_len C26 C24 C13 C14 C23
  have C29 : Cl P w K mg base 5 "is_cost_paper" f_noCost := ok_is_cost_paper (P := P) (w := w) (base := base) F29 (PySem.W.mg_of X G a29) O29
  have X29 : ClX P w K mg base 5 "is_cost_paper" (orX f_noCost (fnY [c_NoShares, c_NoKind, c_NoNumber, c_NoNeeds, c_TooMany, c_NoPlan, c_NoLine, c_NoText])) := okx_is_cost_paper (P := P) (w := w) (base := base) F29 (PySem.W.mg_of X G a29) y_len C24 C13 C14 C23 X26 O29
  have O30 := fok_cost_paper (P := P) (w := w) (base := base) F30 (PySem.W.mg_of X G a30) C26 C28
  have C30 : Cl P w K mg base 6 "cost_paper" f_costDrop := ok_cost_paper (P := P) (w := w) (base := base) F30 (PySem.W.mg_of X G a30) O30
  have X30 : ClX P w K mg base 6 "cost_paper" (orX f_costDrop (fnR [c_NoShares, c_NoKind, c_NoNumber, c_NoNeeds, c_TooMany, c_NoPlan, c_NoLine, c_NoText] 2 rPrice)) := okx_cost_paper (P := P) (w := w) (base := base) F30 (PySem.W.mg_of X G a30) C28 X26 O30
  have C31 : Cl P w K mg base 6 "plan_of" f_planOf := ok_plan_of (P := P) (w := w) (base := base) F31 (PySem.W.mg_of X G a31) y_len C28 C13 C3 C23
  have O32 := fok_plan_for (P := P) (w := w) (base := base) F32 (PySem.W.mg_of X G a32) C26 C31
  have C32 : Cl P w K mg base 7 "plan_for" f_costDrop := ok_plan_for (P := P) (w := w) (base := base) F32 (PySem.W.mg_of X G a32) O32
  have X32 : ClX P w K mg base 7 "plan_for" (orX f_costDrop (fnR [c_NoShares, c_NoKind, c_NoNumber, c_NoNeeds, c_TooMany, c_NoPlan, c_NoLine, c_NoText] 2 rPrice)) := okx_plan_for (P := P) (w := w) (base := base) F32 (PySem.W.mg_of X G a32) C31 X26 O32
  have X33 : ClX P w K mg base 8 "_law_asked" (fnAsk64 [c_NoShares, c_NoKind, c_NoNumber, c_NoNeeds, c_TooMany, c_NoPlan, c_NoLine, c_NoText]) := ok__law_asked (P := P) (w := w) (base := base) F33 (PySem.W.mg_of X G a33) X27 X29 X30 X32 X25
  have C34 : Cl P w K mg base 9 "_law_told" f_told64 := ok__law_told (P := P) (w := w) (base := base) F34 (PySem.W.mg_of X G a34) y_range C17 X33 y_GatherError w_NoShares w_NoNumber w_NoPlan
  exact ok_law F35 y_range y_max y_min y_len C6 C34 C16 C15 C7
end
end Law
open PySem PySem.W PyProof.Rows
set_option maxRecDepth 100000 in
set_option maxHeartbeats 0 in
theorem PySem.Challenge.cw_kindsgathered_k64_buying_refused_holds : PySem.Challenge.rw_kindsgathered_k64_buying_refused.Holds := by
  w_on; o_law; k_head; (case hw => w_witness2)
  k_fill
  refine DL.walkG (l := PySem.Challenge.rw_kindsgathered_k64_buying_refused) (n := 63) (k := 10) (x := "_law_script") (sp := DL.f_law) rfl (by decide) rfl ⟨rfl, by decide, by decide⟩ (fun w h Y => PySem.W.kIn_of Y) ?F Law.law_ends
  case F =>
    intro w mg fa h KX G hmg
    refine' Law.all_mk KX G hmg ?a1 ?l1 ?c1 ?k1 ?a2 ?l2 ?c2 ?k2 ?a3 ?l3 ?c3 ?k3 ?a4 ?l4 ?c4 ?k4 ?a5 ?l5 ?c5 ?k5 ?a6 ?l6 ?c6 ?k6 ?a7 ?l7 ?c7 ?k7 ?a8 ?l8 ?c8 ?k8 ?a9 ?l9 ?c9 ?k9 ?a10 ?l10 ?c10 ?k10 ?a11 ?l11 ?c11 ?k11 ?a12 ?l12 ?c12 ?k12 ?a13 ?l13 ?c13 ?k13 ?a14 ?l14 ?c14 ?k14 ?a15 ?l15 ?c15 ?k15 ?a16 ?l16 ?c16 ?k16 ?a17 ?l17 ?c17 ?k17 ?a18 ?l18 ?c18 ?k18 ?a19 ?l19 ?c19 ?k19 ?a20 ?l20 ?c20 ?k20 ?a21 ?l21 ?c21 ?k21 ?a22 ?l22 ?c22 ?k22 ?a23 ?l23 ?c23 ?k23 ?a24 ?l24 ?c24 ?k24 ?a25 ?l25 ?c25 ?k25 ?a26 ?l26 ?c26 ?k26 ?a27 ?l27 ?c27 ?k27 ?a28 ?l28 ?c28 ?k28 ?a29 ?l29 ?c29 ?k29 ?a30 ?l30 ?c30 ?k30 ?a31 ?l31 ?c31 ?k31 ?a32 ?l32 ?c32 ?k32 ?a33 ?l33 ?c33 ?k33 ?a34 ?l34 ?c34 ?k34 ?a35 ?l35 ?c35 ?k35 ?z_ValueError ?z_abs ?z_all ?z_bool ?z_dict ?z_divmod ?z_int ?z_isinstance ?z_len ?z_list ?z_max ?z_min ?z_range ?z_sorted ?z_str ?z_sum ?z_tuple ?g_MOST_KINDS ?g_MOST_PRICE ?g_MOST_SHARE ?g_NOUGHT ?o_NOUGHT ?n_GatherError ?n_NoKind ?n_NoLine ?n_NoNeeds ?n_NoNumber ?n_NoPlan ?n_NoShares ?n_NoText ?n_TooMany ?q_NoNumber ?kp_NoNumber ?bs_NoNumber ?ty_NoNumber ?q_NoPlan ?kp_NoPlan ?bs_NoPlan ?ty_NoPlan ?q_NoShares ?kp_NoShares ?bs_NoShares ?ty_NoShares ?xg_NoNumber ?xk_NoNumber ?xs_NoNumber ?xd_NoNumber ?xa_NoNumber ?xm_NoNumber ?kv_NoNumber ?kg_NoNumber ?em_NoNumber ?ko0_NoNumber ?ko1_NoNumber ?ko2_NoNumber ?ko3_NoNumber ?ko4_NoNumber ?ko5_NoNumber ?ko6_NoNumber ?ko7_NoNumber ?xg_NoPlan ?xk_NoPlan ?xs_NoPlan ?xd_NoPlan ?xa_NoPlan ?xm_NoPlan ?kv_NoPlan ?kg_NoPlan ?em_NoPlan ?ko0_NoPlan ?ko1_NoPlan ?ko2_NoPlan ?ko3_NoPlan ?ko4_NoPlan ?ko5_NoPlan ?ko6_NoPlan ?ko7_NoPlan ?xg_NoShares ?xk_NoShares ?xs_NoShares ?xd_NoShares ?xa_NoShares ?xm_NoShares ?kv_NoShares ?kg_NoShares ?em_NoShares ?ko0_NoShares ?ko1_NoShares ?ko2_NoShares ?ko3_NoShares ?ko4_NoShares ?ko5_NoShares ?ko6_NoShares ?ko7_NoShares ?x_n ?x_t
    (case a1 => k_is)
    (case l1 => k_is)
    (case c1 => k_is)
    (case k1 => k_is)
    (case a2 => k_is)
    (case l2 => k_is)
    (case c2 => k_is)
    (case k2 => k_is)
    (case a3 => k_is)
    (case l3 => k_is)
    (case c3 => k_is)
    (case k3 => k_is)
    (case a4 => k_is)
    (case l4 => k_is)
    (case c4 => k_is)
    (case k4 => k_is)
    (case a5 => k_is)
    (case l5 => k_is)
    (case c5 => k_is)
    (case k5 => k_is)
    (case a6 => k_is)
    (case l6 => k_is)
    (case c6 => k_is)
    (case k6 => k_is)
    (case a7 => k_is)
    (case l7 => k_is)
    (case c7 => k_is)
    (case k7 => k_is)
    (case a8 => k_is)
    (case l8 => k_is)
    (case c8 => k_is)
    (case k8 => k_is)
    (case a9 => k_is)
    (case l9 => k_is)
    (case c9 => k_is)
    (case k9 => k_is)
    (case a10 => k_is)
    (case l10 => k_is)
    (case c10 => k_is)
    (case k10 => k_is)
    (case a11 => k_is)
    (case l11 => k_is)
    (case c11 => k_is)
    (case k11 => k_is)
    (case a12 => k_is)
    (case l12 => k_is)
    (case c12 => k_is)
    (case k12 => k_is)
    (case a13 => k_is)
    (case l13 => k_is)
    (case c13 => k_is)
    (case k13 => k_is)
    (case a14 => k_is)
    (case l14 => k_is)
    (case c14 => k_is)
    (case k14 => k_is)
    (case a15 => k_is)
    (case l15 => k_is)
    (case c15 => k_is)
    (case k15 => k_is)
    (case a16 => k_is)
    (case l16 => k_is)
    (case c16 => k_is)
    (case k16 => k_is)
    (case a17 => k_is)
    (case l17 => k_is)
    (case c17 => k_is)
    (case k17 => k_is)
    (case a18 => k_is)
    (case l18 => k_is)
    (case c18 => k_is)
    (case k18 => k_is)
    (case a19 => k_is)
    (case l19 => k_is)
    (case c19 => k_is)
    (case k19 => k_is)
    (case a20 => k_is)
    (case l20 => k_is)
    (case c20 => k_is)
    (case k20 => k_is)
    (case a21 => k_is)
    (case l21 => k_is)
    (case c21 => k_is)
    (case k21 => k_is)
    (case a22 => k_is)
    (case l22 => k_is)
    (case c22 => k_is)
    (case k22 => k_is)
    (case a23 => k_is)
    (case l23 => k_is)
    (case c23 => k_is)
    (case k23 => k_is)
    (case a24 => k_is)
    (case l24 => k_is)
    (case c24 => k_is)
    (case k24 => k_is)
    (case a25 => k_is)
    (case l25 => k_is)
    (case c25 => k_is)
    (case k25 => k_is)
    (case a26 => k_is)
    (case l26 => k_is)
    (case c26 => k_is)
    (case k26 => k_is)
    (case a27 => k_is)
    (case l27 => k_is)
    (case c27 => k_is)
    (case k27 => k_is)
    (case a28 => k_is)
    (case l28 => k_is)
    (case c28 => k_is)
    (case k28 => k_is)
    (case a29 => k_is)
    (case l29 => k_is)
    (case c29 => k_is)
    (case k29 => k_is)
    (case a30 => k_is)
    (case l30 => k_is)
    (case c30 => k_is)
    (case k30 => k_is)
    (case a31 => k_is)
    (case l31 => k_is)
    (case c31 => k_is)
    (case k31 => k_is)
    (case a32 => k_is)
    (case l32 => k_is)
    (case c32 => k_is)
    (case k32 => k_is)
    (case a33 => k_is)
    (case l33 => k_is)
    (case c33 => k_is)
    (case k33 => k_is)
    (case a34 => k_is)
    (case l34 => k_is)
    (case c34 => k_is)
    (case k34 => k_is)
    (case a35 => k_is)
    (case l35 => k_is)
    (case c35 => k_is)
    (case k35 => k_is)
    (case z_ValueError => k_is)
    (case z_abs => k_is)
    (case z_all => k_is)
    (case z_bool => k_is)
    (case z_dict => k_is)
    (case z_divmod => k_is)
    (case z_int => k_is)
    (case z_isinstance => k_is)
    (case z_len => k_is)
    (case z_list => k_is)
    (case z_max => k_is)
    (case z_min => k_is)
    (case z_range => k_is)
    (case z_sorted => k_is)
    (case z_str => k_is)
    (case z_sum => k_is)
    (case z_tuple => k_is)
    (case g_MOST_KINDS => k_is)
    (case g_MOST_PRICE => k_is)
    (case g_MOST_SHARE => k_is)
    (case g_NOUGHT => k_is)
    (case o_NOUGHT => k_is)
    (case n_GatherError => k_is)
    (case n_NoKind => k_is)
    (case n_NoLine => k_is)
    (case n_NoNeeds => k_is)
    (case n_NoNumber => k_is)
    (case n_NoPlan => k_is)
    (case n_NoShares => k_is)
    (case n_NoText => k_is)
    (case n_TooMany => k_is)
    (case q_NoNumber => k_exc)
    (case kp_NoNumber => k_is)
    (case bs_NoNumber => k_is)
    (case ty_NoNumber => k_is)
    (case q_NoPlan => k_exc)
    (case kp_NoPlan => k_is)
    (case bs_NoPlan => k_is)
    (case ty_NoPlan => k_is)
    (case q_NoShares => k_exc)
    (case kp_NoShares => k_is)
    (case bs_NoShares => k_is)
    (case ty_NoShares => k_is)
    (case xg_NoNumber => k_is)
    (case xk_NoNumber => k_is)
    (case xs_NoNumber => k_is)
    (case xd_NoNumber => k_is)
    (case xa_NoNumber => k_is)
    (case xm_NoNumber => k_is)
    (case kv_NoNumber => kit_is)
    (case kg_NoNumber => kit_is)
    (case em_NoNumber => kts_exm)
    (case ko0_NoNumber => kit_is)
    (case ko1_NoNumber => kit_is)
    (case ko2_NoNumber => kit_is)
    (case ko3_NoNumber => kit_is)
    (case ko4_NoNumber => kit_is)
    (case ko5_NoNumber => kit_is)
    (case ko6_NoNumber => kit_is)
    (case ko7_NoNumber => kit_is)
    (case xg_NoPlan => k_is)
    (case xk_NoPlan => k_is)
    (case xs_NoPlan => k_is)
    (case xd_NoPlan => k_is)
    (case xa_NoPlan => k_is)
    (case xm_NoPlan => k_is)
    (case kv_NoPlan => kit_is)
    (case kg_NoPlan => kit_is)
    (case em_NoPlan => kts_exm)
    (case ko0_NoPlan => kit_is)
    (case ko1_NoPlan => kit_is)
    (case ko2_NoPlan => kit_is)
    (case ko3_NoPlan => kit_is)
    (case ko4_NoPlan => kit_is)
    (case ko5_NoPlan => kit_is)
    (case ko6_NoPlan => kit_is)
    (case ko7_NoPlan => kit_is)
    (case xg_NoShares => k_is)
    (case xk_NoShares => k_is)
    (case xs_NoShares => k_is)
    (case xd_NoShares => k_is)
    (case xa_NoShares => k_is)
    (case xm_NoShares => k_is)
    (case kv_NoShares => kit_is)
    (case kg_NoShares => kit_is)
    (case em_NoShares => kts_exm)
    (case ko0_NoShares => kit_is)
    (case ko1_NoShares => kit_is)
    (case ko2_NoShares => kit_is)
    (case ko3_NoShares => kit_is)
    (case ko4_NoShares => kit_is)
    (case ko5_NoShares => kit_is)
    (case ko6_NoShares => kit_is)
    (case ko7_NoShares => kit_is)
    (case x_n => k_is)
    (case x_t => k_is)
