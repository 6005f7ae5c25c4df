import PyProof.Rows.All
import Wide.All
import OpenK.AllK
import Wide.FinOn
import HandS.ForMost
import HandS.ForExc
import HandS.IsInst
import HandS.Wide
import HandS.TupAny
import HandS.TupMul
import HandS.Conv
import HandS.Deep
import PyProof.ReprRoads
import PyProof.SumWalkG
import PyProof.WalksMore
import HandS.EndBits
import PyProof.ReprLen
import HandS.TupLe
import HandS.Text
import HandS.StrSplit
import HandS.Iter
import HandS.Walk
import HandS.TryOnly
import KE.SortKeyHeap
import HandS.SortKw
import KE.KDictDisplayH
import HandS.SortInts
import HandS.Zip
import KE.GoesMore
import KE.KDictWalk
import HandS.Dict
import KE.KDictPairs
import KE.KDictCopyH
import HandS.Style
import HandS.HotCalls
import HandS.ExcIs
import HandS.ExcCtx
import HandS.TupLen
import KE.SortData
import HandS.DictTup
import PyProof.StrLawsRepr
import KE.KDictKeyed
import HandS.CallLocal
import PyProof.ReprReads
import PyProof.ReprText
import PyProof.Rows.ReprOcc
import HandS.WordsDict
import PySem.Challenge.RW_kindsgathered_k17_bounds_by_papers
set_option Elab.async false
set_option linter.all false
set_option maxRecDepth 100000
set_option maxHeartbeats 4000000
namespace DL
open PySem L2
/-! data behind values -/
def keyD : Key → PyData
  | .inl i => .int i
  | .inr x => .str x
mutual
def Rp (K : PySem.W.Frag) (G : Hp) : PyData → V → Prop
  | .none, v => v = .non
  | .bool b, v => v = .bl b
  | .int i, v => v = .int i
  | .str s, v => v = .str s
  | .list ds, v => ∃ a xs, v = .ref a ∧ Rd G a (.lst xs) ∧ RpAll K G ds xs
  | .tuple ds, v => ∃ a xs, v = .ref a ∧ SqT K G a xs ∧ RpAll K G ds xs
  | .dict kvs, v => ∃ a, v = .ref a ∧ ((∃ es, G a = some (.dT es) ∧ RpT K G kvs es) ∨ (∃ es, G a = some (.dK es) ∧ RpK K G kvs es))
def RpAll (K : PySem.W.Frag) (G : Hp) : List PyData → List V → Prop
  | [], xs => xs = []
  | d :: ds, xs => ∃ x r, xs = x :: r ∧ Rp K G d x ∧ RpAll K G ds r
def RpT (K : PySem.W.Frag) (G : Hp) : List (PyData × PyData) → List (List Key × V) → Prop
  | [], es => es = []
  | (k, d) :: r, es => ∃ ks v t, es = (ks, v) :: t ∧ k = .tuple (ks.map keyD) ∧ Rp K G d v ∧ RpT K G r t
def RpK (K : PySem.W.Frag) (G : Hp) : List (PyData × PyData) → List (Key × V) → Prop
  | [], es => es = []
  | (k, d) :: r, es => ∃ ks v t, es = (ks, v) :: t ∧ k = keyD ks ∧ Rp K G d v ∧ RpK K G r t
end
def Le (G G' : Hp) : Prop := ∀ a o, G a = some o → G' a = some o
theorem Le.refl (G : Hp) : Le G G := fun _ _ h => h
theorem Le.trans {G G1 G2 : Hp} (a : Le G G1) (b : Le G1 G2) : Le G G2 := fun x o h => b x o (a x o h)
theorem Le.new {G : Hp} {p : Addr} {o : HO} (h : G p = none) : Le G (upd G p o) := fun a u e => by
  rw [upd_ne (ne_of_none e h)]; exact e
theorem Le.rd {G G' : Hp} {a : Addr} {u : HO} (e : Le G G') (h : Rd G a u) : Rd G' a u := by
  rcases h with h | ⟨o, h⟩
  · exact Or.inl (e a _ h)
  · exact Or.inr ⟨o, e a _ h⟩
theorem Le.sqL {K : PySem.W.Frag} {G G' : Hp} {a : Addr} {xs : List V} (e : Le G G') (h : SqL K G a xs) : SqL K G' a xs := by
  rcases h with h | h
  · exact Or.inl (e.rd h)
  · exact Or.inr h
theorem Le.sqT {K : PySem.W.Frag} {G G' : Hp} {a : Addr} {xs : List V} (e : Le G G') (h : SqT K G a xs) : SqT K G' a xs := by
  rcases h with h | h
  · exact Or.inl (e.rd h)
  · exact Or.inr h
mutual
theorem Rp.mono {K : PySem.W.Frag} {G G' : Hp} (e : Le G G') : ∀ (d : PyData) (v : V), Rp K G d v → Rp K G' d v
  | .none, v, h => by rw [Rp] at h ⊢; exact h
  | .bool b, v, h => by rw [Rp] at h ⊢; exact h
  | .int i, v, h => by rw [Rp] at h ⊢; exact h
  | .str s, v, h => by rw [Rp] at h ⊢; exact h
  | .list ds, v, h => by
    rw [Rp] at h ⊢
    obtain ⟨a, xs, h1, h2, h3⟩ := h
    exact ⟨a, xs, h1, e.rd h2, RpAll.mono e ds xs h3⟩
  | .tuple ds, v, h => by
    rw [Rp] at h ⊢
    obtain ⟨a, xs, h1, h2, h3⟩ := h
    exact ⟨a, xs, h1, e.sqT h2, RpAll.mono e ds xs h3⟩
  | .dict kvs, v, h => by
    rw [Rp] at h ⊢
    obtain ⟨a, h1, h2⟩ := h
    refine ⟨a, h1, ?_⟩
    rcases h2 with ⟨es, h3, h4⟩ | ⟨es, h3, h4⟩
    · exact Or.inl ⟨es, e _ _ h3, RpT.mono e kvs es h4⟩
    · exact Or.inr ⟨es, e _ _ h3, RpK.mono e kvs es h4⟩
theorem RpAll.mono {K : PySem.W.Frag} {G G' : Hp} (e : Le G G') : ∀ (ds : List PyData) (xs : List V), RpAll K G ds xs → RpAll K G' ds xs
  | [], xs, h => by rw [RpAll] at h ⊢; exact h
  | d :: ds, xs, h => by
    rw [RpAll] at h ⊢
    obtain ⟨x, r, h1, h2, h3⟩ := h
    exact ⟨x, r, h1, Rp.mono e d x h2, RpAll.mono e ds r h3⟩
theorem RpT.mono {K : PySem.W.Frag} {G G' : Hp} (e : Le G G') : ∀ (kvs : List (PyData × PyData)) (es : List (List Key × V)), RpT K G kvs es → RpT K G' kvs es
  | [], es, h => by rw [RpT] at h ⊢; exact h
  | (k, d) :: r, es, h => by
    rw [RpT] at h ⊢
    obtain ⟨ks, v, t, h1, h2, h3, h4⟩ := h
    exact ⟨ks, v, t, h1, h2, Rp.mono e d v h3, RpT.mono e r t h4⟩
theorem RpK.mono {K : PySem.W.Frag} {G G' : Hp} (e : Le G G') : ∀ (kvs : List (PyData × PyData)) (es : List (Key × V)), RpK K G kvs es → RpK K G' kvs es
  | [], es, h => by rw [RpK] at h ⊢; exact h
  | (k, d) :: r, es, h => by
    rw [RpK] at h ⊢
    obtain ⟨ks, v, t, h1, h2, h3, h4⟩ := h
    exact ⟨ks, v, t, h1, h2, Rp.mono e d v h3, RpK.mono e r t h4⟩
end
section
variable {K : PySem.W.Frag} {G : Hp} {v : V}
theorem rp_none : Rp K G .none v ↔ v = .non := by rw [Rp]
theorem rp_bool {b : Bool} : Rp K G (.bool b) v ↔ v = .bl b := by rw [Rp]
theorem rp_int {i : Int} : Rp K G (.int i) v ↔ v = .int i := by rw [Rp]
theorem rp_str {s : Str} : Rp K G (.str s) v ↔ v = .str s := by rw [Rp]
theorem rp_list {ds : List PyData} : Rp K G (.list ds) v ↔ ∃ a xs, v = .ref a ∧ Rd G a (.lst xs) ∧ RpAll K G ds xs := by rw [Rp]
theorem rp_tuple {ds : List PyData} : Rp K G (.tuple ds) v ↔ ∃ a xs, v = .ref a ∧ SqT K G a xs ∧ RpAll K G ds xs := by rw [Rp]
theorem rpa_nil {xs : List V} : RpAll K G [] xs ↔ xs = [] := by rw [RpAll]
theorem rpa_cons {d : PyData} {ds : List PyData} {xs : List V} : RpAll K G (d :: ds) xs ↔ ∃ x r, xs = x :: r ∧ Rp K G d x ∧ RpAll K G ds r := by rw [RpAll]
end
theorem RpAll.length {K : PySem.W.Frag} {G : Hp} : ∀ {ds : List PyData} {xs : List V}, RpAll K G ds xs → xs.length = ds.length
  | [], xs, h => by rw [RpAll] at h; rw [h]; rfl
  | d :: ds, xs, h => by
    rw [RpAll] at h
    obtain ⟨x, r, h1, _, h3⟩ := h
    rw [h1, List.length_cons, List.length_cons, RpAll.length h3]
theorem RpAll.get {K : PySem.W.Frag} {G : Hp} : ∀ {ds : List PyData} {xs : List V} {i : Nat} {x : V}, RpAll K G ds xs → xs[i]? = some x → ∃ d, ds[i]? = some d ∧ Rp K G d x
  | [], xs, i, x, h, e => by rw [RpAll] at h; subst h; simp at e
  | d :: ds, xs, 0, x, h, e => by
    rw [RpAll] at h
    obtain ⟨y, r, h1, h2, _⟩ := h
    subst h1
    simp at e
    subst e
    exact ⟨d, rfl, h2⟩
  | d :: ds, xs, i + 1, x, h, e => by
    rw [RpAll] at h
    obtain ⟨y, r, h1, _, h3⟩ := h
    subst h1
    obtain ⟨z, h4, h5⟩ := RpAll.get (i := i) (x := x) h3 (by simpa using e)
    exact ⟨z, by simpa using h4, h5⟩
theorem RpAll.at {K : PySem.W.Frag} {G : Hp} : ∀ {ds : List PyData} {xs : List V} {i : Nat} {d : PyData}, RpAll K G ds xs → ds[i]? = some d → ∃ x, xs[i]? = some x ∧ Rp K G d x
  | [], xs, i, d, h, e => by simp at e
  | d0 :: ds, xs, 0, d, h, e => by
    rw [RpAll] at h
    obtain ⟨y, r, h1, h2, _⟩ := h
    subst h1
    simp at e
    subst e
    exact ⟨y, rfl, h2⟩
  | d0 :: ds, xs, i + 1, d, h, e => by
    rw [RpAll] at h
    obtain ⟨y, r, h1, _, h3⟩ := h
    subst h1
    obtain ⟨z, h4, h5⟩ := RpAll.at (i := i) (d := d) h3 (by simpa using e)
    exact ⟨z, by simpa using h4, h5⟩
theorem RpAll.append {K : PySem.W.Frag} {G : Hp} : ∀ {ds es : List PyData} {xs ys : List V}, RpAll K G ds xs → RpAll K G es ys → RpAll K G (ds ++ es) (xs ++ ys)
  | [], es, xs, ys, h, g => by rw [RpAll] at h; subst h; exact g
  | d :: ds, es, xs, ys, h, g => by
    rw [RpAll] at h
    obtain ⟨y, r, h1, h2, h3⟩ := h
    subst h1
    rw [List.cons_append, List.cons_append, RpAll]
    exact ⟨y, r ++ ys, rfl, h2, RpAll.append h3 g⟩
theorem RpAll.ints {K : PySem.W.Frag} {G : Hp} : ∀ {ns : List Int} {xs : List V}, RpAll K G (ns.map PyData.int) xs → xs = ns.map V.int
  | [], xs, h => by rw [List.map_nil, RpAll] at h; rw [h]; rfl
  | n :: ns, xs, h => by
    rw [List.map_cons, RpAll] at h
    obtain ⟨y, r, h1, h2, h3⟩ := h
    rw [Rp] at h2
    rw [h1, h2, RpAll.ints h3]; rfl
theorem RpAll.bools {K : PySem.W.Frag} {G : Hp} : ∀ {ns : List Bool} {xs : List V}, RpAll K G (ns.map PyData.bool) xs → xs = ns.map V.bl
  | [], xs, h => by rw [List.map_nil, RpAll] at h; rw [h]; rfl
  | n :: ns, xs, h => by
    rw [List.map_cons, RpAll] at h
    obtain ⟨y, r, h1, h2, h3⟩ := h
    rw [Rp] at h2
    rw [h1, h2, RpAll.bools h3]; rfl
theorem rpa_ints {K : PySem.W.Frag} {G : Hp} : ∀ (ns : List Int), RpAll K G (ns.map PyData.int) (ns.map V.int)
  | [] => by rw [List.map_nil, RpAll]; rfl
  | n :: ns => by
    rw [List.map_cons, List.map_cons, RpAll]
    exact ⟨_, _, rfl, by rw [Rp], rpa_ints ns⟩
/-! values at this level -/
inductive Val where
  | d (x : PyData)
  | v (w : V)
  | scr (ns : List Int)
  | any
  /-- a tuple of ints, made by the code itself -/
  | t (ns : List Int)
  /-- a list of such tuples, that stays as it is -/
  | lt (nss : List (List Int))
  /-- a pair of such a tuple and data -/
  | p (ns : List Int) (x : PyData)
  /-- a tuple of ints without attributes of its own -/
  | f (ns : List Int)
  /-- any other thing that stays as it is, by what is true of it -/
  | g (P : Hp → V → Prop)
def TAll (G : Hp) : List (List Int) → List V → Prop
  | [], xs => xs = []
  | ns :: r, xs => ∃ b t, xs = .ref b :: t ∧ G b = some (.tup (ns.map V.int)) ∧ TAll G r t
theorem TAll.mono {G G' : Hp} (e : Le G G') : ∀ {nss : List (List Int)} {xs : List V}, TAll G nss xs → TAll G' nss xs
  | [], xs, h => h
  | ns :: r, xs, h => by
    obtain ⟨b, t, h1, h2, h3⟩ := h
    exact ⟨b, t, h1, e _ _ h2, TAll.mono e h3⟩
theorem TAll.all {K : PySem.W.Frag} {G : Hp} : ∀ {nss : List (List Int)} {xs : List V}, TAll G nss xs → RpAll K G (nss.map fun ns => .tuple (ns.map PyData.int)) xs
  | [], xs, h => by rw [List.map_nil, RpAll]; exact h
  | ns :: r, xs, h => by
    obtain ⟨b, t, h1, h2, h3⟩ := h
    rw [List.map_cons, RpAll]
    exact ⟨_, t, h1, rp_tuple.mpr ⟨b, _, rfl, SqT.of h2, rpa_ints ns⟩, TAll.all h3⟩
inductive VR (K : PySem.W.Frag) (G : Hp) : Val → V → Prop
  | d {x : PyData} {v : V} (h : Rp K G x v) : VR K G (.d x) v
  | v {w : V} : VR K G (.v w) w
  | scr {ns : List Int} {a : Addr} (h : SqL K G a (ns.map V.int)) : VR K G (.scr ns) (.ref a)
  | any {v : V} : VR K G .any v
  | t {ns : List Int} {a : Addr} (h : G a = some (.tup (ns.map V.int))) : VR K G (.t ns) (.ref a)
  | lt {nss : List (List Int)} {a : Addr} {xs : List V} (h : Rd G a (.lst xs)) (h2 : TAll G nss xs) : VR K G (.lt nss) (.ref a)
  | p {ns : List Int} {x : PyData} {a b : Addr} {w : V} (h : G a = some (.tup [.ref b, w])) (h2 : G b = some (.tup (ns.map V.int))) (h3 : Rp K G x w) : VR K G (.p ns x) (.ref a)
  | f {ns : List Int} {a : Addr} {o : Obj} (h : G a = some (.frz o (.tup (ns.map V.int)))) (h1 : o.cls = .type "tuple") (h2 : o.dict = none) : VR K G (.f ns) (.ref a)
  | g {P : Hp → V → Prop} {v : V} (h : P G v) (h1 : ∀ G G', Le G G' → P G v → P G' v) : VR K G (.g P) v
theorem VR.mono {K : PySem.W.Frag} {G G' : Hp} (e : Le G G') {r : Val} {v : V} (h : VR K G r v) : VR K G' r v := by
  cases h with
  | d h => exact .d (Rp.mono e _ v h)
  | v => exact .v
  | scr h => exact .scr (e.sqL h)
  | any => exact .any
  | t h => exact .t (e _ _ h)
  | lt h h2 => exact .lt (e.rd h) (h2.mono e)
  | p h h2 h3 => exact .p (e _ _ h) (e _ _ h2) (Rp.mono e _ _ h3)
  | f h h1 h2 => exact .f (e _ _ h) h1 h2
  | g h h1 => exact .g (h1 _ _ e h) h1
theorem VR.rp {K : PySem.W.Frag} {G : Hp} {x : PyData} {v : V} (h : VR K G (.d x) v) : Rp K G x v := by
  cases h with
  | d h => exact h
theorem VR.eq {K : PySem.W.Frag} {G : Hp} {w v : V} (h : VR K G (.v w) v) : v = w := by
  cases h with
  | v => rfl
def VRs (K : PySem.W.Frag) (G : Hp) : List Val → List V → Prop
  | [], xs => xs = []
  | r :: rs, xs => ∃ x t, xs = x :: t ∧ VR K G r x ∧ VRs K G rs t
theorem VRs.mono {K : PySem.W.Frag} {G G' : Hp} (e : Le G G') : ∀ {rs : List Val} {xs : List V}, VRs K G rs xs → VRs K G' rs xs
  | [], xs, h => h
  | r :: rs, xs, h => by
    obtain ⟨x, t, h1, h2, h3⟩ := h
    exact ⟨x, t, h1, h2.mono e, VRs.mono e h3⟩
theorem VRs.length {K : PySem.W.Frag} {G : Hp} : ∀ {rs : List Val} {xs : List V}, VRs K G rs xs → xs.length = rs.length
  | [], xs, h => by
    have h : xs = [] := h
    rw [h]; rfl
  | r :: rs, xs, h => by
    obtain ⟨x, t, h1, _, h3⟩ := h
    rw [h1, List.length_cons, List.length_cons, VRs.length h3]
theorem VRs.ofAll {K : PySem.W.Frag} {G : Hp} : ∀ {ds : List PyData} {xs : List V}, RpAll K G ds xs → VRs K G (ds.map Val.d) xs
  | [], xs, h => by rw [RpAll] at h; exact h
  | d :: ds, xs, h => by
    rw [RpAll] at h
    obtain ⟨x, r, h1, h2, h3⟩ := h
    exact ⟨x, r, h1, .d h2, VRs.ofAll h3⟩
theorem VRs.toAll {K : PySem.W.Frag} {G : Hp} : ∀ {ds : List PyData} {xs : List V}, VRs K G (ds.map Val.d) xs → RpAll K G ds xs
  | [], xs, h => by rw [RpAll]; exact h
  | d :: ds, xs, h => by
    obtain ⟨x, r, h1, h2, h3⟩ := h
    rw [RpAll]
    exact ⟨x, r, h1, h2.rp, VRs.toAll h3⟩
theorem VRs.append {K : PySem.W.Frag} {G : Hp} : ∀ {rs ss : List Val} {xs ys : List V}, VRs K G rs xs → VRs K G ss ys → VRs K G (rs ++ ss) (xs ++ ys)
  | [], ss, xs, ys, h, g => by
    have h : xs = [] := h
    subst h; exact g
  | r :: rs, ss, xs, ys, h, g => by
    obtain ⟨x, t, h1, h2, h3⟩ := h
    subst h1
    exact ⟨x, t ++ ys, rfl, h2, VRs.append h3 g⟩
/-! slots -/
def Sl (K : PySem.W.Frag) (G : Hp) : List Val → St → Prop
  | [], s => s = []
  | r :: rs, s => ∃ x t, s = x :: t ∧ (r = .any ∨ ∃ v, x = some v ∧ VR K G r v) ∧ Sl K G rs t
theorem Sl.mono {K : PySem.W.Frag} {G G' : Hp} (e : Le G G') : ∀ {rs : List Val} {s : St}, Sl K G rs s → Sl K G' rs s
  | [], s, h => h
  | r :: rs, s, h => by
    obtain ⟨x, t, h1, h2, h3⟩ := h
    refine ⟨x, t, h1, ?_, Sl.mono e h3⟩
    rcases h2 with h2 | ⟨v, h2, h4⟩
    · exact Or.inl h2
    · exact Or.inr ⟨v, h2, h4.mono e⟩
theorem Sl.get {K : PySem.W.Frag} {G : Hp} : ∀ {rs : List Val} {s : St} {i : Nat} {r : Val}, Sl K G rs s → rs[i]? = some r → r ≠ .any → ∃ v, s[i]? = some (some v) ∧ VR K G r v
  | [], s, i, r, h, e, _ => by simp at e
  | r0 :: rs, s, 0, r, h, e, n => by
    obtain ⟨x, t, h1, h2, h3⟩ := h
    subst h1
    have e : r0 = r := by simpa using e
    subst e
    rcases h2 with h2 | ⟨v, h2, h4⟩
    · exact absurd h2 n
    · exact ⟨v, by rw [h2]; rfl, h4⟩
  | r0 :: rs, s, i + 1, r, h, e, n => by
    obtain ⟨x, t, h1, h2, h3⟩ := h
    subst h1
    obtain ⟨v, h5, h6⟩ := Sl.get (i := i) (r := r) h3 (by simpa using e) n
    exact ⟨v, by simpa using h5, h6⟩
theorem Sl.set {K : PySem.W.Frag} {G : Hp} {r : Val} {v : V} (hv : VR K G r v) : ∀ {rs : List Val} {s : St} (i : Nat), Sl K G rs s → Sl K G (rs.set i r) (s.set i (some v))
  | [], s, i, h => by
    have h : s = [] := h
    subst h; exact rfl
  | r0 :: rs, s, 0, h => by
    obtain ⟨x, t, h1, h2, h3⟩ := h
    subst h1
    exact ⟨some v, t, rfl, Or.inr ⟨v, rfl, hv⟩, h3⟩
  | r0 :: rs, s, i + 1, h => by
    obtain ⟨x, t, h1, h2, h3⟩ := h
    subst h1
    exact ⟨x, t.set i (some v), rfl, h2, Sl.set hv i h3⟩
theorem Sl.length {K : PySem.W.Frag} {G : Hp} : ∀ {rs : List Val} {s : St}, Sl K G rs s → s.length = rs.length
  | [], s, h => by
    have h : s = [] := h
    rw [h]; rfl
  | r :: rs, s, h => by
    obtain ⟨x, t, h1, _, h3⟩ := h
    rw [h1, List.length_cons, List.length_cons, Sl.length h3]
theorem Sl.anys {K : PySem.W.Frag} {G : Hp} : ∀ (n : Nat), Sl K G (List.replicate n .any) (List.replicate n none)
  | 0 => rfl
  | n + 1 => ⟨none, List.replicate n none, rfl, Or.inl rfl, Sl.anys n⟩
theorem Sl.start {K : PySem.W.Frag} {G : Hp} : ∀ {rs : List Val} {vs : List V} (n : Nat), VRs K G rs vs → Sl K G (rs ++ List.replicate n .any) (vs.map some ++ List.replicate n none)
  | [], vs, n, h => by
    have h : vs = [] := h
    subst h; exact Sl.anys n
  | r :: rs, vs, n, h => by
    obtain ⟨x, t, h1, h2, h3⟩ := h
    subst h1
    exact ⟨some x, _, rfl, Or.inr ⟨x, rfl, h2⟩, Sl.start n h3⟩
/-! what may change -/
inductive MO where
  | lst (rs : List Val)
  | dT (kvs : List (List Key × Val))
  | dK (kvs : List (Key × Val))
  /-- a dict that is being walked -/
  | lk (od : Obj) (es : List (List Key × V)) (kvs : List (List Key × Val))
  /-- a list of one whole number -/
  | box
  /-- any other thing, by what is true of it -/
  | g (P : Hp → Hp → Addr → Prop)
abbrev Mm := Addr → Option MO
def put (m : Mm) (a : Addr) (o : MO) : Mm := fun b => if b = a then some o else m b
def del (m : Mm) (a : Addr) : Mm := fun b => if b = a then none else m b
theorem put_same {m : Mm} {a : Addr} {o : MO} : put m a o a = some o := by unfold put; rw [if_pos rfl]
theorem put_ne {m : Mm} {a b : Addr} {o : MO} (h : b ≠ a) : put m a o b = m b := by unfold put; rw [if_neg h]
theorem put_put {m : Mm} {a : Addr} {o u : MO} : put (put m a o) a u = put m a u := by
  funext b; unfold put; split <;> rfl
theorem put_comm {m : Mm} {a b : Addr} {o u : MO} (h : a ≠ b) : put (put m a o) b u = put (put m b u) a o := by
  funext c; unfold put
  by_cases h1 : c = b
  · rw [if_pos h1]
    by_cases h2 : c = a
    · exact absurd (h2.symm.trans h1) h
    · rw [if_neg h2, if_pos h1]
  · rw [if_neg h1]
    by_cases h2 : c = a
    · rw [if_pos h2, if_pos h2]
    · rw [if_neg h2, if_neg h2, if_neg h1]
theorem ne_of_get {m : Mm} {a b : Addr} {o : MO} (h : m a = some o) (g : m b = none) : a ≠ b := fun e => by
  rw [e, g] at h; cases h
def KVs (K : PySem.W.Frag) (G : Hp) {α : Type} : List (α × Val) → List (α × V) → Prop
  | [], es => es = []
  | (k, r) :: t, es => ∃ v u, es = (k, v) :: u ∧ VR K G r v ∧ KVs K G t u
theorem KVs.mono {K : PySem.W.Frag} {G G' : Hp} {α : Type} (e : Le G G') : ∀ {kvs : List (α × Val)} {es : List (α × V)}, KVs K G kvs es → KVs K G' kvs es
  | [], es, h => h
  | (k, r) :: t, es, h => by
    obtain ⟨v, u, h1, h2, h3⟩ := h
    exact ⟨v, u, h1, h2.mono e, KVs.mono e h3⟩
def MR (K : PySem.W.Frag) (G H : Hp) (a : Addr) : MO → Prop
  | .lst rs => ∃ xs, H a = some (.lst xs) ∧ VRs K G rs xs
  | .dT kvs => ∃ es, H a = some (.dT es) ∧ KVs K G kvs es
  | .dK kvs => ∃ es, H a = some (.dK es) ∧ KVs K G kvs es
  | .lk od es kvs => H a = some (.frz od (.dT es)) ∧ KVs K G kvs es
  | .box => ∃ n : Int, H a = some (.lst [.int n])
  | .g P => P G H a ∧ (∀ G G' H H' : Hp, Le G G' → H' a = H a → P G H a → P G' H' a) ∧ (∃ u, H a = some u) ∧ ∀ xs, H a ≠ some (.tup xs)
theorem MR.some {K : PySem.W.Frag} {G H : Hp} {a : Addr} {o : MO} (h : MR K G H a o) : ∃ u, H a = some u := by
  cases o with
  | lst rs => obtain ⟨xs, h, _⟩ := h; exact ⟨_, h⟩
  | dT kvs => obtain ⟨xs, h, _⟩ := h; exact ⟨_, h⟩
  | dK kvs => obtain ⟨xs, h, _⟩ := h; exact ⟨_, h⟩
  | lk od es kvs => exact ⟨_, h.1⟩
  | box => obtain ⟨n, h⟩ := h; exact ⟨_, h⟩
  | g P => exact h.2.2.1
theorem MR.mono {K : PySem.W.Frag} {G G' H H' : Hp} {a : Addr} {o : MO} (e : Le G G') (hh : H' a = H a) (h : MR K G H a o) : MR K G' H' a o := by
  cases o with
  | lst rs => obtain ⟨xs, h, g⟩ := h; exact ⟨xs, hh.trans h, g.mono e⟩
  | dT kvs => obtain ⟨xs, h, g⟩ := h; exact ⟨xs, hh.trans h, g.mono e⟩
  | dK kvs => obtain ⟨xs, h, g⟩ := h; exact ⟨xs, hh.trans h, g.mono e⟩
  | lk od es kvs => exact ⟨hh.trans h.1, h.2.mono e⟩
  | box => obtain ⟨n, h⟩ := h; exact ⟨n, hh.trans h⟩
  | g P => obtain ⟨h1, h2, h3, h4⟩ := h; exact ⟨h2 _ _ _ _ e hh h1, h2, by rw [hh]; exact h3, by rw [hh]; exact h4⟩
structure Sta (K : PySem.W.Frag) (m : Mm) (H G : Hp) : Prop where
  sub : ∀ a o, G a = some o → H a = some o
  mem : ∀ a o, m a = some o → MR K G H a o
  dis : ∀ a o, m a = some o → G a = none
section
variable {K : PySem.W.Frag} {m : Mm} {H G : Hp} {p : Addr} {o : HO}
theorem Sta.free (S : Sta K m H G) (h : H p = none) : G p = none := by
  cases e : G p with
  | none => rfl
  | some u => rw [S.sub p u e] at h; cases h
theorem Sta.freeM (S : Sta K m H G) (h : H p = none) : m p = none := by
  cases e : m p with
  | none => rfl
  | some u =>
    obtain ⟨x, hx⟩ := (S.mem p u e).some
    rw [hx] at h; cases h
/-- a new thing that stays as it is -/
theorem Sta.fix (S : Sta K m H G) (h : H p = none) : Sta K m (upd H p o) (upd G p o) := by
  have hg := S.free h
  have hm := S.freeM h
  refine ⟨fun a u e => ?_, fun a u e => ?_, fun a u e => ?_⟩
  · by_cases ha : a = p
    · subst ha; rw [upd_same] at e ⊢; exact e
    · rw [upd_ne ha] at e ⊢; exact S.sub a u e
  · have ha : a ≠ p := ne_of_get e hm
    exact (S.mem a u e).mono (Le.new hg) (upd_ne ha)
  · have ha : a ≠ p := ne_of_get e hm
    rw [upd_ne ha]; exact S.dis a u e
/-- a new thing that may change -/
theorem Sta.new {u : MO} (S : Sta K m H G) (h : H p = none) (hu : MR K G (upd H p o) p u) : Sta K (put m p u) (upd H p o) G := by
  have hg := S.free h
  refine ⟨fun a w e => ?_, fun a w e => ?_, fun a w e => ?_⟩
  · rw [upd_ne (ne_of_none e hg)]; exact S.sub a w e
  · by_cases ha : a = p
    · subst ha; rw [put_same] at e; cases e; exact hu
    · rw [put_ne ha] at e
      exact (S.mem a w e).mono (Le.refl G) (upd_ne ha)
  · by_cases ha : a = p
    · subst ha; exact hg
    · rw [put_ne ha] at e; exact S.dis a w e
/-- a thing changed -/
theorem Sta.chg {u w : MO} (S : Sta K m H G) (h : m p = some w) (hu : MR K G (upd H p o) p u) : Sta K (put m p u) (upd H p o) G := by
  have hg := S.dis p w h
  refine ⟨fun a w e => ?_, fun a w e => ?_, fun a w e => ?_⟩
  · rw [upd_ne (ne_of_none e hg)]; exact S.sub a w e
  · by_cases ha : a = p
    · subst ha; rw [put_same] at e; cases e; exact hu
    · rw [put_ne ha] at e
      exact (S.mem a w e).mono (Le.refl G) (upd_ne ha)
  · by_cases ha : a = p
    · subst ha; exact hg
    · rw [put_ne ha] at e; exact S.dis a w e
/-- from now on it stays as it is -/
theorem Sta.freeze {u : MO} (S : Sta K m H G) (h : m p = some u) (ho : H p = some o) : Sta K (del m p) H (upd G p o) := by
  have hg := S.dis p u h
  refine ⟨fun a w e => ?_, fun a w e => ?_, fun a w e => ?_⟩
  · by_cases ha : a = p
    · subst ha; rw [upd_same] at e; cases e; exact ho
    · rw [upd_ne ha] at e; exact S.sub a w e
  · by_cases ha : a = p
    · subst ha; unfold del at e; rw [if_pos rfl] at e; cases e
    · unfold del at e; rw [if_neg ha] at e
      exact (S.mem a w e).mono (Le.new hg) rfl
  · by_cases ha : a = p
    · subst ha; unfold del at e; rw [if_pos rfl] at e; cases e
    · unfold del at e; rw [if_neg ha] at e
      rw [upd_ne ha]; exact S.dis a w e
/-- less told of what may change -/
theorem Sta.less {m' : Mm} (S : Sta K m H G) (h : ∀ a o, m' a = some o → m a = some o) : Sta K m' H G :=
  ⟨S.sub, fun a o e => S.mem a o (h a o e), fun a o e => S.dis a o (h a o e)⟩
theorem Sta.sqL {a : Addr} {xs : List V} (S : Sta K m H G) (h : SqL K G a xs) : SqL K H a xs := Le.sqL S.sub h
theorem Sta.sqT {a : Addr} {xs : List V} (S : Sta K m H G) (h : SqT K G a xs) : SqT K H a xs := Le.sqT S.sub h
end
/-! what code does, at this level -/
def Ev (K : PySem.W.Frag) (t : TE) (r : List Val) (m : Mm) (Q : Val → Mm → Prop) : Prop :=
  ∀ σ H G, Sta K m H G → Sl K G r σ → ∀ R : VK, (∀ v H' G' x m', Q x m' → Sta K m' H' G' → Le G G' → VR K G' x v → R v H') → t σ H R
def EvT (K : PySem.W.Frag) (t : TT) (r : List Val) (m : Mm) (Q : Bool → Mm → Prop) : Prop :=
  ∀ σ H G, Sta K m H G → Sl K G r σ → ∀ R : Bool → Hp → Prop, (∀ H' G' b m', Q b m' → Sta K m' H' G' → Le G G' → R b H') → t σ H R
def EvA (K : PySem.W.Frag) (t : TA) (r : List Val) (m : Mm) (Q : List Val → Mm → Prop) : Prop :=
  ∀ σ H G, Sta K m H G → Sl K G r σ → ∀ R : List V → Hp → Prop, (∀ vs H' G' xs m', Q xs m' → Sta K m' H' G' → Le G G' → VRs K G' xs vs → R vs H') → t σ H R
def Op2 (K : PySem.W.Frag) (f : R2) (x y : Val) (m : Mm) (Q : Val → Mm → Prop) : Prop :=
  ∀ H G v w, Sta K m H G → VR K G x v → VR K G y w → ∀ R : VK, (∀ v H' G' x m', Q x m' → Sta K m' H' G' → Le G G' → VR K G' x v → R v H') → f v w H R
def Op1 (K : PySem.W.Frag) (f : V → Hp → VK → Prop) (x : Val) (m : Mm) (Q : Val → Mm → Prop) : Prop :=
  ∀ H G v, Sta K m H G → VR K G x v → ∀ R : VK, (∀ v H' G' x m', Q x m' → Sta K m' H' G' → Le G G' → VR K G' x v → R v H') → f v H R
def OpN (K : PySem.W.Frag) (f : List V → Hp → VK → Prop) (xs : List Val) (m : Mm) (Q : Val → Mm → Prop) : Prop :=
  ∀ H G vs, Sta K m H G → VRs K G xs vs → ∀ R : VK, (∀ v H' G' x m', Q x m' → Sta K m' H' G' → Le G G' → VR K G' x v → R v H') → f vs H R
def Wp (K : PySem.W.Frag) (t : TS) (r : List Val) (m : Mm) (N : List Val → Mm → Prop) (E : Val → Mm → Prop) : Prop :=
  ∀ σ H G (D : Ends), Sta K m H G → Sl K G r σ → (∀ σ' H' G' r' m', N r' m' → Sta K m' H' G' → Le G G' → Sl K G' r' σ' → D.nx σ' H') →
    (∀ v H' G' x m', E x m' → Sta K m' H' G' → Le G G' → VR K G' x v → D.rt v H') → t D σ H
section
variable {K : PySem.W.Frag} {r : List Val} {m : Mm} {Q : Val → Mm → Prop} {ta tb tc te : TE} {tt tu : TT}
theorem Ev.imp {Q' : Val → Mm → Prop} (h : Ev K te r m Q) (i : ∀ x m', Q x m' → Q' x m') : Ev K te r m Q' := fun σ H G S L R q =>
  h σ H G S L R fun v H' G' x m' hq => q v H' G' x m' (i x m' hq)
theorem EvT.imp {Q Q' : Bool → Mm → Prop} (h : EvT K tt r m Q) (i : ∀ x m', Q x m' → Q' x m') : EvT K tt r m Q' := fun σ H G S L R q =>
  h σ H G S L R fun H' G' x m' hq => q H' G' x m' (i x m' hq)
theorem EvA.imp {t : TA} {Q Q' : List Val → Mm → Prop} (h : EvA K t r m Q) (i : ∀ x m', Q x m' → Q' x m') : EvA K t r m Q' := fun σ H G S L R q =>
  h σ H G S L R fun v H' G' x m' hq => q v H' G' x m' (i x m' hq)
theorem ev_var {i : Nat} {x : Val} (h : r[i]? = some x) (n : x ≠ .any) (q : Q x m) : Ev K (tVar i) r m Q := fun σ H G S L R k => by
  obtain ⟨v, h1, h2⟩ := L.get h n
  exact ⟨v, h1, k v H G x m q S (Le.refl G) h2⟩
theorem ev_cI {i : Int} (q : Q (.d (.int i)) m) : Ev K (tC (.int i)) r m Q := fun σ H G S L R k => k _ H G _ m q S (Le.refl G) (.d (rp_int.mpr rfl))
theorem ev_cB {i : Bool} (q : Q (.d (.bool i)) m) : Ev K (tC (.bl i)) r m Q := fun σ H G S L R k => k _ H G _ m q S (Le.refl G) (.d (rp_bool.mpr rfl))
theorem ev_cS {i : Str} (q : Q (.d (.str i)) m) : Ev K (tC (.str i)) r m Q := fun σ H G S L R k => k _ H G _ m q S (Le.refl G) (.d (rp_str.mpr rfl))
theorem ev_cN (q : Q (.d .none) m) : Ev K (tC .non) r m Q := fun σ H G S L R k => k _ H G _ m q S (Le.refl G) (.d (rp_none.mpr rfl))
theorem ev_cV {v : V} (q : Q (.v v) m) : Ev K (tC v) r m Q := fun σ H G S L R k => k _ H G _ m q S (Le.refl G) .v
/-- a constant of the module that is data -/
theorem ev_cG {v : V} {x : PyData} (hv : ∀ G, Rp K G x v) (q : Q (.d x) m) : Ev K (tC v) r m Q := fun σ H G S L R k => k _ H G _ m q S (Le.refl G) (.d (hv G))
theorem ev_op {f : R2} (h : Ev K ta r m fun x m1 => Ev K tb r m1 fun y m2 => Op2 K f x y m2 Q) : Ev K (tOp f ta tb) r m Q := fun σ H G S L R k =>
  h σ H G S L _ fun v H1 G1 x m1 h1 S1 e1 r1 => h1 σ H1 G1 S1 (L.mono e1) _ fun w H2 G2 y m2 h2 S2 e2 r2 =>
    h2 H2 G2 v w S2 (r1.mono e2) r2 R fun v' H3 G3 z m3 h3 S3 e3 r3 => k v' H3 G3 z m3 h3 S3 (e1.trans (e2.trans e3)) r3
theorem ev_un {f : V → Hp → VK → Prop} (h : Ev K ta r m fun x m1 => Op1 K f x m1 Q) : Ev K (tUn f ta) r m Q := fun σ H G S L R k =>
  h σ H G S L _ fun v H1 G1 x m1 h1 S1 e1 r1 => h1 H1 G1 v S1 r1 R fun v' H3 G3 z m3 h3 S3 e3 r3 => k v' H3 G3 z m3 h3 S3 (e1.trans e3) r3
theorem eva_nil {Q : List Val → Mm → Prop} (q : Q [] m) : EvA K tNil r m Q := fun σ H G S L R k => k [] H G [] m q S (Le.refl G) rfl
theorem eva_cons {tr : TA} {Q : List Val → Mm → Prop} (h : Ev K ta r m fun x m1 => EvA K tr r m1 fun xs m2 => Q (x :: xs) m2) : EvA K (tCons ta tr) r m Q := fun σ H G S L R k =>
  h σ H G S L _ fun v H1 G1 x m1 h1 S1 e1 r1 => h1 σ H1 G1 S1 (L.mono e1) _ fun vs H2 G2 xs m2 h2 S2 e2 r2 =>
    k (v :: vs) H2 G2 (x :: xs) m2 h2 S2 (e1.trans e2) ⟨v, vs, rfl, r1.mono e2, r2⟩
theorem ev_callB {f : List V → Hp → VK → Prop} {t : TA} (h : EvA K t r m fun xs m1 => OpN K f xs m1 Q) : Ev K (tCB f t) r m Q := fun σ H G S L R k =>
  h σ H G S L _ fun vs H1 G1 xs m1 h1 S1 e1 r1 => h1 H1 G1 vs S1 r1 R fun v' H3 G3 z m3 h3 S3 e3 r3 => k v' H3 G3 z m3 h3 S3 (e1.trans e3) r3
theorem ev_if (h : EvT K tt r m fun b m1 => (b = true → Ev K ta r m1 Q) ∧ (b = false → Ev K tb r m1 Q)) : Ev K (tIf tt ta tb) r m Q := fun σ H G S L R k =>
  h σ H G S L _ fun H1 G1 b m1 h1 S1 e1 => by
    cases b with
    | true =>
      show ta σ H1 R
      exact h1.1 rfl σ H1 G1 S1 (L.mono e1) R fun v' H3 G3 z m3 h3 S3 e3 r3 => k v' H3 G3 z m3 h3 S3 (e1.trans e3) r3
    | false =>
      show tb σ H1 R
      exact h1.2 rfl σ H1 G1 S1 (L.mono e1) R fun v' H3 G3 z m3 h3 S3 e3 r3 => k v' H3 G3 z m3 h3 S3 (e1.trans e3) r3
theorem evt_test {Q : Bool → Mm → Prop} (h : Ev K te r m fun x m1 => ∃ b, x = .d (.bool b) ∧ Q b m1) : EvT K (tTest te) r m Q := fun σ H G S L R k =>
  h σ H G S L _ fun v H1 G1 x m1 ⟨b, hx, hb⟩ S1 e1 r1 => by
    subst hx
    exact ⟨b, rp_bool.mp r1.rp, k H1 G1 b m1 hb S1 e1⟩
theorem evt_B {Q : Bool → Mm → Prop} (h : Ev K te r m fun x m1 => ∃ b, x = .d (.bool b) ∧ Q b m1) : EvT K (tB te) r m Q := fun σ H G S L R k =>
  h σ H G S L _ fun v H1 G1 x m1 ⟨b, hx, hb⟩ S1 e1 r1 => by
    subst hx
    exact ⟨b, rp_bool.mp r1.rp, k H1 G1 b m1 hb S1 e1⟩
theorem evt_and {Q : Bool → Mm → Prop} (h : EvT K tt r m fun b m1 => (b = true → EvT K tu r m1 Q) ∧ (b = false → Q false m1)) : EvT K (tAnd tt tu) r m Q := fun σ H G S L R k =>
  h σ H G S L _ fun H1 G1 b m1 h1 S1 e1 => by
    cases b with
    | true =>
      show tu σ H1 R
      exact h1.1 rfl σ H1 G1 S1 (L.mono e1) R fun H3 G3 z m3 h3 S3 e3 => k H3 G3 z m3 h3 S3 (e1.trans e3)
    | false =>
      show R false H1
      exact k H1 G1 false m1 (h1.2 rfl) S1 e1
theorem evt_or {Q : Bool → Mm → Prop} (h : EvT K tt r m fun b m1 => (b = true → Q true m1) ∧ (b = false → EvT K tu r m1 Q)) : EvT K (tOr tt tu) r m Q := fun σ H G S L R k =>
  h σ H G S L _ fun H1 G1 b m1 h1 S1 e1 => by
    cases b with
    | false =>
      show tu σ H1 R
      exact h1.2 rfl σ H1 G1 S1 (L.mono e1) R fun H3 G3 z m3 h3 S3 e3 => k H3 G3 z m3 h3 S3 (e1.trans e3)
    | true =>
      show R true H1
      exact k H1 G1 true m1 (h1.1 rfl) S1 e1
theorem evt_not {Q : Bool → Mm → Prop} (h : EvT K tt r m fun b m1 => Q (!b) m1) : EvT K (tNot tt) r m Q := fun σ H G S L R k =>
  h σ H G S L _ fun H1 G1 b m1 h1 S1 e1 => k H1 G1 (!b) m1 h1 S1 e1
theorem ev_and (h : Ev K ta r m fun x m1 => ∃ b, x = .d (.bool b) ∧ (b = true → Ev K tb r m1 Q) ∧ (b = false → Q (.d (.bool false)) m1)) : Ev K (tAndV ta tb) r m Q := fun σ H G S L R k =>
  h σ H G S L _ fun v H1 G1 x m1 ⟨b, hx, h1, h2⟩ S1 e1 r1 => by
    subst hx
    refine ⟨b, rp_bool.mp r1.rp, ?_⟩
    cases b with
    | true =>
      show tb σ H1 R
      exact h1 rfl σ H1 G1 S1 (L.mono e1) R fun v' H3 G3 z m3 h3 S3 e3 r3 => k v' H3 G3 z m3 h3 S3 (e1.trans e3) r3
    | false =>
      show R (.bl false) H1
      exact k _ H1 G1 _ m1 (h2 rfl) S1 e1 (.d (rp_bool.mpr rfl))
theorem ev_or (h : Ev K ta r m fun x m1 => ∃ b, x = .d (.bool b) ∧ (b = true → Q (.d (.bool true)) m1) ∧ (b = false → Ev K tb r m1 Q)) : Ev K (tOrV ta tb) r m Q := fun σ H G S L R k =>
  h σ H G S L _ fun v H1 G1 x m1 ⟨b, hx, h1, h2⟩ S1 e1 r1 => by
    subst hx
    refine ⟨b, rp_bool.mp r1.rp, ?_⟩
    cases b with
    | false =>
      show tb σ H1 R
      exact h2 rfl σ H1 G1 S1 (L.mono e1) R fun v' H3 G3 z m3 h3 S3 e3 r3 => k v' H3 G3 z m3 h3 S3 (e1.trans e3) r3
    | true =>
      show R (.bl true) H1
      exact k _ H1 G1 _ m1 (h1 rfl) S1 e1 (.d (rp_bool.mpr rfl))
theorem ev_not (h : Ev K ta r m fun x m1 => ∃ b, x = .d (.bool b) ∧ Q (.d (.bool (!b))) m1) : Ev K (tNotV ta) r m Q := fun σ H G S L R k =>
  h σ H G S L _ fun v H1 G1 x m1 ⟨b, hx, h1⟩ S1 e1 r1 => by
    subst hx
    exact ⟨b, rp_bool.mp r1.rp, k _ H1 G1 _ m1 h1 S1 e1 (.d (rp_bool.mpr rfl))⟩
theorem ev_chain {f g : R2} (h : Ev K ta r m fun x m1 => Ev K tb r m1 fun y m2 => Op2 K f x y m2 fun z m3 => ∃ b, z = .d (.bool b) ∧ (b = true → Ev K tc r m3 fun w m4 => Op2 K g y w m4 Q) ∧ (b = false → Q (.d (.bool false)) m3)) :
    Ev K (tChain f g ta tb tc) r m Q := fun σ H G S L R k =>
  h σ H G S L _ fun v H1 G1 x m1 h1 S1 e1 r1 => h1 σ H1 G1 S1 (L.mono e1) _ fun w H2 G2 y m2 h2 S2 e2 r2 =>
    h2 H2 G2 v w S2 (r1.mono e2) r2 _ fun v' H3 G3 z m3 ⟨b, hz, h3, h4⟩ S3 e3 r3 => by
      subst hz
      refine ⟨b, rp_bool.mp r3.rp, ?_⟩
      cases b with
      | true =>
        show tc σ H3 _
        exact h3 rfl σ H3 G3 S3 (L.mono (e1.trans (e2.trans e3))) _ fun u H4 G4 q m4 h5 S4 e4 r4 =>
          h5 H4 G4 w u S4 (r2.mono (e3.trans e4)) r4 R fun v5 H5 G5 z5 m5 q5 S5 e5 r5 => k v5 H5 G5 z5 m5 q5 S5 (e1.trans (e2.trans (e3.trans (e4.trans e5)))) r5
      | false =>
        show R (.bl false) H3
        exact k _ H3 G3 _ m3 (h4 rfl) S3 (e1.trans (e2.trans e3)) (.d (rp_bool.mpr rfl))
/-- a tuple -/
theorem ev_tup {t : TA} (h : EvA K t r m fun xs m1 => ∃ ds : List PyData, xs = ds.map Val.d ∧ ds.length ≤ 100000 ∧ Q (.d (.tuple ds)) m1) : Ev K (tTup t) r m Q := fun σ H G S L R k =>
  h σ H G S L _ fun vs H1 G1 xs m1 ⟨ds, hx, hl, q⟩ S1 e1 r1 => by
    subst hx
    have hA := r1.toAll
    refine ⟨by rw [hA.length]; exact Nat.le_trans hl (by decide), fun p hp => ?_⟩
    have hg := S1.free hp
    exact k (.ref p) _ (upd G1 p (.tup vs)) _ m1 q (S1.fix hp) (e1.trans (Le.new hg)) (.d <| rp_tuple.mpr ⟨p, vs, rfl, SqT.of upd_same, RpAll.mono (Le.new hg) ds vs hA⟩)
/-- a list that stays as it is -/
theorem ev_lstD {t : TA} (h : EvA K t r m fun xs m1 => ∃ ds : List PyData, xs = ds.map Val.d ∧ ds.length ≤ 100000 ∧ Q (.d (.list ds)) m1) : Ev K (tLst t) r m Q := fun σ H G S L R k =>
  h σ H G S L _ fun vs H1 G1 xs m1 ⟨ds, hx, hl, q⟩ S1 e1 r1 => by
    subst hx
    have hA := r1.toAll
    refine ⟨by rw [hA.length]; exact Nat.le_trans hl (by decide), fun p hp => ?_⟩
    have hg := S1.free hp
    exact k (.ref p) _ (upd G1 p (.lst vs)) _ m1 q (S1.fix hp) (e1.trans (Le.new hg)) (.d <| rp_list.mpr ⟨p, vs, rfl, Rd.of upd_same, RpAll.mono (Le.new hg) ds vs hA⟩)
/-- what may change is data from now on -/
theorem ev_freezeL (h : Ev K te r m fun x m1 => ∃ p ds, x = .v (.ref p) ∧ m1 p = some (.lst (ds.map Val.d)) ∧ Q (.d (.list ds)) (del m1 p)) : Ev K te r m Q := fun σ H G S L R k =>
  h σ H G S L R fun v H1 G1 x m1 ⟨p, ds, hx, hm, q⟩ S1 e1 r1 => by
    subst hx
    have r1 : v = .ref p := r1.eq
    subst r1
    obtain ⟨xs, h1, h2⟩ := S1.mem p _ hm
    have hg := S1.dis p _ hm
    exact k (.ref p) H1 (upd G1 p (.lst xs)) _ _ q (S1.freeze hm h1) (e1.trans (Le.new hg)) (.d <| rp_list.mpr ⟨p, xs, rfl, Rd.of upd_same, RpAll.mono (Le.new hg) ds xs h2.toAll⟩)
/-! statements -/
variable {N : List Val → Mm → Prop} {E : Val → Mm → Prop} {t u : TS}
theorem Wp.imp {N' : List Val → Mm → Prop} {E' : Val → Mm → Prop} (h : Wp K t r m N E) (i : ∀ x m', N x m' → N' x m') (j : ∀ x m', E x m' → E' x m') : Wp K t r m N' E' := fun σ H G D S L a b =>
  h σ H G D S L (fun σ' H' G' r' m' hq => a σ' H' G' r' m' (i _ _ hq)) (fun v H' G' x m' hq => b v H' G' x m' (j _ _ hq))
theorem w_next (q : N r m) : Wp K tNext r m N E := fun σ H G D S L a b => a σ H G r m q S (Le.refl G) L
theorem w_seq (h : Wp K t r m (fun r1 m1 => Wp K u r1 m1 N E) E) : Wp K (tSeq t u) r m N E := fun σ H G D S L a b =>
  h σ H G { D with nx := u D } S L (fun σ1 H1 G1 r1 m1 h1 S1 e1 L1 => h1 σ1 H1 G1 D S1 L1 (fun σ2 H2 G2 r2 m2 n2 S2 e2 L2 => a σ2 H2 G2 r2 m2 n2 S2 (e1.trans e2) L2)
    (fun v H2 G2 x m2 n2 S2 e2 L2 => b v H2 G2 x m2 n2 S2 (e1.trans e2) L2)) b
theorem w_asg {i : Nat} (h : Ev K te r m fun x m1 => N (r.set i x) m1) : Wp K (tAsg te (gName i)) r m N E := fun σ H G D S L a b =>
  h σ H G S L _ fun v H1 G1 x m1 q S1 e1 r1 => a (σ.set i (some v)) H1 G1 (r.set i x) m1 q S1 e1 ((L.mono e1).set r1 i)
theorem w_drop (h : Ev K te r m fun _ m1 => N r m1) : Wp K (tDrop te) r m N E := fun σ H G D S L a b =>
  h σ H G S L _ fun v H1 G1 x m1 q S1 e1 r1 => a σ H1 G1 r m1 q S1 e1 (L.mono e1)
theorem w_ret (h : Ev K te r m E) : Wp K (tRet te) r m N E := fun σ H G D S L a b => h σ H G S L _ b
theorem w_if (h : EvT K tt r m fun c m1 => (c = true → Wp K t r m1 N E) ∧ (c = false → Wp K u r m1 N E)) : Wp K (tIfS tt t u) r m N E := fun σ H G D S L a b =>
  h σ H G S L _ fun H1 G1 c m1 h1 S1 e1 => by
    cases c with
    | true =>
      show t D σ H1
      exact h1.1 rfl σ H1 G1 D S1 (L.mono e1) (fun σ2 H2 G2 r2 m2 n2 S2 e2 L2 => a σ2 H2 G2 r2 m2 n2 S2 (e1.trans e2) L2) (fun v H2 G2 x m2 n2 S2 e2 L2 => b v H2 G2 x m2 n2 S2 (e1.trans e2) L2)
    | false =>
      show u D σ H1
      exact h1.2 rfl σ H1 G1 D S1 (L.mono e1) (fun σ2 H2 G2 r2 m2 n2 S2 e2 L2 => a σ2 H2 G2 r2 m2 n2 S2 (e1.trans e2) L2) (fun v H2 G2 x m2 n2 S2 e2 L2 => b v H2 G2 x m2 n2 S2 (e1.trans e2) L2)
/-- a, b = .. of one tuple -/
theorem w_asg2 {i j : Nat} (h : Ev K te r m fun x m1 => ∃ d1 d2, x = .d (.tuple [d1, d2]) ∧ N ((r.set i (.d d1)).set j (.d d2)) m1) : Wp K (tAsg te (gTup K 2 (gCons (gName i) (gCons (gName j) gNil)))) r m N E := fun σ H G D S L a b =>
  h σ H G S L _ fun v H1 G1 x m1 ⟨d1, d2, hx, q⟩ S1 e1 r1 => by
    subst hx
    obtain ⟨p, xs, hv, hs, hA⟩ := rp_tuple.mp r1.rp
    have hl := hA.length
    obtain ⟨x1, t1, rfl, a1, hA⟩ := rpa_cons.mp hA
    obtain ⟨x2, t2, rfl, a2, hA⟩ := rpa_cons.mp hA
    obtain rfl := rpa_nil.mp hA
    refine ⟨p, _, hv, S1.sqT hs, rfl, x1, [x2], rfl, x2, [], rfl, rfl, ?_⟩
    exact a _ H1 G1 _ m1 q S1 e1 (((L.mono e1).set (r := .d d1) (.d a1) i).set (r := .d d2) (.d a2) j)
/-- a, b = e, f -/
theorem w_par {i j : Nat} {ta : TA} (h : EvA K ta r m fun xs m1 => ∃ x y, xs = [x, y] ∧ N ((r.set i x).set j y) m1) : Wp K (tPar i j ta) r m N E := fun σ H G D S L a b =>
  h σ H G S L _ fun vs H1 G1 xs m1 ⟨x, y, hx, q⟩ S1 e1 r1 => by
    subst hx
    obtain ⟨v1, t1, rfl, a1, t2⟩ := r1
    obtain ⟨v2, t2, rfl, a2, t3⟩ := t2
    have t3 : t2 = [] := t3
    subst t3
    exact ⟨v1, v2, rfl, a _ H1 G1 _ m1 q S1 e1 (((L.mono e1).set a1 i).set a2 j)⟩
theorem w_while {tt : TT} (W : Nat → List Val → Mm → Prop) (n0 : Nat) (h0 : W n0 r m)
    (hs : ∀ n r' m', W n r' m' → EvT K tt r' m' fun c m1 => (c = true → Wp K t r' m1 (fun r2 m2 => ∃ n', n' < n ∧ W n' r2 m2) E) ∧ (c = false → N r' m1)) : Wp K (tWhile tt t) r m N E := fun σ H G D S L a b => by
  refine ⟨fun n σ' H' => ∃ G' r' m', W n r' m' ∧ Sta K m' H' G' ∧ Le G G' ∧ Sl K G' r' σ', ⟨n0, G, r, m, h0, S, Le.refl G, L⟩, ?_⟩
  rintro n σ1 H1 ⟨G1, r1, m1, hw, S1, e1, L1⟩
  refine hs n r1 m1 hw σ1 H1 G1 S1 L1 _ fun H2 G2 c m2 h2 S2 e2 => ?_
  cases c with
  | true =>
    refine ⟨fun σ' H' => ∃ n', n' < n ∧ ∃ G' r' m', W n' r' m' ∧ Sta K m' H' G' ∧ Le G G' ∧ Sl K G' r' σ', fun σ' H' h => h, ?_⟩
    exact h2.1 rfl σ1 H2 G2 _ S2 (L1.mono e2) (fun σ3 H3 G3 r3 m3 ⟨n', hn, hw'⟩ S3 e3 L3 => ⟨n', hn, G3, r3, m3, hw', S3, e1.trans (e2.trans e3), L3⟩)
      (fun v H3 G3 x m3 n3 S3 e3 L3 => b v H3 G3 x m3 n3 S3 (e1.trans (e2.trans e3)) L3)
  | false => exact a σ1 H2 G2 r1 m2 (h2.2 rfl) S2 (e1.trans e2) (L1.mono e2)
theorem w_forTA {tl : TE} {j : Nat} (P : List PyData → Prop) (h : Ev K tl r m fun x m1 => m1 = m ∧ ∃ ds, x = .d (.tuple ds) ∧ P ds) (W : List PyData → Nat → List Val → Mm → Prop) (h0 : ∀ ds, P ds → W ds 0 r m)
    (hs : ∀ (ds : List PyData) (i : Nat) (d : PyData) r' m', P ds → ds[i]? = some d → W ds i r' m' → Wp K t (r'.set j (.d d)) m' (W ds (i + 1)) E) (hd : ∀ (ds : List PyData) r' m', P ds → W ds ds.length r' m' → N r' m') : Wp K (tFor (iTup K tl) (gName j) t) r m N E := fun σ H G D S L a b =>
  h σ H G S L _ fun v H1 G1 x m1 ⟨hm, ds, hx, hP⟩ S1 e1 r1 => by
    subst hx hm
    obtain ⟨p, xs, hv, hs1, hA⟩ := rp_tuple.mp r1.rp
    refine ⟨p, hv, ⟨xs, S1.sqT hs1⟩, for_tup (xs := xs) (fun i σ' H' => ∃ G' r' m', W ds i r' m' ∧ Sta K m' H' G' ∧ Le G1 G' ∧ Sl K G' r' σ') ⟨G1, r, _, h0 ds hP, S1, Le.refl G1, L.mono e1⟩ ?_ ?_ ?_⟩
    · rintro i σ' H' hi ⟨G', r', m', _, S', e', _⟩
      exact S'.sqT (e'.sqT hs1)
    · rintro i y σ' H' hy ⟨G', r', m', hw, S', e', L'⟩
      obtain ⟨d, hd1, hd2⟩ := hA.get hy
      refine hs ds i d r' m' hP hd1 hw (σ'.set j (some y)) H' G' _ S' (L'.set (r := .d d) (.d (Rp.mono e' d y hd2)) j) (fun σ3 H3 G3 r3 m3 h3 S3 e3 L3 => ⟨G3, r3, m3, h3, S3, e'.trans e3, L3⟩) (fun v H3 G3 x m3 n3 S3 e3 L3 => b v H3 G3 x m3 n3 S3 (e1.trans (e'.trans e3)) L3)
    · rintro σ' H' ⟨G', r', m', hw, S', e', L'⟩
      rw [hA.length] at hw
      exact a σ' H' G' r' m' (hd ds r' m' hP hw) S' (e1.trans e') L'
theorem w_forT {tl : TE} {j : Nat} {ds : List PyData} (h : Ev K tl r m fun x m1 => x = .d (.tuple ds) ∧ m1 = m) (W : Nat → List Val → Mm → Prop) (h0 : W 0 r m)
    (hs : ∀ (i : Nat) (d : PyData) r' m', ds[i]? = some d → W i r' m' → Wp K t (r'.set j (.d d)) m' (W (i + 1)) E) (hd : ∀ r' m', W ds.length r' m' → N r' m') : Wp K (tFor (iTup K tl) (gName j) t) r m N E :=
  w_forTA (fun l => l = ds) (h.imp fun x m' e => ⟨e.2, ds, e.1, rfl⟩) (fun _ => W) (fun _ _ => h0) (fun l i d r' m' e hd hw => hs i d r' m' (by rw [← e]; exact hd) hw) (fun l r' m' e hw => hd r' m' (by rw [← e]; exact hw))
theorem w_forLA {tl : TE} {j : Nat} (P : List PyData → Prop) (h : Ev K tl r m fun x m1 => m1 = m ∧ ∃ ds, x = .d (.list ds) ∧ P ds) (W : List PyData → Nat → List Val → Mm → Prop) (h0 : ∀ ds, P ds → W ds 0 r m)
    (hs : ∀ (ds : List PyData) (i : Nat) (d : PyData) r' m', P ds → ds[i]? = some d → W ds i r' m' → Wp K t (r'.set j (.d d)) m' (W ds (i + 1)) E) (hd : ∀ (ds : List PyData) r' m', P ds → W ds ds.length r' m' → N r' m') : Wp K (tFor (iList K tl) (gName j) t) r m N E := fun σ H G D S L a b =>
  h σ H G S L _ fun v H1 G1 x m1 ⟨hm, ds, hx, hP⟩ S1 e1 r1 => by
    subst hx hm
    obtain ⟨p, xs, hv, hs1, hA⟩ := rp_list.mp r1.rp
    have hs1 : SqL K G1 p xs := Or.inl hs1
    refine ⟨p, hv, ⟨xs, S1.sqL hs1⟩, for_list (xs := xs) (fun i σ' H' => ∃ G' r' m', W ds i r' m' ∧ Sta K m' H' G' ∧ Le G1 G' ∧ Sl K G' r' σ') ⟨G1, r, _, h0 ds hP, S1, Le.refl G1, L.mono e1⟩ ?_ ?_ ?_⟩
    · rintro i σ' H' hi ⟨G', r', m', _, S', e', _⟩
      exact S'.sqL (e'.sqL hs1)
    · rintro i y σ' H' hy ⟨G', r', m', hw, S', e', L'⟩
      obtain ⟨d, hd1, hd2⟩ := hA.get hy
      refine hs ds i d r' m' hP hd1 hw (σ'.set j (some y)) H' G' _ S' (L'.set (r := .d d) (.d (Rp.mono e' d y hd2)) j) (fun σ3 H3 G3 r3 m3 h3 S3 e3 L3 => ⟨G3, r3, m3, h3, S3, e'.trans e3, L3⟩) (fun v H3 G3 x m3 n3 S3 e3 L3 => b v H3 G3 x m3 n3 S3 (e1.trans (e'.trans e3)) L3)
    · rintro σ' H' ⟨G', r', m', hw, S', e', L'⟩
      rw [hA.length] at hw
      exact a σ' H' G' r' m' (hd ds r' m' hP hw) S' (e1.trans e') L'
theorem w_forL {tl : TE} {j : Nat} {ds : List PyData} (h : Ev K tl r m fun x m1 => x = .d (.list ds) ∧ m1 = m) (W : Nat → List Val → Mm → Prop) (h0 : W 0 r m)
    (hs : ∀ (i : Nat) (d : PyData) r' m', ds[i]? = some d → W i r' m' → Wp K t (r'.set j (.d d)) m' (W (i + 1)) E) (hd : ∀ r' m', W ds.length r' m' → N r' m') : Wp K (tFor (iList K tl) (gName j) t) r m N E :=
  w_forLA (fun l => l = ds) (h.imp fun x m' e => ⟨e.2, ds, e.1, rfl⟩) (fun _ => W) (fun _ _ => h0) (fun l i d r' m' e hd hw => hs i d r' m' (by rw [← e]; exact hd) hw) (fun l r' m' e hw => hd r' m' (by rw [← e]; exact hw))
theorem w_forR1 {ta : TA} {j : Nat} {n : Nat} (h : EvA K ta r m fun xs m1 => xs = [.d (.int (n : Int))] ∧ m1 = m) (hn : n ≤ 100000) (W : Nat → List Val → Mm → Prop) (h0 : W 0 r m)
    (hs : ∀ (i : Nat) r' m', i < n → W i r' m' → Wp K t (r'.set j (.d (.int (i : Int)))) m' (W (i + 1)) E) (hd : ∀ r' m', W n r' m' → N r' m') : Wp K (tFor (iRng1 ta) (gName j) t) r m N E := fun σ H G D S L a b =>
  h σ H G S L _ fun vs H1 G1 xs m1 ⟨hx, hm⟩ S1 e1 r1 => by
    subst hx hm
    obtain ⟨v1, t1, rfl, a1, t2⟩ := r1
    have t2 : t1 = [] := t2
    subst t2
    have a1 : v1 = .int (n : Int) := rp_int.mp a1.rp
    subst a1
    have en : ((n : Int)).toNat = n := by omega
    refine ⟨(n : Int), rfl, by omega, by omega, ?_⟩
    rw [en]
    refine for_range (lo := 0) (n := n) (fun i σ' H' => ∃ G' r' m', W i r' m' ∧ Sta K m' H' G' ∧ Le G1 G' ∧ Sl K G' r' σ') ⟨G1, r, _, h0, S1, Le.refl G1, L.mono e1⟩ ?_ ?_
    · rintro i σ' H' hi ⟨G', r', m', hw, S', e', L'⟩
      rw [Int.zero_add]
      refine hs i r' m' hi hw (σ'.set j (some (.int (i : Int)))) H' G' _ S' (L'.set (r := .d (.int (i : Int))) (.d (rp_int.mpr rfl)) j) (fun σ3 H3 G3 r3 m3 h3 S3 e3 L3 => ⟨G3, r3, m3, h3, S3, e'.trans e3, L3⟩) (fun v H3 G3 x m3 n3 S3 e3 L3 => b v H3 G3 x m3 n3 S3 (e1.trans (e'.trans e3)) L3)
    · rintro σ' H' ⟨G', r', m', hw, S', e', L'⟩
      exact a σ' H' G' r' m' (hd r' m' hw) S' (e1.trans e') L'
end
/-! what a def does, at this level -/
abbrev FSp := List Val → Mm → (Val → Mm → Prop) → Prop
def spD (K : PySem.W.Frag) (f : FSp) : Sp := fun vs H Q _ => ∃ m G args R, Sta K m H G ∧ VRs K G args vs ∧ f args m R ∧ ∀ v H' G' x m', R x m' → Sta K m' H' G' → Le G G' → VR K G' x v → Q v H'
theorem ev_call {K : PySem.W.Frag} {f : FSp} {t : TA} {E : XK} {r : List Val} {m : Mm} {Q : Val → Mm → Prop} (h : EvA K t r m fun xs m1 => f xs m1 Q) : Ev K (tCall (spD K f) [] E t) r m Q := fun σ H G S L R k =>
  h σ H G S L _ fun vs H1 G1 xs m1 h1 S1 e1 r1 => by
    rw [List.append_nil]
    exact ⟨m1, G1, xs, Q, S1, r1, h1, fun v' H3 G3 z m3 h3 S3 e3 r3 => k v' H3 G3 z m3 h3 S3 (e1.trans e3) r3⟩
section
variable {P : Program} {w : World} {K : PySem.W.Frag} {mg : Str → Option Value} {base : Heap}
theorem fn_ok {x qual : Str} {st : Stmt} {f : Addr} {fd : FuncData} {N ps : List Str} {k : Nat} {sp : FSp} (F : Fun K x qual st f fd) (S : FnScope N ps (defScope st)) (hl : ∀ args m R, sp args m R → args.length = ps.length)
    (hb : ∀ (cdv : Value) (A : Around) (outer : List Env) (s : Shared) (H : Hp) (E : XK), Room k (A.deeper (PyProof.Rows.envOfC qual (defScope st) s.heap.objs.size f cdv)) →
      ∃ t, PSs (cxOf CX0 P w K mg base N qual (defScope st) f cdv A outer s H E).nox (defBody st) t ∧
        ∀ args m R, sp args m R → Wp K t (args ++ List.replicate (N.length - args.length) .any) m (fun _ m' => R (.d .none) m') R) : FnOk P w K mg base CX0 (k + 1) f fd ps (spD K sp) := by
  refine F.ok S (fun vs H Q E h => ?_) (fun cdv A outer s H vs Q E hr h => ?_)
  · obtain ⟨m, G, args, R, S1, r1, h1, _⟩ := h
    rw [r1.length]; exact hl args m R h1
  · obtain ⟨m, G, args, R, S1, r1, h1, k1⟩ := h
    obtain ⟨t, ht, hw⟩ := hb cdv A outer s H E hr
    refine ⟨t, ht, ?_⟩
    refine hw args m R h1 _ H G _ S1 ?_ (fun σ' H' G' r' m' hn S' e' L' => ?_) (fun v H' G' x m' hn S' e' L' => k1 v H' G' x m' hn S' e' L')
    · unfold L2.start
      rw [r1.length]
      exact Sl.start _ r1
    · exact k1 .non H' G' (.d .none) m' hn S' e' (.d (rp_none.mpr rfl))
end
end DL
namespace DL
open PySem L2
/-! rules of the layer below, joined -/
section
variable {X : Cx}
/-- list + list, as they may be read -/
def rCatR : R2 := fun x y H Q => ∃ l b xs zs, x = .ref l ∧ y = .ref b ∧ Rd H l (.lst xs) ∧ Rd H b (.lst zs) ∧ xs.length + zs.length ≤ sizeLine ∧ ∀ p, H p = none → Q (.ref p) (upd H p (.lst (xs ++ zs)))
theorem rd_list {pins : List (Addr × Obj)} {σ : L2.St} {H : Hp} {s : Shared} {l : Addr} {xs : List V} (I : Inv X pins σ H s) (h : Rd H l (.lst xs)) :
    xs.length ≤ sizeLine ∧ ∃ (its : List Value) (n : Nat), Vals xs its ∧ xs.length = its.length ∧ s.heap.get? l = some { cls := .type "list", data := .seq its.toArray n } := by
  obtain ⟨z, its, n, r, e⟩ := h.ok I.hok
  exact ⟨z, its, n, r, r.length, e⟩
theorem op_catR : OpR X (binaryOp .Add) rCatR := by
  intro pins s σ H x y v u Q I rx ry h
  obtain ⟨l, b, xs, zs, rfl, rfl, hH, hB, hz, q⟩ := h
  cases rx
  cases ry
  obtain ⟨z1, its1, n1, r1, hl1, e1⟩ := rd_list I hH
  obtain ⟨z2, its2, n2, r2, hl2, e2⟩ := rd_list I hB
  refine PySem.P.add_list e1 e2 ?_ (by rw [List.size_toArray, List.size_toArray, ← hl1, ← hl2]; exact hz)
  have ea : its1.toArray ++ its2.toArray = (its1 ++ its2).toArray := by simp
  rw [ea]
  exact ⟨.ref _, _, I.lnew (t' := s.toks) (r1.append r2) (by rw [List.length_append]; exact hz), rfl, q _ I.fresh⟩
def rAddI : R2 := rI0 fun i j => .int (i + j)
def rAddS : R2 := fun x y H Q => ∃ i j, x = .str i ∧ y = .str j ∧ i.length + j.length ≤ sizeLine ∧ Q (.str (i ++ j)) H
def rAdd (K : PySem.W.Frag) : R2 := fun x y H Q => rAddI x y H Q ∨ (rCatA K x y H Q ∨ (rCatR x y H Q ∨ rAddS x y H Q))
theorem oAdd : OpR X (binaryOp .Add) (rAdd X.K) := (op_add).or (op_catA.or (op_catR.or op_add_str))
def rSub : R2 := rI0 fun i j => .int (i - j)
theorem oSub : OpR X (binaryOp .Sub) rSub := op_sub
def rMulI : R2 := rI CMulW fun i j => .int (i * j)
def rFdv : R2 := rI CDivW fun i j => .int (i / j)
theorem oFdv : OpR X (binaryOp .FloorDiv) rFdv := op_fdivW
def rMod : R2 := rI (fun _ j => 0 < j) fun i j => .int (i % j)
theorem oMod : OpR X (binaryOp .Mod) rMod := op_mod
def rPow : R2 := rI CPow fun i j => .int (i ^ j.toNat)
theorem oPow : OpR X (binaryOp .Pow) rPow := op_pow
def rLt : R2 := rI0 fun i j => .bl (decide (i < j))
def rLe : R2 := rI0 fun i j => .bl (decide (i ≤ j))
def rGt : R2 := rI0 fun i j => .bl (decide (j < i))
def rGe : R2 := rI0 fun i j => .bl (decide (j ≤ i))
theorem oLt : OpR X (compareOp .Lt) rLt := op_lt
theorem oLe : OpR X (compareOp .LtE) rLe := op_le
theorem oGt : OpR X (compareOp .Gt) rGt := op_gt
theorem oGe : OpR X (compareOp .GtE) rGe := op_ge
def rEqA (K : PySem.W.Frag) : R2 := fun x y H Q => rEq x y H Q ∨ rEqD K x y H Q
def rNeA (K : PySem.W.Frag) : R2 := fun x y H Q => rNe x y H Q ∨ rNeD K x y H Q
theorem oEq {k : Nat} (hr : Room k X.A) : OpR X (compareOp .Eq) (rEqA X.K) := op_eq.or (op_eqD hr.units)
theorem oNe {k : Nat} (hr : Room k X.A) : OpR X (compareOp .NotEq) (rNeA X.K) := op_ne.or (op_neD hr.units)
def rNeg : V → Hp → VK → Prop := rU fun i => .int (-i)
theorem oNeg : UnR X (unaryOp .USub) rNeg := un_neg
/-! a tuple so many times: once it is the same one -/
theorem mul_tuple1 {l : Addr} {items : Array Value} {n : Nat} {dd : Option Addr} {sl : Array (Option Value)} {u : Tok} :
    Meets (Builtin.«tuple.__mul__» ⟨[.ref l, .int 1 u], []⟩) (fun _ R s => s.heap.get? l = some { cls := .type "tuple", dict := dd, data := .seq items n, slots := sl } ∧ R (.ok (.ret (Value.ref l))) s) :=
  .of_wp fun prog w A R s h => by
    obtain ⟨hp, g, d, tk, os⟩ := s
    obtain ⟨hl, h⟩ := h
    have f1 := AutoSeq1.idx_int
    wp_walk using wpAny_loadPart' hl
    repeat (first
      | (refine wpAny_ite_false (by decide) ?_; wp_walk using wpAny_loadPart' hl)
      | (refine wpAny_ite_true (by simp) ?_; wp_walk using wpAny_loadPart' hl))
    exact ⟨_, rfl, h⟩
def rRepT1 (K : PySem.W.Frag) : R2 := fun x y H Q => ∃ l xs, x = .ref l ∧ y = .int 1 ∧ SqT K H l xs ∧ Q (.ref l) H
theorem op_repT1 : OpR X (binaryOp .Mult) (rRepT1 X.K) := by
  intro pins s σ H x y v u Q I rx ry h
  obtain ⟨l, xs, rfl, rfl, hT, q⟩ := h
  cases rx
  obtain ⟨t, rfl⟩ := ry
  obtain ⟨its, r, ⟨⟨cls, dd, data, sl⟩, ho, hc, n, hd⟩, hs⟩ := I.tuple hT
  simp only at hc hd
  subst hc hd
  refine wpAny_binaryOp_repeat_ref (T := "tuple") (U := "int") (by decide) ⟨_, ho, rfl⟩ (fun s' => typeIs_int s' 1 t) noFill_tuple_mul PySem.F.fills_int_mul PySem.F.slot_int_rmul repeat_tuple PySem.F.slot_int_index.lookup
    (call_meets PySem.F.slot_int_rmul (typeIs_int s 1 t) PySem.F.entry_int_rmul (PySem.F.args_int_rmul_2 _ _) (int_rmul_tuple 1 t l its.toArray n dd sl)
      ⟨ho, rfl, ⟨_, ho, rfl⟩, call_meets PySem.F.slot_tuple_mul ⟨_, ho, rfl⟩ PySem.F.entry_tuple_mul (PySem.F.args_tuple_mul_2 _ _) mul_tuple1 ⟨ho, ?_⟩⟩)
  exact ⟨.ref l, H, I, rfl, q⟩
def rMul (K : PySem.W.Frag) : R2 := fun x y H Q => rMulI x y H Q ∨ (rRepT K x y H Q ∨ (rRepT1 K x y H Q ∨ rRep x y H Q))
theorem oMul : OpR X (binaryOp .Mult) (rMul X.K) := op_mulW.or (op_repT.or (op_repT1.or op_rep))
/-! sum of a tuple -/
def rSumT (K : PySem.W.Frag) : List V → Hp → VK → Prop := fun vs H Q => ∃ (a : Addr) (ns : List Int), vs = [V.ref a] ∧ SqT K H a (ns.map V.int) ∧ Q (.int ns.sum) H
theorem presum_take (ns : List Int) : ∀ k, preSum (fun i => ns.getD i 0) k = (ns.take k).sum
  | 0 => by simp [preSum]
  | k + 1 => by
    have ih := presum_take ns k
    by_cases h : k < ns.length
    · rw [List.take_succ_eq_append_getElem h, List.sum_append]
      simp only [preSum, ih, List.sum_cons, List.sum_nil, Int.add_zero]
      rw [List.getD_eq_getElem?_getD, List.getElem?_eq_getElem h]; rfl
    · rw [List.take_of_length_le (by omega)] at ih ⊢
      simp only [preSum, ih]
      rw [List.getD_eq_getElem?_getD, List.getElem?_eq_none (by omega)]; simp
theorem cr_sumT (hc : X.calm = true) : CallR X (.builtin "sum") (rSumT X.K) := by
  intro pins s σ H vs us Q I r h
  obtain ⟨a, ns, rfl, hs, q⟩ := h
  obtain ⟨its, rv, ht, _⟩ := I.tuple hs
  rw [Vals.ref1 r]
  have hlt : a < s.heap.objs.size := ht.lt
  refine call_sum_walkG (wpAny_pyIter_tuple ht ?_)
  refine ⟨s.heap.objs.size, [s.heap.objs.size, a], [s.heap.objs.size], its.toArray.size, _, _, fun i => ns.getD i 0, rfl, Walks.tuple (A := X.A.in1) (I.ok.hd hc) s.heap.objs.size a (Nat.ne_of_lt hlt) its.toArray, ⟨⟨_, Heap.get?_push_size _ rfl, rfl, rfl⟩, ?_⟩, ?_, ?_, ?_⟩
  · obtain ⟨o, h1, h2⟩ := ht
    exact ⟨o, Heap.get?_push_of_some _ h1, h2⟩
  · intro b hb
    have hsz : (s.heap.push { cls := .type "tuple_iterator", data := .fields #[.ref a, .int 0 0] }).objs.size = s.heap.objs.size + 1 := Heap.size_push ..
    show b < (s.heap.push { cls := .type "tuple_iterator", data := .fields #[.ref a, .int 0 0] }).objs.size
    rw [hsz]
    rcases List.mem_cons.mp hb with e | e
    · rw [e]; exact Nat.lt_succ_self _
    · rw [List.mem_singleton.mp e]; exact Nat.lt_succ_of_lt hlt
  · intro i v hv
    have hv : its[i]? = some v := by simpa using hv
    have hlen := rv.length
    have hil : i < its.length := (List.getElem?_eq_some_iff.mp hv).1
    rw [List.length_map] at hlen
    have hx : (ns.map V.int)[i]? = some (.int (ns.getD i 0)) := by
      rw [List.getElem?_map, List.getD_eq_getElem?_getD, List.getElem?_eq_getElem (by omega)]; rfl
    obtain ⟨u, h1, h2⟩ := rv.get hx
    rw [hv] at h1
    cases h1
    exact h2
  · intro h' tk t' hk
    have hlen := rv.length
    rw [List.length_map] at hlen
    have e : preSum (fun i => ns.getD i 0) its.toArray.size = ns.sum := by
      rw [presum_take, List.size_toArray, List.take_of_length_le (by omega)]
    rw [e]
    refine ⟨.int ns.sum, H, I.kept (fun b o e => hk b o (fun hb => ?_) (Heap.get?_push_of_some _ e)), ⟨_, rfl⟩, q⟩
    have hb : b = s.heap.objs.size := by simpa using hb
    subst hb
    exact absurd (Heap.lt_size e) (Nat.lt_irrefl _)
def rSumA (K : PySem.W.Frag) : List V → Hp → VK → Prop := fun vs H Q => rSum K vs H Q ∨ rSumT K vs H Q
theorem cSum (hc : X.calm = true) : CallR X (.builtin "sum") (rSumA X.K) := (cr_sum hc).or (cr_sumT hc)
theorem cAll (hc : X.calm = true) : CallR X (.builtin "all") (rAll X.K) := cr_all hc
theorem cAny (hc : X.calm = true) : CallR X (.builtin "any") (rAny X.K) := cr_any hc
def rAbs : List V → Hp → VK → Prop := fun xs H Q => ∃ i, xs = [.int i] ∧ Q (.int (if i < 0 then -i else i)) H
theorem cAbs : CallR X (.builtin "abs") rAbs := call_abs
def rMax2 : List V → Hp → VK → Prop := fun xs H Q => ∃ i j, xs = [.int i, .int j] ∧ Q (.int (if j > i then j else i)) H
def rMin2 : List V → Hp → VK → Prop := fun xs H Q => ∃ i j, xs = [.int i, .int j] ∧ Q (.int (if j < i then j else i)) H
theorem cMax (hc : X.calm = true) : CallR X (.builtin "max") rMax2 := call_max2 hc
theorem cMin (hc : X.calm = true) : CallR X (.builtin "min") rMin2 := call_min2 hc
def rLenQ (K : PySem.W.Frag) : List V → Hp → VK → Prop := fun xs H Q => ∃ p ys, xs = [.ref p] ∧ (SqL K H p ys ∨ SqT K H p ys) ∧ Q (.int ys.length) H
def rLenS : List V → Hp → VK → Prop := fun xs H Q => ∃ z, xs = [.str z] ∧ z.length ≤ sizeLine ∧ Q (.int z.length) H
def rLen (K : PySem.W.Frag) : List V → Hp → VK → Prop := fun vs H Q => rLenQ K vs H Q ∨ rLenS vs H Q
theorem cLen : CallR X (.builtin "len") (rLen X.K) := call_len_seq.or call_len_str
def rTupO (K : PySem.W.Frag) : List V → Hp → VK → Prop := fun xs H Q => ∃ p ys, xs = [.ref p] ∧ ((SqL K H p ys ∧ ∀ l, H l = none → Q (.ref l) (upd H l (.tup ys))) ∨ (SqT K H p ys ∧ Q (.ref p) H))
theorem cTup : CallR X (.type "tuple") (rTupO X.K) := call_tuple_of
def rLstO (K : PySem.W.Frag) : List V → Hp → VK → Prop := fun xs H Q => ∃ p ys, xs = [.ref p] ∧ (SqL K H p ys ∨ SqT K H p ys) ∧ ∀ l, H l = none → Q (.ref l) (upd H l (.lst ys))
theorem cIsi : CallR X (.builtin "isinstance") (rIsi X.K) := call_isi
def rDivmod : List V → Hp → VK → Prop := fun xs H Q => ∃ i j, xs = [.int i, .int j] ∧ CDivW i j ∧ ∀ p, H p = none → Q (.ref p) (upd H p (.tup [.int (i / j), .int (i % j)]))
theorem cDivmod : CallR X (.builtin "divmod") rDivmod := by
  intro pins s σ H xs us Q I r h
  obtain ⟨i, j, rfl, ⟨h1, h2⟩, q⟩ := h
  obtain ⟨u, w', rfl, ⟨t, rfl⟩, ⟨t', rfl⟩⟩ := vals2 r
  refine PyProof.Rows.divmod_int (by omega) ?_ (.inl (PyProof.noPylong_of_log2 h2))
  rw [Int.fdiv_eq_ediv_of_nonneg i (by omega), Int.fmod_eq_emod_of_nonneg i (by omega)]
  have hn : H s.heap.objs.size = none := I.hok.fresh (Nat.le_refl _)
  refine ⟨.ref s.heap.objs.size, _, ?_, rfl, q _ hn⟩
  refine I.laid (fun b o e => Heap.get?_push_of_some _ e) (Nat.le_refl _) ⟨by rw [sizeLine_eq]; show 2 ≤ 16777216; decide, [.int (i / j) s.toks, .int (i % j) (s.toks + 1)], .cons ⟨_, rfl⟩ (.cons ⟨_, rfl⟩ .nil), ?_⟩
  exact ⟨_, Heap.get?_push_size s.heap rfl, rfl, 0, rfl⟩
/-! repr of data -/
mutual
theorem rp_dp {K : PySem.W.Frag} {G : Hp} : ∀ (d : PyData) (v : V), d.hasDict = false → Rp K G d v → Dp K G v d
  | .none, v, _, h => by rw [rp_none.mp h]; exact .non
  | .bool b, v, _, h => by rw [rp_bool.mp h]; exact .bl b
  | .int i, v, _, h => by rw [rp_int.mp h]; exact .int i
  | .str s, v, _, h => by rw [rp_str.mp h]; exact .str s
  | .list ds, v, n, h => by
    obtain ⟨a, xs, rfl, h2, h3⟩ := rp_list.mp h
    exact .lst (Or.inl h2) (rp_dpAll ds xs (by simpa [PyData.hasDict] using n) h3)
  | .tuple ds, v, n, h => by
    obtain ⟨a, xs, rfl, h2, h3⟩ := rp_tuple.mp h
    exact .tup h2 (rp_dpAll ds xs (by simpa [PyData.hasDict] using n) h3)
  | .dict kvs, v, n, h => by simp [PyData.hasDict] at n
theorem rp_dpAll {K : PySem.W.Frag} {G : Hp} : ∀ (ds : List PyData) (xs : List V), PyData.hasDictAll ds = false → RpAll K G ds xs → DpAll K G xs ds
  | [], xs, _, h => by rw [rpa_nil.mp h]; exact .nil
  | d :: ds, xs, n, h => by
    obtain ⟨x, r, rfl, h2, h3⟩ := rpa_cons.mp h
    have n : d.hasDict = false ∧ PyData.hasDictAll ds = false := by simpa [PyData.hasDictAll] using n
    exact .cons (rp_dp d x n.1 h2) (rp_dpAll ds r n.2 h3)
end
def rRepr (K : PySem.W.Frag) : List V → Hp → VK → Prop := fun xs H Q => ∃ x d, xs = [x] ∧ Rp K H d x ∧ d.hasDict = false ∧ d.depth ≤ 64 ∧ d.showable = true ∧ d.shown.length ≤ sizeLine ∧ Q (.str d.shown) H
theorem repr_leaf {pins : List (Addr × Obj)} {σ : L2.St} {H : Hp} {s : Shared} {Q : VK} {u : Value} {as : List Addr} {d : PyData} (I : Inv X pins σ H s) (r : Reads s.heap u d as) (h0 : d.hasDict = false) (hg : X.A.guards = some []) (hu : X.A.units + 65 < cLine)
    (h1 : d.depth ≤ 64) (h2 : d.showable = true) (h3 : d.shown.length ≤ sizeLine) (q : Q (.str d.shown) H) : wpAny (model X.prog X.w) X.A (call (.builtin "repr") [u]) (EP X pins σ Q) X.xe s := by
  cases r with
  | none =>
    simp only [PyData.shown] at q
    exact PySem.P.repr_of_none ⟨.str _, H, I.tok _, ⟨_, rfl⟩, q⟩
  | bool b =>
    simp only [PyData.shown] at q
    exact PySem.P.repr_of_bool ⟨.str _, H, I.tok _, ⟨_, rfl⟩, q⟩
  | int i t =>
    simp only [PyData.shown] at q
    exact PySem.P.repr_of_int (by simpa [PyData.showable] using h2) ⟨.str _, H, I.tok _, ⟨_, rfl⟩, q⟩
  | str x t =>
    simp only [PyData.shown] at q h3
    exact PySem.P.repr_of_str ⟨.str _, H, I.tok _, ⟨_, rfl⟩, q⟩ h3
  | list a1 a2 a3 a4 =>
    exact repr_of_reads' (.list a1 a2 a3 a4) h2 (PyData.noDict_hsm h0) hg (by omega) (fun _ _ e => e) (fun h' u tk hk => ⟨.str _, H, I.kept hk, ⟨_, rfl⟩, q⟩) h3
  | tuple a1 a2 a3 a4 =>
    exact repr_of_reads' (.tuple a1 a2 a3 a4) h2 (PyData.noDict_hsm h0) hg (by omega) (fun _ _ e => e) (fun h' u tk hk => ⟨.str _, H, I.kept hk, ⟨_, rfl⟩, q⟩) h3
  | dict a1 a2 a3 a4 a5 => simp [PyData.hasDict] at h0
theorem cRepr {k : Nat} (hr : Room k X.A) (hg : X.A.guards = some []) : CallR X (.builtin "repr") (rRepr X.K) := by
  intro pins s σ H xs us Q I r h
  obtain ⟨x, d, rfl, hd, h0, h1, h2, h3, q⟩ := h
  obtain ⟨u, rfl, rx⟩ := vals1 r
  obtain ⟨as, rd⟩ := Dp.reads I d x u (rp_dp d x h0 hd) rx
  have := hr.un
  exact repr_leaf I rd h0 hg (by omega) h1 h2 h3 q
end
end DL
namespace DL
open PySem L2
section
variable {K : PySem.W.Frag} {m : Mm} {Q : Val → Mm → Prop}
/-! operators upon ints -/
theorem int_of {G : Hp} {i : Int} {v : V} (h : VR K G (.d (.int i)) v) : v = .int i := rp_int.mp h.rp
theorem bool_of {G : Hp} {i : Bool} {v : V} (h : VR K G (.d (.bool i)) v) : v = .bl i := rp_bool.mp h.rp
theorem str_of {G : Hp} {i : Str} {v : V} (h : VR K G (.d (.str i)) v) : v = .str i := rp_str.mp h.rp
theorem vr_int {G : Hp} {i : Int} : VR K G (.d (.int i)) (.int i) := .d (rp_int.mpr rfl)
theorem vr_bool {G : Hp} {i : Bool} : VR K G (.d (.bool i)) (.bl i) := .d (rp_bool.mpr rfl)
theorem vr_str {G : Hp} {i : Str} : VR K G (.d (.str i)) (.str i) := .d (rp_str.mpr rfl)
theorem o2_I0 {g : Int → Int → Int} {i j : Int} (q : Q (.d (.int (g i j))) m) : Op2 K (rI0 fun i j => .int (g i j)) (.d (.int i)) (.d (.int j)) m Q := fun H G v w S a b R k => by
  rw [int_of a, int_of b]
  exact ⟨i, j, rfl, rfl, k _ H G _ m q S (Le.refl G) vr_int⟩
theorem o2_B0 {g : Int → Int → Bool} {i j : Int} (q : Q (.d (.bool (g i j))) m) : Op2 K (rI0 fun i j => .bl (g i j)) (.d (.int i)) (.d (.int j)) m Q := fun H G v w S a b R k => by
  rw [int_of a, int_of b]
  exact ⟨i, j, rfl, rfl, k _ H G _ m q S (Le.refl G) vr_bool⟩
theorem o2_I {C : Int → Int → Prop} {g : Int → Int → Int} {i j : Int} (c : C i j) (q : Q (.d (.int (g i j))) m) : Op2 K (rI C fun i j => .int (g i j)) (.d (.int i)) (.d (.int j)) m Q := fun H G v w S a b R k => by
  rw [int_of a, int_of b]
  exact ⟨i, j, rfl, rfl, c, k _ H G _ m q S (Le.refl G) vr_int⟩
theorem o2_addI {i j : Int} (q : Q (.d (.int (i + j))) m) : Op2 K (rAdd K) (.d (.int i)) (.d (.int j)) m Q := fun H G v w S a b R k => Or.inl (o2_I0 (g := fun i j => i + j) q H G v w S a b R k)
theorem o2_sub {i j : Int} (q : Q (.d (.int (i - j))) m) : Op2 K rSub (.d (.int i)) (.d (.int j)) m Q := o2_I0 (g := fun i j => i - j) q
theorem o2_mulI {i j : Int} (c : CMulW i j) (q : Q (.d (.int (i * j))) m) : Op2 K (rMul K) (.d (.int i)) (.d (.int j)) m Q := fun H G v w S a b R k => Or.inl (o2_I (C := CMulW) (g := fun i j => i * j) c q H G v w S a b R k)
theorem o2_fdv {i j : Int} (c : CDivW i j) (q : Q (.d (.int (i / j))) m) : Op2 K rFdv (.d (.int i)) (.d (.int j)) m Q := o2_I (C := CDivW) (g := fun i j => i / j) c q
theorem o2_mod {i j : Int} (c : 0 < j) (q : Q (.d (.int (i % j))) m) : Op2 K rMod (.d (.int i)) (.d (.int j)) m Q := o2_I (C := fun _ j => 0 < j) (g := fun i j => i % j) c q
theorem o2_lt {i j : Int} (q : Q (.d (.bool (decide (i < j)))) m) : Op2 K rLt (.d (.int i)) (.d (.int j)) m Q := o2_B0 (g := fun i j => decide (i < j)) q
theorem o2_le {i j : Int} (q : Q (.d (.bool (decide (i ≤ j)))) m) : Op2 K rLe (.d (.int i)) (.d (.int j)) m Q := o2_B0 (g := fun i j => decide (i ≤ j)) q
theorem o2_gt {i j : Int} (q : Q (.d (.bool (decide (j < i)))) m) : Op2 K rGt (.d (.int i)) (.d (.int j)) m Q := o2_B0 (g := fun i j => decide (j < i)) q
theorem o2_ge {i j : Int} (q : Q (.d (.bool (decide (j ≤ i)))) m) : Op2 K rGe (.d (.int i)) (.d (.int j)) m Q := o2_B0 (g := fun i j => decide (j ≤ i)) q
theorem o1_neg {i : Int} (q : Q (.d (.int (-i))) m) : Op1 K rNeg (.d (.int i)) m Q := fun H G v S a R k => by
  rw [int_of a]
  exact ⟨i, rfl, k _ H G _ m q S (Le.refl G) vr_int⟩
/-! == of data -/
theorem dp_of {H G : Hp} {x : PyData} {v : V} (S : Sta K m H G) (h : SeqAt.shaped x = true) (a : VR K G (.d x) v) : Dp K H v x := by
  have h : (x.canLay0 && decide (x.depth ≤ 64)) = true := h
  rw [Bool.and_eq_true] at h
  exact rp_dp x v (PyData.hasDict_of_canLay x h.1) (Rp.mono S.sub x v a.rp)
theorem o2_eq {x y : PyData} (hx : SeqAt.shaped x = true) (hy : SeqAt.shaped y = true) (q : Q (.d (.bool (PyData.eqv x y))) m) : Op2 K (rEqA K) (.d x) (.d y) m Q := fun H G v w S a b R k =>
  Or.inr ⟨x, y, dp_of S hx a, dp_of S hy b, hx, hy, k _ H G _ m q S (Le.refl G) vr_bool⟩
theorem o2_ne {x y : PyData} (hx : SeqAt.shaped x = true) (hy : SeqAt.shaped y = true) (q : Q (.d (.bool (!PyData.eqv x y))) m) : Op2 K (rNeA K) (.d x) (.d y) m Q := fun H G v w S a b R k =>
  Or.inr ⟨x, y, dp_of S hx a, dp_of S hy b, hx, hy, k _ H G _ m q S (Le.refl G) vr_bool⟩
theorem shaped_int (i : Int) : SeqAt.shaped (.int i) = true := by simp [SeqAt.shaped, PyData.canLay0, PyData.depth]
theorem eqv_int (i j : Int) : PyData.eqv (.int i) (.int j) = decide (i = j) := by
  simp only [PyData.eqv]; exact Bool.beq_eq_decide_eq i j
theorem o2_eqI {i j : Int} (q : Q (.d (.bool (decide (i = j)))) m) : Op2 K (rEqA K) (.d (.int i)) (.d (.int j)) m Q := o2_eq (shaped_int i) (shaped_int j) (by rw [eqv_int]; exact q)
theorem o2_neI {i j : Int} (q : Q (.d (.bool (!decide (i = j)))) m) : Op2 K (rNeA K) (.d (.int i)) (.d (.int j)) m Q := o2_ne (shaped_int i) (shaped_int j) (by rw [eqv_int]; exact q)
/-! texts -/
theorem o2_eqS {x y : Str} (q : Q (.d (.bool (decide (x = y)))) m) : Op2 K (rEqA K) (.d (.str x)) (.d (.str y)) m Q := fun H G v w S a b R k => by
  rw [str_of a, str_of b]
  refine Or.inl ⟨rfl, ?_⟩
  rw [dec_str, Bool.beq_eq_decide_eq]
  exact k _ H G _ m q S (Le.refl G) vr_bool
theorem o2_neS {x y : Str} (q : Q (.d (.bool (!decide (x = y)))) m) : Op2 K (rNeA K) (.d (.str x)) (.d (.str y)) m Q := fun H G v w S a b R k => by
  rw [str_of a, str_of b]
  refine Or.inl ⟨rfl, ?_⟩
  rw [dec_str, Bool.beq_eq_decide_eq]
  exact k _ H G _ m q S (Le.refl G) vr_bool
/-! items -/
theorem atI_nth {α : Type} (xs : List α) (i : Nat) : atI xs (i : Int) = xs[i]? := by
  unfold atI ixN
  rw [if_pos (Int.natCast_nonneg i)]
  by_cases h : i < xs.length
  · rw [if_pos (by omega), show ((i : Int)).toNat = i by omega]; rfl
  · rw [if_neg (by omega), List.getElem?_eq_none (by omega)]; rfl
theorem RpAll.atI {G : Hp} {ds : List PyData} {xs : List V} {i : Int} {d : PyData} (h : RpAll K G ds xs) (e : L2.atI ds i = some d) : ∃ x, L2.atI xs i = some x ∧ Rp K G d x := by
  unfold L2.atI at e ⊢
  rw [h.length]
  cases hj : ixN ds.length i with
  | none => rw [hj] at e; cases e
  | some j =>
    rw [hj] at e
    exact h.at e
theorem VRs.atI {G : Hp} : ∀ {rs : List Val} {xs : List V} {i : Nat} {r : Val}, VRs K G rs xs → rs[i]? = some r → ∃ x, xs[i]? = some x ∧ VR K G r x
  | [], xs, i, r, h, e => by simp at e
  | r0 :: rs, xs, 0, r, h, e => by
    obtain ⟨y, t, h1, h2, _⟩ := h
    subst h1
    have e : r0 = r := by simpa using e
    subst e
    exact ⟨y, rfl, h2⟩
  | r0 :: rs, xs, i + 1, r, h, e => by
    obtain ⟨y, t, h1, _, h3⟩ := h
    subst h1
    obtain ⟨z, h4, h5⟩ := VRs.atI (i := i) (r := r) h3 (by simpa using e)
    exact ⟨z, by simpa using h4, h5⟩
theorem o2_ixT {ds : List PyData} {i : Int} {d : PyData} (h : atI ds i = some d) (q : Q (.d d) m) : Op2 K (rIx K) (.d (.tuple ds)) (.d (.int i)) m Q := fun H G v w S a b R k => by
  rw [int_of b]
  obtain ⟨p, xs, hv, h2, h3⟩ := rp_tuple.mp a.rp
  obtain ⟨x, h4, h5⟩ := h3.atI h
  exact Or.inr (Or.inl ⟨p, xs, i, x, hv, rfl, S.sqT h2, h4, k _ H G _ m q S (Le.refl G) (.d h5)⟩)
theorem o2_ixL {ds : List PyData} {i : Int} {d : PyData} (h : atI ds i = some d) (q : Q (.d d) m) : Op2 K (rIx K) (.d (.list ds)) (.d (.int i)) m Q := fun H G v w S a b R k => by
  rw [int_of b]
  obtain ⟨p, xs, hv, h2, h3⟩ := rp_list.mp a.rp
  obtain ⟨x, h4, h5⟩ := h3.atI h
  exact Or.inl ⟨p, xs, i, x, hv, rfl, Or.inl (Le.rd S.sub h2), h4, k _ H G _ m q S (Le.refl G) (.d h5)⟩
theorem o2_ixB {p : Addr} (hm : m p = some .box) (q : ∀ n : Int, Q (.d (.int n)) m) : Op2 K (rIx K) (.v (.ref p)) (.d (.int 0)) m Q := fun H G v w S a b R k => by
  rw [int_of b]
  obtain ⟨n, h2⟩ := S.mem p _ hm
  exact Or.inl ⟨p, [.int n], 0, .int n, a.eq, rfl, Or.inl (Or.inl h2), rfl, k _ H G _ m (q n) S (Le.refl G) vr_int⟩
theorem o2_ixS {ns : List Int} {i : Nat} {n : Int} (h : ns[i]? = some n) (q : Q (.d (.int n)) m) : Op2 K (rIx K) (.scr ns) (.d (.int (i : Int))) m Q := fun H G v w S a b R k => by
  rw [int_of b]
  cases a with
  | scr h2 =>
    exact Or.inl ⟨_, _, i, .int n, rfl, rfl, S.sqL h2, by rw [atI_nth, List.getElem?_map, h]; rfl, k _ H G _ m q S (Le.refl G) vr_int⟩
/-! built-ins -/
theorem vrs1 {G : Hp} {x : Val} {vs : List V} (h : VRs K G [x] vs) : ∃ v, vs = [v] ∧ VR K G x v := by
  obtain ⟨v, t, h1, h2, h3⟩ := h
  have h3 : t = [] := h3
  exact ⟨v, by rw [h1, h3], h2⟩
theorem vrs2 {G : Hp} {x y : Val} {vs : List V} (h : VRs K G [x, y] vs) : ∃ v w, vs = [v, w] ∧ VR K G x v ∧ VR K G y w := by
  obtain ⟨v, t, h1, h2, h3⟩ := h
  obtain ⟨w, h4, h5⟩ := vrs1 h3
  exact ⟨v, w, by rw [h1, h4], h2, h5⟩
theorem on_abs {i : Int} (q : Q (.d (.int (i.natAbs : Int))) m) : OpN K rAbs [.d (.int i)] m Q := fun H G vs S a R k => by
  obtain ⟨v, rfl, h⟩ := vrs1 a
  rw [int_of h]
  refine ⟨i, rfl, ?_⟩
  have e : (if i < 0 then -i else i) = (i.natAbs : Int) := by split <;> omega
  rw [e]
  exact k _ H G _ m q S (Le.refl G) vr_int
theorem on_max {i j : Int} (q : Q (.d (.int (max i j))) m) : OpN K rMax2 [.d (.int i), .d (.int j)] m Q := fun H G vs S a R k => by
  obtain ⟨v, w, rfl, h1, h2⟩ := vrs2 a
  rw [int_of h1, int_of h2]
  refine ⟨i, j, rfl, ?_⟩
  have e : (if j > i then j else i) = max i j := by split <;> omega
  rw [e]
  exact k _ H G _ m q S (Le.refl G) vr_int
theorem on_min {i j : Int} (q : Q (.d (.int (min i j))) m) : OpN K rMin2 [.d (.int i), .d (.int j)] m Q := fun H G vs S a R k => by
  obtain ⟨v, w, rfl, h1, h2⟩ := vrs2 a
  rw [int_of h1, int_of h2]
  refine ⟨i, j, rfl, ?_⟩
  have e : (if j < i then j else i) = min i j := by split <;> omega
  rw [e]
  exact k _ H G _ m q S (Le.refl G) vr_int
theorem on_lenT {ds : List PyData} (q : Q (.d (.int (ds.length : Int))) m) : OpN K (rLen K) [.d (.tuple ds)] m Q := fun H G vs S a R k => by
  obtain ⟨v, rfl, h⟩ := vrs1 a
  obtain ⟨p, xs, hv, h2, h3⟩ := rp_tuple.mp h.rp
  refine Or.inl ⟨p, xs, by rw [hv], Or.inr (S.sqT h2), ?_⟩
  rw [h3.length]
  exact k _ H G _ m q S (Le.refl G) vr_int
theorem on_lenL {ds : List PyData} (q : Q (.d (.int (ds.length : Int))) m) : OpN K (rLen K) [.d (.list ds)] m Q := fun H G vs S a R k => by
  obtain ⟨v, rfl, h⟩ := vrs1 a
  obtain ⟨p, xs, hv, h2, h3⟩ := rp_list.mp h.rp
  refine Or.inl ⟨p, xs, by rw [hv], Or.inl (Or.inl (Le.rd S.sub h2)), ?_⟩
  rw [h3.length]
  exact k _ H G _ m q S (Le.refl G) vr_int
theorem on_lenS {ns : List Int} (q : Q (.d (.int (ns.length : Int))) m) : OpN K (rLen K) [.scr ns] m Q := fun H G vs S a R k => by
  obtain ⟨v, rfl, h⟩ := vrs1 a
  cases h with
  | scr h2 =>
    refine Or.inl ⟨_, _, rfl, Or.inl (S.sqL h2), ?_⟩
    rw [List.length_map]
    exact k _ H G _ m q S (Le.refl G) vr_int
theorem on_sumL {ns : List Int} (q : Q (.d (.int ns.sum)) m) : OpN K (rSumA K) [.d (.list (ns.map PyData.int))] m Q := fun H G vs S a R k => by
  obtain ⟨v, rfl, h⟩ := vrs1 a
  obtain ⟨p, xs, hv, h2, h3⟩ := rp_list.mp h.rp
  rw [h3.ints] at h2
  exact Or.inl ⟨p, ns, by rw [hv], Or.inl (Le.rd S.sub h2), k _ H G _ m q S (Le.refl G) vr_int⟩
theorem on_sumT {ns : List Int} (q : Q (.d (.int ns.sum)) m) : OpN K (rSumA K) [.d (.tuple (ns.map PyData.int))] m Q := fun H G vs S a R k => by
  obtain ⟨v, rfl, h⟩ := vrs1 a
  obtain ⟨p, xs, hv, h2, h3⟩ := rp_tuple.mp h.rp
  rw [h3.ints] at h2
  exact Or.inr ⟨p, ns, by rw [hv], S.sqT h2, k _ H G _ m q S (Le.refl G) vr_int⟩
theorem on_all {bs : List Bool} (q : Q (.d (.bool (bs.all id))) m) : OpN K (rAll K) [.d (.list (bs.map PyData.bool))] m Q := fun H G vs S a R k => by
  obtain ⟨v, rfl, h⟩ := vrs1 a
  obtain ⟨p, xs, hv, h2, h3⟩ := rp_list.mp h.rp
  rw [h3.bools] at h2
  exact ⟨p, bs, by rw [hv], Or.inl (Le.rd S.sub h2), k _ H G _ m q S (Le.refl G) vr_bool⟩
theorem on_any {bs : List Bool} (q : Q (.d (.bool (bs.any id))) m) : OpN K (rAny K) [.d (.list (bs.map PyData.bool))] m Q := fun H G vs S a R k => by
  obtain ⟨v, rfl, h⟩ := vrs1 a
  obtain ⟨p, xs, hv, h2, h3⟩ := rp_list.mp h.rp
  rw [h3.bools] at h2
  exact ⟨p, bs, by rw [hv], Or.inl (Le.rd S.sub h2), k _ H G _ m q S (Le.refl G) vr_bool⟩
theorem on_tupL {ds : List PyData} (q : Q (.d (.tuple ds)) m) : OpN K (rTupO K) [.d (.list ds)] m Q := fun H G vs S a R k => by
  obtain ⟨v, rfl, h⟩ := vrs1 a
  obtain ⟨p, xs, hv, h2, h3⟩ := rp_list.mp h.rp
  refine ⟨p, xs, by rw [hv], Or.inl ⟨Or.inl (Le.rd S.sub h2), fun l hl => ?_⟩⟩
  have hg := S.free hl
  exact k _ _ (upd G l (.tup xs)) _ m q (S.fix hl) (Le.new hg) (.d (rp_tuple.mpr ⟨l, xs, rfl, SqT.of upd_same, RpAll.mono (Le.new hg) ds xs h3⟩))
theorem on_tupT {ds : List PyData} (q : Q (.d (.tuple ds)) m) : OpN K (rTupO K) [.d (.tuple ds)] m Q := fun H G vs S a R k => by
  obtain ⟨v, rfl, h⟩ := vrs1 a
  obtain ⟨p, xs, hv, h2, h3⟩ := rp_tuple.mp h.rp
  exact ⟨p, xs, by rw [hv], Or.inr ⟨S.sqT h2, by rw [← hv]; exact k _ H G _ m q S (Le.refl G) h⟩⟩
theorem on_lstT {ds : List PyData} (q : Q (.d (.list ds)) m) : OpN K (rLstO K) [.d (.tuple ds)] m Q := fun H G vs S a R k => by
  obtain ⟨v, rfl, h⟩ := vrs1 a
  obtain ⟨p, xs, hv, h2, h3⟩ := rp_tuple.mp h.rp
  refine ⟨p, xs, by rw [hv], Or.inr (S.sqT h2), fun l hl => ?_⟩
  have hg := S.free hl
  exact k _ _ (upd G l (.lst xs)) _ m q (S.fix hl) (Le.new hg) (.d (rp_list.mpr ⟨l, xs, rfl, Rd.of upd_same, RpAll.mono (Le.new hg) ds xs h3⟩))
theorem on_divmod {i j : Int} (c : CDivW i j) (q : Q (.d (.tuple [.int (i / j), .int (i % j)])) m) : OpN K rDivmod [.d (.int i), .d (.int j)] m Q := fun H G vs S a R k => by
  obtain ⟨v, w, rfl, h1, h2⟩ := vrs2 a
  rw [int_of h1, int_of h2]
  refine ⟨i, j, rfl, c, fun p hp => ?_⟩
  have hg := S.free hp
  exact k _ _ (upd G p (.tup [.int (i / j), .int (i % j)])) _ m q (S.fix hp) (Le.new hg) (.d (rp_tuple.mpr ⟨p, _, rfl, SqT.of upd_same, rpa_ints [i / j, i % j]⟩))
/-! isinstance -/
def tyN : PyData → String
  | .none => "NoneType" | .bool _ => "bool" | .int _ => "int" | .str _ => "str" | .list _ => "list" | .tuple _ => "tuple" | .dict _ => "dict"
theorem ty_of {H G : Hp} {x : PyData} {v : V} (S : Sta K m H G) (a : Rp K G x v) : TyX K H v (.type (tyN x)) := by
  cases x with
  | none => rw [rp_none.mp a]; exact .base .non
  | bool b => rw [rp_bool.mp a]; exact .base (.bl b)
  | int b => rw [rp_int.mp a]; exact .base (.int b)
  | str b => rw [rp_str.mp a]; exact .base (.str b)
  | list ds =>
    obtain ⟨p, xs, rfl, h2, _⟩ := rp_list.mp a
    rcases Le.rd S.sub h2 with h | ⟨o, h⟩
    · exact .base (.lst h)
    · exact .base (.frz h)
  | tuple ds =>
    obtain ⟨p, xs, rfl, h2, _⟩ := rp_tuple.mp a
    rcases S.sqT h2 with (h | ⟨o, h⟩) | ⟨o, its, n, h, hc, _⟩
    · exact .base (.tup h)
    · exact .fTuple h
    · exact .kTuple h hc
  | dict kvs =>
    rw [Rp] at a
    obtain ⟨p, rfl, ⟨es, h, _⟩ | ⟨es, h, _⟩⟩ := a
    · exact .base (.dT (S.sub _ _ h))
    · exact .base (.dK (S.sub _ _ h))
theorem on_isi {x : PyData} {T : String} {b : Bool} (hb : kitB (tyN x) T = some b) (q : Q (.d (.bool b)) m) : OpN K (rIsi K) [.d x, .v (.ty T)] m Q := fun H G vs S a R k => by
  obtain ⟨v, w, rfl, h1, h2⟩ := vrs2 a
  rw [h2.eq]
  exact ⟨v, .ty T, _, _, b, rfl, .ty T, ty_of S h1.rp, kit_ty hb, k _ H G _ m q S (Le.refl G) vr_bool⟩
def isTup : PyData → Bool | .tuple _ => true | _ => false
def isIntB : PyData → Bool | .int _ => true | .bool _ => true | _ => false
def isBoo : PyData → Bool | .bool _ => true | _ => false
def isStrD : PyData → Bool | .str _ => true | _ => false
def isLst : PyData → Bool | .list _ => true | _ => false
def isDct : PyData → Bool | .dict _ => true | _ => false
theorem on_isiTup {x : PyData} (q : Q (.d (.bool (isTup x))) m) : OpN K (rIsi K) [.d x, .v (.ty "tuple")] m Q := on_isi (by cases x <;> (simp only [tyN, isTup, isIntB, isBoo, isStrD, isLst, isDct]; decide +kernel)) q
theorem on_isiInt {x : PyData} (q : Q (.d (.bool (isIntB x))) m) : OpN K (rIsi K) [.d x, .v (.ty "int")] m Q := on_isi (by cases x <;> (simp only [tyN, isTup, isIntB, isBoo, isStrD, isLst, isDct]; decide +kernel)) q
theorem on_isiBool {x : PyData} (q : Q (.d (.bool (isBoo x))) m) : OpN K (rIsi K) [.d x, .v (.ty "bool")] m Q := on_isi (by cases x <;> (simp only [tyN, isTup, isIntB, isBoo, isStrD, isLst, isDct]; decide +kernel)) q
theorem on_isiStr {x : PyData} (q : Q (.d (.bool (isStrD x))) m) : OpN K (rIsi K) [.d x, .v (.ty "str")] m Q := on_isi (by cases x <;> (simp only [tyN, isTup, isIntB, isBoo, isStrD, isLst, isDct]; decide +kernel)) q
theorem on_isiList {x : PyData} (q : Q (.d (.bool (isLst x))) m) : OpN K (rIsi K) [.d x, .v (.ty "list")] m Q := on_isi (by cases x <;> (simp only [tyN, isTup, isIntB, isBoo, isStrD, isLst, isDct]; decide +kernel)) q
theorem on_isiDict {x : PyData} (q : Q (.d (.bool (isDct x))) m) : OpN K (rIsi K) [.d x, .v (.ty "dict")] m Q := on_isi (by cases x <;> (simp only [tyN, isTup, isIntB, isBoo, isStrD, isLst, isDct]; decide +kernel)) q
/-! repr -/
/-! + of tuples and lists, * -/
theorem nil_of_all {G : Hp} {ds : List PyData} (h : RpAll K G ds []) : ds = [] := by
  cases ds with
  | nil => rfl
  | cons d r =>
    obtain ⟨x, t, h1, _⟩ := rpa_cons.mp h
    cases h1
theorem o2_addL {ds es : List PyData} (hz : ds.length + es.length ≤ 100000) (q : Q (.d (.list (ds ++ es))) m) : Op2 K (rAdd K) (.d (.list ds)) (.d (.list es)) m Q := fun H G v w S a b R k => by
  obtain ⟨p, xs, rfl, h2, h3⟩ := rp_list.mp a.rp
  obtain ⟨p', ys, rfl, h4, h5⟩ := rp_list.mp b.rp
  refine Or.inr (Or.inr (Or.inl ⟨p, p', xs, ys, rfl, rfl, Le.rd S.sub h2, Le.rd S.sub h4, ?_, fun l hl => ?_⟩))
  · rw [h3.length, h5.length]; exact Nat.le_trans hz (by decide)
  · have hg := S.free hl
    exact k _ _ (upd G l (.lst (xs ++ ys))) _ m q (S.fix hl) (Le.new hg) (.d (rp_list.mpr ⟨l, _, rfl, Rd.of upd_same, RpAll.mono (Le.new hg) _ _ (h3.append h5)⟩))
theorem RpAll.rep {G : Hp} {ds : List PyData} {xs : List V} (h : RpAll K G ds xs) : ∀ n : Nat, RpAll K G (List.replicate n ds).flatten (List.replicate n xs).flatten
  | 0 => rpa_nil.mpr rfl
  | n + 1 => by
    rw [List.replicate_succ, List.replicate_succ, List.flatten_cons, List.flatten_cons]
    exact h.append (RpAll.rep h n)
theorem o2_mulT {ds : List PyData} {n : Nat} (h0 : ds ≠ []) (h1 : 1 ≤ n) (h2 : n ≤ 1000) (h3 : ds.length ≤ 1000) (q : Q (.d (.tuple (List.replicate n ds).flatten)) m) : Op2 K (rMul K) (.d (.tuple ds)) (.d (.int (n : Int))) m Q := fun H G v w S a b R k => by
  rw [int_of b]
  obtain ⟨p, xs, rfl, g2, g3⟩ := rp_tuple.mp a.rp
  by_cases e : n = 1
  · subst e
    have e : (List.replicate 1 ds).flatten = ds := by simp
    rw [e] at q
    exact Or.inr (Or.inr (Or.inl ⟨p, xs, rfl, rfl, S.sqT g2, k _ H G _ m q S (Le.refl G) a⟩))
  · refine Or.inr (Or.inl ⟨p, (n : Int), xs, rfl, rfl, S.sqT g2, fun e => ?_, by omega, by omega, by rw [g3.length]; exact h3, fun l hl => ?_⟩)
    · subst e; exact h0 (nil_of_all g3)
    · have hg := S.free hl
      have en : ((n : Int)).toNat = n := by omega
      rw [en]
      exact k _ _ (upd G l _) _ m q (S.fix hl) (Le.new hg) (.d (rp_tuple.mpr ⟨l, _, rfl, SqT.of upd_same, RpAll.mono (Le.new hg) _ _ (g3.rep n)⟩))
end
/-! list(range), tuple(range) -/
section
variable {K : PySem.W.Frag} {r : List Val} {m : Mm} {Q : Val → Mm → Prop} {ta tb tc te : TE} {tt : TT}
def rngD (a n : Nat) : List PyData := (List.range n).map fun i => .int ((a + i : Nat) : Int)
theorem rpa_rng {G : Hp} (a n : Nat) : RpAll K G (rngD a n) (rgV (a : Int) ((a + n : Nat) : Int)) := by
  have e : rgV (a : Int) ((a + n : Nat) : Int) = ((List.range n).map fun i => ((a + i : Nat) : Int)).map V.int := by
    unfold rgV
    have e : (((a + n : Nat) : Int) - (a : Int)).toNat = n := by omega
    rw [e, List.map_map]
    rfl
  have e2 : rngD a n = ((List.range n).map fun i => ((a + i : Nat) : Int)).map PyData.int := by
    unfold rngD
    rw [List.map_map]
    rfl
  rw [e, e2]
  exact rpa_ints _
theorem rgok {a n : Nat} (h : a + n ≤ 100000) : RgOk (a : Int) ((a + n : Nat) : Int) := RgOk.of_le (by omega) (by omega) (by omega) (by omega)
theorem ev_lstR1 {n : Nat} (hn : n ≤ 100000) (h : Ev K ta r m fun x m1 => x = .d (.int (n : Int)) ∧ Q (.d (.list (rngD 0 n))) m1) : Ev K (tLstRg (tRg1 ta)) r m Q := fun σ H G S L R k =>
  h σ H G S L _ fun v H1 G1 x m1 ⟨hx, q⟩ S1 e1 r1 => by
    subst hx
    rw [int_of r1]
    have e : (n : Int) = ((0 + n : Nat) : Int) := by omega
    refine ⟨(n : Int), rfl, by rw [e]; exact rgok (a := 0) (n := n) (by omega), fun p hp => ?_⟩
    have hg := S1.free hp
    exact k _ _ (upd G1 p _) _ m1 q (S1.fix hp) (e1.trans (Le.new hg)) (.d (rp_list.mpr ⟨p, _, rfl, Rd.of upd_same, by rw [e]; exact rpa_rng 0 n⟩))
/-! comprehensions -/
def Ext (m m' : Mm) : Prop := ∀ a o, m a = some o → m' a = some o
theorem Ext.refl (m : Mm) : Ext m m := fun _ _ h => h
/-- one turn's end: the list so far stands at D -/
def LcW (K : PySem.W.Frag) (m : Mm) (G : Hp) (D : Addr) (W : Nat → List PyData → Prop) (i : Nat) (H' : Hp) : Prop :=
  ∃ G' acc, W i acc ∧ acc.length ≤ i ∧ Sta K (put m D (.lst (acc.map Val.d))) H' G' ∧ Le G G'
theorem lc_turn {G : Hp} {D : Addr} {W : Nat → List PyData → Prop} {i : Nat} {σ : L2.St} {H' : Hp} {r' : List Val} (hm : m D = none) (hi : i < 100000) (L : ∀ G', Le G G' → Sl K G' r' σ)
    (hs : ∀ m' acc, Ext m m' → W i acc → EvT K tt r' m' fun b m2 => m2 = m' ∧ (b = true → Ev K te r' m' fun x m3 => m3 = m' ∧ ∃ y, x = .d y ∧ W (i + 1) (acc ++ [y])) ∧ (b = false → W (i + 1) acc))
    (h : LcW K m G D W i H') : tt σ H' fun b H3 => if b = true then te σ H3 fun y H4 => ∃ acc, H4 D = some (.lst acc) ∧ acc.length < sizeLine ∧ LcW K m G D W (i + 1) (upd H4 D (.lst (acc ++ [y]))) else LcW K m G D W (i + 1) H3 := by
  obtain ⟨G', acc, hw, hl, S, e⟩ := h
  have hx : Ext m (put m D (.lst (acc.map Val.d))) := fun a o ha => by
    rw [put_ne (ne_of_get ha hm)]; exact ha
  refine hs _ acc hx hw σ H' G' S (L G' e) _ fun H3 G3 b m3 ⟨e3, h1, h2⟩ S3 l3 => ?_
  subst e3
  cases b with
  | true =>
    show te σ H3 _
    refine h1 rfl σ H3 G3 S3 (L G3 (e.trans l3)) _ fun v H4 G4 x m4 ⟨e4, y, hy, hw'⟩ S4 l4 r4 => ?_
    subst e4 hy
    obtain ⟨xs, g1, g2⟩ := S4.mem D _ put_same
    have hlen := g2.length
    rw [List.length_map] at hlen
    refine ⟨xs, g1, Nat.lt_of_lt_of_le (show xs.length < 100000 by omega) (by decide), G4, acc ++ [y], hw', by rw [List.length_append]; show acc.length + 1 ≤ i + 1; omega, ?_, e.trans (l3.trans l4)⟩
    have S5 := S4.chg (u := .lst ((acc ++ [y]).map Val.d)) (o := .lst (xs ++ [v])) put_same ⟨_, upd_same, by
      rw [List.map_append]
      exact g2.append ⟨v, [], rfl, r4, rfl⟩⟩
    rw [put_put] at S5
    exact S5
  | false =>
    show LcW K m G D W (i + 1) H3
    exact ⟨G3, acc, h2 rfl, by omega, S3, e.trans l3⟩
theorem wipe1 (σ : L2.St) (j : Nat) (x : V) : wipe ((wipe σ [j]).set j (some x)) [j] = wipe σ [j] := by
  show ((σ.set j none).set j (some x)).set j none = σ.set j none
  rw [List.set_set, List.set_set]
theorem sl_in {G : Hp} {σ : L2.St} {j : Nat} {d : PyData} {x : V} (L : Sl K G r σ) {G' : Hp} (e : Le G G') (h : Rp K G' d x) : Sl K G' (r.set j (.d d)) ((wipe σ [j]).set j (some x)) := by
  have := (L.mono e).set (r := .d d) (.d h) j
  show Sl K G' (r.set j (.d d)) ((σ.set j none).set j (some x))
  rw [List.set_set]
  exact this
theorem lc_end {G : Hp} {D : Addr} {W : Nat → List PyData → Prop} {n : Nat} {H' : Hp} {R : VK} (hm : m D = none) (h : LcW K m G D W n H') (hd : ∀ acc, W n acc → Q (.d (.list acc)) m)
    (k : ∀ v H' G' x m', Q x m' → Sta K m' H' G' → Le G G' → VR K G' x v → R v H') : R (.ref D) H' := by
  obtain ⟨G', acc, hw, hl, S, e⟩ := h
  obtain ⟨xs, g1, g2⟩ := S.mem D _ put_same
  have hg := S.dis D _ put_same
  have S2 := S.freeze put_same g1
  have e2 : del (put m D (.lst (acc.map Val.d))) D = m := by
    funext b
    unfold del put
    by_cases hb : b = D
    · rw [if_pos hb, hb, hm]
    · rw [if_neg hb, if_neg hb]
  rw [e2] at S2
  exact k _ H' _ _ m (hd acc hw) S2 (e.trans (Le.new hg)) (.d (rp_list.mpr ⟨D, xs, rfl, Rd.of upd_same, RpAll.mono (Le.new hg) acc xs g2.toAll⟩))
theorem lc_start {H G : Hp} {D : Addr} {W : Nat → List PyData → Prop} (S : Sta K m H G) (hD : H D = none) (h0 : W 0 []) : LcW K m G D W 0 (upd H D (.lst [])) :=
  ⟨G, [], h0, Nat.le_refl _, S.new hD ⟨[], upd_same, rfl⟩, Le.refl G⟩
theorem ev_lcT {tl : TE} {j : Nat} {ds : List PyData} (h : Ev K tl r m fun x m1 => x = .d (.tuple ds) ∧ m1 = m) (hn : ds.length ≤ 100000) (W : Nat → List PyData → Prop) (h0 : W 0 [])
    (hs : ∀ i d m' acc, ds[i]? = some d → Ext m m' → W i acc → EvT K tt (r.set j (.d d)) m' fun b m2 => m2 = m' ∧ (b = true → Ev K te (r.set j (.d d)) m' fun x m3 => m3 = m' ∧ ∃ y, x = .d y ∧ W (i + 1) (acc ++ [y])) ∧ (b = false → W (i + 1) acc))
    (hd : ∀ acc, W ds.length acc → Q (.d (.list acc)) m) : Ev K (tLc (iTup K tl) (gName j) tt te [j]) r m Q := fun σ H G S L R k =>
  h σ H G S L _ fun v H1 G1 x m1 ⟨hx, hm⟩ S1 e1 r1 => by
    subst hx hm
    obtain ⟨p, xs, hv, hs1, hA⟩ := rp_tuple.mp r1.rp
    refine ⟨p, hv, ⟨xs, S1.sqT hs1⟩, fun D hD => ?_⟩
    have hmD := S1.freeM hD
    refine lc_tup (xs := xs) (LcW K m1 G1 D W) (lc_start S1 hD h0) ?_ ?_ ?_
    · rintro i H' hi ⟨G', acc, _, _, S', e'⟩
      exact S'.sqT (e'.sqT hs1)
    · intro i y H' hy hP
      obtain ⟨d, hd1, hd2⟩ := hA.get hy
      have hi : i < 100000 := by
        have := (List.getElem?_eq_some_iff.mp hy).1
        rw [hA.length] at this
        omega
      exact ⟨wipe1 σ j y, lc_turn hmD hi (fun G' e' => sl_in (L.mono e1) e' (Rp.mono e' d y hd2)) (fun m' acc hx hw => hs i d m' acc hd1 hx hw) hP⟩
    · intro H' hP
      rw [hA.length] at hP
      exact lc_end hmD hP hd fun v H' G' x m' q S' e' r' => k v H' G' x m' q S' (e1.trans e') r'
theorem ev_lcR1 {ta : TA} {j : Nat} {n : Nat} (h : EvA K ta r m fun xs m1 => xs = [.d (.int (n : Int))] ∧ m1 = m) (hn : n ≤ 100000) (W : Nat → List PyData → Prop) (h0 : W 0 [])
    (hs : ∀ (i : Nat) m' acc, i < n → Ext m m' → W i acc → EvT K tt (r.set j (.d (.int (i : Int)))) m' fun b m2 => m2 = m' ∧ (b = true → Ev K te (r.set j (.d (.int (i : Int)))) m' fun x m3 => m3 = m' ∧ ∃ y, x = .d y ∧ W (i + 1) (acc ++ [y])) ∧ (b = false → W (i + 1) acc))
    (hd : ∀ acc, W n acc → Q (.d (.list acc)) m) : Ev K (tLc (iRng1 ta) (gName j) tt te [j]) r m Q := fun σ H G S L R k =>
  h σ H G S L _ fun vs H1 G1 xs m1 ⟨hx, hm⟩ S1 e1 r1 => by
    subst hx hm
    obtain ⟨v1, rfl, a1⟩ := vrs1 r1
    have a1 := int_of a1
    subst a1
    have en : ((n : Int)).toNat = n := by omega
    refine ⟨(n : Int), rfl, by omega, by omega, ?_⟩
    rw [en]
    intro D hD
    have hmD := S1.freeM hD
    refine lc_range (lo := 0) (n := n) (LcW K m1 G1 D W) (lc_start S1 hD h0) ?_ ?_
    · intro i H' hi hP
      rw [Int.zero_add]
      exact ⟨wipe1 σ j _, lc_turn hmD (by omega) (fun G' e' => sl_in (L.mono e1) e' (rp_int.mpr rfl)) (fun m' acc hx hw => hs i m' acc hi hx hw) hP⟩
    · intro H' hP
      exact lc_end hmD hP hd fun v H' G' x m' q S' e' r' => k v H' G' x m' q S' (e1.trans e') r'
theorem ev_lcR2 {ta : TA} {j : Nat} {lo n : Nat} (h : EvA K ta r m fun xs m1 => xs = [.d (.int (lo : Int)), .d (.int ((lo + n : Nat) : Int))] ∧ m1 = m) (hn : lo + n ≤ 100000) (W : Nat → List PyData → Prop) (h0 : W 0 [])
    (hs : ∀ (i : Nat) m' acc, i < n → Ext m m' → W i acc → EvT K tt (r.set j (.d (.int ((lo + i : Nat) : Int)))) m' fun b m2 => m2 = m' ∧ (b = true → Ev K te (r.set j (.d (.int ((lo + i : Nat) : Int)))) m' fun x m3 => m3 = m' ∧ ∃ y, x = .d y ∧ W (i + 1) (acc ++ [y])) ∧ (b = false → W (i + 1) acc))
    (hd : ∀ acc, W n acc → Q (.d (.list acc)) m) : Ev K (tLc (iRng2 ta) (gName j) tt te [j]) r m Q := fun σ H G S L R k =>
  h σ H G S L _ fun vs H1 G1 xs m1 ⟨hx, hm⟩ S1 e1 r1 => by
    subst hx hm
    obtain ⟨v1, v2, rfl, a1, a2⟩ := vrs2 r1
    have a1 := int_of a1
    have a2 := int_of a2
    subst a1 a2
    have en : (((lo + n : Nat) : Int) - (lo : Int)).toNat = n := by omega
    refine ⟨(lo : Int), ((lo + n : Nat) : Int), rfl, ⟨by omega, by omega, by omega, by omega⟩, ?_⟩
    rw [en]
    intro D hD
    have hmD := S1.freeM hD
    refine lc_range (lo := (lo : Int)) (n := n) (LcW K m1 G1 D W) (lc_start S1 hD h0) ?_ ?_
    · intro i H' hi hP
      rw [show (lo : Int) + (i : Int) = ((lo + i : Nat) : Int) from (Int.natCast_add lo i).symm]
      exact ⟨wipe1 σ j _, lc_turn hmD (by omega) (fun G' e' => sl_in (L.mono e1) e' (rp_int.mpr rfl)) (fun m' acc hx hw => hs i m' acc hi hx hw) hP⟩
    · intro H' hP
      exact lc_end hmD hP hd fun v H' G' x m' q S' e' r' => k v H' G' x m' q S' (e1.trans e') r'
theorem ev_cTy {T : String} (q : Q (.v (.ty T)) m) : Ev K (tC (.ty T)) r m Q := ev_cV q
theorem evt_yes {Q : Bool → Mm → Prop} (q : Q true m) : EvT K tYes r m Q := fun σ H G S L R k => k H G true m q S (Le.refl G)
/-! a[i] = e -/
variable {N : List Val → Mm → Prop} {E : Val → Mm → Prop}
theorem w_setB {to ti : TE} {p : Addr} (h : Ev K te r m fun x m1 => ∃ n : Int, x = .d (.int n) ∧ Ev K to r m1 fun y m2 => y = .v (.ref p) ∧ Ev K ti r m2 fun z m3 => z = .d (.int 0) ∧ m3 p = some .box ∧ N r m3) :
    Wp K (tAsg te (gSub to ti rSetL)) r m N E := fun σ H G D S L a b =>
  h σ H G S L _ fun v H1 G1 x m1 ⟨n, hx, h1⟩ S1 e1 r1 => h1 σ H1 G1 S1 (L.mono e1) _ fun w H2 G2 y m2 ⟨hy, h2⟩ S2 e2 r2 => h2 σ H2 G2 S2 (L.mono (e1.trans e2)) _ fun u H3 G3 z m3 ⟨hz, hb, q⟩ S3 e3 r3 => by
    subst hx hy hz
    have a1 := int_of r1
    have a2 := r2.eq
    have a3 := int_of r3
    subst a1 a2 a3
    obtain ⟨n0, g1⟩ := S3.mem p _ hb
    refine ⟨p, [.int n0], 0, 0, rfl, rfl, g1, rfl, ?_⟩
    have S4 := S3.chg (u := .box) (o := .lst [.int n]) hb ⟨n, upd_same⟩
    have e4 : put m3 p .box = m3 := by
      funext c
      unfold put
      by_cases hc : c = p
      · rw [if_pos hc, hc, hb]
      · rw [if_neg hc]
    rw [e4] at S4
    exact a σ _ G3 r m3 q S4 (e1.trans (e2.trans e3)) (L.mono (e1.trans (e2.trans e3)))
/-- a box made -/
theorem ev_lstB {t : TA} (h : EvA K t r m fun xs m1 => ∃ n : Int, xs = [.d (.int n)] ∧ ∀ p, m1 p = none → Q (.v (.ref p)) (put m1 p .box)) : Ev K (tLst t) r m Q := fun σ H G S L R k =>
  h σ H G S L _ fun vs H1 G1 xs m1 ⟨n, hx, q⟩ S1 e1 r1 => by
    subst hx
    obtain ⟨v1, rfl, a1⟩ := vrs1 r1
    have a1 := int_of a1
    subst a1
    refine ⟨by rw [sizeLine_eq]; show 1 ≤ 16777216; decide, fun p hp => ?_⟩
    exact k (.ref p) _ G1 _ _ (q p (S1.freeM hp)) (S1.new hp ⟨n, upd_same⟩) e1 .v
/-! what grew is data from now on -/
theorem o2_pow {i j : Int} (c : CPow i j) (q : Q (.d (.int (i ^ j.toNat))) m) : Op2 K rPow (.d (.int i)) (.d (.int j)) m Q := o2_I (C := CPow) (g := fun i j => i ^ j.toNat) c q
end
end DL
namespace DL
open PySem L2
/-- a def of the text that keeps a word of this level -/
structure Cl (P : Program) (w : World) (K : PySem.W.Frag) (mg : Str → Option Value) (base : Heap) (k : Nat) (x : Str) (sp : FSp) : Prop where
  ex : ∃ f fd ps, FnOk P w K mg base CX0 k f fd ps (spD K sp) ∧ mg x = some (.ref f) ∧ PySem.W.keepIn K (.ref f) = true ∧ Binds K fd ps []
section
variable {X : Cx} {k j n0 : Nat} {x : Str} {sp : FSp} {e : Expr} {es : List Expr} {t : TA} {p pos : Pos} {P : Program} {w : World} {K : PySem.W.Frag} {mg : Str → Option Value} {base : Heap}
theorem pe_cl (c : Cl P w K mg base k x sp) (hr : Room j X.A) (hk : k ≤ j) (hg : Gl X x) (ha : PA X (e :: es) t) (hP : X.prog = P := by rfl) (hw : X.w = w := by rfl) (hK : X.K = K := by rfl) (hmg : X.mg = mg := by rfl) (hbs : X.base = base := by rfl)
    (hdb : (x == ("__debug__" : Str)) = false := by decide)
    (he : starEach (e :: es) X.env = (false, eval e X.env) :: starEach es X.env := by rfl) (hpl : (backTo pos (starEach es X.env)).any (·.1) = false := by rfl) :
    PE X (.Call (.Name x p) (e :: es) [] pos) (tCall (spD K sp) [] E0 t) := by
  subst hP hw hK hmg hbs
  obtain ⟨f, fd, ps, F, hm, hkp, hb⟩ := c.ex
  exact pe_call F (hr.mono hk) hg hm hkp hb .nil pass0 ha hdb he hpl
theorem pe_gi {i : Int} (h : ∃ t, mg x = some (.int i t)) (hg : Gl X x) (hmg : X.mg = mg := by rfl) (hd : (x == ("__debug__" : Str)) = false := by decide) : PE X (.Name x pos) (tC (.int i)) := by
  subst hmg
  obtain ⟨t, h⟩ := h
  exact pe_glob hg h ⟨_, rfl⟩ hd
/-! the joined rules, the written part by name -/
theorem kAdd (K : PySem.W.Frag) (h : X.K = K := by rfl) : OpR X (binaryOp .Add) (rAdd K) := h ▸ oAdd
theorem kMul (K : PySem.W.Frag) (h : X.K = K := by rfl) : OpR X (binaryOp .Mult) (rMul K) := h ▸ oMul
theorem kEq (K : PySem.W.Frag) (hr : Room j X.A) (h : X.K = K := by rfl) : OpR X (compareOp .Eq) (rEqA K) := h ▸ oEq hr
theorem kNe (K : PySem.W.Frag) (hr : Room j X.A) (h : X.K = K := by rfl) : OpR X (compareOp .NotEq) (rNeA K) := h ▸ oNe hr
theorem kIx (K : PySem.W.Frag) (h : X.K = K := by rfl) : IxR X (rIx K) := h ▸ ix_seq
theorem kLen (K : PySem.W.Frag) (h : X.K = K := by rfl) : CallR X (.builtin "len") (rLen K) := h ▸ cLen
theorem kSum (K : PySem.W.Frag) (hc : X.calm = true := by rfl) (h : X.K = K := by rfl) : CallR X (.builtin "sum") (rSumA K) := h ▸ cSum hc
theorem kAll (K : PySem.W.Frag) (hc : X.calm = true := by rfl) (h : X.K = K := by rfl) : CallR X (.builtin "all") (rAll K) := h ▸ cAll hc
theorem kAny (K : PySem.W.Frag) (hc : X.calm = true := by rfl) (h : X.K = K := by rfl) : CallR X (.builtin "any") (rAny K) := h ▸ cAny hc
theorem kTup (K : PySem.W.Frag) (h : X.K = K := by rfl) : CallR X (.type "tuple") (rTupO K) := h ▸ cTup
theorem kIsi (K : PySem.W.Frag) (h : X.K = K := by rfl) : CallR X (.builtin "isinstance") (rIsi K) := h ▸ cIsi
theorem kSlL (K : PySem.W.Frag) (h : X.K = K := by rfl) : SlR X (rSlL K) := h ▸ sl_list
theorem kgT (K : PySem.W.Frag) {tg : Expr} {t : TGs} (hp : PG X tg (gTup X.K n0 t)) (h : X.K = K := by rfl) : PG X tg (gTup K n0 t) := h ▸ hp
theorem kiT (K : PySem.W.Frag) {tg l : Expr} {tl : TE} (hl : PE X l tl) (h : X.K = K := by rfl) : PI X tg l (iTup K tl) := h ▸ pi_tup hl
theorem kiL (K : PySem.W.Frag) {tg l : Expr} {tl : TE} (hl : PE X l tl) (h : X.K = K := by rfl) : PI X tg l (iList K tl) := h ▸ pi_list hl
end
/-! defs that want to know that nothing is being shown around them -/
structure FnG (P : Program) (w : World) (K : PySem.W.Frag) (mg : Str → Option Value) (base : Heap) (k : Nat) (f : Addr) (fd : FuncData) (ps : List Str) (sp : Sp) : Prop where
  len : ∀ vs H Q E, sp vs H Q E → vs.length = ps.length
  run : ∀ (A : Around) (outer : List Env) (s : Shared) (H : Hp) (args : Args) (us : List Value) (vs : List V) (Q : VK) (E : XK), A.guards = some [] → Room k A →
    Env0 P w K mg base A outer s H → BindsTo s fd args (ps.zip us) → Vals vs us → sp vs H Q E → codeAny (model P w) A (.call (.ref f) args) (CR CX0 outer P w H s Q E) s
section
variable {P : Program} {w : World} {K : PySem.W.Frag} {mg : Str → Option Value} {base : Heap}
theorem deeper_guards (A : Around) (env : Env) : (A.deeper env).guards = A.guards := by
  first
    | rfl
    | simp [Around.deeper]
theorem fnG_of {x qual : Str} {st : Stmt} {f : Addr} {fd : FuncData} {N ps : List Str} {k : Nat} {sp : Sp} (F : Fun K x qual st f fd) (S : FnScope N ps (defScope st)) (len : ∀ vs H Q E, sp vs H Q E → vs.length = ps.length)
    (hbody : ∀ (cdv : Value) (A : Around) (outer : List Env) (s : Shared) (H : Hp) (vs : List V) (Q : VK) (E : XK), (A.deeper (PyProof.Rows.envOfC qual (defScope st) s.heap.objs.size f cdv)).guards = some [] →
      Room k (A.deeper (PyProof.Rows.envOfC qual (defScope st) s.heap.objs.size f cdv)) → sp vs H Q E →
      ∃ t, PSs (cxOf CX0 P w K mg base N qual (defScope st) f cdv A outer s H E).nox (defBody st) t ∧ t { nx := fun _ H' => Q .non H', rt := Q } (L2.start N vs) H) : FnG P w K mg base (k + 1) f fd ps sp := by
  obtain ⟨oc, od, kV, doc, pm, an, cdv, ct, osl, rfl, lk, hcd⟩ := F.ex
  refine ⟨len, fun A outer s H args us vs Q E hgd hr e0 hb r hsp => ?_⟩
  have hl := len _ _ _ _ hsp
  have KX : K.In s.heap := e0.mod.kin.keeps fun b o e => (e0.bs b o e).1
  have lim : s.heap.NoLimit := e0.mod.nolimit.keeps fun b o e => (e0.bs b o e).1
  refine codeAny_call_function hr.depth (KX _ _ lk) rfl S.co S.gen rfl (PySem.W.codeRec_of KX hcd) (hb _ _ _ _ ?_)
  refine wpAny_newFunctionEnv_cells S.kind (fun y hy => ?_) fun env he s1 z => ?_
  · obtain ⟨n, v⟩ := y
    rcases S.par n (List.of_mem_zip hy).1 with q | q
    · exact Or.inl q
    · exact Or.inr ⟨q, PySem.W.cellsFrom_some _ _ _ (.inl q)⟩
  subst he
  refine ⟨lim.keeps z.toInCall.keep, codeAny_func ?_⟩
  obtain ⟨t, ht, hq⟩ := hbody cdv A outer s H vs Q E ((deeper_guards A _).trans hgd) (hr.deeper _) hsp
  have ht := ht.nox
  have I : Inv (cxOf CX0 P w K mg base N qual (defScope st) f cdv A outer s H E) [] (L2.start N vs) H s1 := inv_start S hr.hd e0 hl r z
  refine wpAny_mono (ht.run [] s1 (L2.start N vs) H _ I hq) (fun fl s' hs => ?_) fun e s' hs => hs
  cases fl with
  | ret u =>
    obtain ⟨v, σ', H', J, rv, q⟩ := hs
    exact ⟨v, H', J.os, J.bare, J.base, J.hok, rv, q⟩
  | next =>
    obtain ⟨σ', H', J, q⟩ := hs
    exact ⟨.non, H', J.os, J.bare, J.base, J.hok, rfl, q⟩
  | brk =>
    obtain ⟨_, _, _, q⟩ := hs
    exact q.elim
  | cont =>
    obtain ⟨_, _, _, q⟩ := hs
    exact q.elim
theorem fnG_ok {x qual : Str} {st : Stmt} {f : Addr} {fd : FuncData} {N ps : List Str} {k : Nat} {sp : FSp} (F : Fun K x qual st f fd) (S : FnScope N ps (defScope st)) (hl : ∀ args m R, sp args m R → args.length = ps.length)
    (hb : ∀ (cdv : Value) (A : Around) (outer : List Env) (s : Shared) (H : Hp) (E : XK), (A.deeper (PyProof.Rows.envOfC qual (defScope st) s.heap.objs.size f cdv)).guards = some [] →
      Room k (A.deeper (PyProof.Rows.envOfC qual (defScope st) s.heap.objs.size f cdv)) →
      ∃ t, PSs (cxOf CX0 P w K mg base N qual (defScope st) f cdv A outer s H E).nox (defBody st) t ∧
        ∀ args m R, sp args m R → Wp K t (args ++ List.replicate (N.length - args.length) .any) m (fun _ m' => R (.d .none) m') R) : FnG P w K mg base (k + 1) f fd ps (spD K sp) := by
  refine fnG_of F S (fun vs H Q E h => ?_) (fun cdv A outer s H vs Q E hg hr h => ?_)
  · obtain ⟨m, G, args, R, S1, r1, h1, _⟩ := h
    rw [r1.length]; exact hl args m R h1
  · obtain ⟨m, G, args, R, S1, r1, h1, k1⟩ := h
    obtain ⟨t, ht, hw⟩ := hb cdv A outer s H E hg hr
    refine ⟨t, ht, ?_⟩
    refine hw args m R h1 _ H G _ S1 ?_ (fun σ' H' G' r' m' hn S' e' L' => ?_) (fun v H' G' x m' hn S' e' L' => k1 v H' G' x m' hn S' e' L')
    · unfold L2.start
      rw [r1.length]
      exact Sl.start _ r1
    · exact k1 .non H' G' (.d .none) m' hn S' e' (.d (rp_none.mpr rfl))
end
end DL
namespace DL
open PySem L2
end DL
namespace DL
open PySem L2
/-! bits -/
def Bt (i : Int) (k : Nat) : Prop := i.natAbs < 2 ^ k
theorem Bt.mono {i : Int} {a b : Nat} (h : Bt i a) (hb : a ≤ b) : Bt i b := Nat.lt_of_lt_of_le h (Nat.pow_le_pow_right (by decide) hb)
theorem Bt.mul {i j : Int} {a b : Nat} (h : Bt i a) (g : Bt j b) : Bt (i * j) (a + b) := wide_lt h g
theorem Bt.add {i j : Int} {a b c : Nat} (h : Bt i a) (g : Bt j b) (h1 : a ≤ c) (h2 : b ≤ c) : Bt (i + j) (c + 1) := by
  have h := h.mono h1
  have g := g.mono h2
  unfold Bt at *
  rw [Nat.pow_succ]
  have : (i + j).natAbs ≤ i.natAbs + j.natAbs := Int.natAbs_add_le i j
  omega
theorem Bt.neg {i : Int} {a : Nat} (h : Bt i a) : Bt (-i) a := by
  unfold Bt at *; rw [Int.natAbs_neg]; exact h
theorem Bt.le {i j : Int} {a : Nat} (h : Bt j a) (hi : i.natAbs ≤ j.natAbs) : Bt i a := Nat.lt_of_le_of_lt hi h
theorem Bt.cmul {i j : Int} {a b : Nat} (h : Bt i a) (g : Bt j b) (c : a + b + 2 ≤ 1000000) : CMulW i j := wide_mul (h.mono (Nat.le_succ a)) (g.mono (Nat.le_succ b)) (Nat.succ_pos a) (Nat.succ_pos b) (by omega)
theorem Bt.cdiv {i j : Int} {b : Nat} (g : Bt j b) (h0 : 0 < j) (c : b < 9000) : CDivW i j := wide_div h0 (g.mono (Nat.le_succ b)) (Nat.succ_pos b) (by omega)
theorem cdiv_small {i j : Int} (h0 : 0 < j) (h : j < 1073741824) : CDivW i j := wide_div (b := 30) h0 (by
  have e : (2 : Nat) ^ 30 = 1073741824 := by decide
  rw [e]; omega) (by decide) (by decide)
theorem cmul_small {i j : Int} (h0 : i.natAbs < 18446744073709551616) (h : j.natAbs < 18446744073709551616) : CMulW i j := by
  have e : (2 : Nat) ^ 64 = 18446744073709551616 := by decide
  exact wide_mul (a := 64) (b := 64) (by rw [e]; exact h0) (by rw [e]; exact h) (by decide) (by decide) (by decide)
/-! fractions -/
def frac (q : Rat) : PyData := .tuple [.int q.num, .int (q.den : Int)]
theorem frac_mk (t : Int) (b : Nat) (hb : b ≠ 0) : frac (mkRat t b) = .tuple [.int (t / (Nat.gcd b t.natAbs : Nat)), .int ((b / Nat.gcd b t.natAbs : Nat) : Int)] := by
  unfold frac
  rw [Rat.num_mkRat, Rat.den_mkRat, if_neg hb, if_neg hb]
theorem shaped_frac (q : Rat) : SeqAt.shaped (frac q) = true := by simp [SeqAt.shaped, frac, PyData.canLay0, PyData.canLayAll0, PyData.depth, PyData.depthAll]
theorem frac_inj {p q : Rat} (h : frac p = frac q) : p = q := by
  unfold frac at h
  have h1 : p.num = q.num := by injection h with h; injection h with h1 h2; injection h1
  have h2 : (p.den : Int) = q.den := by injection h with h; injection h with h1 h2; injection h2 with h2; injection h2
  exact Rat.ext h1 (by omega)
/-! ints of bounded size are shown -/
theorem log2_of_bt {i : Int} {a : Nat} (h : Bt i a) (h0 : 0 < a) : i.natAbs.log2 < a := PySem.Flt.log2_lt_of h0 h
theorem showable_int {i : Int} {a : Nat} (h : Bt i a) (h0 : 0 < a) (ha : a ≤ 1920) : (PyData.int i).showable = true := by
  simp only [PyData.showable]
  exact decide_eq_true (Nat.lt_of_lt_of_le (log2_of_bt h h0) ha)
/-! what may be shown: how deep, how long -/
structure Sh (d : PyData) (k n : Nat) : Prop where
  nd : d.hasDict = false
  dp : d.depth ≤ k
  sh : d.showable = true
  ln : d.shown.length ≤ n
theorem Sh.mono {d : PyData} {k n k' n' : Nat} (h : Sh d k n) (h1 : k ≤ k') (h2 : n ≤ n') : Sh d k' n' := ⟨h.nd, Nat.le_trans h.dp h1, h.sh, Nat.le_trans h.ln h2⟩
theorem sh_int {i : Int} {a : Nat} (h : Bt i a) (h0 : 0 < a) (ha : a ≤ 1920) : Sh (.int i) 0 (a + 1) := by
  refine ⟨by simp only [PyData.hasDict], by simp only [PyData.depth]; exact Nat.le_refl 0, showable_int h h0 ha, ?_⟩
  simp only [PyData.shown]
  rw [ofString_length]
  exact int_text_length_le h0 (log2_of_bt h h0)
theorem sh_none : Sh .none 0 4 := by
  refine ⟨by simp only [PyData.hasDict], by simp only [PyData.depth]; exact Nat.le_refl 0, by simp only [PyData.showable], ?_⟩
  simp only [PyData.shown]
  decide
theorem shAll {k n : Nat} : ∀ {ds : List PyData}, (∀ d ∈ ds, Sh d k n) → PyData.hasDictAll ds = false ∧ PyData.depthAll ds ≤ k ∧ PyData.showableAll ds = true ∧ ((PyData.shownAll ds).map (·.length)).sum ≤ n * ds.length ∧ (PyData.shownAll ds).length = ds.length
  | [], _ => ⟨by simp only [PyData.hasDictAll], by simp only [PyData.depthAll]; exact Nat.zero_le _, by simp only [PyData.showableAll], by simp [PyData.shownAll], by simp [PyData.shownAll]⟩
  | d :: ds, h => by
    have h1 := h d (List.mem_cons_self ..)
    obtain ⟨a, b, c, e, f⟩ := shAll (ds := ds) fun x hx => h x (List.mem_cons_of_mem _ hx)
    refine ⟨by simp only [PyData.hasDictAll, h1.nd, a]; rfl, ?_, by simp only [PyData.showableAll, h1.sh, c]; rfl, ?_, ?_⟩
    · simp only [PyData.depthAll]
      exact Nat.max_le.mpr ⟨h1.dp, b⟩
    · have := h1.ln
      simp only [PyData.shownAll, List.map_cons, List.sum_cons, List.length_cons]
      rw [Nat.mul_succ]
      omega
    · simp only [PyData.shownAll, List.length_cons, f]
theorem sh_tuple {ds : List PyData} {k n c : Nat} (h : ∀ d ∈ ds, Sh d k n) (hc : ds.length ≤ c) : Sh (.tuple ds) (k + 1) ((n + 2) * c + 3) := by
  obtain ⟨a, b, e, f, g⟩ := shAll h
  refine ⟨by simp only [PyData.hasDict, a], by simp only [PyData.depth]; omega, by simp only [PyData.showable, e], ?_⟩
  simp only [PyData.shown]
  have := tupleText_len_le (PyData.shownAll ds)
  have h1 : n * ds.length ≤ n * c := Nat.mul_le_mul_left n hc
  have h2 : (n + 2) * c = n * c + 2 * c := Nat.add_mul n 2 c
  omega
/-- a fraction of small enough parts -/
def FrB (q : Rat) (a : Nat) : Prop := Bt q.num a ∧ Bt (q.den : Int) a
theorem sh_frac {q : Rat} {a : Nat} (h : FrB q a) (h0 : 0 < a) (ha : a ≤ 1920) : Sh (frac q) 1 4000 := by
  unfold frac
  refine (sh_tuple (ds := [.int q.num, .int (q.den : Int)]) (k := 0) (n := a + 1) (c := 2) (fun d hd => ?_) (Nat.le_refl 2)).mono (Nat.le_refl _) (by omega)
  rcases List.mem_cons.mp hd with e | hd
  · rw [e]; exact sh_int h.1 h0 ha
  · rw [List.mem_singleton.mp hd]; exact sh_int h.2 h0 ha
end DL
namespace DL
open PySem L2
theorem br_t {c : Bool} {A B : Prop} (h : c = true) (a : A) : (c = true → A) ∧ (c = false → B) := ⟨fun _ => a, fun g => by rw [h] at g; cases g⟩
theorem br_f {c : Bool} {A B : Prop} (h : c = false) (b : B) : (c = true → A) ∧ (c = false → B) := ⟨(fun g => by rw [h] at g; cases g), (fun _ => b)⟩
theorem take_one {α : Type} {ds : List α} {i : Nat} {d : α} (h : ds[i]? = some d) : ds.take (i + 1) = ds.take i ++ [d] := by
  rw [List.take_succ, h]; rfl
theorem range_one (i : Nat) : List.range (i + 1) = List.range i ++ [i] := List.range_succ
section
variable {K : PySem.W.Frag} {r : List Val} {m : Mm} {Q : Val → Mm → Prop} {te tl : TE} {tt : TT} {j : Nat} {ds : List PyData}
theorem ev_mapT (h : Ev K tl r m fun x m1 => x = .d (.tuple ds) ∧ m1 = m) (hn : ds.length ≤ 100000) (f : PyData → PyData)
    (hs : ∀ (i : Nat) (d : PyData) m', ds[i]? = some d → Ext m m' → Ev K te (r.set j (.d d)) m' fun x m3 => x = .d (f d) ∧ m3 = m') (q : Q (.d (.list (ds.map f))) m) : Ev K (tLc (iTup K tl) (gName j) tYes te [j]) r m Q :=
  ev_lcT h hn (fun i acc => acc = (ds.take i).map f) (by simp) (fun i d m' acc hd hx hw => evt_yes ⟨rfl, fun _ => (hs i d m' hd hx).imp fun x m3 e => ⟨e.2, f d, e.1, by rw [hw, take_one hd, List.map_append]; rfl⟩, (fun g => nomatch g)⟩)
    (fun acc hw => by rw [hw, List.take_length]; exact q)
theorem ev_mapR2 {ta : TA} {lo n : Nat} (h : EvA K ta r m fun xs m1 => xs = [.d (.int (lo : Int)), .d (.int ((lo + n : Nat) : Int))] ∧ m1 = m) (hn : lo + n ≤ 100000) (f : Nat → PyData)
    (hs : ∀ i m', i < n → Ext m m' → Ev K te (r.set j (.d (.int ((lo + i : Nat) : Int)))) m' fun x m3 => x = .d (f i) ∧ m3 = m') (q : Q (.d (.list ((List.range n).map f))) m) : Ev K (tLc (iRng2 ta) (gName j) tYes te [j]) r m Q :=
  ev_lcR2 h hn (fun i acc => acc = (List.range i).map f) (by simp) (fun i m' acc hi hx hw => evt_yes ⟨rfl, fun _ => (hs i m' hi hx).imp fun x m3 e => ⟨e.2, f i, e.1, by rw [hw, range_one, List.map_append]; rfl⟩, (fun g => nomatch g)⟩)
    (fun acc hw => by rw [hw]; exact q)
/-- a range that is none -/
theorem ev_lcR2' {ta : TA} (h : EvA K ta r m fun xs m1 => xs = [.d (.int 1), .d (.int 0)] ∧ m1 = m) (q : Q (.d (.list [])) m) : Ev K (tLc (iRng2 ta) (gName j) tt te [j]) r m Q := fun σ H G S L R k =>
  h σ H G S L _ fun vs H1 G1 xs m1 ⟨hx, hm⟩ S1 e1 r1 => by
    subst hx hm
    obtain ⟨v1, v2, rfl, a1, a2⟩ := vrs2 r1
    have a1 := int_of a1
    have a2 := int_of a2
    subst a1 a2
    refine ⟨1, 0, rfl, ⟨by omega, by omega, by omega, by omega⟩, fun D hD => ?_⟩
    have hmD := S1.freeM hD
    refine lc_range (lo := 1) (n := 0) (LcW K m1 G1 D (fun _ acc => acc = [])) (lc_start S1 hD rfl) (fun i H' hi => absurd hi (Nat.not_lt_zero i)) fun H' hP => ?_
    exact lc_end hmD hP (fun acc hw => by rw [hw]; exact q) fun v H' G' x m' q S' e' r' => k v H' G' x m' q S' (e1.trans e') r'
/-- drawn items: each may be any that P allows -/
theorem ev_anyR1 {ta : TA} {n : Nat} (h : EvA K ta r m fun xs m1 => xs = [.d (.int (n : Int))] ∧ m1 = m) (hn : n ≤ 100000) (P : Nat → PyData → Prop)
    (hs : ∀ i m', i < n → Ext m m' → Ev K te (r.set j (.d (.int (i : Int)))) m' fun x m3 => (∃ y, x = .d y ∧ P i y) ∧ m3 = m') (q : ∀ ds : List PyData, ds.length = n → (∀ (i : Nat) (d : PyData), ds[i]? = some d → P i d) → Q (.d (.list ds)) m) : Ev K (tLc (iRng1 ta) (gName j) tYes te [j]) r m Q :=
  ev_lcR1 h hn (fun i acc => acc.length = i ∧ ∀ (k : Nat) (d : PyData), acc[k]? = some d → P k d) ⟨rfl, fun k d hk => by simp at hk⟩ (fun i m' acc hi hx hw => evt_yes ⟨rfl, fun _ => (hs i m' hi hx).imp fun x m3 e => ⟨e.2, by
      obtain ⟨y, hy, hp⟩ := e.1
      refine ⟨y, hy, by rw [List.length_append, hw.1]; rfl, fun k d hk => ?_⟩
      by_cases hki : k < i
      · rw [List.getElem?_append_left (by omega)] at hk
        exact hw.2 k d hk
      · have e2 : k = i := by
          have := (List.getElem?_eq_some_iff.mp hk).1
          rw [List.length_append, hw.1] at this
          simp at this
          omega
        subst e2
        rw [List.getElem?_append_right (by omega), hw.1] at hk
        simp at hk
        subst hk
        exact hp⟩, (fun g => nomatch g)⟩)
    (fun acc hw => q acc hw.1 hw.2)
end
end DL
namespace DL
open PySem L2
def f_gcd : FSp := fun args m R => ∃ a b : Nat, args = [.d (.int (a : Int)), .d (.int (b : Int))] ∧ R (.d (.int ((Nat.gcd a b : Nat) : Int))) m
def f_made : FSp := fun args m R => ∃ (t : Int) (b : Nat), args = [.d (.int t), .d (.int (b : Int))] ∧ 0 < b ∧ Bt (b : Int) 8000 ∧ R (.d (frac (mkRat t b))) m
def isInt : PyData → Bool
  | .int _ => true
  | _ => false
def f_isWhole : FSp := fun args m R => ∃ x, args = [.d x] ∧ R (.d (.bool (isInt x))) m
def okS : PyData → Bool
  | .int i => decide (1 ≤ i) && decide (i ≤ 9)
  | _ => false
def isShares : PyData → Bool
  | .tuple ds => decide (1 ≤ ds.length) && (decide (ds.length ≤ 5) && ds.all okS)
  | _ => false
structure Shares (ss : List Int) : Prop where
  pos : 1 ≤ ss.length
  few : ss.length ≤ 5
  each : ∀ s ∈ ss, 1 ≤ s ∧ s ≤ 9
def tupI (ns : List Int) : PyData := .tuple (ns.map PyData.int)
def tupN (ks : List Nat) : PyData := .tuple ((ks.map fun (k : Nat) => (k : Int)).map PyData.int)
theorem isShares_of {ss : List Int} (h : Shares ss) : isShares (tupI ss) = true := by
  unfold isShares tupI
  dsimp only
  rw [List.length_map, decide_eq_true h.pos, decide_eq_true h.few, Bool.true_and, Bool.true_and, List.all_eq_true]
  intro d hd
  obtain ⟨i, hi, rfl⟩ := List.mem_map.mp hd
  obtain ⟨a, b⟩ := h.each i hi
  show (decide (1 ≤ i) && decide (i ≤ 9)) = true
  rw [decide_eq_true a, decide_eq_true b]; rfl
theorem int_shape {d : PyData} (h : isInt d = true) : ∃ i, d = .int i := by
  cases d with
  | int i => exact ⟨i, rfl⟩
  | _ => cases h
theorem tup_shape {d : PyData} (h : isTup d = true) : ∃ ds, d = .tuple ds := by
  cases d with
  | tuple i => exact ⟨i, rfl⟩
  | _ => cases h
def f_isShares : FSp := fun args m R => ∃ x, args = [.d x] ∧ R (.d (.bool (isShares x))) m
def f_needShares : FSp := fun args m R => ∃ x, args = [.d x] ∧ isShares x = true ∧ R (.d .none) m
def okK (n : Int) : PyData → Bool
  | .int i => decide (0 ≤ i) && decide (i < n)
  | _ => false
def intOf : PyData → Int
  | .int i => i
  | _ => 0
def rising (ds : List PyData) : Bool := (List.range (ds.length - 1)).all fun i => decide (intOf (ds.getD i .none) < intOf (ds.getD (i + 1) .none))
def areKinds (x : PyData) (n : Int) : Bool := match x with
  | .tuple ds => ds.all (okK n) && rising ds
  | _ => false
def shortD : PyData → Prop
  | .tuple ds => ds.length ≤ 90000
  | _ => True
def f_areKinds : FSp := fun args m R => ∃ x n, args = [.d x, .d (.int n)] ∧ shortD x ∧ R (.d (.bool (areKinds x n))) m
def sumP (ss : List Int) (ks : List Nat) : Int := (ks.map fun k => ss.getD k 0).sum
def f_sumPart : FSp := fun args m R => ∃ (ss : List Int) (ks : List Nat), args = [.d (tupI ss), .d (tupN ks)] ∧ ks.length ≤ 1000 ∧ (∀ k ∈ ks, k < ss.length) ∧ R (.d (.int (sumP ss ks))) m
theorem tupI_at {ss : List Int} {k : Nat} (h : k < ss.length) : atI (ss.map PyData.int) (k : Int) = some (.int (ss.getD k 0)) := by
  rw [atI_nth, List.getElem?_map, List.getD_eq_getElem?_getD, List.getElem?_eq_getElem h]; rfl
theorem shares_sum {ss : List Int} (h : Shares ss) : 1 ≤ ss.sum ∧ ss.sum ≤ 45 := by
  obtain ⟨h1, h2, h3⟩ := h
  match ss, h1, h2 with
  | [a], _, _ => have := h3 a (by simp); simp; omega
  | [a, b], _, _ => have := h3 a (by simp); have := h3 b (by simp); simp; omega
  | [a, b, c], _, _ => have := h3 a (by simp); have := h3 b (by simp); have := h3 c (by simp); simp; omega
  | [a, b, c, d], _, _ => have := h3 a (by simp); have := h3 b (by simp); have := h3 c (by simp); have := h3 d (by simp); simp; omega
  | [a, b, c, d, e], _, _ => have := h3 a (by simp); have := h3 b (by simp); have := h3 c (by simp); have := h3 d (by simp); have := h3 e (by simp); simp; omega
/-- some kinds of so many -/
structure Kinds (n : Nat) (ks : List Nat) : Prop where
  up : ks.Pairwise (· < ·)
  lt : ∀ k ∈ ks, k < n
theorem Kinds.len {n : Nat} {ks : List Nat} (h : Kinds n ks) : ks.length ≤ n := by
  have h1 : ks.Sublist (List.range n) := by
    have : ∀ (ks : List Nat) (m : Nat), ks.Pairwise (· < ·) → (∀ k ∈ ks, m ≤ k ∧ k < n) → ks.Sublist ((List.range n).drop m) := by
      intro ks
      induction ks with
      | nil => intro m _ _; exact List.nil_sublist _
      | cons k t ih =>
        intro m hp hl
        have hk := hl k (by simp)
        have hkn : k < (List.range n).length := by rw [List.length_range]; exact hk.2
        have hd : (List.range n).drop k = k :: (List.range n).drop (k + 1) := by
          rw [List.drop_eq_getElem_cons hkn, List.getElem_range]
        have h1 : (k :: t).Sublist ((List.range n).drop k) := by
          rw [hd]
          refine (ih (k + 1) (List.pairwise_cons.mp hp).2 fun x hx => ⟨?_, (hl x (by simp [hx])).2⟩).cons_cons k
          exact (List.pairwise_cons.mp hp).1 x hx
        refine h1.trans ?_
        have e : (List.range n).drop k = ((List.range n).drop m).drop (k - m) := by rw [List.drop_drop]; congr 1; omega
        rw [e]
        exact List.drop_sublist _ _
    exact this ks 0 h.up fun k hk => ⟨Nat.zero_le _, h.lt k hk⟩
  have := h1.length_le
  rw [List.length_range] at this
  exact this
theorem areKinds_of {n : Nat} {ks : List Nat} (h : Kinds n ks) : areKinds (tupN ks) (n : Int) = true := by
  show (((ks.map fun (k : Nat) => (k : Int)).map PyData.int).all (okK n) && rising ((ks.map fun (k : Nat) => (k : Int)).map PyData.int)) = true
  rw [Bool.and_eq_true]
  constructor
  · rw [List.all_eq_true]
    intro d hd
    rw [List.map_map] at hd
    obtain ⟨k, hk, rfl⟩ := List.mem_map.mp hd
    have := h.lt k hk
    show (decide ((0 : Int) ≤ (k : Int)) && decide ((k : Int) < (n : Int))) = true
    rw [decide_eq_true (by omega), decide_eq_true (by omega)]; rfl
  · unfold rising
    rw [List.all_eq_true]
    intro i hi
    rw [List.mem_range, List.length_map, List.length_map] at hi
    apply decide_eq_true
    have g : ∀ j, j < ks.length → intOf (((ks.map fun (k : Nat) => (k : Int)).map PyData.int).getD j .none) = (ks.getD j 0 : Nat) := by
      intro j hj
      rw [List.getD_eq_getElem?_getD, List.getElem?_map, List.getElem?_map, List.getD_eq_getElem?_getD, List.getElem?_eq_getElem hj]; rfl
    rw [g i (by omega), g (i + 1) (by omega)]
    have := List.pairwise_iff_getElem.mp h.up i (i + 1) (by omega) (by omega) (by omega)
    rw [List.getD_eq_getElem?_getD, List.getD_eq_getElem?_getD, List.getElem?_eq_getElem (by omega), List.getElem?_eq_getElem (by omega)]
    simp only [Option.getD_some]
    omega
theorem sumP_nonneg {ss : List Int} (h : Shares ss) : ∀ ks : List Nat, 0 ≤ sumP ss ks
  | [] => Int.le_refl 0
  | k :: t => by
    have ih := sumP_nonneg h t
    have e : sumP ss (k :: t) = ss.getD k 0 + sumP ss t := rfl
    have : 0 ≤ ss.getD k 0 := by
      rw [List.getD_eq_getElem?_getD]
      cases hk : ss[k]? with
      | none => decide
      | some s => have := h.each s (List.mem_of_getElem? hk); simp; omega
    omega
theorem getD_bounds {ss : List Int} (h : Shares ss) (k : Nat) : 0 ≤ ss.getD k 0 ∧ ss.getD k 0 ≤ 9 := by
  rw [List.getD_eq_getElem?_getD]
  cases hk : ss[k]? with
  | none => exact ⟨by decide, by decide⟩
  | some s => have := h.each s (List.mem_of_getElem? hk); simp; omega
theorem sumP_le9 {ss : List Int} (h : Shares ss) : ∀ ks : List Nat, sumP ss ks ≤ 9 * (ks.length : Int)
  | [] => Int.le_refl 0
  | k :: t => by
    have ih := sumP_le9 h t
    have e : sumP ss (k :: t) = ss.getD k 0 + sumP ss t := rfl
    have := getD_bounds h k
    rw [List.length_cons]
    omega
theorem sumP_le {ss : List Int} (h : Shares ss) {ks : List Nat} (hk : Kinds ss.length ks) : sumP ss ks ≤ 45 := by
  have := sumP_le9 h ks
  have := hk.len
  have := h.few
  omega
theorem frB_mk {t : Int} {b a : Nat} (h1 : Bt t a) (h2 : Bt (b : Int) a) (h0 : 0 < b) : FrB (mkRat t b) a := by
  refine ⟨?_, ?_⟩
  · rw [Rat.num_mkRat, if_neg (by omega)]
    refine h1.le ?_
    rw [Int.natAbs_ediv_of_dvd (Int.ofNat_dvd_left.mpr (Nat.gcd_dvd_right b t.natAbs)), Int.natAbs_natCast]
    exact Nat.div_le_self _ _
  · rw [Rat.den_mkRat, if_neg (by omega)]
    exact h2.le (by simp only [Int.natAbs_natCast]; exact Nat.div_le_self _ _)
theorem on_lenI {K : PySem.W.Frag} {m : Mm} {Q : Val → Mm → Prop} {ss : List Int} (q : Q (.d (.int (ss.length : Int))) m) : OpN K (rLen K) [.d (tupI ss)] m Q := on_lenT (by rw [List.length_map]; exact q)
theorem on_lenN {K : PySem.W.Frag} {m : Mm} {Q : Val → Mm → Prop} {ks : List Nat} (q : Q (.d (.int (ks.length : Int))) m) : OpN K (rLen K) [.d (tupN ks)] m Q := on_lenT (by rw [List.length_map, List.length_map]; exact q)
theorem on_sumI {K : PySem.W.Frag} {m : Mm} {Q : Val → Mm → Prop} {ss : List Int} (q : Q (.d (.int ss.sum)) m) : OpN K (rSumA K) [.d (tupI ss)] m Q := on_sumT q
/-! fractions reckoned -/
theorem o2_ixF0 {K : PySem.W.Frag} {m : Mm} {Q : Val → Mm → Prop} {q : Rat} (h : Q (.d (.int q.num)) m) : Op2 K (rIx K) (.d (frac q)) (.d (.int 0)) m Q := o2_ixT (d := .int q.num) rfl h
theorem o2_ixF1 {K : PySem.W.Frag} {m : Mm} {Q : Val → Mm → Prop} {q : Rat} (h : Q (.d (.int (q.den : Int))) m) : Op2 K (rIx K) (.d (frac q)) (.d (.int 1)) m Q := o2_ixT (d := .int (q.den : Int)) rfl h
def f_sumOf : FSp := fun args m R => ∃ p q : Rat, args = [.d (frac p), .d (frac q)] ∧ FrB p 3900 ∧ FrB q 3900 ∧ R (.d (frac (p + q))) m
def f_timesOf : FSp := fun args m R => ∃ p q : Rat, args = [.d (frac p), .d (frac q)] ∧ FrB p 3900 ∧ FrB q 3900 ∧ R (.d (frac (p * q))) m
def f_below : FSp := fun args m R => ∃ p q : Rat, args = [.d (frac p), .d (frac q)] ∧ FrB p 3900 ∧ FrB q 3900 ∧ R (.d (.bool (decide (p < q)))) m
theorem FrB.mono {q : Rat} {a b : Nat} (h : FrB q a) (hb : a ≤ b) : FrB q b := ⟨h.1.mono hb, h.2.mono hb⟩
theorem den_pos (q : Rat) : 0 < q.den := Nat.pos_of_ne_zero q.den_nz
theorem FrB.add {p q : Rat} {a b c : Nat} (h : FrB p a) (g : FrB q b) (hc : a + b + 1 ≤ c) : FrB (p + q) c := by
  rw [Rat.add_def']
  refine frB_mk (((h.1.mul g.2).add (g.1.mul h.2) (c := a + b) (Nat.le_refl _) (by omega)).mono hc) (Bt.mono (a := a + b) ?_ (by omega)) (Nat.mul_pos (den_pos p) (den_pos q))
  rw [Int.natCast_mul]
  exact h.2.mul g.2
theorem FrB.mul {p q : Rat} {a b c : Nat} (h : FrB p a) (g : FrB q b) (hc : a + b ≤ c) : FrB (p * q) c := by
  rw [Rat.mul_def']
  refine frB_mk ((h.1.mul g.1).mono hc) (Bt.mono (a := a + b) ?_ hc) (Nat.mul_pos (den_pos p) (den_pos q))
  rw [Int.natCast_mul]
  exact h.2.mul g.2
theorem FrB.neg {p : Rat} {a : Nat} (h : FrB p a) : FrB (-p) a := ⟨h.1.neg, h.2⟩
/-- whether a thing is a fraction -/
def isFrac : PyData → Bool
  | .tuple [.int t, .int b] => decide (1 ≤ b) && decide (Nat.gcd b.toNat t.natAbs = 1)
  | _ => false
def szFrac : PyData → Prop
  | .tuple [.int _, .int b] => Bt b 8000
  | _ => True
def f_isFrac : FSp := fun args m R => ∃ x, args = [.d x] ∧ szFrac x ∧ R (.d (.bool (isFrac x))) m
theorem isFrac_frac (q : Rat) : isFrac (frac q) = true := by
  show (decide (1 ≤ (q.den : Int)) && decide (Nat.gcd ((q.den : Int)).toNat q.num.natAbs = 1)) = true
  have h := q.reduced
  have hd := den_pos q
  rw [decide_eq_true (by omega), decide_eq_true (by rw [Int.toNat_natCast, Nat.gcd_comm]; exact h)]; rfl
theorem eqv_frac2 (t : Int) (b : Nat) (hb : 0 < b) : PyData.eqv (frac (mkRat t b)) (.tuple [.int t, .int (b : Int)]) = decide (Nat.gcd b t.natAbs = 1) := by
  rw [frac_mk t b (by omega)]
  simp only [PyData.eqv, PyData.eqvAll, Bool.and_true]
  by_cases h : Nat.gcd b t.natAbs = 1
  · rw [decide_eq_true h]
    simp [h]
  · rw [decide_eq_false h]
    have hg : 0 < Nat.gcd b t.natAbs := Nat.gcd_pos_of_pos_left _ hb
    have hlt : b / Nat.gcd b t.natAbs < b := Nat.div_lt_self hb (by omega)
    have e : ((((b / Nat.gcd b t.natAbs : Nat) : Int)) == (b : Int)) = false := beq_eq_false_iff_ne.mpr (by omega)
    rw [e, Bool.and_false]
/-! a law's own helpers -/
theorem bt_lit {i : Int} {n a : Nat} (h : i.natAbs < 2 ^ n) (ha : n ≤ a) : Bt i a := Bt.mono (show Bt i n from h) ha
def f_cell : FSp := fun args m R => ∃ (ns : List Int) (k : Nat), args = [.scr ns, .d (.int (k : Int))] ∧ ∀ z : Int, R (.d (.int z)) m
def f_mix : FSp := fun args m R => ∃ (c : Int) (k : Nat), args = [.d (.int c), .d (.int (k : Int))] ∧ k ≤ 1000 ∧ ∀ z : Int, 0 ≤ z → z < 1073741824 → R (.d (.int z)) m
def f_box : FSp := fun args m R => ∃ (ns : List Int) (k : Nat), args = [.scr ns, .d (.int (k : Int))] ∧ ∀ p, m p = none → R (.v (.ref p)) (put m p .box)
def f_take : FSp := fun args m R => ∃ (p : Addr) (k : Int), args = [.v (.ref p), .d (.int k)] ∧ m p = some .box ∧ 0 < k ∧ Bt k 8000 ∧ ∀ z : Int, 0 ≤ z → z < k → R (.d (.int z)) m
def f_drawnShares : FSp := fun args m R => ∃ (p : Addr) (a b : Int), args = [.v (.ref p), .d (.int a), .d (.int b)] ∧ m p = some .box ∧ 1 ≤ a ∧ a ≤ 5 ∧ 2 ≤ b ∧ b ≤ 9 ∧ ∀ ss : List Int, Shares ss → (ss.length : Int) ≤ a → R (.d (tupI ss)) m
def f_law : FSp := fun args m R => ∃ ns : List Int, args = [.scr ns] ∧ ∀ m', R (.d (.bool true)) m'
theorem kinds_all (n : Nat) : Kinds n (List.range n) := ⟨List.pairwise_lt_range, fun k hk => List.mem_range.mp hk⟩
end DL
namespace DL
open PySem L2
section
variable {K : PySem.W.Frag} {r : List Val} {m : Mm} {Q : Val → Mm → Prop} {ta tb tc te : TE} {tt : TT}
/-! a list that may change, so many times -/
theorem VRs.rep {G : Hp} {rs : List Val} {xs : List V} (h : VRs K G rs xs) : ∀ n : Nat, VRs K G (List.replicate n rs).flatten (List.replicate n xs).flatten
  | 0 => rfl
  | n + 1 => by
    rw [List.replicate_succ, List.replicate_succ, List.flatten_cons, List.flatten_cons]
    exact h.append (VRs.rep h n)
/-! parts -/
def EvO (K : PySem.W.Frag) (t : TO) (r : List Val) (m : Mm) (Q : Option Int → Mm → Prop) : Prop :=
  ∀ σ H G, Sta K m H G → Sl K G r σ → ∀ R : Option Int → Hp → Prop, (∀ H' G' x m', Q x m' → Sta K m' H' G' → Le G G' → R x H') → t σ H R
theorem evo_none {Q : Option Int → Mm → Prop} (q : Q none m) : EvO K tNoPart r m Q := fun σ H G S L R k => k H G none m q S (Le.refl G)
theorem evo_some {Q : Option Int → Mm → Prop} (h : Ev K te r m fun x m1 => ∃ i : Int, x = .d (.int i) ∧ Q (some i) m1) : EvO K (tPart te) r m Q := fun σ H G S L R k =>
  h σ H G S L _ fun v H1 G1 x m1 ⟨i, hx, q⟩ S1 e1 r1 => by
    subst hx
    exact ⟨i, int_of r1, k H1 G1 _ m1 q S1 e1⟩
def cutD (ds : List PyData) (lo hi : Option Int) : List PyData := (ds.drop (HT.sIx ds.length 0 lo)).take (HT.sIx ds.length ds.length hi - HT.sIx ds.length 0 lo)
theorem RpAll.drop {G : Hp} : ∀ {ds : List PyData} {xs : List V} (n : Nat), RpAll K G ds xs → RpAll K G (ds.drop n) (xs.drop n)
  | ds, xs, 0, h => h
  | [], xs, n + 1, h => by rw [rpa_nil.mp h]; exact rpa_nil.mpr rfl
  | d :: ds, xs, n + 1, h => by
    obtain ⟨x, r, rfl, h2, h3⟩ := rpa_cons.mp h
    exact RpAll.drop n h3
theorem RpAll.take {G : Hp} : ∀ {ds : List PyData} {xs : List V} (n : Nat), RpAll K G ds xs → RpAll K G (ds.take n) (xs.take n)
  | ds, xs, 0, h => rpa_nil.mpr rfl
  | [], xs, n + 1, h => by rw [rpa_nil.mp h]; exact rpa_nil.mpr rfl
  | d :: ds, xs, n + 1, h => by
    obtain ⟨x, r, rfl, h2, h3⟩ := rpa_cons.mp h
    exact rpa_cons.mpr ⟨x, r.take n, rfl, h2, RpAll.take n h3⟩
theorem RpAll.cut {G : Hp} {ds : List PyData} {xs : List V} (h : RpAll K G ds xs) (lo hi : Option Int) : RpAll K G (cutD ds lo hi) (cutV xs lo hi) := by
  unfold cutD cutV
  rw [h.length]
  exact RpAll.take _ (RpAll.drop _ h)
theorem ev_slL {tl th : TO} (h : Ev K te r m fun x m1 => ∃ ds, x = .d (.list ds) ∧ EvO K tl r m1 fun lo m2 => EvO K th r m2 fun hi m3 => Q (.d (.list (cutD ds lo hi))) m3) : Ev K (tSl (rSlL K) te tl th) r m Q := fun σ H G S L R k =>
  h σ H G S L _ fun v H1 G1 x m1 ⟨ds, hx, h1⟩ S1 e1 r1 => h1 σ H1 G1 S1 (L.mono e1) _ fun H2 G2 lo m2 h2 S2 e2 => h2 σ H2 G2 S2 (L.mono (e1.trans e2)) _ fun H3 G3 hi m3 q S3 e3 => by
    subst hx
    obtain ⟨p, xs, hv, g1, g2⟩ := rp_list.mp (Rp.mono (e2.trans e3) _ _ r1.rp)
    refine ⟨p, xs, hv, Or.inl (Le.rd S3.sub g1), fun l hl => ?_⟩
    have hg := S3.free hl
    exact k _ _ (upd G3 l _) _ m3 q (S3.fix hl) (e1.trans (e2.trans (e3.trans (Le.new hg)))) (.d (rp_list.mpr ⟨l, _, rfl, Rd.of upd_same, RpAll.mono (Le.new hg) _ _ (g2.cut lo hi)⟩))
theorem cut_whole {α : Type} (ds : List α) {a b : Nat} (h : a = 0 ∧ b = ds.length) : (ds.drop a).take (b - a) = ds := by
  rw [h.1, h.2, List.drop_zero, Nat.sub_zero, List.take_length]
theorem ev_slT {tl th : TO} (h : Ev K te r m fun x m1 => ∃ ds, x = .d (.tuple ds) ∧ EvO K tl r m1 fun lo m2 => EvO K th r m2 fun hi m3 => Q (.d (.tuple (cutD ds lo hi))) m3) : Ev K (tSl (rSlA K) te tl th) r m Q := fun σ H G S L R k =>
  h σ H G S L _ fun v H1 G1 x m1 ⟨ds, hx, h1⟩ S1 e1 r1 => h1 σ H1 G1 S1 (L.mono e1) _ fun H2 G2 lo m2 h2 S2 e2 => h2 σ H2 G2 S2 (L.mono (e1.trans e2)) _ fun H3 G3 hi m3 q S3 e3 => by
    subst hx
    obtain ⟨p, xs, hv, g1, g2⟩ := rp_tuple.mp (Rp.mono (e2.trans e3) _ _ r1.rp)
    refine ⟨p, xs, hv, S3.sqT g1, fun hw => ?_, fun _ l hl => ?_⟩
    · rw [g2.length] at hw
      have e : cutD ds lo hi = ds := cut_whole ds hw
      have q : Q (.d (.tuple (cutD ds lo hi))) m3 := q
      rw [e] at q
      exact k _ H3 G3 _ m3 q S3 (e1.trans (e2.trans e3)) (.d (rp_tuple.mpr ⟨p, xs, rfl, g1, g2⟩))
    · have hg := S3.free hl
      exact k _ _ (upd G3 l _) _ m3 q (S3.fix hl) (e1.trans (e2.trans (e3.trans (Le.new hg)))) (.d (rp_tuple.mpr ⟨l, _, rfl, SqT.of upd_same, RpAll.mono (Le.new hg) _ _ (g2.cut lo hi)⟩))
/-! truth, and what is the very same -/
def rIsBl : R2 := fun x y H Q => ∃ a b, x = .bl a ∧ y = .bl b ∧ Q (.bl (decide (a = b))) H
def rIsNotBl : R2 := fun x y H Q => ∃ a b, x = .bl a ∧ y = .bl b ∧ Q (.bl (!decide (a = b))) H
theorem o2_isB {a b : Bool} (q : Q (.d (.bool (decide (a = b)))) m) : Op2 K rIsBl (.d (.bool a)) (.d (.bool b)) m Q := fun H G v w S x y R k => by
  rw [bool_of x, bool_of y]
  exact ⟨a, b, rfl, rfl, k _ H G _ m q S (Le.refl G) vr_bool⟩
theorem o2_isNotB {a b : Bool} (q : Q (.d (.bool (!decide (a = b)))) m) : Op2 K rIsNotBl (.d (.bool a)) (.d (.bool b)) m Q := fun H G v w S x y R k => by
  rw [bool_of x, bool_of y]
  exact ⟨a, b, rfl, rfl, k _ H G _ m q S (Le.refl G) vr_bool⟩
/-! in -/
theorem inV_ints (i : Int) (ns : List Int) : inV (.int i) (ns.map V.int) = decide (i ∈ ns) := by
  unfold inV
  rw [List.any_map]
  induction ns with
  | nil => rfl
  | cons n ns ih =>
    rw [List.any_cons, ih]
    by_cases h : i = n
    · subst h; simp [eqV]
    · have h2 : ¬ n = i := fun e => h e.symm
      simp [eqV, h, h2]
theorem flat_ints (ns : List Int) : (ns.map V.int).all flatV = true := by
  rw [List.all_map, List.all_eq_true]; intro x _; rfl
theorem o2_inI {i : Int} {ns : List Int} {neg : Bool} (q : Q (.d (.bool (if neg then !decide (i ∈ ns) else decide (i ∈ ns)))) m) : Op2 K (rIn K neg) (.d (.int i)) (.d (.tuple (ns.map PyData.int))) m Q := fun H G v w S x y R k => by
  rw [int_of x]
  obtain ⟨p, xs, rfl, g1, g2⟩ := rp_tuple.mp y.rp
  rw [g2.ints] at g1
  refine ⟨p, _, rfl, Or.inr (S.sqT g1), rfl, flat_ints ns, ?_⟩
  rw [inV_ints]
  exact k _ H G _ m q S (Le.refl G) vr_bool
theorem mem_natI {k : Nat} {ks : List Nat} : ((k : Int) ∈ ks.map fun (k : Nat) => (k : Int)) ↔ k ∈ ks := by
  constructor
  · intro h
    obtain ⟨j, h1, h2⟩ := List.mem_map.mp h
    have : j = k := by omega
    rw [← this]; exact h1
  · intro h
    exact List.mem_map.mpr ⟨k, h, rfl⟩
theorem o2_inN {i : Nat} {ks : List Nat} (q : Q (.d (.bool (decide (i ∈ ks)))) m) : Op2 K (rIn K false) (.d (.int (i : Int))) (.d (tupN ks)) m Q := o2_inI (neg := false) (by
  have e : decide ((i : Int) ∈ ks.map fun (k : Nat) => (k : Int)) = decide (i ∈ ks) := decide_eq_decide.mpr mem_natI
  show Q (.d (.bool (decide ((i : Int) ∈ ks.map fun (k : Nat) => (k : Int))))) m
  rw [e]; exact q)
theorem o2_notInN {i : Nat} {ks : List Nat} (q : Q (.d (.bool (!decide (i ∈ ks)))) m) : Op2 K (rIn K true) (.d (.int (i : Int))) (.d (tupN ks)) m Q := o2_inI (neg := true) (by
  have e : decide ((i : Int) ∈ ks.map fun (k : Nat) => (k : Int)) = decide (i ∈ ks) := decide_eq_decide.mpr mem_natI
  show Q (.d (.bool (!decide ((i : Int) ∈ ks.map fun (k : Nat) => (k : Int))))) m
  rw [e]; exact q)
/-! xs[i] = e -/
variable {N : List Val → Mm → Prop} {E : Val → Mm → Prop} {t : TS}
theorem VRs.set {G : Hp} {y : Val} {v : V} (hv : VR K G y v) : ∀ {rs : List Val} {xs : List V} (i : Nat), VRs K G rs xs → VRs K G (rs.set i y) (xs.set i v)
  | [], xs, i, h => by
    have h : xs = [] := h
    subst h; exact rfl
  | r :: rs, xs, 0, h => by
    obtain ⟨x, t, rfl, h1, h2⟩ := h
    exact ⟨v, t, rfl, hv, h2⟩
  | r :: rs, xs, i + 1, h => by
    obtain ⟨x, t, rfl, h1, h2⟩ := h
    exact ⟨x, t.set i v, rfl, h1, VRs.set hv i h2⟩
theorem ixN_nat {n i : Nat} (h : i < n) : ixN n (i : Int) = some i := by
  unfold ixN
  rw [if_pos (Int.natCast_nonneg i), if_pos (by omega), show ((i : Int)).toNat = i by omega]
theorem w_setM {to ti : TE} {p : Addr} (h : Ev K te r m fun x m1 => Ev K to r m1 fun y m2 => y = .v (.ref p) ∧ Ev K ti r m2 fun z m3 => ∃ (i : Nat) (rs : List Val), z = .d (.int (i : Int)) ∧ m3 p = some (.lst rs) ∧ i < rs.length ∧ N r (put m3 p (.lst (rs.set i x)))) :
    Wp K (tAsg te (gSub to ti rSetL)) r m N E := fun σ H G D S L a b =>
  h σ H G S L _ fun v H1 G1 x m1 h1 S1 e1 r1 => h1 σ H1 G1 S1 (L.mono e1) _ fun w H2 G2 y m2 ⟨hy, h2⟩ S2 e2 r2 => h2 σ H2 G2 S2 (L.mono (e1.trans e2)) _ fun u H3 G3 z m3 ⟨i, rs, hz, hb, hi, q⟩ S3 e3 r3 => by
    subst hy hz
    have a2 := r2.eq
    have a3 := int_of r3
    subst a2 a3
    obtain ⟨xs, g1, g2⟩ := S3.mem p _ hb
    refine ⟨p, xs, (i : Int), i, rfl, rfl, g1, ixN_nat (by rw [g2.length]; exact hi), ?_⟩
    have S4 := S3.chg (u := .lst (rs.set i x)) (o := .lst (xs.set i v)) hb ⟨_, upd_same, VRs.set (r1.mono (e2.trans e3)) i g2⟩
    exact a σ _ G3 r _ q S4 (e1.trans (e2.trans e3)) (L.mono (e1.trans (e2.trans e3)))
end
/-! lists of one kind of thing -/
theorem map_at {α : Type} {f : α → PyData} {xs : List α} {i : Nat} {d : PyData} (h : (xs.map f)[i]? = some d) : ∃ x, xs[i]? = some x ∧ d = f x := by
  rw [List.getElem?_map] at h
  cases hx : xs[i]? with
  | none => rw [hx] at h; cases h
  | some x => rw [hx] at h; cases h; exact ⟨x, rfl, rfl⟩
section
variable {K : PySem.W.Frag} {r : List Val} {m : Mm} {Q : Val → Mm → Prop} {te tl : TE} {tt : TT} {j : Nat} {α : Type} {xs : List α} {f : α → PyData} {N : List Val → Mm → Prop} {E : Val → Mm → Prop} {t : TS}
theorem ev_mapTf (h : Ev K tl r m fun x m1 => x = .d (.tuple (xs.map f)) ∧ m1 = m) (hn : xs.length ≤ 100000) (g : α → PyData)
    (hs : ∀ (x : α) m', x ∈ xs → Ext m m' → Ev K te (r.set j (.d (f x))) m' fun y m3 => y = .d (g x) ∧ m3 = m') (q : Q (.d (.list (xs.map g))) m) : Ev K (tLc (iTup K tl) (gName j) tYes te [j]) r m Q :=
  ev_lcT h (by rw [List.length_map]; exact hn) (fun i acc => acc = (xs.take i).map g) (by simp) (fun i d m' acc hd hx hw => by
    obtain ⟨x, h1, rfl⟩ := map_at hd
    exact evt_yes ⟨rfl, fun _ => (hs x m' (List.mem_of_getElem? h1) hx).imp fun y m3 e => ⟨e.2, g x, e.1, by rw [hw, take_one h1, List.map_append]; rfl⟩, (fun g => nomatch g)⟩)
    (fun acc hw => by rw [hw, List.length_map, List.take_length]; exact q)
theorem fil_step {p : α → Bool} {g : α → PyData} {i : Nat} {x : α} (h : xs[i]? = some x) : ((xs.take (i + 1)).filter p).map g = ((xs.take i).filter p).map g ++ (if p x then [g x] else []) := by
  rw [take_one h, List.filter_append, List.map_append]
  cases hp : p x with
  | true => rw [List.filter_cons, if_pos hp]; rfl
  | false => rw [List.filter_cons, if_neg (by rw [hp]; decide)]; rfl
theorem ev_filTf (h : Ev K tl r m fun x m1 => x = .d (.tuple (xs.map f)) ∧ m1 = m) (hn : xs.length ≤ 100000) (p : α → Bool) (g : α → PyData)
    (ht : ∀ (x : α) m', x ∈ xs → Ext m m' → EvT K tt (r.set j (.d (f x))) m' fun b m3 => b = p x ∧ m3 = m')
    (hs : ∀ (x : α) m', x ∈ xs → Ext m m' → p x = true → Ev K te (r.set j (.d (f x))) m' fun y m3 => y = .d (g x) ∧ m3 = m') (q : Q (.d (.list ((xs.filter p).map g))) m) : Ev K (tLc (iTup K tl) (gName j) tt te [j]) r m Q :=
  ev_lcT h (by rw [List.length_map]; exact hn) (fun i acc => acc = ((xs.take i).filter p).map g) (by simp) (fun i d m' acc hd hx hw => by
    obtain ⟨x, h1, rfl⟩ := map_at hd
    have hm := List.mem_of_getElem? h1
    exact (ht x m' hm hx).imp fun b m2 e => ⟨e.2, fun hb => (hs x m' hm hx (e.1.symm.trans hb)).imp fun y m3 e2 => ⟨e2.2, g x, e2.1, by rw [hw, fil_step h1, if_pos (e.1.symm.trans hb)]⟩, fun hb => by rw [hw, fil_step h1, if_neg (by rw [← e.1, hb]; decide), List.append_nil]⟩)
    (fun acc hw => by rw [hw, List.length_map, List.take_length]; exact q)
theorem w_forLf (h : Ev K tl r m fun x m1 => x = .d (.list (xs.map f)) ∧ m1 = m) (W : Nat → List Val → Mm → Prop) (h0 : W 0 r m)
    (hs : ∀ (i : Nat) (x : α) r' m', xs[i]? = some x → W i r' m' → Wp K t (r'.set j (.d (f x))) m' (W (i + 1)) E) (hd : ∀ r' m', W xs.length r' m' → N r' m') : Wp K (tFor (iList K tl) (gName j) t) r m N E :=
  w_forL h W h0 (fun i d r' m' hd hw => by
    obtain ⟨x, h1, rfl⟩ := map_at hd
    exact hs i x r' m' h1 hw) (fun r' m' hw => hd r' m' (by rw [List.length_map] at hw; exact hw))
theorem w_forTf (h : Ev K tl r m fun x m1 => x = .d (.tuple (xs.map f)) ∧ m1 = m) (W : Nat → List Val → Mm → Prop) (h0 : W 0 r m)
    (hs : ∀ (i : Nat) (x : α) r' m', xs[i]? = some x → W i r' m' → Wp K t (r'.set j (.d (f x))) m' (W (i + 1)) E) (hd : ∀ r' m', W xs.length r' m' → N r' m') : Wp K (tFor (iTup K tl) (gName j) t) r m N E :=
  w_forT h W h0 (fun i d r' m' hd hw => by
    obtain ⟨x, h1, rfl⟩ := map_at hd
    exact hs i x r' m' h1 hw) (fun r' m' hw => hd r' m' (by rw [List.length_map] at hw; exact hw))
end
abbrev intN (k : Nat) : PyData := .int (k : Int)
theorem tupN_eq (ks : List Nat) : tupN ks = .tuple (ks.map intN) := by
  unfold tupN
  rw [List.map_map]; rfl
/-! less told of what may change -/
section
variable {K : PySem.W.Frag} {r : List Val} {m : Mm} {Q : Val → Mm → Prop} {te tb : TE} {N : List Val → Mm → Prop} {E : Val → Mm → Prop} {t : TS} {ta : TA}
theorem del_put {l : Addr} {o : MO} (h : m l = none) : del (put m l o) l = m := by
  funext b
  unfold del put
  by_cases hb : b = l
  · rw [if_pos hb, hb, h]
  · rw [if_neg hb, if_neg hb]
theorem put_less {l : Addr} {o : MO} (h : m l = none) : ∀ a u, m a = some u → put m l o a = some u := fun a u e => by
  rw [put_ne (ne_of_get e h)]; exact e
/-- [e, ..] * n: a list that may change -/
theorem ev_lstMul (h : EvA K ta r m fun xs m1 => ∃ ds : List PyData, xs = ds.map Val.d ∧ ds.length ≤ 100 ∧ Ev K tb r m1 fun y m2 => ∃ n : Nat, y = .d (.int (n : Int)) ∧ n ≤ 1000 ∧ ∀ l, m2 l = none → Q (.v (.ref l)) (put m2 l (.lst ((List.replicate n ds).flatten.map Val.d)))) : Ev K (tOp (rMul K) (tLst ta) tb) r m Q := fun σ H G S L R k =>
  h σ H G S L _ fun vs H1 G1 xs m1 ⟨ds, hx, hl, h1⟩ S1 e1 r1 => by
    subst hx
    have hA := r1.toAll
    refine ⟨by rw [hA.length]; exact Nat.le_trans hl (by decide), fun p hp => ?_⟩
    have hg := S1.free hp
    refine h1 σ _ (upd G1 p (.lst vs)) (S1.fix hp) (L.mono (e1.trans (Le.new hg))) _ fun w H2 G2 y m2 ⟨n, hy, hn, q⟩ S2 e2 r2 => ?_
    subst hy
    have r2 := int_of r2
    subst r2
    have en : ((n : Int)).toNat = n := by omega
    refine Or.inr (Or.inr (Or.inr ⟨p, (n : Int), vs, rfl, rfl, S2.sub _ _ (e2 _ _ upd_same), by omega, by omega, ?_, fun l hl => ?_⟩))
    · rw [en, hA.length]
      exact Nat.le_trans (Nat.mul_le_mul hl hn) (by decide)
    · rw [en]
      have hB : RpAll K G2 ds vs := RpAll.mono ((Le.new hg).trans e2) ds vs hA
      exact k _ _ G2 _ _ (q l (S2.freeM hl)) (S2.new hl ⟨_, upd_same, VRs.ofAll (hB.rep n)⟩) (e1.trans ((Le.new hg).trans e2)) .v
end
end DL
namespace DL
open PySem L2
/-- all some of so many -/
def allS : Nat → List (List Nat)
  | 0 => [[]]
  | n + 1 => allS n ++ (allS n).map fun s => s ++ [n]
theorem allS_len : ∀ n, (allS n).length = 2 ^ n
  | 0 => rfl
  | n + 1 => by rw [allS, List.length_append, List.length_map, allS_len n, Nat.pow_succ]; omega
theorem allS_mem : ∀ n, ∀ s ∈ allS n, s.length ≤ n ∧ ∀ k ∈ s, k < n
  | 0, s, h => by
    have : s = [] := by simpa [allS] using h
    subst this
    exact ⟨Nat.le_refl _, fun k hk => nomatch hk⟩
  | n + 1, s, h => by
    rw [allS] at h
    rcases List.mem_append.mp h with h | h
    · obtain ⟨a, b⟩ := allS_mem n s h
      exact ⟨by omega, fun k hk => by have := b k hk; omega⟩
    · obtain ⟨t, ht, rfl⟩ := List.mem_map.mp h
      obtain ⟨a, b⟩ := allS_mem n t ht
      refine ⟨by rw [List.length_append]; show t.length + 1 ≤ n + 1; omega, fun k hk => ?_⟩
      rcases List.mem_append.mp hk with hk | hk
      · have := b k hk; omega
      · rw [List.mem_singleton.mp hk]; omega
/-! rows by turns -/
end DL
namespace DL
open PySem L2
section
variable {K : PySem.W.Frag} {r : List Val} {m : Mm} {Q : Val → Mm → Prop} {ta tb tc te to tl : TE} {tt : TT} {N : List Val → Mm → Prop} {E : Val → Mm → Prop} {t : TS}
/-! texts cut and joined -/
/-! str(i), int(x) -/
def rInt0 : List V → Hp → VK → Prop := fun xs H Q => (∃ i, xs = [.int i] ∧ Q (.int i) H) ∨ ∃ k, xs = [.bl k] ∧ Q (.int (if k then 1 else 0)) H
def rIntS : List V → Hp → VK → Prop := fun xs H Q => ∃ a n, xs = [.str a] ∧ PySem.intText? a = some n ∧ a.length ≤ 640 ∧ Q (.int n) H
def rIntA : List V → Hp → VK → Prop := fun xs H Q => rInt0 xs H Q ∨ rIntS xs H Q
theorem cInt {X : Cx} : CallR X (.type "int") rIntA := (call_int1).or call_int_str
theorem on_intB {b : Bool} (q : Q (.d (.int (if b then 1 else 0))) m) : OpN K rIntA [.d (.bool b)] m Q := fun H G vs S a R k => by
  obtain ⟨v, rfl, hv⟩ := vrs1 a
  rw [bool_of hv]
  exact Or.inl (Or.inr ⟨b, rfl, k _ H G _ m q S (Le.refl G) vr_int⟩)
end
/-! shares as a text -/
end DL
namespace DL
open PySem L2
theorem Kinds.sub {n : Nat} {ks : List Nat} (h : Kinds n ks) : ks.Sublist (List.range n) := by
  have : ∀ (ks : List Nat) (m : Nat), ks.Pairwise (· < ·) → (∀ k ∈ ks, m ≤ k ∧ k < n) → ks.Sublist ((List.range n).drop m) := by
    intro ks
    induction ks with
    | nil => intro m _ _; exact List.nil_sublist _
    | cons k t ih =>
      intro m hp hl
      have hk := hl k (by simp)
      have hkn : k < (List.range n).length := by rw [List.length_range]; exact hk.2
      have hd : (List.range n).drop k = k :: (List.range n).drop (k + 1) := by
        rw [List.drop_eq_getElem_cons hkn, List.getElem_range]
      have h1 : (k :: t).Sublist ((List.range n).drop k) := by
        rw [hd]
        refine (ih (k + 1) (List.pairwise_cons.mp hp).2 fun x hx => ⟨?_, (hl x (by simp [hx])).2⟩).cons_cons k
        exact (List.pairwise_cons.mp hp).1 x hx
      refine h1.trans ?_
      have e : (List.range n).drop k = ((List.range n).drop m).drop (k - m) := by rw [List.drop_drop]; congr 1; omega
      rw [e]
      exact List.drop_sublist _ _
  exact this ks 0 h.up fun k hk => ⟨Nat.zero_le _, h.lt k hk⟩
theorem sumP_cons (ss : List Int) (k : Nat) (ks : List Nat) : sumP ss (k :: ks) = ss.getD k 0 + sumP ss ks := rfl
theorem nat_ne {t : Nat} (ht : 0 < t) : ((t : Nat) : Rat) ≠ 0 := by
  intro e
  have e2 : (((t : Nat) : Int) : Rat) = ((0 : Int) : Rat) := by rw [Rat.intCast_natCast]; exact e
  have e3 : ((t : Nat) : Int) = 0 := Rat.intCast_inj.mp e2
  omega
theorem eqv_data {d : PyData} (h : SeqAt.shaped d = true) : PyData.eqv d d = true := by
  have h : (d.canLay0 && decide (d.depth ≤ 64)) = true := h
  rw [Bool.and_eq_true] at h
  exact SeqAt.eqv_refl d h.1
theorem canLay_ints (ns : List Int) : PyData.canLayAll0 (ns.map PyData.int) = true := by
  induction ns with
  | nil => simp [PyData.canLayAll0]
  | cons n ns ih => rw [List.map_cons]; simp [PyData.canLayAll0, PyData.canLay0, ih]
theorem depth_ints (ns : List Int) : PyData.depthAll (ns.map PyData.int) = 0 := by
  induction ns with
  | nil => simp [PyData.depthAll]
  | cons n ns ih => rw [List.map_cons]; simp [PyData.depthAll, PyData.depth, ih]
theorem shaped_tupI (ns : List Int) : SeqAt.shaped (tupI ns) = true := by
  simp [SeqAt.shaped, tupI, PyData.canLay0, canLay_ints, PyData.depth, depth_ints]
theorem frac_unit {d : Nat} (h : 0 < d) : frac (mkRat 1 d) = .tuple [.int 1, .int (d : Int)] := by
  rw [frac_mk 1 d (by omega)]
  simp
end DL
namespace DL
open PySem L2 PySem.W
end DL
namespace DL
open PySem L2
/-! a display of one pair, its key a tuple -/
section
variable {prog : Program} {w : World} {A : Around} {E : Value → Shared → Prop} {s : Shared}
theorem wpAny_Dict_one {κ : Type} [DecidableEq κ] {knd : HeapKind prog w κ} {env : Env} {k v : Expr} {pos : Pos} {Q : Value → Shared → Prop} (hu : knd.room A)
    (h : wpAny (model prog w) A (evalPairs (pairTrees [some k] [v] env pos)) (fun vs s₁ => ∃ ps, CarriesH knd s₁.heap vs ps ∧ s₁.heap.DictOfH knd s.heap.objs.size [] ∧
      ∀ h' tk, h'.DictOfH knd s.heap.objs.size (storedAllH [] ps) → Heap.SameBut s.heap.objs.size s₁.heap h' → Q (.ref s.heap.objs.size) { s₁ with heap := h', toks := tk }) E
      { s with heap := s.heap.push { cls := .type "dict", data := .dict #[] } }) :
    wpAny (model prog w) A (eval (.Dict [some k] [v] pos) env) Q E s := by
  have hn := pairTrees_length [some k] [v] env pos rfl rfl
  rw [arm_eval_Dict, zip_pairTrees [some k] [v] env pos rfl rfl, dictDisplay_pairs _ (fun e => by rw [e] at hn; cases hn) (by rw [hn]; show 1 < 17; decide)]
  exact wpAny_bind (wpAny_standAt (wpAny_bind (wpAny_subDictH (knd := knd) (Q := fun d s' => wpAny (model prog w) A (pure (Value.ref d)) Q E s') hu (by rw [hn]; show 1 ≤ 15; decide)
    (wpAny_mono h (fun vs s₁ h₁ => by obtain ⟨ps, hc, hm, hq⟩ := h₁; exact ⟨ps, hc, hm, fun h' tk a b => wpAny_pure (hq h' tk a b)⟩) fun _ _ e => e))))
end
def tDisp1 (tk tv : TE) : TE := fun σ H Q => ∀ p, H p = none → tk σ (upd H p (.dT [])) fun x H1 => tv σ H1 fun y H2 => ∃ (b : Addr) (k : List Key), x = .ref b ∧ H2 b = some (.tup (k.map kV)) ∧ H2 p = some (.dT []) ∧ Q (.ref p) (upd H2 p (.dT [(k, y)]))
theorem pe_disp1 {X : Cx} {pos : Pos} {k v : Expr} {tk tv : TE} {j : Nat} (hr : Room j X.A) (hk : PE X k tk) (hv : PE X v tv) : PE X (.Dict [some k] [v] pos) (tDisp1 tk tv) := by
  refine ⟨fun pins s σ H Q I q => ?_⟩
  have hn := I.hok.fresh (Nat.le_refl s.heap.objs.size)
  have hun := hr.un
  have I1 := I.laid (a := s.heap.objs.size) (o := .dT []) (h' := s.heap.push { cls := .type "dict", data := .dict #[] }) (t' := s.toks) (fun _ _ q => Heap.get?_push_of_some _ q) (Nat.le_refl _) (dt_empty s.heap I.big)
  refine wpAny_Dict_one (knd := tupleKind (mixKind X.prog X.w)) (show X.A.units < cLine by omega) ?_
  refine pairTrees_cons_walk (thn (hk.run pins _ σ _ _ I1 (q _ hn)) fun u s1 ⟨x, H1, I2, rx, q1⟩ => thn (hv.run pins s1 σ H1 _ I2 q1) fun u2 s2 ⟨y, H2, I3, ry, q2⟩ => pairTrees_nil_walk ?_)
  obtain ⟨b, ks, rfl, hb, hp, q3⟩ := q2
  cases rx
  obtain ⟨z, hd, xs, rel, dd⟩ := dt_of I3.hok hp
  cases rel
  refine ⟨[(ks, b, u2)], ⟨rfl, rfl, key_of I3.hok hb, trivial⟩, dd, fun h' tk dd' hs => ⟨.ref s.heap.objs.size, _, ?_, rfl, q3⟩⟩
  obtain ⟨qo, es, ep, hq, h2, h3, h4, _, h5⟩ := dd'
  refine d_write (t' := tk) I3 (by rw [hp]; exact True.intro) hs ⟨qo, hq⟩ ⟨by show 1 ≤ sizeLine; decide, hd, _, ?_, qo, es, ep, hq, h2, h3, h4, h5⟩
  refine .cons ⟨rfl, ?_, ry⟩ .nil
  have hne : b ≠ s.heap.objs.size := fun e => by rw [e, hp] at hb; cases hb
  show upd H2 s.heap.objs.size (.dT [(ks, y)]) b = _
  rw [upd_ne hne]
  exact hb
/-! dicts at the level of data -/
def getV {κ : Type} [DecidableEq κ] (kvs : List (κ × Val)) (k : κ) : Option Val := (kvs.find? fun kv => decide (kv.1 = k)).map (·.2)
def putV {κ : Type} [DecidableEq κ] (kvs : List (κ × Val)) (k : κ) (v : Val) : List (κ × Val) :=
  if (kvs.any fun kv => decide (kv.1 = k)) then kvs.map (fun kv => if kv.1 = k then (kv.1, v) else kv) else kvs ++ [(k, v)]
section
variable {K : PySem.W.Frag} {G : Hp} {κ : Type} [DecidableEq κ]
theorem KVs.len : ∀ {kvs : List (κ × Val)} {es : List (κ × V)}, KVs K G kvs es → es.length = kvs.length
  | [], es, h => by
    have h : es = [] := h
    rw [h]; rfl
  | (k, r) :: t, es, h => by
    obtain ⟨v, u, rfl, _, h3⟩ := h
    rw [List.length_cons, List.length_cons, KVs.len h3]
theorem KVs.get (k : κ) : ∀ {kvs : List (κ × Val)} {es : List (κ × V)}, KVs K G kvs es → (∀ r, getV kvs k = some r → ∃ v, valV es k = some v ∧ VR K G r v) ∧ (getV kvs k = none → valV es k = none)
  | [], es, h => by
    have h : es = [] := h
    subst h
    exact ⟨(fun r e => nomatch e), fun _ => rfl⟩
  | (j, x) :: t, es, h => by
    obtain ⟨v, u, rfl, h2, h3⟩ := h
    obtain ⟨ih1, ih2⟩ := KVs.get k h3
    by_cases e : j = k
    · have e1 : getV ((j, x) :: t) k = some x := by simp [getV, List.find?_cons, e]
      rw [e1, valV_pos (p := (j, v)) e]
      exact ⟨fun r hr => ⟨v, rfl, by cases hr; exact h2⟩, fun z => nomatch z⟩
    · have e1 : getV ((j, x) :: t) k = getV t k := by simp [getV, List.find?_cons, e]
      rw [e1, valV_neg (p := (j, v)) e]
      exact ⟨ih1, ih2⟩
theorem KVs.any (k : κ) : ∀ {kvs : List (κ × Val)} {es : List (κ × V)}, KVs K G kvs es → (es.any fun kv => decide (kv.1 = k)) = (kvs.any fun kv => decide (kv.1 = k))
  | [], es, h => by
    have h : es = [] := h
    subst h; rfl
  | (j, x) :: t, es, h => by
    obtain ⟨v, u, rfl, h2, h3⟩ := h
    rw [List.any_cons, List.any_cons, KVs.any k h3]
theorem KVs.repl (k : κ) {y : Val} {v : V} (hv : VR K G y v) : ∀ {kvs : List (κ × Val)} {es : List (κ × V)}, KVs K G kvs es → KVs K G (kvs.map fun kv => if kv.1 = k then (kv.1, y) else kv) (es.map fun kv => if kv.1 = k then (kv.1, v) else kv)
  | [], es, h => by
    have h : es = [] := h
    subst h; exact rfl
  | (j, x) :: t, es, h => by
    obtain ⟨w, u, rfl, h2, h3⟩ := h
    rw [List.map_cons, List.map_cons]
    by_cases e : j = k
    · simp only [e, if_true]
      exact ⟨v, _, rfl, hv, by simpa [e] using KVs.repl k hv h3⟩
    · simp only [e, if_false]
      exact ⟨w, _, rfl, h2, by simpa [e] using KVs.repl k hv h3⟩
theorem KVs.snoc (k : κ) {y : Val} {v : V} (hv : VR K G y v) : ∀ {kvs : List (κ × Val)} {es : List (κ × V)}, KVs K G kvs es → KVs K G (kvs ++ [(k, y)]) (es ++ [(k, v)])
  | [], es, h => by
    have h : es = [] := h
    subst h; exact ⟨v, [], rfl, hv, rfl⟩
  | (j, x) :: t, es, h => by
    obtain ⟨w, u, rfl, h2, h3⟩ := h
    exact ⟨w, u ++ [(k, v)], rfl, h2, KVs.snoc k hv h3⟩
theorem KVs.put (k : κ) {y : Val} {v : V} {kvs : List (κ × Val)} {es : List (κ × V)} (h : KVs K G kvs es) (hv : VR K G y v) : KVs K G (putV kvs k y) (putK es k v) := by
  unfold putV putK
  rw [h.any k]
  split
  · exact h.repl k hv
  · exact h.snoc k hv
theorem putV_new {kvs : List (κ × Val)} {k : κ} (y : Val) (h : ∀ p ∈ kvs, p.1 ≠ k) : putV kvs k y = kvs ++ [(k, y)] := by
  unfold putV
  rw [if_neg]
  intro e
  obtain ⟨p, h1, h2⟩ := List.any_eq_true.mp e
  exact h p h1 (of_decide_eq_true h2)
end
/-- a key of whole numbers -/
def kI (ns : List Int) : List Key := ns.map Sum.inl
theorem kI_kV (ns : List Int) : (kI ns).map kV = ns.map V.int := by
  unfold kI
  rw [List.map_map]; rfl
theorem kI_inj {a b : List Int} (h : kI a = kI b) : a = b := List.map_inj_right (fun _ _ e => Sum.inl.inj e) |>.mp h
section
variable {K : PySem.W.Frag} {r : List Val} {m : Mm} {Q : Val → Mm → Prop} {ta tb tc te td ty tv tx : TE} {tt : TT} {N : List Val → Mm → Prop} {E : Val → Mm → Prop} {t : TS}
/-- the dict at p, as it may be read -/
def Dat (m : Mm) (p : Addr) (kvs : List (List Key × Val)) : Prop := m p = some (.dT kvs) ∨ ∃ od es, m p = some (.lk od es kvs)
theorem Dat.rd {p : Addr} {kvs : List (List Key × Val)} {H G : Hp} (h : Dat m p kvs) (S : Sta K m H G) : ∃ es, Rd H p (.dT es) ∧ KVs K G kvs es := by
  rcases h with h | ⟨od, es, h⟩
  · obtain ⟨es, h1, h2⟩ := S.mem p _ h
    exact ⟨es, Or.inl h1, h2⟩
  · obtain ⟨h1, h2⟩ := S.mem p _ h
    exact ⟨es, Or.inr ⟨od, h1⟩, h2⟩
theorem t_of {G : Hp} {ns : List Int} {v : V} (h : VR K G (.t ns) v) : ∃ b, v = .ref b ∧ G b = some (.tup ((kI ns).map kV)) := by
  cases h with
  | t h => exact ⟨_, rfl, by rw [kI_kV]; exact h⟩
theorem t_d {G : Hp} {ns : List Int} {v : V} (h : VR K G (.t ns) v) : VR K G (.d (tupI ns)) v := by
  cases h with
  | t h => exact .d (rp_tuple.mpr ⟨_, _, rfl, SqT.of h, rpa_ints ns⟩)
theorem lt_d {G : Hp} {nss : List (List Int)} {v : V} (h : VR K G (.lt nss) v) : VR K G (.d (.list (nss.map tupI))) v := by
  cases h with
  | lt h h2 => exact .d (rp_list.mpr ⟨_, _, rfl, h, h2.all⟩)
theorem ev_t2d (h : Ev K te r m fun x m1 => ∃ ns, x = .t ns ∧ Q (.d (tupI ns)) m1) : Ev K te r m Q := fun σ H G S L R k =>
  h σ H G S L R fun v H1 G1 x m1 ⟨ns, hx, q⟩ S1 e1 r1 => by
    subst hx
    exact k v H1 G1 _ m1 q S1 e1 (t_d r1)
theorem ev_lt2d (h : Ev K te r m fun x m1 => ∃ nss, x = .lt nss ∧ Q (.d (.list (nss.map tupI))) m1) : Ev K te r m Q := fun σ H G S L R k =>
  h σ H G S L R fun v H1 G1 x m1 ⟨ns, hx, q⟩ S1 e1 r1 => by
    subst hx
    exact k v H1 G1 _ m1 q S1 e1 (lt_d r1)
theorem ev_varT {i : Nat} {ns : List Int} (h : r[i]? = some (.t ns)) (q : Q (.d (tupI ns)) m) : Ev K (tVar i) r m Q := ev_t2d (ev_var h (fun z => nomatch z) ⟨ns, rfl, q⟩)
theorem ev_varTN {i : Nat} {ks : List Nat} (h : r[i]? = some (.t (ks.map fun (k : Nat) => (k : Int)))) (q : Q (.d (tupN ks)) m) : Ev K (tVar i) r m Q := ev_varT h q
theorem ev_dget (h : Ev K td r m fun x m1 => ∃ p, x = .v (.ref p) ∧ Ev K ty r m1 fun y m2 => ∃ ns kvs z, y = .t ns ∧ Dat m2 p kvs ∧ getV kvs (kI ns) = some z ∧ Q z m2) : Ev K (tDGet td ty) r m Q := fun σ H G S L R k =>
  h σ H G S L _ fun v H1 G1 x m1 ⟨p, hx, h1⟩ S1 e1 r1 => h1 σ H1 G1 S1 (L.mono e1) _ fun w H2 G2 y m2 ⟨ns, kvs, z, hy, hd, hg, q⟩ S2 e2 r2 => by
    subst hx hy
    have r1 := r1.eq
    subst r1
    obtain ⟨b, rfl, hb⟩ := t_of r2
    obtain ⟨es, g1, g2⟩ := hd.rd S2
    obtain ⟨u, hu, ru⟩ := (g2.get (kI ns)).1 z hg
    exact ⟨p, u, rfl, Or.inr ⟨es, kI ns, b, g1, rfl, S2.sub _ _ hb, hu.symm⟩, k u H2 G2 z m2 q S2 (e1.trans e2) ru⟩
/-- {k: e} -/
theorem ev_disp1 (h : ∀ p, m p = none → Ev K ta r (put m p (.dT [])) fun x m1 => ∃ ns, x = .t ns ∧ Ev K tv r m1 fun y m2 => m2 p = some (.dT []) ∧ Q (.v (.ref p)) (put m2 p (.dT [(kI ns, y)]))) : Ev K (tDisp1 ta tv) r m Q := fun σ H G S L R k p hp =>
  h p (S.freeM hp) σ _ G (S.new hp ⟨[], upd_same, rfl⟩) L _ fun v H1 G1 x m1 ⟨ns, hx, h1⟩ S1 e1 r1 => h1 σ H1 G1 S1 (L.mono e1) _ fun w H2 G2 y m2 ⟨hm, q⟩ S2 e2 r2 => by
    subst hx
    obtain ⟨b, rfl, hb⟩ := t_of r1
    obtain ⟨es, g1, g2⟩ := S2.mem p _ hm
    have g2 : es = [] := g2
    subst g2
    exact ⟨b, kI ns, rfl, S2.sub _ _ (e2 _ _ hb), g1, k (.ref p) _ G2 _ _ q (S2.chg hm ⟨_, upd_same, w, [], rfl, r2, rfl⟩) (e1.trans e2) .v⟩
/-- d[k] = e -/
theorem w_dput (h : Ev K tv r m fun x m1 => Ev K td r m1 fun y m2 => ∃ p, y = .v (.ref p) ∧ Ev K ty r m2 fun z m3 => ∃ ns kvs, z = .t ns ∧ m3 p = some (.dT kvs) ∧ kvs.length < 100000 ∧ N r (put m3 p (.dT (putV kvs (kI ns) x)))) : Wp K (sDPut td ty tv) r m N E := fun σ H G D S L a b =>
  h σ H G S L _ fun v H1 G1 x m1 h1 S1 e1 r1 => h1 σ H1 G1 S1 (L.mono e1) _ fun w H2 G2 y m2 ⟨p, hy, h2⟩ S2 e2 r2 => h2 σ H2 G2 S2 (L.mono (e1.trans e2)) _ fun u H3 G3 z m3 ⟨ns, kvs, hz, hm, hl, q⟩ S3 e3 r3 => by
    subst hy hz
    have r2 := r2.eq
    subst r2
    obtain ⟨bk, rfl, hb⟩ := t_of r3
    obtain ⟨es, g1, g2⟩ := S3.mem p _ hm
    have hput : KVs K G3 (putV kvs (kI ns) x) (putK es (kI ns) v) := g2.put (kI ns) (r1.mono (e2.trans e3))
    refine ⟨p, upd H3 p (.dT (putK es (kI ns) v)), rfl, DPut.t g1 (S3.sub _ _ hb) (Nat.lt_of_lt_of_le (by rw [g2.len]; exact hl) (by decide)), ?_⟩
    exact a σ _ G3 r _ q (S3.chg hm ⟨_, upd_same, hput⟩) (e1.trans (e2.trans e3)) (L.mono (e1.trans (e2.trans e3)))
/-- a tuple that is there, taken as one that stays -/
theorem Sta.adopt {H G : Hp} {q : Addr} {xs : List V} (S : Sta K m H G) (h : H q = some (.tup xs)) : Sta K m H (upd G q (.tup xs)) ∧ Le G (upd G q (.tup xs)) := by
  have le : Le G (upd G q (.tup xs)) := fun a o e => by
    by_cases ha : a = q
    · subst ha
      have := S.sub _ _ e
      rw [h] at this
      cases this
      exact upd_same
    · rw [upd_ne ha]; exact e
  have hm : m q = none := by
    cases e : m q with
    | none => rfl
    | some o =>
      have hM := S.mem q o e
      cases o with
      | lst rs => obtain ⟨_, g, _⟩ := hM; rw [h] at g; cases g
      | dT rs => obtain ⟨_, g, _⟩ := hM; rw [h] at g; cases g
      | dK rs => obtain ⟨_, g, _⟩ := hM; rw [h] at g; cases g
      | lk a b c => obtain ⟨g, _⟩ := hM; rw [h] at g; cases g
      | box => obtain ⟨_, g⟩ := hM; rw [h] at g; cases g
      | g P => exact absurd h (hM.2.2.2 xs)
  refine ⟨⟨fun a o e => ?_, fun a o e => (S.mem a o e).mono le rfl, fun a o e => ?_⟩, le⟩
  · by_cases ha : a = q
    · subst ha; rw [upd_same] at e; cases e; exact h
    · rw [upd_ne ha] at e; exact S.sub a o e
  · rw [upd_ne (fun z => by rw [z, hm] at e; cases e)]; exact S.dis a o e
/-- for k in a dict -/
theorem w_forD {j : Nat} {p : Addr} {kvs : List (List Int × Val)} (hm : m p = some (.dT (kvs.map fun kv => (kI kv.1, kv.2))))
    (h : ∀ od es, Ev K td r (put m p (.lk od es (kvs.map fun kv => (kI kv.1, kv.2)))) fun x m1 => x = .v (.ref p) ∧ m1 = put m p (.lk od es (kvs.map fun kv => (kI kv.1, kv.2))))
    (W : Nat → List Val → Mm → Prop) (h0 : W 0 r m)
    (hs : ∀ (i : Nat) (k : List Int) (z : Val) r' m' od es, kvs[i]? = some (k, z) → W i r' m' → m' p = some (.dT (kvs.map fun kv => (kI kv.1, kv.2))) →
      Wp K t (r'.set j (.t k)) (put m' p (.lk od es (kvs.map fun kv => (kI kv.1, kv.2)))) (fun r2 m2 => m2 p = some (.lk od es (kvs.map fun kv => (kI kv.1, kv.2))) ∧ W (i + 1) r2 (put m2 p (.dT (kvs.map fun kv => (kI kv.1, kv.2))))) (fun x m2 => m2 p = some (.lk od es (kvs.map fun kv => (kI kv.1, kv.2))) ∧ E x (put m2 p (.dT (kvs.map fun kv => (kI kv.1, kv.2))))))
    (hd : ∀ r' m', W kvs.length r' m' → N r' m') : Wp K (tLock (tFor (iKeys td) (gName j) t)) r m N E := fun σ H G D S L a b => by
  generalize hkk : kvs.map (fun kv => (kI kv.1, kv.2)) = kk at *
  obtain ⟨es, g1, g2⟩ := S.mem p _ hm
  have hlen : es.length = kvs.length := by rw [g2.len, ← hkk, List.length_map]
  have keyAt : ∀ (i : Nat) (k : List Key) (v : V), es[i]? = some (k, v) → ∃ kz, kvs[i]? = some kz ∧ k = kI kz.1 := by
    have aux : ∀ (kk : List (List Key × Val)) (es : List (List Key × V)) (i : Nat) (k : List Key) (v : V), KVs K G kk es → es[i]? = some (k, v) → ∃ z, kk[i]? = some (k, z) := by
      intro kk
      induction kk with
      | nil => intro es i k v h e; have h : es = [] := h; subst h; simp at e
      | cons p t ih =>
        intro es i k v h e
        obtain ⟨k0, r0⟩ := p
        obtain ⟨v0, u, rfl, _, h3⟩ := h
        cases i with
        | zero => simp at e; exact ⟨r0, by simp [e.1]⟩
        | succ i => simpa using ih u i k v h3 (by simpa using e)
    intro i k v he
    obtain ⟨z, hz⟩ := aux kk es i k v g2 he
    rw [← hkk, List.getElem?_map] at hz
    cases hx : kvs[i]? with
    | none => rw [hx] at hz; cases hz
    | some kz => rw [hx] at hz; cases hz; exact ⟨kz, rfl, rfl⟩
  refine ⟨p, .dT es, g1, trivial, fun od => ?_⟩
  have S1 : Sta K (put m p (.lk od es kk)) (upd H p (.frz od (.dT es))) G := S.chg hm ⟨upd_same, g2⟩
  refine h od es σ _ G S1 L _ fun v H1 G1 x m1 ⟨hx, hm1⟩ S2 e1 r1 => ?_
  subst hx hm1
  have r1 := r1.eq
  subst r1
  obtain ⟨g3, g4⟩ := S2.mem p _ put_same
  have back : ∀ {m' : Mm} {H' G' : Hp}, Sta K m' H' G' → m' p = some (.lk od es kk) → Sta K (put m' p (.dT kk)) (upd H' p (.dT es)) G' := fun {m' H' G'} S' hm' => S'.chg hm' ⟨es, upd_same, (S'.mem p _ hm').2⟩
  refine ⟨p, od, rfl, Or.inr ⟨es, g3, for_it (walk_keysT (kvs := es)) (fun i σ' H' => ∃ G' r' m', W i r' (put m' p (.dT kk)) ∧ m' p = some (.lk od es kk) ∧ Sta K m' H' G' ∧ Le G G' ∧ Sl K G' r' σ') ⟨G1, r, _, ?_, put_same, S2, e1, L.mono e1⟩ ?_ ?_ ?_⟩⟩
  · rw [put_put]
    have e : put m p (.dT kk) = m := by
      funext c
      unfold put
      by_cases hc : c = p
      · rw [if_pos hc, hc, hm]
      · rw [if_neg hc]
    rw [e]; exact h0
  · rintro i σ' H' hi ⟨G', r', m', _, hm', S', _, _⟩
    exact (S'.mem p _ hm').1
  · rintro i y σ' H' H2 hi ⟨G', r', m', hw, hm', S', e', L'⟩ ⟨rfl, k, v, q, hk, rfl, hq⟩
    obtain ⟨⟨ki, z⟩, hkz, rfl⟩ := keyAt i k v hk
    rw [kI_kV] at hq
    obtain ⟨S3, e3⟩ := S'.adopt hq
    have hmm : put (put m' p (.dT kk)) p (.lk od es kk) = m' := by
      rw [put_put]
      funext c
      unfold put
      by_cases hc : c = p
      · rw [if_pos hc, hc, hm']
      · rw [if_neg hc]
    have hW := hs i ki z r' (put m' p (.dT kk)) od es hkz hw put_same
    rw [hmm] at hW
    refine hW (σ'.set j (some (.ref q))) _ _ _ S3 ((L'.mono e3).set (r := .t ki) (.t upd_same) j) (fun σ3 H3 G3 r3 m3 ⟨h3, hw3⟩ S3 e4 L3 => ⟨G3, r3, m3, hw3, h3, S3, e'.trans (e3.trans e4), L3⟩) (fun v H3 G3 x m3 ⟨h3, hE⟩ S3 e4 L3 => ?_)
    exact ⟨(S3.mem p _ h3).1, b v _ G3 x _ hE (back S3 h3) (e'.trans (e3.trans e4)) L3⟩
  · rintro σ' H' ⟨G', r', m', hw, hm', S', e', L'⟩
    rw [hlen] at hw
    exact ⟨(S'.mem p _ hm').1, a σ' _ G' r' _ (hd r' _ hw) (back S' hm') e' L'⟩
end
end DL
namespace DL
open PySem L2
section
variable {K : PySem.W.Frag} {r : List Val} {m : Mm} {Q : Val → Mm → Prop} {ta tb tc te tl : TE} {tt : TT} {N : List Val → Mm → Prop} {E : Val → Mm → Prop} {t : TS}
/-! tuples of ints that the code makes -/
theorem VRs.ints {G : Hp} : ∀ {ns : List Int} {xs : List V}, VRs K G (ns.map fun n => .d (.int n)) xs → xs = ns.map V.int
  | [], xs, h => h
  | n :: ns, xs, h => by
    obtain ⟨x, u, rfl, h1, h2⟩ := h
    rw [int_of h1, VRs.ints h2]; rfl
theorem ev_tupT {t : TA} (h : EvA K t r m fun xs m1 => ∃ ns : List Int, xs = ns.map (fun n => Val.d (.int n)) ∧ ns.length ≤ 100000 ∧ Q (.t ns) m1) : Ev K (tTup t) r m Q := fun σ H G S L R k =>
  h σ H G S L _ fun vs H1 G1 xs m1 ⟨ns, hx, hl, q⟩ S1 e1 r1 => by
    subst hx
    have hv := r1.ints
    subst hv
    refine ⟨by rw [List.length_map]; exact Nat.le_trans hl (by decide), fun p hp => ?_⟩
    have hg := S1.free hp
    exact k (.ref p) _ (upd G1 p _) _ m1 q (S1.fix hp) (e1.trans (Le.new hg)) (.t upd_same)
theorem on_tupLt {ns : List Int} (q : Q (.t ns) m) : OpN K (rTupO K) [.d (.list (ns.map PyData.int))] m Q := fun H G vs S a R k => by
  obtain ⟨v, rfl, h⟩ := vrs1 a
  obtain ⟨p, xs, hv, h2, h3⟩ := rp_list.mp h.rp
  have hx := h3.ints
  subst hx
  refine ⟨p, _, by rw [hv], Or.inl ⟨Or.inl (Le.rd S.sub h2), fun l hl => ?_⟩⟩
  have hg := S.free hl
  exact k _ _ (upd G l _) _ m q (S.fix hl) (Le.new hg) (.t upd_same)
theorem on_tupLtN {ks : List Nat} (q : Q (.t (ks.map fun (k : Nat) => (k : Int))) m) : OpN K (rTupO K) [.d (.list (ks.map intN))] m Q := by
  have e : ks.map intN = (ks.map fun (k : Nat) => (k : Int)).map PyData.int := by rw [List.map_map]; rfl
  rw [e]
  exact on_tupLt q
theorem ev_tupR1t {n : Nat} (hn : n ≤ 100000) (h : Ev K ta r m fun x m1 => x = .d (.int (n : Int)) ∧ Q (.t ((List.range n).map fun (k : Nat) => (k : Int))) m1) : Ev K (tTupRg (tRg1 ta)) r m Q := fun σ H G S L R k =>
  h σ H G S L _ fun v H1 G1 x m1 ⟨hx, q⟩ S1 e1 r1 => by
    subst hx
    rw [int_of r1]
    have e : (n : Int) = ((0 + n : Nat) : Int) := by omega
    refine ⟨(n : Int), rfl, by rw [e]; exact rgok (a := 0) (n := n) (by omega), fun p hp => ?_⟩
    have hg := S1.free hp
    have e2 : rgV 0 (n : Int) = ((List.range n).map fun (k : Nat) => (k : Int)).map V.int := by
      unfold rgV
      rw [show ((n : Int) - 0).toNat = n by omega, List.map_map]
      exact List.map_congr_left fun i _ => by show V.int (0 + (i : Int)) = V.int (i : Int); rw [Int.zero_add]
    rw [e2]
    exact k _ _ (upd G1 p _) _ m1 q (S1.fix hp) (e1.trans (Le.new hg)) (.t upd_same)
theorem o2_addTt {a b : List Int} (hz : a.length + b.length ≤ 100000) (q : Q (.t (a ++ b)) m) : Op2 K (rAdd K) (.t a) (.t b) m Q := fun H G v w S x y R k => by
  cases x with
  | @t _ p h1 =>
    cases y with
    | @t _ p' h2 =>
      refine Or.inr (Or.inl ⟨p, p', a.map V.int, b.map V.int, rfl, rfl, S.sqT (SqT.of h1), S.sqT (SqT.of h2), ?_, fun e => ?_, fun _ e => ?_, fun _ _ l hl => ?_⟩)
      · rw [List.length_map, List.length_map]; exact Nat.le_trans hz (by decide)
      · have e := List.map_eq_nil_iff.mp e
        subst e
        exact k _ H G _ m q S (Le.refl G) (.t h2)
      · have e := List.map_eq_nil_iff.mp e
        subst e
        rw [List.append_nil] at q
        exact k _ H G _ m q S (Le.refl G) (.t h1)
      · have hg := S.free hl
        exact k _ _ (upd G l _) _ m q (S.fix hl) (Le.new hg) (.t (by rw [List.map_append]; exact upd_same))
/-! lists of them -/
theorem VRs.toT {G : Hp} : ∀ {nss : List (List Int)} {xs : List V}, VRs K G (nss.map Val.t) xs → TAll G nss xs
  | [], xs, h => h
  | ns :: r, xs, h => by
    obtain ⟨x, u, rfl, h1, h2⟩ := h
    obtain ⟨b, rfl, hb⟩ := t_of h1
    rw [kI_kV] at hb
    exact ⟨b, u, rfl, hb, VRs.toT h2⟩
theorem TAll.len {G : Hp} : ∀ {nss : List (List Int)} {xs : List V}, TAll G nss xs → xs.length = nss.length
  | [], xs, h => by
    have h : xs = [] := h
    rw [h]; rfl
  | ns :: r, xs, h => by
    obtain ⟨b, t, rfl, _, h3⟩ := h
    rw [List.length_cons, List.length_cons, TAll.len h3]
theorem TAll.at {G : Hp} : ∀ {nss : List (List Int)} {xs : List V} {i : Nat} {x : V}, TAll G nss xs → xs[i]? = some x → ∃ ns b, nss[i]? = some ns ∧ x = .ref b ∧ G b = some (.tup (ns.map V.int))
  | [], xs, i, x, h, e => by
    have h : xs = [] := h
    subst h; simp at e
  | ns :: r, xs, 0, x, h, e => by
    obtain ⟨b, t, rfl, h2, h3⟩ := h
    have e : V.ref b = x := by simpa using e
    exact ⟨ns, b, rfl, e.symm, h2⟩
  | ns :: r, xs, i + 1, x, h, e => by
    obtain ⟨b, t, rfl, h2, h3⟩ := h
    obtain ⟨n2, b2, e1, e2, e3⟩ := TAll.at (i := i) (x := x) h3 (by simpa using e)
    exact ⟨n2, b2, by simpa using e1, e2, e3⟩
theorem TAll.append {G : Hp} : ∀ {a b : List (List Int)} {xs ys : List V}, TAll G a xs → TAll G b ys → TAll G (a ++ b) (xs ++ ys)
  | [], b, xs, ys, h, g => by
    have h : xs = [] := h
    subst h; exact g
  | ns :: r, b, xs, ys, h, g => by
    obtain ⟨c, t, rfl, h2, h3⟩ := h
    exact ⟨c, t ++ ys, rfl, h2, TAll.append h3 g⟩
theorem ev_lstT {t : TA} (h : EvA K t r m fun xs m1 => ∃ nss : List (List Int), xs = nss.map Val.t ∧ nss.length ≤ 100000 ∧ Q (.lt nss) m1) : Ev K (tLst t) r m Q := fun σ H G S L R k =>
  h σ H G S L _ fun vs H1 G1 xs m1 ⟨nss, hx, hl, q⟩ S1 e1 r1 => by
    subst hx
    have hv := r1.toT
    refine ⟨by rw [hv.len]; exact Nat.le_trans hl (by decide), fun p hp => ?_⟩
    have hg := S1.free hp
    exact k (.ref p) _ (upd G1 p _) _ m1 q (S1.fix hp) (e1.trans (Le.new hg)) (.lt (Rd.of upd_same) (hv.mono (Le.new hg)))
theorem o2_addLt {a b : List (List Int)} (hz : a.length + b.length ≤ 100000) (q : Q (.lt (a ++ b)) m) : Op2 K (rAdd K) (.lt a) (.lt b) m Q := fun H G v w S x y R k => by
  cases x with
  | @lt _ p xs h1 h1' =>
    cases y with
    | @lt _ p' ys h2 h2' =>
      refine Or.inr (Or.inr (Or.inl ⟨p, p', xs, ys, rfl, rfl, Le.rd S.sub h1, Le.rd S.sub h2, ?_, fun l hl => ?_⟩))
      · rw [h1'.len, h2'.len]; exact Nat.le_trans hz (by decide)
      · have hg := S.free hl
        exact k _ _ (upd G l (.lst (xs ++ ys))) _ m q (S.fix hl) (Le.new hg) (.lt (Rd.of upd_same) ((h1'.append h2').mono (Le.new hg)))
theorem w_forLt {j : Nat} {nss : List (List Int)} (h : Ev K tl r m fun x m1 => x = .lt nss ∧ m1 = m) (W : Nat → List Val → Mm → Prop) (h0 : W 0 r m)
    (hs : ∀ (i : Nat) (ns : List Int) r' m', nss[i]? = some ns → W i r' m' → Wp K t (r'.set j (.t ns)) m' (W (i + 1)) E) (hd : ∀ r' m', W nss.length r' m' → N r' m') : Wp K (tFor (iList K tl) (gName j) t) r m N E := fun σ H G D S L a b =>
  h σ H G S L _ fun v H1 G1 x m1 ⟨hx, hm⟩ S1 e1 r1 => by
    subst hx hm
    cases r1 with
    | @lt _ p xs hs1 hA =>
      have hs1 : SqL K G1 p xs := Or.inl hs1
      refine ⟨p, rfl, ⟨xs, S1.sqL hs1⟩, for_list (xs := xs) (fun i σ' H' => ∃ G' r' m', W i r' m' ∧ Sta K m' H' G' ∧ Le G1 G' ∧ Sl K G' r' σ') ⟨G1, r, _, h0, S1, Le.refl G1, L.mono e1⟩ ?_ ?_ ?_⟩
      · rintro i σ' H' hi ⟨G', r', m', _, S', e', _⟩
        exact S'.sqL (e'.sqL hs1)
      · rintro i y σ' H' hy ⟨G', r', m', hw, S', e', L'⟩
        obtain ⟨ns, c, hns, rfl, hc⟩ := hA.at hy
        refine hs i ns r' m' hns hw (σ'.set j (some (.ref c))) H' G' _ S' (L'.set (r := .t ns) (.t (e' _ _ hc)) j) (fun σ3 H3 G3 r3 m3 h3 S3 e3 L3 => ⟨G3, r3, m3, h3, S3, e'.trans e3, L3⟩) (fun v H3 G3 x m3 n3 S3 e3 L3 => b v H3 G3 x m3 n3 S3 (e1.trans (e'.trans e3)) L3)
      · rintro σ' H' ⟨G', r', m', hw, S', e', L'⟩
        rw [hA.len] at hw
        exact a σ' H' G' r' m' (hd r' m' hw) S' (e1.trans e') L'
/-! comprehensions whose items are any values -/
def LcV (K : PySem.W.Frag) (m : Mm) (G : Hp) (D : Addr) (W : Nat → List Val → Prop) (i : Nat) (H' : Hp) : Prop :=
  ∃ G' acc, W i acc ∧ acc.length ≤ i ∧ Sta K (put m D (.lst acc)) H' G' ∧ Le G G'
theorem lcv_turn {G : Hp} {D : Addr} {W : Nat → List Val → Prop} {i : Nat} {σ : L2.St} {H' : Hp} {r' : List Val} (hm : m D = none) (hi : i < 100000) (L : ∀ G', Le G G' → Sl K G' r' σ)
    (hs : ∀ m' acc, Ext m m' → W i acc → EvT K tt r' m' fun b m2 => m2 = m' ∧ (b = true → Ev K te r' m' fun x m3 => m3 = m' ∧ W (i + 1) (acc ++ [x])) ∧ (b = false → W (i + 1) acc))
    (h : LcV K m G D W i H') : tt σ H' fun b H3 => if b = true then te σ H3 fun y H4 => ∃ acc, H4 D = some (.lst acc) ∧ acc.length < sizeLine ∧ LcV K m G D W (i + 1) (upd H4 D (.lst (acc ++ [y]))) else LcV K m G D W (i + 1) H3 := by
  obtain ⟨G', acc, hw, hl, S, e⟩ := h
  have hx : Ext m (put m D (.lst acc)) := fun a o ha => by
    rw [put_ne (ne_of_get ha hm)]; exact ha
  refine hs _ acc hx hw σ H' G' S (L G' e) _ fun H3 G3 b m3 ⟨e3, h1, h2⟩ S3 l3 => ?_
  subst e3
  cases b with
  | true =>
    show te σ H3 _
    refine h1 rfl σ H3 G3 S3 (L G3 (e.trans l3)) _ fun v H4 G4 x m4 ⟨e4, hw'⟩ S4 l4 r4 => ?_
    subst e4
    obtain ⟨xs, g1, g2⟩ := S4.mem D _ put_same
    have hlen := g2.length
    refine ⟨xs, g1, Nat.lt_of_lt_of_le (show xs.length < 100000 by omega) (by decide), G4, acc ++ [x], hw', by rw [List.length_append]; show acc.length + 1 ≤ i + 1; omega, ?_, e.trans (l3.trans l4)⟩
    have S5 := S4.chg (u := .lst (acc ++ [x])) (o := .lst (xs ++ [v])) put_same ⟨_, upd_same, g2.append ⟨v, [], rfl, r4, rfl⟩⟩
    rw [put_put] at S5
    exact S5
  | false =>
    show LcV K m G D W (i + 1) H3
    exact ⟨G3, acc, h2 rfl, by omega, S3, e.trans l3⟩
theorem lcv_end {G : Hp} {D : Addr} {W : Nat → List Val → Prop} {n : Nat} {H' : Hp} {R : VK} (hm : m D = none) (h : LcV K m G D W n H') (hd : ∀ acc, W n acc → ∃ nss, acc = nss.map Val.t ∧ Q (.lt nss) m)
    (k : ∀ v H' G' x m', Q x m' → Sta K m' H' G' → Le G G' → VR K G' x v → R v H') : R (.ref D) H' := by
  obtain ⟨G', acc, hw, hl, S, e⟩ := h
  obtain ⟨nss, rfl, q⟩ := hd acc hw
  obtain ⟨xs, g1, g2⟩ := S.mem D _ put_same
  have hg := S.dis D _ put_same
  have S2 := S.freeze put_same g1
  rw [del_put hm] at S2
  exact k _ H' _ _ m q S2 (e.trans (Le.new hg)) (.lt (Rd.of upd_same) (g2.toT.mono (Le.new hg)))
theorem lcv_start {H G : Hp} {D : Addr} {W : Nat → List Val → Prop} (S : Sta K m H G) (hD : H D = none) (h0 : W 0 []) : LcV K m G D W 0 (upd H D (.lst [])) :=
  ⟨G, [], h0, Nat.le_refl _, S.new hD ⟨[], upd_same, rfl⟩, Le.refl G⟩
theorem ev_lcLt {j : Nat} {nss : List (List Int)} (h : Ev K tl r m fun x m1 => x = .lt nss ∧ m1 = m) (hn : nss.length ≤ 100000) (W : Nat → List Val → Prop) (h0 : W 0 [])
    (hs : ∀ (i : Nat) (ns : List Int) m' acc, nss[i]? = some ns → Ext m m' → W i acc → EvT K tt (r.set j (.t ns)) m' fun b m2 => m2 = m' ∧ (b = true → Ev K te (r.set j (.t ns)) m' fun x m3 => m3 = m' ∧ W (i + 1) (acc ++ [x])) ∧ (b = false → W (i + 1) acc))
    (hd : ∀ acc, W nss.length acc → ∃ out, acc = out.map Val.t ∧ Q (.lt out) m) : Ev K (tLc (iList K tl) (gName j) tt te [j]) r m Q := fun σ H G S L R k =>
  h σ H G S L _ fun v H1 G1 x m1 ⟨hx, hm⟩ S1 e1 r1 => by
    subst hx hm
    cases r1 with
    | @lt _ p xs hs1 hA =>
      have hs1 : SqL K G1 p xs := Or.inl hs1
      refine ⟨p, rfl, ⟨xs, S1.sqL hs1⟩, fun D hD => ?_⟩
      have hmD := S1.freeM hD
      refine lc_list (xs := xs) (LcV K m1 G1 D W) (lcv_start S1 hD h0) ?_ ?_ ?_
      · rintro i H' hi ⟨G', acc, _, _, S', e'⟩
        exact S'.sqL (e'.sqL hs1)
      · intro i y H' hy hP
        obtain ⟨ns, c, hns, rfl, hc⟩ := hA.at hy
        have hi : i < 100000 := by
          have := (List.getElem?_eq_some_iff.mp hy).1
          rw [hA.len] at this
          omega
        refine ⟨wipe1 σ j _, lcv_turn hmD hi (fun G' e' => ?_) (fun m' acc hx hw => hs i ns m' acc hns hx hw) hP⟩
        have := (L.mono (e1.trans e')).set (r := .t ns) (.t (e' _ _ hc)) j
        show Sl K G' (r.set j (.t ns)) ((σ.set j none).set j (some (.ref c)))
        rw [List.set_set]
        exact this
      · intro H' hP
        rw [hA.len] at hP
        exact lcv_end hmD hP hd fun v H' G' x m' q S' e' r' => k v H' G' x m' q S' (e1.trans e') r'
theorem ev_mapLt {j : Nat} {nss : List (List Int)} (h : Ev K tl r m fun x m1 => x = .lt nss ∧ m1 = m) (hn : nss.length ≤ 100000) (f : List Int → List Int)
    (hs : ∀ (ns : List Int) m', ns ∈ nss → Ext m m' → Ev K te (r.set j (.t ns)) m' fun x m3 => x = .t (f ns) ∧ m3 = m') (q : Q (.lt (nss.map f)) m) : Ev K (tLc (iList K tl) (gName j) tYes te [j]) r m Q :=
  ev_lcLt h hn (fun i acc => acc = ((nss.take i).map f).map Val.t) (by simp) (fun i ns m' acc hd hx hw => evt_yes ⟨rfl, fun _ => (hs ns m' (List.mem_of_getElem? hd) hx).imp fun x m3 e => ⟨e.2, by rw [hw, take_one hd, List.map_append, List.map_append, e.1]; rfl⟩, (fun g => nomatch g)⟩)
    (fun acc hw => ⟨_, hw.trans (by rw [List.take_length]), q⟩)
theorem TAll.zip {G : Hp} : ∀ {nss : List (List Int)} {xs : List V}, TAll G nss xs → ((xs.zip nss).map (·.1) = xs ∧ (xs.zip nss).map (·.2) = nss ∧ ∀ b ∈ xs.zip nss, ∃ t, b.1 = .ref t ∧ G t = some (.tup (b.2.map V.int)))
  | [], xs, h => by
    have h : xs = [] := h
    subst h
    exact ⟨rfl, rfl, fun b hb => nomatch hb⟩
  | ns :: r, xs, h => by
    obtain ⟨c, t, rfl, h2, h3⟩ := h
    obtain ⟨a1, a2, a3⟩ := TAll.zip h3
    refine ⟨by rw [List.zip_cons_cons, List.map_cons, a1], by rw [List.zip_cons_cons, List.map_cons, a2], fun b hb => ?_⟩
    rw [List.zip_cons_cons] at hb
    rcases List.mem_cons.mp hb with rfl | hb
    · exact ⟨c, rfl, h2⟩
    · exact a3 b hb
/-! a key that a name holds -/
theorem ev_dgetV {td : TE} {i : Nat} {ns : List Int} (hk : r[i]? = some (.t ns)) (h : Ev K td r m fun x m1 => ∃ p kvs z, x = .v (.ref p) ∧ Dat m1 p kvs ∧ getV kvs (kI ns) = some z ∧ Q z m1) : Ev K (tDGet td (tVar i)) r m Q :=
  ev_dget (h.imp fun x m1 ⟨p, kvs, z, hx, hd, hg, q⟩ => ⟨p, hx, ev_var hk (fun h => nomatch h) ⟨ns, kvs, z, rfl, hd, hg, q⟩⟩)
theorem w_dputV {td tv : TE} {i : Nat} {ns : List Int} (hk : r[i]? = some (.t ns)) (h : Ev K tv r m fun x m1 => Ev K td r m1 fun y m2 => ∃ p kvs, y = .v (.ref p) ∧ m2 p = some (.dT kvs) ∧ kvs.length < 100000 ∧ N r (put m2 p (.dT (putV kvs (kI ns) x)))) : Wp K (sDPut td (tVar i) tv) r m N E :=
  w_dput (h.imp fun x m1 h1 => h1.imp fun y m2 ⟨p, kvs, hy, hm, hl, q⟩ => ⟨p, hy, ev_var hk (fun h => nomatch h) ⟨ns, kvs, rfl, hm, hl, q⟩⟩)
end
end DL
namespace DL
open PySem L2
abbrev kn (ks : List Nat) : List Int := ks.map fun (k : Nat) => (k : Int)
theorem kn_inj {a b : List Nat} (h : kn a = kn b) : a = b := List.map_inj_right (fun _ _ e => by omega) |>.mp h
/-! fractions from nought on, bounded -/
structure QB (q : Rat) (d v : Nat) : Prop where
  nn : 0 ≤ q
  le : q ≤ (v : Rat)
  den : q.den ≤ 2 ^ d
theorem QB.mono {q : Rat} {d v d' v' : Nat} (h : QB q d v) (hd : d ≤ d') (hv : v ≤ v') : QB q d' v' :=
  ⟨h.nn, Rat.le_trans h.le (Rat.natCast_le_natCast.mpr hv), Nat.le_trans h.den (Nat.pow_le_pow_right (by decide) hd)⟩
theorem QB.frB {q : Rat} {d v e : Nat} (h : QB q d v) (hv : v < 2 ^ e) : FrB q (d + e + 1) := by
  have hden := den_pos q
  refine ⟨?_, ?_⟩
  · have h0 : 0 ≤ q.num := Rat.num_nonneg.mpr h.nn
    have h1 : q.num ≤ (v : Int) * (q.den : Int) := by
      have := (Rat.le_iff q ((v : Nat) : Rat)).mp h.le
      have e1 : ((v : Nat) : Rat).den = 1 := rfl
      have e2 : ((v : Nat) : Rat).num = (v : Int) := rfl
      rw [e1, e2] at this
      simpa using this
    have h2 : q.num.natAbs ≤ v * q.den := by
      have : ((q.num.natAbs : Nat) : Int) ≤ ((v * q.den : Nat) : Int) := by rw [Int.natAbs_of_nonneg h0, Int.natCast_mul]; exact h1
      omega
    show q.num.natAbs < 2 ^ (d + e + 1)
    have h3 : v * q.den ≤ 2 ^ e * 2 ^ d := Nat.mul_le_mul (by omega) h.den
    rw [← Nat.pow_add] at h3
    refine Nat.lt_of_le_of_lt (Nat.le_trans h2 h3) ?_
    exact Nat.pow_lt_pow_right (by decide) (by omega)
  · show ((q.den : Nat) : Int).natAbs < 2 ^ (d + e + 1)
    rw [Int.natAbs_natCast]
    exact Nat.lt_of_le_of_lt h.den (Nat.pow_lt_pow_right (by decide) (by omega))
theorem den_mk_le (t : Int) (b : Nat) (hb : 0 < b) : (mkRat t b).den ≤ b := by
  rw [Rat.den_mkRat, if_neg (by omega)]
  exact Nat.div_le_self _ _
theorem QB.add {p q : Rat} {a b u v : Nat} (h : QB p a u) (g : QB q b v) : QB (p + q) (a + b) (u + v) := by
  refine ⟨Rat.add_nonneg h.nn g.nn, ?_, ?_⟩
  · have h1 := h.le
    have h2 := g.le
    rw [Rat.natCast_add]
    grind
  · rw [Rat.add_def']
    refine Nat.le_trans (den_mk_le _ _ (Nat.mul_pos (den_pos p) (den_pos q))) ?_
    rw [Nat.pow_add]
    exact Nat.mul_le_mul h.den g.den
theorem QB.mulN {q : Rat} {d v : Nat} (h : QB q d v) (n : Nat) : QB (((n : Int) : Rat) * q) d (n * v) := by
  have hn : (0 : Rat) ≤ ((n : Nat) : Rat) := Rat.natCast_nonneg
  refine ⟨?_, ?_, ?_⟩
  · rw [Rat.intCast_natCast]; exact Rat.mul_nonneg hn h.nn
  · rw [Rat.intCast_natCast, Rat.natCast_mul]
    exact Rat.mul_le_mul_of_nonneg_left h.le hn
  · rw [Rat.mul_def']
    have e : (((n : Int) : Rat)).den = 1 := rfl
    rw [e, Nat.one_mul]
    exact Nat.le_trans (den_mk_le _ _ (den_pos q)) h.den
theorem QB.over {q : Rat} {d v : Nat} (h : QB q d v) {n e w : Nat} (h0 : 0 < n) (he : n ≤ 2 ^ e) (hv : v ≤ w * n) : QB (q * mkRat 1 n) (d + e) w := by
  have hn : ((n : Nat) : Rat) ≠ 0 := nat_ne h0
  have hn0 : (0 : Rat) < ((n : Nat) : Rat) := Rat.natCast_pos.mpr h0
  have e1 : mkRat 1 n = 1 / ((n : Nat) : Rat) := by rw [Rat.mkRat_eq_div]; rfl
  have hinv : (0 : Rat) ≤ mkRat 1 n := Rat.num_nonneg.mp (by rw [Rat.num_mkRat, if_neg (by omega)]; exact Int.ediv_nonneg (by decide) (Int.natCast_nonneg _))
  refine ⟨Rat.mul_nonneg h.nn hinv, ?_, ?_⟩
  · have h1 : q ≤ ((w : Nat) : Rat) * ((n : Nat) : Rat) := by
      rw [← Rat.natCast_mul]
      exact Rat.le_trans h.le (Rat.natCast_le_natCast.mpr hv)
    rw [e1]
    generalize ((n : Nat) : Rat) = N at *
    generalize ((w : Nat) : Rat) = W at *
    have h2 : q * (1 / N) * N ≤ W * N := by
      have : q * (1 / N) * N = q := by grind
      rw [this]; exact h1
    exact Rat.le_of_mul_le_mul_right h2 hn0
  · rw [Rat.mul_def']
    refine Nat.le_trans (den_mk_le _ _ (Nat.mul_pos (den_pos q) (den_pos _))) ?_
    rw [Nat.pow_add]
    exact Nat.mul_le_mul h.den (Nat.le_trans (den_mk_le 1 n h0) he)
theorem QB.nat (n : Nat) : QB ((n : Int) : Rat) 0 n := by
  refine ⟨?_, ?_, ?_⟩
  · rw [Rat.intCast_natCast]; exact Rat.natCast_nonneg
  · rw [Rat.intCast_natCast]; exact Rat.le_refl
  · exact Nat.le_refl 1
/-! the time paper -/
def dueAcc (ss : List Int) (P : List Nat → Rat) (s : List Nat) (l : List Nat) : Rat := l.foldl (fun acc k => acc + ((ss.getD k 0 : Int) : Rat) * P (s.filter fun x => !decide (x = k))) ((ss.sum : Int) : Rat)
def dueT (ss : List Int) (P : List Nat → Rat) (s : List Nat) : Rat := dueAcc ss P s s * mkRat 1 (sumP ss s).toNat
def timeF (ss : List Int) : Nat → List Nat → Rat
  | 0, _ => 0
  | n + 1, s => dueT ss (timeF ss n) s
def timeT (ss : List Int) (s : List Nat) : Rat := timeF ss s.length s
theorem without_len {s : List Nat} (hs : s.Pairwise (· < ·)) {k : Nat} (hk : k ∈ s) : (s.filter fun x => !decide (x = k)).length + 1 = s.length := by
  induction s with
  | nil => cases hk
  | cons a t ih =>
    obtain ⟨h1, h2⟩ := List.pairwise_cons.mp hs
    rcases List.mem_cons.mp hk with rfl | hk
    · rw [List.filter_cons, if_neg (by simp)]
      have : (t.filter fun x => !decide (x = k)) = t := List.filter_eq_self.mpr fun x hx => by have := h1 x hx; simp; omega
      rw [this]; rfl
    · have : a ≠ k := by have := h1 k hk; omega
      rw [List.filter_cons, if_pos (by simp [this]), List.length_cons, List.length_cons, ih h2 hk]
theorem dueAcc_congr {ss : List Int} {P P' : List Nat → Rat} {s : List Nat} (h : ∀ k ∈ s, P (s.filter fun x => !decide (x = k)) = P' (s.filter fun x => !decide (x = k))) : ∀ l : List Nat, (∀ k ∈ l, k ∈ s) → dueAcc ss P s l = dueAcc ss P' s l := by
  intro l hl
  unfold dueAcc
  generalize ((ss.sum : Int) : Rat) = a
  induction l generalizing a with
  | nil => rfl
  | cons k t ih =>
    rw [List.foldl_cons, List.foldl_cons, h k (hl k (List.mem_cons_self ..))]
    exact ih (fun x hx => hl x (List.mem_cons_of_mem _ hx)) _
theorem timeT_step (ss : List Int) {s : List Nat} (hs : s.Pairwise (· < ·)) (h0 : s ≠ []) : timeT ss s = dueT ss (timeT ss) s := by
  unfold timeT
  cases hn : s.length with
  | zero => exact absurd (List.length_eq_zero_iff.mp hn) h0
  | succ n =>
    show dueT ss (timeF ss n) s = _
    unfold dueT
    rw [dueAcc_congr (P' := fun o => timeF ss o.length o) (fun k hk => ?_) s (fun _ h => h)]
    have := without_len hs hk
    have e : (s.filter fun x => !decide (x = k)).length = n := by omega
    show timeF ss n _ = timeF ss _ _
    rw [e]
theorem timeT_nil (ss : List Int) : timeT ss [] = 0 := rfl
/-- bits of the paper's bottoms -/
def dB : Nat → Nat
  | 0 => 0
  | n + 1 => (n + 1) * dB n + 6
theorem acc_bound {ss : List Int} (hs : Shares ss) {P : List Nat → Rat} {s : List Nat} {d n : Nat} (hP : ∀ k ∈ s, QB (P (s.filter fun x => !decide (x = k))) d (45 * n)) : ∀ l : List Nat, (∀ k ∈ l, k ∈ s) → QB (dueAcc ss P s l) (l.length * d) (45 + 45 * n * (sumP ss l).toNat) := by
  intro l
  have hsum := shares_sum hs
  have gen : ∀ (l : List Nat) (a : Rat) (c v : Nat), QB a c v → (∀ k ∈ l, k ∈ s) → QB (l.foldl (fun acc k => acc + ((ss.getD k 0 : Int) : Rat) * P (s.filter fun x => !decide (x = k))) a) (c + l.length * d) (v + 45 * n * (sumP ss l).toNat) := by
    intro l
    induction l with
    | nil =>
      intro a c v h _
      exact h.mono (by simp) (by simp)
    | cons k t ih =>
      intro a c v h hl
      rw [List.foldl_cons]
      have hb := getD_bounds hs k
      have e1 : ss.getD k 0 = (((ss.getD k 0).toNat : Nat) : Int) := by omega
      have h1 := (hP k (hl k (List.mem_cons_self ..))).mulN (ss.getD k 0).toNat
      rw [← e1] at h1
      have h2 := ih _ _ _ (h.add h1) fun x hx => hl x (List.mem_cons_of_mem _ hx)
      refine h2.mono ?_ ?_
      · rw [List.length_cons, Nat.succ_mul]; omega
      · have e2 : (sumP ss (k :: t)).toNat = (ss.getD k 0).toNat + (sumP ss t).toNat := by
          have := sumP_nonneg hs t
          rw [sumP_cons]; omega
        rw [e2, Nat.mul_add]
        have e3 : (ss.getD k 0).toNat * (45 * n) = 45 * n * (ss.getD k 0).toNat := Nat.mul_comm _ _
        omega
  intro hl
  have e : ss.sum = ((ss.sum.toNat : Nat) : Int) := by omega
  have h0 : QB ((ss.sum : Int) : Rat) 0 45 := by
    rw [e]
    exact (QB.nat _).mono (Nat.le_refl _) (by omega)
  exact (gen l _ 0 45 h0 hl).mono (by omega) (Nat.le_refl _)
theorem sumP_pos {ss : List Int} (hs : Shares ss) {s : List Nat} (h0 : s ≠ []) (hk : ∀ k ∈ s, k < ss.length) : 1 ≤ sumP ss s := by
  cases s with
  | nil => exact absurd rfl h0
  | cons k t =>
    have := sumP_nonneg hs t
    rw [sumP_cons]
    have : 1 ≤ ss.getD k 0 := by
      rw [List.getD_eq_getElem?_getD, List.getElem?_eq_getElem (hk k (by simp))]
      exact (hs.each _ (List.getElem_mem _)).1
    omega
theorem due_bound {ss : List Int} (hs : Shares ss) {P : List Nat → Rat} {s : List Nat} (hk : Kinds ss.length s) (h0 : s ≠ []) {d n : Nat} (hl : s.length = n + 1) (hP : ∀ k ∈ s, QB (P (s.filter fun x => !decide (x = k))) d (45 * n)) : QB (dueT ss P s) ((n + 1) * d + 6) (45 * (n + 1)) := by
  have h1 := acc_bound hs hP s (fun _ h => h)
  have hp := sumP_pos hs h0 hk.lt
  have hle := sumP_le hs hk
  unfold dueT
  refine (h1.over (n := (sumP ss s).toNat) (e := 6) (w := 45 * (n + 1)) (by omega) (by show _ ≤ 64; omega) ?_).mono (by rw [hl]; exact Nat.le_refl _) (Nat.le_refl _)
  generalize hS : (sumP ss s).toNat = S
  have : 1 ≤ S := by omega
  rw [Nat.mul_add, Nat.add_mul, Nat.mul_one]
  have : 45 ≤ 45 * S := by omega
  omega
theorem kinds_without {n : Nat} {s : List Nat} (h : Kinds n s) (k : Nat) : Kinds n (s.filter fun x => !decide (x = k)) := ⟨h.up.filter _, fun x hx => h.lt x (List.mem_filter.mp hx).1⟩
theorem time_bound {ss : List Int} (hs : Shares ss) : ∀ (n : Nat) (s : List Nat), s.length = n → Kinds ss.length s → QB (timeT ss s) (dB n) (45 * n)
  | 0, s, hl, hk => by
    have : s = [] := List.length_eq_zero_iff.mp hl
    subst this
    rw [timeT_nil]
    exact ⟨Rat.le_refl, Rat.le_refl, Nat.le_refl 1⟩
  | n + 1, s, hl, hk => by
    have h0 : s ≠ [] := fun e => by rw [e] at hl; cases hl
    rw [timeT_step ss hk.up h0]
    exact due_bound hs hk h0 hl fun k hks => time_bound hs n _ (by have := without_len hk.up hks; omega) (kinds_without hk k)
theorem dB_le {n : Nat} (h : n ≤ 5) : dB n ≤ 1236 := by
  have : n = 0 ∨ n = 1 ∨ n = 2 ∨ n = 3 ∨ n = 4 ∨ n = 5 := by omega
  rcases this with rfl | rfl | rfl | rfl | rfl | rfl <;> decide
theorem time_fr {ss : List Int} (hs : Shares ss) {s : List Nat} (hk : Kinds ss.length s) : FrB (timeT ss s) 1300 := by
  have h1 := hk.len
  have h2 := hs.few
  have h3 := dB_le (n := s.length) (by omega)
  exact ((time_bound hs s.length s rfl hk).frB (e := 10) (by show _ < 1024; omega)).mono (by omega)
theorem acc_fr {ss : List Int} (hs : Shares ss) {s : List Nat} (hk : Kinds ss.length s) (i : Nat) : FrB (dueAcc ss (timeT ss) s (s.take i)) 1300 := by
  have h1 := hk.len
  have h2 := hs.few
  cases hn : s.length with
  | zero =>
    have : s = [] := List.length_eq_zero_iff.mp hn
    subst this
    have := shares_sum hs
    have e : ss.sum = ((ss.sum.toNat : Nat) : Int) := by omega
    have : dueAcc ss (timeT ss) [] (List.take i []) = ((ss.sum : Int) : Rat) := by simp [dueAcc]
    rw [this, e]
    exact ((QB.nat ss.sum.toNat).frB (e := 10) (by show _ < 1024; omega)).mono (by decide)
  | succ n =>
    have hP : ∀ k ∈ s, QB (timeT ss (s.filter fun x => !decide (x = k))) (dB n) (45 * n) := fun k hks => time_bound hs n _ (by have := without_len hk.up hks; omega) (kinds_without hk k)
    have hb := acc_bound hs hP (s.take i) fun k hk => List.mem_of_mem_take hk
    have hl : (s.take i).length ≤ n + 1 := by rw [List.length_take]; omega
    have hsl : sumP ss (s.take i) ≤ 45 := by
      have := sumP_le9 hs (s.take i)
      omega
    have hd : (s.take i).length * dB n + 6 ≤ dB (n + 1) := by
      show _ ≤ (n + 1) * dB n + 6
      exact Nat.add_le_add_right (Nat.mul_le_mul_right _ hl) 6
    have hd2 := dB_le (n := n + 1) (by omega)
    have hv : 45 + 45 * n * (sumP ss (s.take i)).toNat ≤ 45 + 45 * 4 * 45 := by
      refine Nat.add_le_add_left (Nat.mul_le_mul (Nat.mul_le_mul_left _ (by omega)) (by omega)) _
    exact (hb.frB (e := 15) (by show _ < 32768; omega)).mono (by omega)
end DL
namespace DL
open PySem L2
def allSL (ks : List Nat) : List (List Nat) := ks.foldl (fun acc k => acc ++ acc.map fun s => s ++ [k]) [[]]
theorem allSL_snoc (ks : List Nat) (k : Nat) : allSL (ks ++ [k]) = allSL ks ++ (allSL ks).map fun s => s ++ [k] := by
  unfold allSL; rw [List.foldl_append]; rfl
theorem allSL_range : ∀ n, allSL (List.range n) = allS n
  | 0 => rfl
  | n + 1 => by rw [range_one, allSL_snoc, allSL_range n, allS]
theorem allSL_len (ks : List Nat) : (allSL ks).length = 2 ^ ks.length := by
  have gen : ∀ (ks : List Nat) (acc : List (List Nat)), (ks.foldl (fun acc k => acc ++ acc.map fun s => s ++ [k]) acc).length = acc.length * 2 ^ ks.length := by
    intro ks
    induction ks with
    | nil => intro acc; simp
    | cons k t ih => intro acc; rw [List.foldl_cons, ih, List.length_append, List.length_map, List.length_cons, Nat.pow_succ, ← Nat.mul_two, Nat.mul_assoc, Nat.mul_comm 2]
  have := gen ks [[]]
  simpa [allSL] using this
theorem allSL_mem_len {ks : List Nat} : ∀ s ∈ allSL ks, s.length ≤ ks.length := by
  have gen : ∀ (ks : List Nat) (acc : List (List Nat)) (c : Nat), (∀ a ∈ acc, a.length ≤ c) → ∀ s ∈ ks.foldl (fun acc k => acc ++ acc.map fun s => s ++ [k]) acc, s.length ≤ c + ks.length := by
    intro ks
    induction ks with
    | nil => intro acc c h s hs; exact h s hs
    | cons k t ih =>
      intro acc c h s hs
      rw [List.foldl_cons] at hs
      have := ih _ (c + 1) (fun a ha => by
        rcases List.mem_append.mp ha with ha | ha
        · have := h a ha; omega
        · obtain ⟨u, hu, rfl⟩ := List.mem_map.mp ha
          have := h u hu
          rw [List.length_append, List.length_singleton]; omega) s hs
      rw [List.length_cons]; omega
  intro s hs
  have := gen ks [[]] 0 (fun a ha => by rw [List.mem_singleton.mp ha]; exact Nat.le_refl _) s hs
  omega
theorem rngD_intN (n : Nat) : rngD 0 n = (List.range n).map intN := by
  unfold rngD
  exact List.map_congr_left fun i _ => by rw [Nat.zero_add]
def f_allSome : FSp := fun args m R => ∃ ks : List Nat, args = [.d (.list (ks.map intN))] ∧ ks.length ≤ 8 ∧ R (.lt ((allSL ks).map kn)) m
def f_lawAllSomeT : FSp := fun args m R => ∃ n : Nat, args = [.d (.int (n : Int))] ∧ n ≤ 8 ∧ R (.lt ((allS n).map kn)) m
theorem allS_nodup : ∀ n : Fin 6, (allS n).Nodup := by decide +kernel
theorem allS_kinds {n : Nat} {s : List Nat} (h : s ∈ allS n) : Kinds n s := ⟨allSup n s h, fun k hk => (allS_mem n s h).2 k hk⟩
  where allSup : ∀ n, ∀ s ∈ allS n, s.Pairwise (· < ·)
  | 0, s, h => by
    have : s = [] := by simpa [allS] using h
    subst this; exact List.Pairwise.nil
  | n + 1, s, h => by
    rw [allS] at h
    rcases List.mem_append.mp h with h | h
    · exact allSup n s h
    · obtain ⟨t, ht, rfl⟩ := List.mem_map.mp h
      exact List.pairwise_append.mpr ⟨allSup n t ht, List.pairwise_singleton .., fun x hx y hy => by rw [List.mem_singleton.mp hy]; exact (allS_mem n t ht).2 x hx⟩
theorem allS_nil : ∀ n, [] ∈ allS n
  | 0 => by simp [allS]
  | n + 1 => by rw [allS]; exact List.mem_append_left _ (allS_nil n)
/-! tables -/
def tabT (f : List Nat → Rat) (l : List (List Nat)) : List (List Key × Val) := l.map fun s => (kI (kn s), .d (frac (f s)))
theorem getV_tab {f : List Nat → Rat} {s : List Nat} : ∀ {l : List (List Nat)}, s ∈ l → getV (tabT f l) (kI (kn s)) = some (.d (frac (f s)))
  | [], h => nomatch h
  | a :: l, h => by
    unfold tabT
    rw [List.map_cons]
    by_cases e : a = s
    · subst e
      simp [getV, List.find?_cons]
    · have e2 : ¬ kI (kn a) = kI (kn s) := fun z => e (kn_inj (kI_inj z))
      have h2 : s ∈ l := by
        rcases List.mem_cons.mp h with h | h
        · exact absurd h.symm e
        · exact h
      have := getV_tab (f := f) h2
      unfold tabT at this
      simp only [getV, List.find?_cons, e2, decide_false] at this ⊢
      exact this
theorem putV_tab {f : List Nat → Rat} {s : List Nat} {l : List (List Nat)} (h : s ∉ l) : putV (tabT f l) (kI (kn s)) (.d (frac (f s))) = tabT f (l ++ [s]) := by
  rw [putV_new]
  · unfold tabT
    rw [List.map_append]; rfl
  · intro p hp e
    obtain ⟨a, ha, rfl⟩ := List.mem_map.mp hp
    exact h (kn_inj (kI_inj e) ▸ ha)
theorem tab_len (f : List Nat → Rat) (l : List (List Nat)) : (tabT f l).length = l.length := List.length_map ..
def noNil (s : List Nat) : Bool := !decide (s = [])
def doneL (L : List (List Nat)) (i : Nat) : List (List Nat) := [] :: (L.take i).filter noNil
theorem doneL_step {L : List (List Nat)} {i : Nat} {s : List Nat} (h : L[i]? = some s) : doneL L (i + 1) = if s = [] then doneL L i else doneL L i ++ [s] := by
  unfold doneL
  rw [take_one h, List.filter_append]
  by_cases e : s = []
  · rw [if_pos e, List.filter_cons, if_neg (by simp [noNil, e])]; simp
  · rw [if_neg e, List.filter_cons, if_pos (by simp [noNil, e])]; rfl
theorem doneL_fresh {L : List (List Nat)} (hn : L.Nodup) {i : Nat} {s : List Nat} (h : L[i]? = some s) (h0 : s ≠ []) : s ∉ doneL L i := by
  intro hm
  rcases List.mem_cons.mp hm with e | hm
  · exact h0 e
  · have hm := (List.mem_filter.mp hm).1
    obtain ⟨j, hj⟩ := List.getElem?_of_mem hm
    rw [List.getElem?_take] at hj
    split at hj
    · rename_i hji
      obtain ⟨a1, a2⟩ := List.getElem?_eq_some_iff.mp hj
      obtain ⟨b1, b2⟩ := List.getElem?_eq_some_iff.mp h
      have := List.pairwise_iff_getElem.mp hn j i a1 b1 hji
      exact this (a2.trans b2.symm)
    · cases hj
theorem doneL_mem {L : List (List Nat)} {i : Nat} {o : List Nat} (h : o ∈ L.take i) : o ∈ doneL L i := by
  by_cases e : o = []
  · rw [e]; exact List.mem_cons_self ..
  · exact List.mem_cons_of_mem _ (List.mem_filter.mpr ⟨h, by simp [noNil, e]⟩)
theorem doneL_len (L : List (List Nat)) (i : Nat) : (doneL L i).length ≤ L.length + 1 := by
  unfold doneL
  rw [List.length_cons]
  have h1 := List.length_filter_le noNil (L.take i)
  rw [List.length_take] at h1
  omega
def f_lawPaper : FSp := fun args m R => ∃ ss : List Int, args = [.d (tupI ss)] ∧ Shares ss ∧ ∀ p, m p = none → R (.v (.ref p)) (put m p (.dT (tabT (timeT ss) (doneL (allS ss.length) (allS ss.length).length))))
theorem allS_ahead : ∀ n : Fin 6, ∀ i : Fin 32, ∀ s, (allS n)[i.val]? = some s → ∀ k ∈ s, (s.filter fun x => !decide (x = k)) ∈ (allS n).take i.val := by
  have h : ∀ n : Fin 6, ∀ i : Fin 32, ((allS n)[i.val]?).all (fun s => s.all fun k => decide ((s.filter fun x => !decide (x = k)) ∈ (allS n).take i.val)) = true := by decide +kernel
  intro n i s hs k hk
  have h1 := h n i
  rw [hs] at h1
  exact of_decide_eq_true (List.all_eq_true.mp h1 k hk)
theorem eqv_nilT (ns : List Int) : PyData.eqv (tupI ns) (.tuple []) = decide (ns = []) := by
  cases ns with
  | nil => rfl
  | cons a t => simp [tupI, PyData.eqv, PyData.eqvAll]
def f_plusG : FSp := fun args m R => ∃ (t1 : Int) (b1 : Nat) (t2 : Int) (b2 : Nat), args = [.d (.tuple [.int t1, .int (b1 : Int)]), .d (.tuple [.int t2, .int (b2 : Int)])] ∧ 0 < b1 ∧ 0 < b2 ∧ Bt t1 3900 ∧ Bt (b1 : Int) 3900 ∧ Bt t2 3900 ∧ Bt (b2 : Int) 3900 ∧ R (.d (frac (mkRat t1 b1 + mkRat t2 b2))) m
theorem mk_self (q : Rat) : mkRat q.num q.den = q := Rat.mkRat_self q
theorem mk_mul (q : Rat) (a : Int) : mkRat (q.num * a) q.den = (a : Rat) * q := by
  rw [Rat.mkRat_eq_div, Rat.intCast_mul, Rat.mul_comm]
  have h := Rat.mkRat_self q
  rw [Rat.mkRat_eq_div] at h
  have : (a : Rat) * q = (a : Rat) * ((q.num : Rat) / (q.den : Rat)) := by rw [h]
  rw [this]
  have hn := nat_ne (den_pos q)
  generalize ((q.den : Nat) : Rat) = D at *
  grind
theorem mk_over (q : Rat) {n : Nat} (h : 0 < n) : mkRat q.num (q.den * n) = q * mkRat 1 n := by
  have h1 := Rat.mkRat_self q
  rw [Rat.mkRat_eq_div] at h1 ⊢
  rw [Rat.mkRat_eq_div]
  have hn := nat_ne (den_pos q)
  have hm := nat_ne h
  have e : q * (((1 : Int) : Rat) / ((n : Nat) : Rat)) = ((q.num : Rat) / (q.den : Rat)) * (((1 : Int) : Rat) / ((n : Nat) : Rat)) := by rw [h1]
  rw [e, Rat.natCast_mul]
  have e1 : ((1 : Int) : Rat) = 1 := rfl
  rw [e1]
  generalize ((q.den : Nat) : Rat) = D at *
  generalize ((n : Nat) : Rat) = N at *
  grind
end DL
namespace DL
open PySem L2 PyProof.Rows
end DL
namespace DL
open PySem L2
def wo (t : List Nat) (k : Nat) : List Nat := t.filter fun x => !decide (x = k)
/-! bounds -/
/-! the turns -/
def addF (G : List Nat → Int) (p : List Nat × Int) : List Nat → Int := fun u => if u = p.1 then G u + p.2 else G u
/-! tables of whole numbers -/
def insL (l : List (List Nat)) (t : List Nat) : List (List Nat) := if t ∈ l then l else l ++ [t]
abbrev dI (kvs : List (List Int × Val)) : List (List Key × Val) := kvs.map fun kv => (kI kv.1, kv.2)
structure TabOk (n : Nat) (G : List Nat → Int) (l : List (List Nat)) : Prop where
  nd : l.Nodup
  sub : ∀ s ∈ l, s ∈ allS n
  off : ∀ s, s ∉ l → G s = 0
theorem TabOk.add {n : Nat} {G : List Nat → Int} {l : List (List Nat)} (h : TabOk n G l) {t : List Nat} (ht : t ∈ allS n) (x : Int) : TabOk n (addF G (t, x)) (insL l t) := by
  unfold insL
  by_cases hm : t ∈ l
  · rw [if_pos hm]
    refine ⟨h.nd, h.sub, fun s hs => ?_⟩
    have : s ≠ t := fun e => hs (e ▸ hm)
    simp [addF, this, h.off s hs]
  · rw [if_neg hm]
    refine ⟨List.nodup_append.mpr ⟨h.nd, List.pairwise_singleton .., fun a ha b hb => by rw [List.mem_singleton.mp hb]; exact fun e => hm (e ▸ ha)⟩, fun s hs => ?_, fun s hs => ?_⟩
    · rcases List.mem_append.mp hs with hs | hs
      · exact h.sub s hs
      · rw [List.mem_singleton.mp hs]; exact ht
    · have h1 : s ∉ l := fun z => hs (List.mem_append_left _ z)
      have h2 : s ≠ t := fun e => hs (List.mem_append_right _ (by rw [e]; simp))
      simp [addF, h2, h.off s h1]
theorem TabOk.len {n : Nat} {G : List Nat → Int} {l : List (List Nat)} (h : TabOk n G l) (hn : n ≤ 5) : l.length ≤ 32 := by
  have h1 : l.Perm ((allS n).filter fun s => decide (s ∈ l)) := (List.perm_ext_iff_of_nodup h.nd ((allS_nodup ⟨n, by omega⟩).filter _)).mpr fun s => by
    rw [List.mem_filter]
    constructor
    · intro z; exact ⟨h.sub s z, decide_eq_true z⟩
    · intro z; exact of_decide_eq_true z.2
  have h2 := h1.length_eq
  have h3 := List.length_filter_le (fun s => decide (s ∈ l)) (allS n)
  have h4 := allS_len n
  have h5 : 2 ^ n ≤ 2 ^ 5 := Nat.pow_le_pow_right (by decide) hn
  omega
/-! words -/
end DL
namespace DL
open PySem L2
/-! all together -/
end DL
namespace DL
open PySem L2
end DL
namespace DL
open PySem L2
end DL
/-! enumerate over a tuple -/
namespace DL
open PySem L2
end DL
/-! sum(d.values()) of a dict whose keys are tuples -/
namespace DL
open PySem L2
section
variable {K : PySem.W.Frag} {r : List Val} {m : Mm} {Q : Val → Mm → Prop} {te : TE}
theorem KVs.ints {G : Hp} {α : Type} : ∀ {kvs : List (α × Val)} {es : List (α × V)} {ns : List Int}, KVs K G kvs es → kvs.map (·.2) = ns.map (fun n => Val.d (.int n)) → es.map (·.2) = ns.map V.int
  | [], es, ns, h, e => by
    have h : es = [] := h
    subst h
    cases ns with
    | nil => rfl
    | cons _ _ => simp at e
  | (k, x) :: t, es, ns, h, e => by
    obtain ⟨v, u, rfl, h2, h3⟩ := h
    cases ns with
    | nil => simp at e
    | cons n ns =>
      rw [List.map_cons, List.map_cons] at e
      injection e with e1 e2
      rw [List.map_cons, List.map_cons, KVs.ints h3 e2]
      have e1 : x = .d (.int n) := e1
      subst e1
      rw [show v = .int n from int_of h2]
end
end DL
/-! no kind twice -/
namespace DL
open PySem L2
theorem knI_inj {a b : List Nat} (h : kI (kn a) = kI (kn b)) : a = b := by
  have h := kI_inj h
  unfold kn at h
  exact (List.map_inj_right (fun x y e => by omega)).mp h
end DL
/-! dict(list of pairs) with tuples as keys -/
namespace DL
open PySem L2
abbrev Pr := Addr × List Key × Addr × V
def rDictPT (K : PySem.W.Frag) : List V → Hp → VK → Prop := fun xs H Q => ∃ (a : Addr) (ps : List Pr), xs = [.ref a] ∧ SqL K H a (ps.map fun p => V.ref p.1) ∧
  (∀ p ∈ ps, SqT K H p.1 [.ref p.2.2.1, p.2.2.2] ∧ H p.2.2.1 = some (.tup (p.2.1.map kV))) ∧ (ps.map (·.2.1)).Nodup ∧
  ∀ d, H d = none → Q (.ref d) (upd H d (.dT (ps.map fun p => (p.2.1, p.2.2.2))))
theorem prs_of {X : Cx} {pins : List (Addr × Obj)} {σ : L2.St} {H : Hp} {s : Shared} (I : Inv X pins σ H s) : ∀ (ps : List Pr), (∀ p ∈ ps, SqT X.K H p.1 [.ref p.2.2.1, p.2.2.2] ∧ H p.2.2.1 = some (.tup (p.2.1.map kV))) →
    ∃ qs : List (List Key × Addr × Value), KT H (ps.map fun p => (p.2.1, p.2.2.2)) qs ∧ qs.length = ps.length ∧ qs.map (·.1) = ps.map (·.2.1) ∧ ∀ (j : Nat) (q : List Key × Addr × Value), qs[j]? = some q → ∃ p, ps[j]? = some p ∧ s.heap.IsTuple p.1 #[.ref q.2.1, q.2.2]
  | [], _ => ⟨[], .nil, rfl, rfl, fun j q e => by simp at e⟩
  | p :: ps, h => by
    obtain ⟨qs, r, hl, hm, hq⟩ := prs_of I ps fun x hx => h x (List.mem_cons_of_mem _ hx)
    obtain ⟨h1, h2⟩ := h p List.mem_cons_self
    obtain ⟨its, rv, ht, _⟩ := I.tuple h1
    obtain ⟨u, y, ei, ru, ry⟩ := vals2 rv
    subst ei
    obtain rfl : u = .ref p.2.2.1 := ru
    refine ⟨(p.2.1, p.2.2.1, y) :: qs, .cons ⟨rfl, h2, ry⟩ r, by rw [List.length_cons, List.length_cons, hl], by rw [List.map_cons, List.map_cons, hm], fun j q e => ?_⟩
    cases j with
    | zero =>
      obtain rfl : (p.2.1, p.2.2.1, y) = q := Option.some.inj e
      exact ⟨p, rfl, ht⟩
    | succ j =>
      obtain ⟨p', e1, e2⟩ := hq j q (by simpa using e)
      exact ⟨p', by simpa using e1, e2⟩
theorem refs_eq : ∀ {ps : List Pr} {us : List Value}, Vals (ps.map fun p => V.ref p.1) us → us = ps.map fun p => Value.ref p.1
  | [], us, r => by
    rw [List.map_nil] at r
    cases r; rfl
  | p :: ps, us, r => by
    rw [List.map_cons] at r
    cases r with
    | cons h t =>
      cases h
      rw [List.map_cons, ← refs_eq t]
theorem cr_dictPT {X : Cx} (hc : X.calm = true) (hu : X.A.units + 2 < cLine) : CallR X (.type "dict") (rDictPT X.K) := by
  rintro pins s σ H xs us Q I r ⟨a, ps, rfl, hq, hp, hn, q⟩
  rw [Vals.ref1 r]
  obtain ⟨its, rv, pl, hz⟩ := I.list hq
  have ei := refs_eq rv
  rw [List.length_map] at hz
  obtain ⟨qs, rel, hl, hm, hpr⟩ := prs_of I ps hp
  obtain ⟨o, n, ho, hcl, hd, hdat⟩ := pl
  have keys : ∀ x ∈ qs, (tupleKind (mixKind X.prog X.w)).is s.heap x.1 x.2.1 ∧ x.2.1 < s.heap.objs.size := fun x hx => by
    have aux : ∀ {l : List (List Key × V)} {l2 : List (List Key × Addr × Value)}, KT H l l2 → ∀ x ∈ l2, H x.2.1 = some (.tup (x.1.map kV)) := fun z => by
      induction z with
      | nil => exact fun x hx => nomatch hx
      | cons h _ ih =>
        intro x hx
        rcases List.mem_cons.mp hx with rfl | hx
        · rw [← h.1]; exact h.2.1
        · exact ih x hx
    have z := key_of I.hok (aux rel x hx)
    refine ⟨z, ?_⟩
    obtain ⟨_, _, _, w, _⟩ := z
    exact Heap.lt_size w
  have items : PairItems s.heap its.toArray (fun j => ((ps.map (·.1)).getD j 0)) (qs.map fun x => (Value.ref x.2.1, x.2.2)) := by
    refine ⟨by rw [ei]; simp [hl], fun j k v e => ?_⟩
    rw [List.getElem?_map] at e
    obtain ⟨x, hx, ex⟩ := Option.map_eq_some_iff.mp e
    obtain ⟨p, e1, e2⟩ := hpr j x hx
    have eg : (ps.map (·.1)).getD j 0 = p.1 := by rw [List.getD_eq_getElem?_getD, List.getElem?_map, e1]; rfl
    injection ex with ek ev
    subst ek ev
    show _ = some (Value.ref ((ps.map (·.1)).getD j 0)) ∧ PairAt s.heap ((ps.map (·.1)).getD j 0) _ _
    rw [eg]
    exact ⟨by rw [ei]; simp [e1], Or.inl e2⟩
  have big : (s.heap.objs.size == sysModules) = false := beq_eq_false_iff_ne.mpr (Nat.ne_of_gt I.big)
  refine call_dict_pairsH (knd := tupleKind (mixKind X.prog X.w)) (ps := qs) (PairArg.list a its.toArray _ _) (I.ok.hd hc) (show X.A.in1.in1.units < cLine from ?_) ⟨⟨o, n, ho, hcl, hd, hdat⟩, items⟩ ⟨by rw [List.length_map], fun i key v e => ?_⟩ (fun h' hk x hx => ?_) (by rw [List.length_map, hl]; exact hz) fun h' tk D hk => ?_
  · show X.A.units + 1 + 1 < cLine
    omega
  · have e : (qs.map fun x => (Value.ref x.2.1, x.2.2))[i]? = some (key, v) := e
    rw [List.getElem?_map] at e
    obtain ⟨x, hx, ex⟩ := Option.map_eq_some_iff.mp e
    injection ex with ek ev
    exact ⟨x.1, x.2.1, by rw [hx, ← ev], ek.symm⟩
  · obtain ⟨⟨o', its', n', w1, w2⟩, lt⟩ := keys x hx
    exact ⟨o', its', n', hk _ _ (Nat.ne_of_lt lt) (fun z => nomatch z) w1, w2⟩
  · rw [storedAllH_nil_of_nodup qs (by rw [hm]; exact hn)] at D
    have hf : H s.heap.objs.size = none := I.hok.fresh (Nat.le_refl _)
    have stay : ∀ {l : List (List Key × V)} {l2 : List (List Key × Addr × Value)}, KT H l l2 → KT (upd H s.heap.objs.size (.dT (ps.map fun p => (p.2.1, p.2.2.2)))) l l2 := fun z => by
      induction z with
      | nil => exact .nil
      | cons h _ ih => exact .cons ⟨h.1, by rw [upd_ne (ne_of_none h.2.1 hf)]; exact h.2.1, h.2.2⟩ ih
    have ok : ObjOk X.prog X.w (upd H s.heap.objs.size (.dT (ps.map fun p => (p.2.1, p.2.2.2)))) h' s.heap.objs.size (.dT (ps.map fun p => (p.2.1, p.2.2.2))) := by
      obtain ⟨o1, es, ep, q1, q2, q3, q4, q5, q6⟩ := D
      exact ⟨by rw [List.length_map]; exact hz, big, qs, stay rel, o1, es, ep, q1, q2, q3, q4, q6⟩
    exact ⟨.ref s.heap.objs.size, _, I.laid (t' := tk) (fun b u e => hk b u (fun z => nomatch z) e) (Nat.le_refl _) ok, rfl, q _ hf⟩
end DL
/-! some kinds, the fewer ahead: told number by number -/
namespace DL
open PySem L2
def ordX (n : Nat) : List (List Nat) := (List.range (n + 1)).flatMap fun k => (allS n).filter fun s => decide (s.length = k)
end DL
/-! in which share of the cases just some kinds are left at some time -/
namespace DL
open PySem L2
/-! bounds -/
def InD (q : Rat) (D : Nat) : Prop := ∃ z : Int, q * ((D : Nat) : Rat) = (z : Rat)
theorem InD.add {p q : Rat} {D : Nat} (h : InD p D) (g : InD q D) : InD (p + q) D := by
  obtain ⟨x, hx⟩ := h
  obtain ⟨y, hy⟩ := g
  exact ⟨x + y, by rw [Rat.add_mul, hx, hy, Rat.intCast_add]⟩
theorem InD.int (z : Int) (D : Nat) : InD (z : Rat) D := ⟨z * D, by rw [Rat.intCast_mul, Rat.intCast_natCast]⟩
theorem InD.sum {α : Type} {f : α → Rat} {D : Nat} : ∀ {l : List α}, (∀ x ∈ l, InD (f x) D) → InD (l.map f).sum D
  | [], _ => by have := InD.int 0 D; simpa using this
  | x :: l, h => by
    rw [List.map_cons, List.sum_cons]
    exact (h x List.mem_cons_self).add (InD.sum fun y hy => h y (List.mem_cons_of_mem _ hy))
theorem InD.den {q : Rat} {D : Nat} (h : InD q D) (h0 : 0 < D) : q.den ≤ D := by
  obtain ⟨z, hz⟩ := h
  have e : q = mkRat z D := by
    have hn := nat_ne h0
    rw [Rat.mkRat_eq_div, ← hz]
    generalize ((D : Nat) : Rat) = E at *
    grind
  rw [e]
  exact den_mk_le z D h0
structure ChB (q : Rat) (D v : Nat) : Prop where
  nn : 0 ≤ q
  le : q ≤ (v : Rat)
  ind : InD q D
theorem ChB.frB {q : Rat} {D v d e : Nat} (h : ChB q D v) (h0 : 0 < D) (hD : D ≤ 2 ^ d) (hv : v < 2 ^ e) : FrB q (d + e + 1) :=
  QB.frB ⟨h.nn, h.le, Nat.le_trans (h.ind.den h0) hD⟩ hv
end DL
/-! how long until so many kinds have come: by who is left, forth and back -/
namespace DL
open PySem L2
def updQ (f : List Nat → Rat) (t : List Nat) (v : Rat) : List Nat → Rat := fun u => if u = t then v else f u
def tabQ (f : List Nat → Rat) (l : List (List Nat)) : List (List Int × Val) := l.map fun s => (kn s, Val.d (frac (f s)))
theorem tabT_dI (f : List Nat → Rat) (l : List (List Nat)) : tabT f l = dI (tabQ f l) := by
  unfold tabT dI tabQ
  rw [List.map_map]; rfl
/-! words -/
theorem putV_tabT {f : List Nat → Rat} {t : List Nat} {v : Rat} {l : List (List Nat)} (h : t ∈ l) : putV (tabT f l) (kI (kn t)) (.d (frac v)) = tabT (updQ f t v) l := by
  unfold putV
  rw [if_pos ?_]
  · unfold tabT
    rw [List.map_map]
    refine List.map_congr_left fun s _ => ?_
    show (if kI (kn s) = kI (kn t) then (kI (kn s), Val.d (frac v)) else (kI (kn s), .d (frac (f s)))) = (kI (kn s), Val.d (frac (updQ f t v s)))
    by_cases e : s = t
    · subst e; rw [if_pos rfl]; unfold updQ; rw [if_pos rfl]
    · rw [if_neg (fun z => e (knI_inj z))]; unfold updQ; rw [if_neg e]
  · rw [List.any_eq_true]
    exact ⟨_, List.mem_map.mpr ⟨t, h, rfl⟩, by simp⟩
section
variable {K : PySem.W.Frag} {r : List Val} {m : Mm} {Q : Val → Mm → Prop} {te tl ta tb : TE} {tt : TT}
/-- (k, x): k a tuple that the code made -/
theorem ev_tupP (h : Ev K ta r m fun x m1 => ∃ ns, x = .t ns ∧ Ev K tb r m1 fun y m2 => ∃ d, y = .d d ∧ Q (.p ns d) m2) : Ev K (tTup (tCons ta (tCons tb tNil))) r m Q := fun σ H G S L R k =>
  h σ H G S L _ fun v H1 G1 x m1 ⟨ns, hx, h1⟩ S1 e1 r1 => h1 σ H1 G1 S1 (L.mono e1) _ fun w H2 G2 y m2 ⟨d, hy, q⟩ S2 e2 r2 => by
    subst hx hy
    have r1 := r1.mono e2
    cases r1 with
    | t ht =>
      rename_i a
      refine ⟨by show 2 ≤ sizeLine; decide, fun p hp => ?_⟩
      have hg := S2.free hp
      have l := Le.new (o := .tup [.ref a, w]) hg
      exact k _ _ _ _ m2 q (S2.fix hp) (e1.trans (e2.trans l)) (.p upd_same (l _ _ ht) (Rp.mono l _ _ r2.rp))
theorem VRs.prs {G : Hp} : ∀ {kds : List (List Int × PyData)} {xs : List V}, VRs K G (kds.map fun kd => .p kd.1 kd.2) xs → ∃ ps : List Pr, xs = ps.map (fun p => V.ref p.1) ∧ ps.map (·.2.1) = kds.map (fun kd => kI kd.1) ∧
    (∀ p ∈ ps, G p.1 = some (.tup [.ref p.2.2.1, p.2.2.2]) ∧ G p.2.2.1 = some (.tup (p.2.1.map kV))) ∧ KVs K G (kds.map fun kd => (kI kd.1, Val.d kd.2)) (ps.map fun p => (p.2.1, p.2.2.2))
  | [], xs, h => by
    have h : xs = [] := h
    subst h
    exact ⟨[], rfl, rfl, fun _ hp => (nomatch hp), rfl⟩
  | kd :: t, xs, h => by
    obtain ⟨x, u, rfl, h1, h2⟩ := h
    obtain ⟨ps, rfl, e2, e3, e4⟩ := VRs.prs h2
    cases h1 with
    | p g1 g2 g3 =>
      rename_i a b w
      refine ⟨(a, kI kd.1, b, w) :: ps, rfl, by rw [List.map_cons, List.map_cons, e2], fun p hp => ?_, ⟨w, _, rfl, .d g3, e4⟩⟩
      rcases List.mem_cons.mp hp with rfl | hp
      · exact ⟨g1, by rw [kI_kV]; exact g2⟩
      · exact e3 p hp
theorem on_dictP {q : Addr} {kds : List (List Int × PyData)} (hm : m q = some (.lst (kds.map fun kd => .p kd.1 kd.2))) (hn : (kds.map (·.1)).Nodup)
    (k0 : ∀ d, m d = none → Q (.v (.ref d)) (put m d (.dT (kds.map fun kd => (kI kd.1, Val.d kd.2))))) : OpN K (rDictPT K) [.v (.ref q)] m Q := fun H G vs S a R k => by
  obtain ⟨v, rfl, rv⟩ := vrs1 a
  obtain rfl := rv.eq
  obtain ⟨xs, g1, g2⟩ := S.mem q _ hm
  obtain ⟨ps, rfl, e2, e3, e4⟩ := g2.prs
  refine ⟨q, ps, rfl, Or.inl (Rd.of g1), fun p hp => ?_, ?_, fun d hd => ?_⟩
  · obtain ⟨b1, b2⟩ := e3 p hp
    exact ⟨SqT.of (S.sub _ _ b1), S.sub _ _ b2⟩
  · rw [e2]
    have : (kds.map fun kd => kI kd.1) = (kds.map (·.1)).map kI := by rw [List.map_map]; rfl
    rw [this]
    exact hn.map _ fun x y ne e => ne (kI_inj e)
  · exact k _ _ G _ _ (k0 d (S.freeM hd)) (S.new hd ⟨_, upd_same, e4⟩) (Le.refl G) .v
end
theorem kDictP {X : Cx} {j : Nat} (K : PySem.W.Frag) (hr : Room j X.A) (hc : X.calm = true := by rfl) (h : X.K = K := by rfl) : CallR X (.type "dict") (rDictPT K) := h ▸ cr_dictPT hc (by have := hr.un; have := hr.dp; omega)
end DL
/-! code that runs while an exception is handled: comprehensions over a range, defs that are handed the exception -/
namespace DL
open PySem L2 PySem.Spec PyProof.Rows L2H
end DL
/-! defs that are handed the exception that is handled; isinstance of it -/
namespace DL
open PySem L2 PySem.Spec PyProof.Rows L2H
/-! at the level of data -/
end DL
/-! try .. except C as n, n a name that a comprehension of the suite reads (a cell); all that is raised is of C -/
namespace DL
open PySem L2 PySem.Spec PyProof.Rows L2H
end DL
/-! defs that may refuse, and the try that catches, at the level of data -/
namespace DL
open PySem L2 PySem.Spec PyProof.Rows L2H
def EvX (K : PySem.W.Frag) (G0 : Hp) (t : TE) (r : List Val) (m : Mm) (Q : Val → Mm → Prop) : Prop :=
  ∀ σ H G, Le G0 G → Sta K m H G → Sl K G r σ → ∀ R : VK, (∀ v H' G' x m', Q x m' → Sta K m' H' G' → Le G G' → VR K G' x v → R v H') → t σ H R
def Wx (K : PySem.W.Frag) (G0 : Hp) (t : TS) (r : List Val) (m : Mm) (N : List Val → Mm → Prop) (E : Val → Mm → Prop) : Prop :=
  ∀ σ H G (D : Ends), Le G0 G → Sta K m H G → Sl K G r σ → (∀ σ' H' G' r' m', N r' m' → Sta K m' H' G' → Le G G' → Sl K G' r' σ' → D.nx σ' H') →
    (∀ v H' G' x m', E x m' → Sta K m' H' G' → Le G G' → VR K G' x v → D.rt v H') → t D σ H
section
variable {K : PySem.W.Frag} {G0 : Hp} {r : List Val} {m : Mm} {Q : Val → Mm → Prop} {N : List Val → Mm → Prop} {E : Val → Mm → Prop} {t u : TS} {te ta tb : TE} {tt : TT} {W : L2.WX} {X : Addr → Mm → Prop}
theorem EvX.of (h : Ev K te r m Q) : EvX K G0 te r m Q := fun σ H G _ S L R k => h σ H G S L R k
theorem Wx.of (h : Wp K t r m N E) : Wx K G0 t r m N E := fun σ H G D _ S L a b => h σ H G D S L a b
end
end DL
/-! what is refused: words -/
namespace DL
open PySem L2 PySem.Spec PyProof.Rows L2H
section
variable {K : PySem.W.Frag} {r : List Val} {m : Mm} {Q : Val → Mm → Prop}
/-- {}, data -/
theorem ev_dnewD (q : Q (.d (.dict [])) m) : Ev K tDNewT r m Q := fun σ H G S L R k p hp =>
  k _ _ _ _ m q (S.fix hp) (Le.new (S.free hp)) (.d (by rw [Rp]; exact ⟨p, rfl, Or.inl ⟨[], upd_same, by rw [RpT]⟩⟩))
end
/-! the cases of the small words -/
/-! slices -/
end DL
/-! a def that refuses, called where it answers; a def that answers here and refuses there -/
namespace DL
open PySem L2 PySem.Spec PyProof.Rows L2H
end DL
/-! orders; what the laws on refusals ask -/
namespace DL
open PySem L2 PySem.Spec PyProof.Rows L2H
theorem eqvAll_ints : ∀ a b : List Int, PyData.eqvAll (a.map PyData.int) (b.map PyData.int) = decide (a = b)
  | [], [] => by simp [PyData.eqvAll]
  | x :: a, [] => by simp [PyData.eqvAll]
  | [], y :: b => by simp [PyData.eqvAll]
  | x :: a, y :: b => by
    rw [List.map_cons, List.map_cons]
    simp only [PyData.eqvAll, PyData.eqv, eqvAll_ints a b]
    by_cases h : x = y <;> by_cases h2 : a = b <;> simp [h, h2]
end DL
/-! chances of orders; for a, b in a list of pairs -/
namespace DL
open PySem L2 PySem.Spec PyProof.Rows L2H
section
variable {P : Program} {w : World} {K : PySem.W.Frag} {mg : Str → Option Value} {base : Heap}
theorem Cl.imp {k : Nat} {x : Str} {f g : FSp} (c : Cl P w K mg base k x f) (h : ∀ args m R, g args m R → f args m R) : Cl P w K mg base k x g := by
  obtain ⟨a, fd, ps, F, hm, hk, hb⟩ := c.ex
  exact ⟨a, fd, ps, F.imp fun vs H Q E ⟨m, G, args, R, S, r, hf, k⟩ => ⟨m, G, args, R, S, r, h _ _ _ hf, k⟩, hm, hk, hb⟩
end
/-! what an order's kinds have -/
end DL
/-! repr of data with dicts (and no lists) -/
namespace DL
open PySem L2 PySem.Spec PyProof.Rows L2H
mutual
def noL : PyData → Bool
  | .list _ => false
  | .tuple ds => noLAll ds
  | .dict kvs => noLV kvs
  | .none => true
  | .bool _ => true
  | .int _ => true
  | .str _ => true
def noLAll : List PyData → Bool
  | [] => true
  | d :: ds => noL d && noLAll ds
def noLV : List (PyData × PyData) → Bool
  | [] => true
  | (_, d) :: r => noL d && noLV r
end
section
variable {X : Cx} {pins : List (Addr × Obj)} {σ : L2.St} {H : Hp} {s : Shared}
theorem key_reads {h : Heap} : ∀ {k : Key} {u : Value}, RelV (kV k) u → Reads h u (keyD k) []
  | .inl i, u, r => by
    obtain ⟨t, rfl⟩ := r
    exact Reads.int i t
  | .inr x, u, r => by
    obtain ⟨t, rfl⟩ := r
    exact Reads.str x t
theorem keys_reads {h : Heap} : ∀ {ks : List Key} {us : List Value}, Vals (ks.map kV) us → ReadsAll h us (ks.map keyD) []
  | [], us, r => by cases r; exact ReadsAll.nil
  | k :: ks, us, r => by
    cases r with
    | cons r1 r2 => exact ReadsAll.cons (as := []) (bs := []) (key_reads r1) (keys_reads r2)
theorem tup_reads (I : Inv X pins σ H s) {b : Addr} {ks : List Key} (h : H b = some (.tup (ks.map kV))) : Reads s.heap (.ref b) (.tuple (ks.map keyD)) [] := by
  obtain ⟨its, rv, ⟨o, ho, hc, n, hd⟩, _⟩ := I.tuple (SqT.of h)
  exact Reads.tuple ho hc hd (keys_reads rv)
end
end DL
/-! taking items out of a list; a list mixed up -/
namespace DL
open PySem L2 PySem.Spec PyProof.Rows L2H
theorem VRs.erase {K : PySem.W.Frag} {G : Hp} : ∀ {rs : List Val} {xs : List V} (i : Nat), VRs K G rs xs → VRs K G (rs.eraseIdx i) (xs.eraseIdx i)
  | [], xs, i, h => by
    have h : xs = [] := h
    subst h
    exact rfl
  | r :: rs, xs, 0, h => by
    obtain ⟨v, t, rfl, h1, h2⟩ := h
    exact h2
  | r :: rs, xs, i + 1, h => by
    obtain ⟨v, t, rfl, h1, h2⟩ := h
    exact ⟨v, _, rfl, h1, VRs.erase i h2⟩
end DL
/-! what are no orders; what may be shown -/
namespace DL
open PySem L2 PySem.Spec PyProof.Rows L2H
/-! shown, with or without dicts -/
def ShD (d : PyData) (k n : Nat) : Prop := noL d = true ∧ d.depth ≤ k ∧ d.showable = true ∧ d.shown.length ≤ n
def ShOk (x : PyData) : Prop := (∃ k n, Sh x k n ∧ k ≤ 64 ∧ n ≤ 16777216) ∨ ((∃ ds, x = .tuple ds) ∨ ∃ kvs, x = .dict kvs) ∧ ShD x 64 16777216
end DL
/-! [e for i, x in enumerate(a tuple)] -/
namespace DL
open PySem L2 PySem.Spec PyProof.Rows L2H
theorem wipe2 (σ : L2.St) {i j : Nat} (h : i ≠ j) (x y : V) : wipe (((wipe σ [i, j]).set i (some x)).set j (some y)) [i, j] = wipe σ [i, j] := by
  show ((((((σ.set j none).set i none).set i (some x)).set j (some y)).set j none).set i none) = (σ.set j none).set i none
  rw [List.set_set, List.set_set, List.set_comm _ _ (Ne.symm h), List.set_set, List.set_comm _ _ (Ne.symm h), List.set_set]
theorem sl_in2 {K : PySem.W.Frag} {r : List Val} {G : Hp} {σ : L2.St} {i j : Nat} {d e : PyData} {x y : V} (hij : i ≠ j) (L : Sl K G r σ) {G' : Hp} (l : Le G G') (h1 : Rp K G' d x) (h2 : Rp K G' e y) : Sl K G' ((r.set i (.d d)).set j (.d e)) (((wipe σ [i, j]).set i (some x)).set j (some y)) := by
  have := ((L.mono l).set (r := .d d) (.d h1) i).set (r := .d e) (.d h2) j
  have e : ((((σ.set j none).set i none).set i (some x)).set j (some y)) = (σ.set i (some x)).set j (some y) := by
    rw [List.set_set, List.set_comm _ _ hij, List.set_set, List.set_comm _ _ (Ne.symm hij)]
  show Sl K G' _ ((((σ.set j none).set i none).set i (some x)).set j (some y))
  rw [e]
  exact this
section
variable {K : PySem.W.Frag} {r : List Val} {m : Mm} {Q : Val → Mm → Prop} {te : TE}
theorem LcW.fix {G : Hp} {D T : Addr} {W : Nat → List PyData → Prop} {i : Nat} {H' : Hp} {o : HO} (h : LcW K m G D W i H') (hT : H' T = none) : ∃ G', Le G G' ∧ LcW K m (upd G' T o) D W i (upd H' T o) ∧ Le G (upd G' T o) := by
  obtain ⟨G', acc, hw, hl, S, e⟩ := h
  have hn := Le.new (o := o) (S.free hT)
  exact ⟨G', e, ⟨upd G' T o, acc, hw, hl, S.fix hT, Le.refl _⟩, e.trans hn⟩
end
end DL
/-! evened, named -/
namespace DL
open PySem L2 PySem.Spec PyProof.Rows L2H
section
variable {K : PySem.W.Frag} {r : List Val} {m : Mm} {Q : Val → Mm → Prop} {te : TE}
theorem TAll.tail {G : Hp} : ∀ {nss : List (List Int)} {xs : List V}, TAll G nss xs → TAll G (nss.drop 1) (xs.drop 1)
  | [], xs, h => by
    have h : xs = [] := h
    subst h
    exact rfl
  | ns :: nss, xs, h => by
    obtain ⟨b, t, rfl, _, h3⟩ := h
    exact h3
end
end DL
/-! orders, and the chances by who is left -/
namespace DL
open PySem L2 PySem.Spec PyProof.Rows L2H
end DL
/-! all orders -/
namespace DL
open PySem L2 PySem.Spec PyProof.Rows L2H
end DL
/-! whole orders: what comes to one, what rises -/
namespace DL
open PySem L2
/-! some kind twice -/
/-! the sums so far -/
end DL
/-! the mean until all have come, over a list of shares: by parts that alternate -/
namespace DL
open PySem L2
def PosL (l : List Rat) : Prop := ∀ x ∈ l, 0 < x
theorem PosL.tail {x : Rat} {l : List Rat} (h : PosL (x :: l)) : PosL l := fun y hy => h y (List.mem_cons_of_mem _ hy)
theorem PosL.head {x : Rat} {l : List Rat} (h : PosL (x :: l)) : 0 < x := h x List.mem_cons_self
/-! the paper's number is this one -/
end DL
/-! kinds bought or drawn -/
namespace DL
open PySem L2
section
variable {K : PySem.W.Frag} {r : List Val} {m : Mm} {Q : Val → Mm → Prop} {te tl : TE} {tt : TT}
theorem on_lenDT {p : Addr} {kvs : List (List Key × Val)} (hm : m p = some (.dT kvs)) (q : Q (.d (.int (kvs.length : Int))) m) : OpN K rLenT [.v (.ref p)] m Q := fun H G vs S a R k => by
  obtain ⟨v, rfl, h⟩ := vrs1 a
  have h := h.eq
  subst h
  obtain ⟨es, h1, h2⟩ := S.mem p _ hm
  refine ⟨p, es, rfl, h1, ?_⟩
  rw [h2.len]
  exact k _ H G _ m q S (Le.refl G) vr_int
theorem on_lenLt {nss : List (List Int)} (q : Q (.d (.int (nss.length : Int))) m) : OpN K (rLen K) [.lt nss] m Q := fun H G vs S a R k => by
  obtain ⟨v, rfl, h⟩ := vrs1 a
  cases h with
  | lt h1 h2 =>
    refine Or.inl ⟨_, _, rfl, Or.inl (Or.inl (Le.rd S.sub h1)), ?_⟩
    rw [h2.len]
    exact k _ H G _ m q S (Le.refl G) vr_int
theorem on_isiDT {p : Addr} {kvs : List (List Key × Val)} (hm : m p = some (.dT kvs)) (q : Q (.d (.bool true)) m) : OpN K (rIsi K) [.v (.ref p), .v (.ty "dict")] m Q := fun H G vs S a R k => by
  obtain ⟨v, w, rfl, h1, h2⟩ := vrs2 a
  rw [h2.eq, h1.eq]
  obtain ⟨es, g1, g2⟩ := S.mem p _ hm
  exact ⟨.ref p, .ty "dict", _, _, true, rfl, .ty "dict", .base (.dT g1), kit_ty (a := "dict") (by decide +kernel), k _ H G _ m q S (Le.refl G) vr_bool⟩
/-- [e for k in ..], any items, by what holds of them -/
theorem ev_lcLtW {j : Nat} {nss : List (List Int)} (h : Ev K tl r m fun x m1 => x = .lt nss ∧ m1 = m) (hn : nss.length ≤ 100000) (W : Nat → List Val → Prop) (h0 : W 0 [])
    (hs : ∀ (i : Nat) (ns : List Int) m' acc, nss[i]? = some ns → Ext m m' → W i acc → Ev K te (r.set j (.t ns)) m' fun x m3 => m3 = m' ∧ W (i + 1) (acc ++ [x]))
    (q : ∀ D acc, m D = none → W nss.length acc → Q (.v (.ref D)) (put m D (.lst acc))) : Ev K (tLc (iList K tl) (gName j) tYes te [j]) r m Q := fun σ H G S L R k =>
  h σ H G S L _ fun v H1 G1 x m1 ⟨hx, hm⟩ S1 e1 r1 => by
    subst hx hm
    cases r1 with
    | lt h1 h2 =>
      rename_i a xs
      have hq : SqL K G1 a xs := Or.inl h1
      refine ⟨a, rfl, ⟨xs, S1.sqL hq⟩, fun D hD => ?_⟩
      have hmD := S1.freeM hD
      have hlen := h2.len
      refine lc_it (walk_list (xs := xs)) (LcV K m1 G1 D W) (lcv_start S1 hD h0) ?_ ?_ ?_
      · rintro i H' hi ⟨G', acc, _, _, S', e'⟩
        exact S'.sqL (e'.sqL hq)
      · rintro i y H' H2 hi hP ⟨rfl, hy⟩
        obtain ⟨ns, b, hns, rfl, hb⟩ := h2.at hy
        refine ⟨wipe1 σ j _, ?_⟩
        refine lcv_turn (r' := r.set j (.t ns)) hmD (by omega) (fun G' e' => ?_) (fun m' acc hx hw => ?_) hP
        · have := (L.mono (e1.trans e')).set (r := .t ns) (.t (e' _ _ hb)) j
          show Sl K _ (r.set j (.t ns)) ((σ.set j none).set j (some (.ref b)))
          rw [List.set_set]
          exact this
        · exact evt_yes ⟨rfl, fun _ => hs i ns m' acc hns hx hw, fun z => nomatch z⟩
      · intro H' hP
        rw [hlen] at hP
        obtain ⟨G', acc, hw, hl, S', e'⟩ := hP
        exact k _ H' G' _ _ (q D acc hmD hw) S' (e1.trans e') .v
theorem TAll.drop {G : Hp} : ∀ {nss : List (List Int)} {xs : List V} (n : Nat), TAll G nss xs → TAll G (nss.drop n) (xs.drop n)
  | nss, xs, 0, h => h
  | [], xs, n + 1, h => by
    have h : xs = [] := h
    subst h; exact rfl
  | ns :: r, xs, n + 1, h => by
    obtain ⟨b, t, rfl, h2, h3⟩ := h
    exact TAll.drop n h3
/-- l[a:] of a list of tuples -/
theorem ev_slLt {tl th : TO} (h : Ev K te r m fun x m1 => ∃ nss, x = .lt nss ∧ EvO K tl r m1 fun lo m2 => EvO K th r m2 fun hi m3 => ∃ a : Nat, lo = some (a : Int) ∧ hi = none ∧ Q (.lt (nss.drop a)) m3) : Ev K (tSl (rSlL K) te tl th) r m Q := fun σ H G S L R k =>
  h σ H G S L _ fun v H1 G1 x m1 ⟨nss, hx, h1⟩ S1 e1 r1 => h1 σ H1 G1 S1 (L.mono e1) _ fun H2 G2 lo m2 h2 S2 e2 => h2 σ H2 G2 S2 (L.mono (e1.trans e2)) _ fun H3 G3 hi m3 ⟨a, ha, hb, q⟩ S3 e3 => by
    subst hx ha hb
    have r3 := r1.mono (e2.trans e3)
    cases r3 with
    | lt g1 g2 =>
      rename_i b xs
      refine ⟨b, xs, rfl, Or.inl (Le.rd S3.sub g1), fun l hl => ?_⟩
      have hg := S3.free hl
      have e : cutV xs (some (a : Int)) none = xs.drop a := by
        unfold cutV
        rw [HT.sIx_none, HT.sIx_nat]
        by_cases ha : a ≤ xs.length
        · rw [Nat.min_eq_left ha, List.take_of_length_le (by rw [List.length_drop]; exact Nat.le_refl _)]
        · rw [Nat.min_eq_right (by omega), Nat.sub_self, List.take_zero, List.drop_of_length_le (by omega)]
      rw [e]
      exact k _ _ (upd G3 l (.lst (xs.drop a))) _ m3 q (S3.fix hl) (e1.trans (e2.trans (e3.trans (Le.new hg)))) (.lt (Rd.of upd_same) ((g2.drop a).mono (Le.new hg)))
end
/-! some kinds but none, the fewer ahead -/
def rsX (n : Nat) : List (List Nat) := (ordX n).filter noNil
/-! numbers by who is left, one told by the others -/
/-! bounds -/
def PB (ss : List Int) (P : List Nat → Rat) : Prop := ∀ s, Kinds ss.length s → QB (P s) (dB s.length) (99 * s.length)
theorem accG {ss : List Int} (hs : Shares ss) {P : List Nat → Rat} {s : List Nat} {d n : Nat} (hP : ∀ k ∈ s, QB (P (s.filter fun x => !decide (x = k))) d (99 * n)) : ∀ l : List Nat, (∀ k ∈ l, k ∈ s) → QB (dueAcc ss P s l) (l.length * d) (45 + 99 * n * (sumP ss l).toNat) := by
  intro l
  have hsum := shares_sum hs
  have gen : ∀ (l : List Nat) (a : Rat) (c v : Nat), QB a c v → (∀ k ∈ l, k ∈ s) → QB (l.foldl (fun acc k => acc + ((ss.getD k 0 : Int) : Rat) * P (s.filter fun x => !decide (x = k))) a) (c + l.length * d) (v + 99 * n * (sumP ss l).toNat) := by
    intro l
    induction l with
    | nil =>
      intro a c v h _
      exact h.mono (by simp) (by simp)
    | cons k t ih =>
      intro a c v h hl
      rw [List.foldl_cons]
      have hb := getD_bounds hs k
      have e1 : ss.getD k 0 = (((ss.getD k 0).toNat : Nat) : Int) := by omega
      have h1 := (hP k (hl k (List.mem_cons_self ..))).mulN (ss.getD k 0).toNat
      rw [← e1] at h1
      have h2 := ih _ _ _ (h.add h1) fun x hx => hl x (List.mem_cons_of_mem _ hx)
      refine h2.mono ?_ ?_
      · rw [List.length_cons, Nat.succ_mul]; omega
      · have e2 : (sumP ss (k :: t)).toNat = (ss.getD k 0).toNat + (sumP ss t).toNat := by
          have := sumP_nonneg hs t
          rw [sumP_cons]; omega
        rw [e2, Nat.mul_add]
        have e3 : (ss.getD k 0).toNat * (99 * n) = 99 * n * (ss.getD k 0).toNat := Nat.mul_comm _ _
        omega
  intro hl
  have e : ss.sum = ((ss.sum.toNat : Nat) : Int) := by omega
  have h0 : QB ((ss.sum : Int) : Rat) 0 45 := by
    rw [e]
    exact (QB.nat _).mono (Nat.le_refl _) (by omega)
  exact (gen l _ 0 45 h0 hl).mono (by omega) (Nat.le_refl _)
theorem PB.sub {ss : List Int} {P : List Nat → Rat} (h : PB ss P) {s : List Nat} (hk : Kinds ss.length s) {n : Nat} (hl : s.length = n + 1) : ∀ k ∈ s, QB (P (s.filter fun x => !decide (x = k))) (dB n) (99 * n) := fun k hks => by
  have := h _ (kinds_without hk k)
  have hw := without_len hk.up hks
  rw [show (s.filter fun x => !decide (x = k)).length = n by omega] at this
  exact this
theorem PB.due {ss : List Int} (hs : Shares ss) {P : List Nat → Rat} (h : PB ss P) {s : List Nat} (hk : Kinds ss.length s) (h0 : s ≠ []) : QB (dueT ss P s) (dB s.length) (99 * s.length) := by
  cases hn : s.length with
  | zero => exact absurd (List.length_eq_zero_iff.mp hn) h0
  | succ n =>
    have h1 := accG hs (h.sub hk hn) s (fun _ h => h)
    have hp := sumP_pos hs h0 hk.lt
    have hle := sumP_le hs hk
    unfold dueT
    refine (h1.over (n := (sumP ss s).toNat) (e := 6) (w := 99 * (n + 1)) (by omega) (by show _ ≤ 64; omega) ?_).mono (by rw [hn]; exact Nat.le_refl _) (Nat.le_refl _)
    generalize hS : (sumP ss s).toNat = S
    have : 1 ≤ S := by omega
    rw [Nat.mul_add, Nat.add_mul, Nat.mul_one]
    have : 99 ≤ 99 * S := by omega
    omega
theorem PB.fr {ss : List Int} (hs : Shares ss) {P : List Nat → Rat} (h : PB ss P) {s : List Nat} (hk : Kinds ss.length s) : FrB (P s) 1300 := by
  have h1 := hk.len
  have h2 := hs.few
  have h3 := dB_le (n := s.length) (by omega)
  exact ((h s hk).frB (e := 10) (by show _ < 1024; omega)).mono (by omega)
theorem PB.accFr {ss : List Int} (hs : Shares ss) {P : List Nat → Rat} (h : PB ss P) {s : List Nat} (hk : Kinds ss.length s) (i : Nat) : FrB (dueAcc ss P s (s.take i)) 1300 := by
  have h1 := hk.len
  have h2 := hs.few
  cases hn : s.length with
  | zero =>
    have : s = [] := List.length_eq_zero_iff.mp hn
    subst this
    have := shares_sum hs
    have e : ss.sum = ((ss.sum.toNat : Nat) : Int) := by omega
    have : dueAcc ss P [] (List.take i []) = ((ss.sum : Int) : Rat) := by simp [dueAcc]
    rw [this, e]
    exact ((QB.nat ss.sum.toNat).frB (e := 10) (by show _ < 1024; omega)).mono (by decide)
  | succ n =>
    have hb := accG hs (h.sub hk hn) (s.take i) fun k hk => List.mem_of_mem_take hk
    have hl : (s.take i).length ≤ n + 1 := by rw [List.length_take]; omega
    have hsl : sumP ss (s.take i) ≤ 45 := by
      have := sumP_le9 hs (s.take i)
      omega
    have hd : (s.take i).length * dB n + 6 ≤ dB (n + 1) := by
      show _ ≤ (n + 1) * dB n + 6
      exact Nat.add_le_add_right (Nat.mul_le_mul_right _ hl) 6
    have hd2 := dB_le (n := n + 1) (by omega)
    have hv : 45 + 99 * n * (sumP ss (s.take i)).toNat ≤ 45 + 99 * 4 * 45 := by
      refine Nat.add_le_add_left (Nat.mul_le_mul (Nat.mul_le_mul_left _ (by omega)) (by omega)) _
    exact (hb.frB (e := 15) (by show _ < 32768; omega)).mono (by omega)
/-! the laws of costs -/
/-! words -/
end DL
/-! k13: cases, what lacks and means, in another order and each so many times -/
namespace DL
open PySem L2
/-! what comes of a list, n draws, with a beside -/
/-! each so many times -/
/-! the program's numbers -/
end DL
/-! sorted(d.items()), d with tuples for keys -/
namespace DL
open PySem L2 PySem.Spec PyProof.Rows
/-! everything that is known and may not change -/
section
variable {K : PySem.W.Frag} {m : Mm} {H G : Hp}
theorem Sta.all (S : Sta K m H G) : Sta K m H (fun a => if m a = none then H a else none) ∧ Le G (fun a => if m a = none then H a else none) := by
  have hle : Le G (fun a => if m a = none then H a else none) := fun a o h => by
    have hm : m a = none := by
      cases e : m a with
      | none => rfl
      | some u => rw [S.dis a u e] at h; cases h
    show (if m a = none then H a else none) = some o
    rw [if_pos hm]; exact S.sub a o h
  refine ⟨⟨fun a o h => ?_, fun a o h => (S.mem a o h).mono hle rfl, fun a o h => ?_⟩, hle⟩
  · have h : (if m a = none then H a else none) = some o := h
    by_cases hm : m a = none
    · rw [if_pos hm] at h; exact h
    · rw [if_neg hm] at h; cases h
  · show (if m a = none then H a else none) = none
    rw [if_neg (by rw [h]; exact fun z => nomatch z)]
theorem Sta.notTup {q : Addr} {xs : List V} (S : Sta K m H G) (h : H q = some (.tup xs)) : m q = none := by
  cases e : m q with
  | none => rfl
  | some o =>
    have := S.mem q o e
    cases o with
    | lst rs => obtain ⟨ys, h1, _⟩ := this; rw [h] at h1; cases h1
    | dT kvs => obtain ⟨ys, h1, _⟩ := this; rw [h] at h1; cases h1
    | dK kvs => obtain ⟨ys, h1, _⟩ := this; rw [h] at h1; cases h1
    | lk od es kvs => have h1 := this.1; rw [h] at h1; cases h1
    | box => obtain ⟨n, h1⟩ := this; rw [h] at h1; cases h1
    | g P => exact absurd h (this.2.2.2 xs)
theorem Le.at {G G' : Hp} (h : Le G G') {a : Addr} {o : HO} (e : G a = some o) : G' a = some o := h a o e
variable {r : List Val} {Q : Val → Mm → Prop} {te : TE}
end
/-! in whatever order they were put in -/
theorem alike_keys (x y : List Int) : PySem.W.alike (tupI x) (tupI y) = true := by
  unfold tupI
  simp only [PySem.W.alike]
  exact PySem.W.alike_ints x y
/-! d.clear() -/
/-! the numbers of a paper, as pairs -/
end DL
/-! k01: shares and fractions known among all sorts of things -/
namespace DL
open PySem L2 PySem.Spec PyProof.Rows
/-! == of lists of unlike length -/
section
variable {K : PySem.W.Frag} {r : List Val} {m : Mm} {Q : Val → Mm → Prop}
/-- {'a': 1} -/
theorem ev_dispS {k : Str} {i : Int} (q : Q (.d (.dict [(.str k, .int i)])) m) : Ev K (tDisp [(tC (.str k), tC (.int i))]) r m Q := fun σ H G S L R kk p hp => by
  have hg := S.free hp
  refine ⟨upd_same, [(.inr k, .int i)], rfl, by show 1 ≤ 15; decide, ?_⟩
  rw [upd_upd]
  refine kk _ _ (upd G p (.dK [(.inr k, .int i)])) _ m q (S.fix hp) (Le.new hg) (.d ?_)
  rw [Rp]
  refine ⟨p, rfl, Or.inr ⟨_, upd_same, ?_⟩⟩
  rw [RpK]
  refine ⟨.inr k, .int i, [], rfl, rfl, by rw [Rp], ?_⟩
  rw [RpK]
end
/-! what may be shown -/
def secSm' : List PyData → Bool
  | [.int _, .int b] => decide (b.natAbs < 2 ^ 110)
  | _ => true
def TOk (x : PyData) : Prop := ShOk x ∧ szFrac x
theorem sz_second {ds : List PyData} (h : secSm' ds = true) : szFrac (.tuple ds) := by
  match ds, h with
  | [.int _, .int b], h => exact Bt.mono (a := 110) (show b.natAbs < 2 ^ 110 from of_decide_eq_true h) (by decide)
  | [], _ => simp [szFrac]
  | [_], _ => simp [szFrac]
  | [.none, _], _ => simp [szFrac]
  | [.bool _, _], _ => simp [szFrac]
  | [.str _, _], _ => simp [szFrac]
  | [.list _, _], _ => simp [szFrac]
  | [.tuple _, _], _ => simp [szFrac]
  | [.dict _, _], _ => simp [szFrac]
  | [.int _, .none], _ => simp [szFrac]
  | [.int _, .bool _], _ => simp [szFrac]
  | [.int _, .str _], _ => simp [szFrac]
  | [.int _, .list _], _ => simp [szFrac]
  | [.int _, .tuple _], _ => simp [szFrac]
  | [.int _, .dict _], _ => simp [szFrac]
  | _ :: _ :: _ :: _, _ => simp [szFrac]
def oddA : List PyData := [.none, .bool true, .bool false, .int (-1), .int 0, .int 1, .str "", .str "1", .tuple [], .list [], .tuple [.int 0], .list [.int 1], .tuple [.int 0, .int 1], .dict [(.str "a", .int 1)], .dict [], .int ((10 : Int) ^ 29), .tuple [.int 1, .int 2], .tuple [.int 2, .int 4]]
def oddB : List PyData := [.tuple [.tuple [.int 1, .int 2]], .tuple [.int 1, .int 0], .tuple [.int 3, .int (-1)], .tuple [.bool true, .int 1], .tuple [.int 1, .int 2, .int 3], .tuple [.list [.int 1]]]
def oddL : List PyData := oddA ++ oddB
def tupDict : PyData → Bool
  | .tuple _ => true
  | .dict _ => true
  | _ => false
def intSm : PyData → Bool
  | .int i => decide (i.natAbs < 2 ^ 110)
  | _ => true
def secSm : PyData → Bool
  | .tuple ds => secSm' ds
  | _ => true
theorem odd_chk : ∀ o ∈ oddL, ((!o.hasDict || (noL o && tupDict o)) && (decide (o.depth ≤ 3) && (o.showable && (decide (o.shown.length ≤ 100) && (intSm o && secSm o))))) = true := by decide +kernel
theorem odd_facts {o : PyData} (h : o ∈ oddL) : (Sh o 3 2000 ∨ ShD o 3 2000) ∧ TOk o ∧ ∀ i, o = .int i → Bt i 110 := by
  have := odd_chk o h
  simp only [Bool.and_eq_true, Bool.or_eq_true, decide_eq_true_eq, Bool.not_eq_true'] at this
  obtain ⟨h1, h2, h3, h4, h5, h6⟩ := this
  have hsz : szFrac o := by
    match o, h6 with
    | .tuple ds, h6 =>
      refine sz_second ?_
      exact h6
    | .none, _ => simp [szFrac]
    | .bool _, _ => simp [szFrac]
    | .int _, _ => simp [szFrac]
    | .str _, _ => simp [szFrac]
    | .list _, _ => simp [szFrac]
    | .dict _, _ => simp [szFrac]
  refine ⟨?_, ⟨?_, hsz⟩, fun i e => ?_⟩
  · rcases h1 with h1 | ⟨h1, _⟩
    · exact Or.inl ⟨h1, h2, h3, Nat.le_trans h4 (by decide)⟩
    · exact Or.inr ⟨h1, h2, h3, Nat.le_trans h4 (by decide)⟩
  · rcases h1 with h1 | ⟨h1, h0⟩
    · exact Or.inl ⟨3, 100, ⟨h1, h2, h3, h4⟩, by decide, by decide⟩
    · refine Or.inr ⟨?_, h1, Nat.le_trans h2 (by decide), h3, Nat.le_trans h4 (by decide)⟩
      match o, h0 with
      | .tuple ds, _ => exact Or.inl ⟨ds, rfl⟩
      | .dict kvs, _ => exact Or.inr ⟨kvs, rfl⟩
  · subst e
    have h5 : i.natAbs < 2 ^ 110 := by simpa [intSm] using h5
    exact h5
def f_odd : FSp := fun args m R => ∃ p : Addr, args = [.v (.ref p)] ∧ m p = some .box ∧ ∀ o ∈ oddL, R (.d o) m
end DL
/-! so many of each: defs that call themselves, needs, the mean by what is still needed -/
namespace DL
open PySem L2
/-! slices of tuples of ints -/
/-! needs -/
structure NeedV (n : Nat) (v : List Nat) : Prop where
  len : v.length = n
  few : ∀ x ∈ v, x ≤ 3
def lessV (v : List Nat) (k : Nat) : List Nat := v.take k ++ [v.getD k 0 - 1] ++ v.drop (k + 1)
theorem lessV_set {v : List Nat} {k : Nat} (h : k < v.length) : lessV v k = v.set k (v.getD k 0 - 1) := by
  unfold lessV
  rw [List.set_eq_take_append_cons_drop, if_pos h, List.append_assoc]; rfl
theorem NeedV.less {n : Nat} {v : List Nat} (h : NeedV n v) {k : Nat} (hk : k < n) : NeedV n (lessV v k) := by
  have hk : k < v.length := by rw [h.len]; exact hk
  rw [lessV_set hk]
  refine ⟨by rw [List.length_set]; exact h.len, fun x hx => ?_⟩
  rcases List.mem_or_eq_of_mem_set hx with hx | hx
  · exact h.few x hx
  · have : v.getD k 0 ≤ 3 := by
      rw [List.getD_eq_getElem?_getD, List.getElem?_eq_getElem hk]
      exact h.few _ (List.getElem_mem hk)
    omega
/-! the mean by what is still needed -/
/-! bounds -/
theorem allS_filter : ∀ (n : Nat) (p : Nat → Bool), (List.range n).filter p ∈ allS n
  | 0, p => by simp [allS]
  | n + 1, p => by
    have ih := allS_filter n p
    rw [List.range_succ, List.filter_append]
    unfold allS
    by_cases h : p n = true
    · simp [h, ih]
    · simp [h, ih]
/-! what is known -/
structure TabN (n : Nat) (l : List (List Nat)) : Prop where
  nd : l.Nodup
  nv : ∀ v ∈ l, NeedV n v
  zero : List.replicate n 0 ∈ l
theorem nd_len {α : Type} [BEq α] [LawfulBEq α] : ∀ {l r : List α}, l.Nodup → (∀ x ∈ l, x ∈ r) → l.length ≤ r.length
  | [], r, _, _ => Nat.zero_le _
  | x :: l, r, hn, hs => by
    obtain ⟨h1, h2⟩ := List.nodup_cons.mp hn
    have := nd_len (r := r.erase x) h2 fun y hy => (List.mem_erase_of_ne (fun (e : y = x) => h1 (by rw [← e]; exact hy))).mpr (hs y (List.mem_cons_of_mem _ hy))
    have hx := hs x List.mem_cons_self
    have e := List.length_erase_of_mem hx
    have := List.length_pos_of_mem hx
    rw [List.length_cons]
    omega
def allN : Nat → List (List Nat)
  | 0 => [[]]
  | n + 1 => (allN n).flatMap fun v => (List.range 4).map fun x => x :: v
theorem allN_len : ∀ n, (allN n).length = 4 ^ n
  | 0 => rfl
  | n + 1 => by
    have ih := allN_len n
    unfold allN
    rw [Nat.pow_succ, ← ih]
    generalize allN n = l
    induction l with
    | nil => rfl
    | cons a t ih => rw [List.flatMap_cons, List.length_append, ih, List.length_cons, List.length_map, List.length_range]; omega
theorem need_mem : ∀ {n : Nat} {v : List Nat}, NeedV n v → v ∈ allN n
  | 0, [], _ => List.mem_singleton.mpr rfl
  | 0, x :: v, h => by have := h.len; simp at this
  | n + 1, [], h => by have := h.len; simp at this
  | n + 1, x :: v, h => List.mem_flatMap.mpr ⟨v, need_mem ⟨by have := h.len; simpa using this, fun y hy => h.few y (List.mem_cons_of_mem _ hy)⟩, List.mem_map.mpr ⟨x, List.mem_range.mpr (by have := h.few x List.mem_cons_self; omega), rfl⟩⟩
theorem TabN.len {n : Nat} (hn : n ≤ 5) {l : List (List Nat)} (h : TabN n l) : l.length ≤ 1024 := by
  refine Nat.le_trans (nd_len h.nd fun v hv => need_mem (h.nv v hv)) ?_
  rw [allN_len]
  exact Nat.pow_le_pow_right (by decide) hn
theorem TabN.add {n : Nat} {l : List (List Nat)} (h : TabN n l) {v : List Nat} (hv : NeedV n v) (hm : v ∉ l) : TabN n (l ++ [v]) :=
  ⟨List.nodup_append.mpr ⟨h.nd, by simp, fun a ha b hb => by rw [List.mem_singleton.mp hb]; exact fun e => hm (e ▸ ha)⟩, fun u hu => by
    rcases List.mem_append.mp hu with hu | hu
    · exact h.nv u hu
    · rw [List.mem_singleton.mp hu]; exact hv, List.mem_append_left _ h.zero⟩
/-! (0,) * n as a key -/
/-! how many states, what is right -/
def stN : List Nat → Nat
  | [] => 1
  | x :: v => (x + 1) * stN v
end DL
/-! k23: the mean by needs, all states in order -/
namespace DL
open PySem L2
/-- a row as a number, base four -/
def val4 (s : List Nat) : Nat := s.foldl (fun a x => 4 * a + x) 0
structure Sts (v : List Nat) (l : List (List Nat)) : Prop where
  len : l.length = stN v
  mem : ∀ s ∈ l, s.length = v.length ∧ (∀ x ∈ s, x ≤ 3) ∧ s.sum ≤ v.sum ∧ ∀ k, k < s.length → lessV s k ∈ l
  up : l.Pairwise fun a b => val4 a < val4 b
  self : v ∈ l
theorem Sts.nodup {v : List Nat} {l : List (List Nat)} (h : Sts v l) : l.Nodup := h.up.imp fun hab e => by rw [e] at hab; exact absurd hab (Nat.lt_irrefl _)
end DL
/-! k24: so many draws with so many of each, by times: plain mathematics -/
namespace DL
open PySem L2 RZ
/-- how many ways to choose -/
def ch : Nat → Nat → Nat
  | _, 0 => 1
  | 0, _ + 1 => 0
  | n + 1, m + 1 => ch n m + ch n (m + 1)
/-! turn by turn -/
/-! the dict of a turn -/
def totF (F : List Nat → Int) (l : List (List Nat)) (φ : List Nat → Int) : Int := (l.map fun s => F s * φ s).sum
structure TabG (n : Nat) (F : List Nat → Int) (l : List (List Nat)) : Prop where
  nd : l.Nodup
  nv : ∀ s ∈ l, NeedV n s
  off : ∀ s, s ∉ l → F s = 0
  nn : ∀ s, 0 ≤ F s
theorem TabG.add {n : Nat} {F : List Nat → Int} {l : List (List Nat)} (h : TabG n F l) {t : List Nat} (ht : NeedV n t) {x : Int} (hx : 0 ≤ x) : TabG n (addF F (t, x)) (insL l t) := by
  have nn : ∀ s, 0 ≤ addF F (t, x) s := fun s => by
    have := h.nn s
    unfold addF
    split <;> omega
  unfold insL
  by_cases hm : t ∈ l
  · rw [if_pos hm]
    exact ⟨h.nd, h.nv, fun s hs => by
      have : s ≠ t := fun e => hs (e ▸ hm)
      simp [addF, this, h.off s hs], nn⟩
  · rw [if_neg hm]
    refine ⟨List.nodup_append.mpr ⟨h.nd, by simp, fun a ha b hb => by rw [List.mem_singleton.mp hb]; exact fun e => hm (e ▸ ha)⟩, fun s hs => ?_, fun s hs => ?_, nn⟩
    · rcases List.mem_append.mp hs with hs | hs
      · exact h.nv s hs
      · rw [List.mem_singleton.mp hs]; exact ht
    · have h1 : s ∉ l := fun z => hs (List.mem_append_left _ z)
      have h2 : s ≠ t := fun e => hs (by rw [e]; exact List.mem_append_right _ (List.mem_singleton.mpr rfl))
      simp [addF, h2, h.off s h1]
theorem TabG.len {n : Nat} (hn : n ≤ 5) {F : List Nat → Int} {l : List (List Nat)} (h : TabG n F l) : l.length ≤ 1024 := by
  refine Nat.le_trans (nd_len h.nd fun v hv => need_mem (h.nv v hv)) ?_
  rw [allN_len]
  exact Nat.pow_le_pow_right (by decide) hn
theorem tot_ge {F : List Nat → Int} (nn : ∀ s, 0 ≤ F s) : ∀ (l : List (List Nat)), 0 ≤ totF F l (fun _ => 1) ∧ ∀ s ∈ l, F s ≤ totF F l fun _ => 1
  | [] => ⟨Int.le_refl _, fun _ h => nomatch h⟩
  | a :: l => by
    obtain ⟨h1, h2⟩ := tot_ge nn l
    have ha := nn a
    have e : totF F (a :: l) (fun _ => 1) = F a + totF F l fun _ => 1 := by
      unfold totF
      rw [List.map_cons, List.sum_cons, Int.mul_one]
    rw [e]
    refine ⟨by omega, fun s hs => ?_⟩
    rcases List.mem_cons.mp hs with rfl | hs
    · omega
    · have := h2 s hs; omega
theorem TabG.le {n : Nat} {F : List Nat → Int} {l : List (List Nat)} (h : TabG n F l) (s : List Nat) : F s ≤ totF F l fun _ => 1 := by
  obtain ⟨h1, h2⟩ := tot_ge h.nn l
  by_cases hs : s ∈ l
  · exact h2 s hs
  · rw [h.off s hs]; exact h1
/-- what is left at nothing more to need -/
theorem tot_none {n : Nat} {F : List Nat → Int} : ∀ {l : List (List Nat)}, l.Nodup → (∀ s ∈ l, s.length = n) → totF F l (fun s => if s = List.replicate s.length 0 then 1 else 0) = if List.replicate n 0 ∈ l then F (List.replicate n 0) else 0
  | [], _, _ => rfl
  | a :: l, hn, hl => by
    obtain ⟨h1, h2⟩ := List.nodup_cons.mp hn
    have ih := tot_none (F := F) h2 fun s hs => hl s (List.mem_cons_of_mem _ hs)
    have e : totF F (a :: l) (fun s => if s = List.replicate s.length 0 then 1 else 0) = F a * (if a = List.replicate a.length 0 then 1 else 0) + totF F l fun s => if s = List.replicate s.length 0 then 1 else 0 := by
      unfold totF
      rw [List.map_cons, List.sum_cons]
    rw [e, ih, hl a List.mem_cons_self]
    by_cases ha : a = List.replicate n 0
    · subst ha
      rw [if_pos rfl, if_neg h1, if_pos List.mem_cons_self]
      omega
    · have : (List.replicate n 0 ∈ a :: l) ↔ List.replicate n 0 ∈ l := by
        rw [List.mem_cons]
        exact ⟨fun h => h.resolve_left fun e => ha e.symm, Or.inr⟩
      rw [if_neg ha, Int.mul_zero, Int.zero_add]
      simp only [this]
theorem TabG.none {n : Nat} {F : List Nat → Int} {l : List (List Nat)} (h : TabG n F l) : totF F l (fun s => if s = List.replicate s.length 0 then 1 else 0) = F (List.replicate n 0) := by
  rw [tot_none h.nd fun s hs => (h.nv s hs).len]
  by_cases hz : List.replicate n 0 ∈ l
  · rw [if_pos hz]
  · rw [if_neg hz, h.off _ hz]
/-! bounds -/
/-! rows -/
end DL
/-! comprehensions over what is not known ahead -/
namespace DL
open PySem L2
end DL
/-! pairs of a whole number and a tuple of ints, lists of such, these sorted -/
namespace DL
open PySem L2 PySem.Spec PyProof.Rows
def qP (i : Int) (ns : List Int) : Hp → V → Prop := fun G v => ∃ b c, v = .ref b ∧ G b = some (.tup [.int i, .ref c]) ∧ G c = some (.tup (ns.map V.int))
theorem qP.mono {i : Int} {ns : List Int} {v : V} (G G' : Hp) (e : Le G G') (h : qP i ns G v) : qP i ns G' v := by
  obtain ⟨b, c, h1, h2, h3⟩ := h
  exact ⟨b, c, h1, e _ _ h2, e _ _ h3⟩
def lqP (qs : List (Int × List Int)) : Hp → V → Prop := fun G v => ∃ (a : Addr) (bs : List (V × Int × List Int)), v = .ref a ∧ Rd G a (.lst (bs.map (·.1))) ∧ bs.map (·.2) = qs ∧ ∀ b ∈ bs, qP b.2.1 b.2.2 G b.1
theorem lqP.mono {qs : List (Int × List Int)} {v : V} (G G' : Hp) (e : Le G G') (h : lqP qs G v) : lqP qs G' v := by
  obtain ⟨a, bs, h1, h2, h3, h4⟩ := h
  exact ⟨a, bs, h1, e.rd h2, h3, fun b hb => (h4 b hb).mono _ _ e⟩
/-! sorted of such a list -/
end DL
/-! dicts whose keys are pairs of tuples of ints -/
namespace DL
open PySem L2 PySem.Spec PyProof.Rows
abbrev PK := List Int × List Int
def pkK (k : PK) : NestedKey := .tup [.tup (k.1.map NestedKey.num), .tup (k.2.map NestedKey.num)]
def PkAt (H : Hp) (b : Addr) (k : PK) : Prop := ∃ c d, H b = some (.tup [.ref c, .ref d]) ∧ H c = some (.tup (k.1.map V.int)) ∧ H d = some (.tup (k.2.map V.int))
theorem PkAt.keep {H H' : Hp} {b : Addr} {k : PK} (e : ∀ c xs, H c = some (.tup xs) → H' c = some (.tup xs)) (h : PkAt H b k) : PkAt H' b k := by
  obtain ⟨c, d, h1, h2, h3⟩ := h
  exact ⟨c, d, e _ _ h1, e _ _ h2, e _ _ h3⟩
theorem PkAt.mono {H H' : Hp} {b : Addr} {k : PK} (e : Le H H') (h : PkAt H b k) : PkAt H' b k := h.keep fun c xs z => e _ _ z
section
variable {P : Program} {w : World} {H : Hp} {h : Heap}
theorem nest_all : ∀ {ns : List Int} {us : List Value}, Vals (ns.map V.int) us → NestedAll h (ns.map NestedKey.num) us
  | [], us, r => by cases r; exact .nil
  | n :: ns, us, r => by
    cases r with
    | cons r1 r2 =>
      obtain ⟨t, rfl⟩ := r1
      exact .cons (.int n t) (nest_all r2)
theorem nest_ints {c : Addr} {ns : List Int} (ok : HOk P w H h) (e : H c = some (.tup (ns.map V.int))) : NestedIs h (.tup (ns.map NestedKey.num)) (.ref c) := by
  have hok := ok c _ e
  obtain ⟨_, us, r, o, g1, g2, n, g3⟩ := hok
  exact .tup g1 g2 g3 (by rw [List.toList_toArray]; exact nest_all r)
theorem depth_nums : ∀ ns : List Int, NestedKey.depthAll (ns.map NestedKey.num) = 0
  | [] => by simp [NestedKey.depthAll]
  | n :: ns => by simp [NestedKey.depthAll, NestedKey.depth, depth_nums ns]
theorem pk_is {b : Addr} {k : PK} (ok : HOk P w H h) (e : PkAt H b k) : (nestedKind P w).is h (pkK k) b := by
  obtain ⟨c, d, h1, h2, h3⟩ := e
  have hok := ok b _ h1
  obtain ⟨_, us, r, o, g1, g2, n, g3⟩ := hok
  refine ⟨.tup g1 g2 g3 ?_, ?_⟩
  · rw [List.toList_toArray]
    cases r with
    | cons r1 r2 =>
      cases r2 with
      | cons r3 r4 =>
        cases r4
        cases r1
        cases r3
        exact .cons (nest_ints ok h2) (.cons (nest_ints ok h3) .nil)
  · unfold pkK
    simp only [NestedKey.depth, NestedKey.depthAll, depth_nums]
    decide
end
abbrev PkE := PK × Addr × V
def PkR (p : PkE) (q : NestedKey × Addr × Value) : Prop := q.1 = pkK p.1 ∧ q.2.1 = p.2.1 ∧ RelV p.2.2 q.2.2
/-- the dict at a as one object -/
def pkO (P : Program) (w : World) (a : Addr) (es : List PkE) : HO := .ext fun h => (a == sysModules) = false ∧ ∃ xs, Paired PkR es xs ∧ ∃ o en ep, h.get? a = some o ∧ o.ExactDict ∧ o.data = .dict en ep ∧ en.toList = xs.map (entryOfKey (nestedKind P w)) ∧ (xs.map (·.1)).Nodup
def PkOb (P : Program) (w : World) (H : Hp) (a : Addr) (es : List PkE) : Prop := H a = some (pkO P w a es) ∨ es = [] ∧ H a = some (.dT [])
structure PkD (P : Program) (w : World) (H : Hp) (a : Addr) (es : List PkE) : Prop where
  obj : PkOb P w H a es
  keys : ∀ e ∈ es, PkAt H e.2.1 e.1
  few : es.length ≤ 100000
theorem PkD.dict {P : Program} {w : World} {H : Hp} {h : Heap} {a : Addr} {es : List PkE} (ok : HOk P w H h) (x : PkD P w H a es) : (a == sysModules) = false ∧ ∃ xs, Paired PkR es xs ∧ h.DictOfH (nestedKind P w) a xs := by
  rcases x.obj with e | ⟨rfl, e⟩
  · obtain ⟨⟨h0, xs, r, o, en, ep, g1, g2, g3, g4, g5⟩, _⟩ := (show ObjOk P w H h a (pkO P w a es) from ok a _ e)
    refine ⟨h0, xs, r, o, en, ep, g1, g2, g3, g4, fun y hy => ?_, g5⟩
    have all : ∀ {l : List PkE} {ys : List (NestedKey × Addr × Value)}, Paired PkR l ys → (∀ e ∈ l, PkAt H e.2.1 e.1) → ∀ y ∈ ys, (nestedKind P w).is h y.1 y.2.1 := fun {l ys} r => by
      induction r with
      | nil => exact fun _ _ z => nomatch z
      | @cons p q ps qs hpq _ ih =>
        intro hk y hy
        rcases List.mem_cons.mp hy with rfl | hy
        · obtain ⟨e1, e2, _⟩ := hpq
          rw [e1, e2]
          exact pk_is ok (hk p List.mem_cons_self)
        · exact ih (fun e he => hk e (List.mem_cons_of_mem _ he)) y hy
    exact all r x.keys y hy
  · obtain ⟨z, y, xs, r, o, en, ep, g1, g2, g3, g4, _⟩ := (show ObjOk P w H h a (.dT []) from ok a _ e)
    cases r
    exact ⟨y, [], .nil, o, en, ep, g1, g2, g3, g4, (fun _ z => nomatch z), List.nodup_nil⟩
/-! readings and rules -/
/-! at the level of data -/
def pkP (k : PK) : Hp → V → Prop := fun G v => ∃ b, v = .ref b ∧ PkAt G b k
theorem pkP.mono {k : PK} {v : V} (G G' : Hp) (e : Le G G') (h : pkP k G v) : pkP k G' v := by
  obtain ⟨b, h1, h2⟩ := h
  exact ⟨b, h1, h2.mono e⟩
end DL
/-! what the second gatherer lacks when the first one has all -/
namespace DL
open PySem L2
structure GS (n : Nat) (a b : List Nat) : Prop where
  ka : Kinds n a
  kb : Kinds n b
  sub : ∀ k ∈ a, k ∈ b
theorem wo_len {n : Nat} {a : List Nat} (h : Kinds n a) {k : Nat} (hk : k ∈ a) : (wo a k).length + 1 = a.length := without_len h.up hk
theorem wo_kinds {n : Nat} {a : List Nat} (h : Kinds n a) (k : Nat) : Kinds n (wo a k) := kinds_without h k
theorem GS.left {n : Nat} {a b : List Nat} (h : GS n a b) (k : Nat) : GS n (wo a k) b := ⟨wo_kinds h.ka k, h.kb, fun x hx => h.sub x (List.mem_filter.mp hx).1⟩
theorem kinds_filter {n : Nat} {s : List Nat} (h : Kinds n s) : (List.range n).filter (fun x => decide (x ∈ s)) = s := by
  have n1 : ((List.range n).filter fun x => decide (x ∈ s)).Nodup := List.nodup_range.filter _
  have n2 : s.Nodup := h.up.imp fun e => Nat.ne_of_lt e
  have hp : ((List.range n).filter fun x => decide (x ∈ s)).Perm s := (List.perm_ext_iff_of_nodup n1 n2).mpr fun x => by
    rw [List.mem_filter, List.mem_range, decide_eq_true_eq]
    exact ⟨fun z => z.2, fun z => ⟨h.lt x z, z⟩⟩
  exact hp.eq_of_pairwise (fun a b _ _ h1 h2 => by omega) (List.pairwise_lt_range.filter _) h.up
theorem kinds_allS {n : Nat} {s : List Nat} (h : Kinds n s) : s ∈ allS n := by
  rw [← kinds_filter h]
  exact allS_filter n _
/-! the tables -/
abbrev PN := List Nat × List Nat
structure TabK (n : Nat) (l : List PN) : Prop where
  nd : l.Nodup
  gs : ∀ k ∈ l, Kinds n k.1 ∧ Kinds n k.2
theorem TabK.len {n : Nat} (hn : n ≤ 5) {l : List PN} (h : TabK n l) : l.length ≤ 1024 := by
  have hm : ∀ k ∈ l, k ∈ (allS n).flatMap fun a => (allS n).map fun b => (a, b) := fun k hk => List.mem_flatMap.mpr ⟨k.1, kinds_allS (h.gs k hk).1, List.mem_map.mpr ⟨k.2, kinds_allS (h.gs k hk).2, rfl⟩⟩
  refine Nat.le_trans (nd_len h.nd hm) ?_
  have hl : ∀ (x y : List (List Nat)), (x.flatMap fun a => y.map fun b => (a, b)).length = x.length * y.length := fun x y => by
    induction x with
    | nil => simp
    | cons a t ih => rw [List.flatMap_cons, List.length_append, ih, List.length_map, List.length_cons, Nat.succ_mul, Nat.add_comm]
  rw [hl, allS_len]
  have : 2 ^ n ≤ 2 ^ 5 := Nat.pow_le_pow_right (by decide) hn
  exact Nat.mul_le_mul this this
theorem TabK.put {n : Nat} {l l' : List PN} (h : TabK n l) {k : PN} (hk : Kinds n k.1 ∧ Kinds n k.2) (hs : ∀ x ∈ l', x ∈ l ∨ x = k) (hn : l.Nodup → l'.Nodup) : TabK n l' := ⟨hn h.nd, fun x hx => by
  rcases hs x hx with hx | rfl
  · exact h.gs x hx
  · exact hk⟩
/-! the words -/
end DL
/-! list.sort of tuples of which the first one is empty -/
namespace DLS
open PySem PySem.Calls PySem.SeqAt PyProof.Rows PySem.W
section
variable {prog : Program} {w : World} {A : Around} {E : Value → Shared → Prop} {s : Shared}
theorem tup_lt {Q : Value → Shared → Prop} {l b : Addr} {items items2 : Array Value} {e r : Nat → Bool} (hl : s.heap.IsTuple l items) (hb : s.heap.IsTuple b items2)
    (he : ∀ j (h1 : j < items.size) (h2 : j < items2.size), EqAt A.in1 s items[j] items2[j] (e j)) (hr : ∀ j (h1 : j < items.size) (h2 : j < items2.size), e j = false → RcLt A.in1 s items[j] items2[j] (r j))
    (h : Q (.bool (firstLt e r (decide (items.size < items2.size)) (List.range (min items.size items2.size)))) s) : wpAny (model prog w) A (call (.builtin "tuple.__lt__") [.ref l, .ref b]) Q E s := by
  obtain ⟨⟨cls, dd, data, sl⟩, ho, hc, n, hd⟩ := id hl
  obtain ⟨⟨cls2, dd2, data2, sl2⟩, ho2, hc2, n2, hd2⟩ := id hb
  simp only at hc hd hc2 hd2
  subst hc hd hc2 hd2
  exact call_meets F.slot_tuple_lt ⟨_, ho, rfl⟩ F.entry_tuple_lt (F.args_tuple_lt_2 _ _) (tuple_ltAt l b items items2 n n2 dd dd2 sl sl2 e r) ⟨ho, ho2, he, hr, h⟩
theorem one_lt {xs ys : List PyData} {a b : Value} {as bs : List Addr} {Q : Bool → Shared → Prop} (ra : Reads s.heap a (.tuple xs) as) (rb : Reads s.heap b (.tuple ys) bs) (h : alike (.tuple xs) (.tuple ys) = true)
    (hu : A.units + min (PyData.tuple xs).depth (PyData.tuple ys).depth < cLine) (hq : Q (dataLt (.tuple xs) (.tuple ys)) s) : wpAny (model prog w) A (oneLt' true a b) Q E s := by
  have hal : alikeAll xs ys = true := by simpa [alike] using h
  cases ra with
  | @tuple l o vs n _ as₁ h1 h2 h3 h4 =>
    cases rb with
    | @tuple l' o' vs' n' _ bs₁ k1 k2 k3 k4 =>
      have n1 : vs.size = xs.length := by simpa using SeqAt.ReadsAll.length _ _ _ h4
      have n2 : vs'.size = ys.length := by simpa using SeqAt.ReadsAll.length _ _ _ k4
      rw [dataLt_tuple, ← firstLt_toks xs ys hal, ← n1, ← n2] at hq
      rw [oneLt'_eq]
      simp only [if_true]
      refine wpAny_bind (wpAny_cRoomFor (room_here hu) ?_)
      refine wpAny_bind (wpAny_callSpecialIfBound?_slot (T := "tuple") ⟨_, h1, h2⟩ F.slot_tuple_lt (tup_lt (e := pairEq xs ys) (r := fun j => dataLt (xs.getD j .none) (ys.getD j .none)) ⟨_, h1, h2, _, h3⟩ ⟨_, k1, k2, _, k3⟩ (fun j j1 j2 => ?_) (fun j j1 j2 hj => ?_) ?_))
      · have := eqAt_alikeAll xs ys A.in1 s vs.toList vs'.toList _ _ h4 k4 hal (room_in hu) j (by simpa using j1) (by simpa using j2)
        simpa using this
      · have := rcLt_alikeAll xs ys A.in1 s vs.toList vs'.toList _ _ h4 k4 hal (room_in hu) j (by simpa using j1) (by simpa using j2) hj
        simpa using this
      · exact wpAny_truthy_bool hq
theorem mapM_some {M : Model} {f : Value → Sem (Option Value)} : ∀ (l : List Value) {Q : List (Option Value) → Shared → Prop}, (∀ v ∈ l, ∃ b, ∀ (Q' : Option Value → Shared → Prop), Q' b s → wpAny M A (f v) Q' E s) → (∀ bs : List (Option Value), bs.length = l.length → Q bs s) → wpAny M A (l.mapM f) Q E s
  | [], _, _, h => by rw [List.mapM_nil]; exact wpAny_pure (h [] rfl)
  | x :: l, Q, hf, h => by
    rw [List.mapM_cons]
    obtain ⟨b, hb⟩ := hf x (.head _)
    refine wpAny_bind (hb _ (wpAny_bind (mapM_some l (Q := fun bs s' => wpAny M A (pure (b :: bs)) Q E s') (fun v hv => hf v (.tail _ hv)) fun bs hl => wpAny_pure (h _ ?_))))
    rw [List.length_cons, List.length_cons, hl]
theorem first_of {M : Model} {a : Addr} {o : Obj} {xs : Array Value} {n : Nat} {Q : Option Value → Shared → Prop} (ho : s.heap.get? a = some o) (hc : o.cls = .type "tuple") (hd : o.data = .seq xs n) (h : Q xs[0]? s) : wpAny M A (firstOfTuple' (.ref a)) Q E s := by
  rw [kas_first_eq]
  refine wpAny_bind (Looks.here (show Looks M s.heap (typeOf (.ref a)) o.cls from (Looks.ld ho).andThen .now) ?_)
  rw [hc, if_neg (by first | decide | simp)]
  exact wpAny_bind (listItems_at ho hd (wpAny_pure h))
/-- the first key is (), all are tuples -/
theorem kind_of {M : Model} {v₁ : Value} {rest : List Value} {Q : SortKind → Shared → Prop} (h1 : Reads s.heap v₁ (.tuple []) []) (hr : ∀ v ∈ rest, ∃ xs as, Reads s.heap v (.tuple xs) as) (h : Q oneType' s) : wpAny M A (keyKind' (v₁ :: rest).toArray) Q E s := by
  have hall : ∀ v ∈ v₁ :: rest, ∃ xs as, Reads s.heap v (.tuple xs) as := fun v hv => by
    rcases List.mem_cons.mp hv with rfl | hv
    · exact ⟨[], [], h1⟩
    · exact hr v hv
  rw [keyKind'_eq, List.mapM_toArray, map_eq_pure_bind, List.mapM_cons]
  refine wpAny_bind (wpAny_bind (wpAny_bind ?_))
  cases h1 with
  | @tuple a o xs n _ _ ho hc hd h4 =>
    have e0 : xs[0]? = none := by
      have : xs.toList.length = 0 := by simpa using SeqAt.ReadsAll.length _ _ _ h4
      rw [← Array.getElem?_toList, List.getElem?_eq_none (by omega)]
    refine first_of ho hc hd ?_
    rw [e0]
    refine wpAny_bind (mapM_some rest (fun v hv => ?_) fun bs hl => wpAny_pure (wpAny_pure ?_))
    · obtain ⟨ys, as, r⟩ := hr v hv
      cases r with
      | @tuple a' o' xs' n' _ _ ho' hc' hd' h4' => exact ⟨xs'[0]?, fun Q' hq => first_of ho' hc' hd' hq⟩
    · rw [if_neg (by simp), if_neg (by simp)]
      rw [oneTypeOnly'_eq, List.mapM_toArray, map_eq_pure_bind]
      refine wpAny_bind (wpAny_bind (wpAny_bind (kas_mapM (r := Value.type "tuple") _ (fun v hv Q' hq => ?_) (wpAny_pure ?_))))
      · obtain ⟨ys, as, r⟩ := hall v hv
        exact (looks_reads r).here hq
      have hall2 : ((List.map (fun _ => Value.type "tuple") (Value.ref a :: rest)).toArray.all fun x => x == Value.type "tuple") = true := by
        simp only [List.all_toArray, List.all_map, List.all_eq_true]
        intro _ _
        exact beq_self_eq_true _
      have h0 : (List.map (fun _ => Value.type "tuple") (Value.ref a :: rest)).toArray[0]? = some (Value.type "tuple") := by simp
      rw [h0]
      simp only [hall2, if_true]
      exact wpAny_pure (wpAny_pure h)
theorem sortsE {v₁ : Value} {rest : List Value} {ds : List PyData} (e : EachIs (fun v d => ∃ as, Reads s.heap v d as) (v₁ :: rest) (.tuple [] :: ds)) (h1 : Reads s.heap v₁ (.tuple []) []) (hal : AllAlike (.tuple [] :: ds)) (ht : ∀ d ∈ ds, ∃ xs, d = .tuple xs) (hu : ∀ d, d ∈ PyData.tuple [] :: ds → A.units + d.depth < cLine) :
    SortsAt prog w A s (dataKind s.heap (.tuple [] :: ds)) (v₁ :: rest) := by
  have ht' : ∀ d ∈ PyData.tuple [] :: ds, ∃ xs, d = .tuple xs := fun d hd => by
    rcases List.mem_cons.mp hd with rfl | hd
    · exact ⟨[], rfl⟩
    · exact ht d hd
  have room : ∀ {d d' : PyData}, d ∈ PyData.tuple [] :: ds → A.units + min d.depth d'.depth < cLine := fun {d d'} hd => Nat.lt_of_le_of_lt (Nat.add_le_add_left (Nat.min_le_left _ _) _) (hu d hd)
  refine ⟨fun v hv => ?_, oneType', ?_, fun h2 E Q hq => ?_⟩
  · obtain ⟨d, hd, as, r⟩ := e.left v hv
    exact ⟨_, dataKind_some hal hd r⟩
  · intro E x y a b Q ha hb hq
    obtain ⟨d, as, hd, ra, rfl⟩ := dataKind_inv ha
    obtain ⟨d', as', hd', rb, rfl⟩ := dataKind_inv hb
    have hdd := hal d hd d' hd'
    have hroom := room (d' := d') hd
    obtain ⟨xs, rfl⟩ := ht' d hd
    obtain ⟨ys, rfl⟩ := ht' d' hd'
    rw [keyLt'_oneType]
    exact one_lt ra rb hdd hroom hq
  · refine kind_of h1 (fun v hv => ?_) hq
    cases e with
    | cons _ t =>
      obtain ⟨d, hd, as, r⟩ := t.left v hv
      obtain ⟨xs, rfl⟩ := ht d hd
      exact ⟨xs, as, r⟩
/-- xs.sort() -/
theorem sort_e {β : Type} {enc : β → PyData} {R : Value → β → Prop} {a : Addr} {n : Nat} {v₁ : Value} {rest : List Value} {b₁ : β} {bs : List β} {Q : Value → Shared → Prop} (ho : s.heap.get? a = some (seqObj "list" (v₁ :: rest).toArray n)) (e : EachIs R (v₁ :: rest) (b₁ :: bs))
    (er : EachIs (fun v b => ∃ as, Reads s.heap v (enc b) as ∧ a ∉ as) (v₁ :: rest) (b₁ :: bs)) (hal : AllAlike ((b₁ :: bs).map enc)) (he : enc b₁ = .tuple []) (ht : ∀ b ∈ bs, ∃ xs, enc b = .tuple xs) (hL : (b₁ :: bs).length ≤ sizeLine)
    (hu : ∀ b, b ∈ b₁ :: bs → A.units + 1 + (enc b).depth < cLine) (h : ∀ out, out.length = (b₁ :: bs).length → EachIs R out ((b₁ :: bs).mergeSort (dataLe false enc)) → Q .none { s with heap := sortedHeap s.heap a (v₁ :: rest) (List.toArray out) }) :
    wpAny (model prog w) A (call (.builtin "list.sort") [.ref a]) Q E s := by
  have er' : EachIs (fun v b => ∃ as, Reads (sortingHeap s.heap a (v₁ :: rest)) v (enc b) as) (v₁ :: rest) (b₁ :: bs) := each_keepBut (h' := sortingHeap s.heap a (v₁ :: rest)) (fun _ _ hb q => sortingHeap_old hb q) (fun o q => by rw [ho] at q; rw [← Option.some.inj q]) hal er
  have em := each_map (R := fun v d => ∃ as, Reads (sortingHeap s.heap a (v₁ :: rest)) v d as) enc er'
  have h1 : Reads (sortingHeap s.heap a (v₁ :: rest)) v₁ (.tuple []) [] := by
    cases er' with
    | cons hh _ =>
      obtain ⟨as, r⟩ := hh
      rw [he] at r
      cases r with
      | tuple h1 h2 h3 h4 =>
        have : ∀ {hh : Heap} {vs : List Value} {as : List Addr}, ReadsAll hh vs [] as → as = [] := fun r => by cases r; rfl
        have e2 := this h4
        subst e2
        exact Reads.tuple h1 h2 h3 h4
  rw [List.map_cons, he] at em hal
  refine wpAny_call_entry slot_list_sort ⟨_, ho, rfl⟩ entry_list_sort (list_sort_vals (κ := dataKind (sortingHeap s.heap a (v₁ :: rest)) (.tuple [] :: bs.map enc)) ho (sortsE (s := { s with heap := sortingHeap s.heap a (v₁ :: rest) }) em h1 hal (fun d hd => ?_) (fun d hd => ?_)) (by rw [e.length]; exact hL) ⟨.none, rfl, ?_⟩) (args_list_sort _)
  · obtain ⟨b, hb, rfl⟩ := List.mem_map.mp hd
    exact ht b hb
  · have := bound_map (A := A.in1) (enc := enc) hu
    rw [List.map_cons, he] at this
    exact this d hd
  · have hal' : AllAlike ((b₁ :: bs).map enc) := by rw [List.map_cons, he]; exact hal
    have hd := sortVals_data false e er' hal'
    rw [List.map_cons, he] at hd
    exact h _ (by rw [sortVals_length false rfl]; exact e.length) hd
end
end DLS
/-! list(d), sorted(d), dict(d) of a dict with tuple keys -/
namespace DL
open PySem L2 PySem.Spec PyProof.Rows
theorem raw_keys {P : Program} {w : World} {xs : List (List Key × Addr × Value)} {en : Array DictEntry} (hes : en.toList = xs.map (entryOfKey (tupleKind (mixKind P w)))) {acc : Array Value} (h : PySem.ItemsOf (fun i v => ∃ hi : i < en.size, v = en[i].key) acc en.size) : acc.toList = xs.map fun x => Value.ref x.2.1 := by
  obtain ⟨h1, h2⟩ := h
  have hl : en.size = xs.length := size_of_entries hes
  refine List.ext_getElem? fun j => ?_
  by_cases hj : j < xs.length
  · have ha : j < acc.size := by omega
    have e1 : acc[j]? = some acc[j] := Array.getElem?_eq_getElem ha
    obtain ⟨hi, e2⟩ := h2 j _ e1
    have e3 : en[j]? = some en[j] := Array.getElem?_eq_getElem hi
    rw [entry_at hes j, List.getElem?_eq_getElem hj] at e3
    have e4 := Option.some.inj e3
    rw [Array.getElem?_toList, e1, e2, List.getElem?_map, List.getElem?_eq_getElem hj, ← e4]
    rfl
  · rw [List.getElem?_eq_none (by rw [Array.length_toList]; omega), List.getElem?_eq_none (by rw [List.length_map]; omega)]
theorem kt_keys {H : Hp} {kvs : List (List Key × V)} {xs : List (List Key × Addr × Value)} (r : KT H kvs xs) : xs.map (·.1) = kvs.map (·.1) ∧ ∀ x ∈ xs, H x.2.1 = some (.tup (x.1.map kV)) := by
  induction r with
  | nil => exact ⟨rfl, fun _ z => nomatch z⟩
  | @cons p q ps qs hq _ ih =>
    refine ⟨by rw [List.map_cons, List.map_cons, ih.1, hq.1], fun x hx => ?_⟩
    rcases List.mem_cons.mp hx with rfl | hx
    · rw [← hq.1]; exact hq.2.1
    · exact ih.2 x hx
/-! list(d) -/
def rListDT : List V → Hp → VK → Prop := fun vs H Q => ∃ (a : Addr) (kvs : List (List Key × V)), vs = [.ref a] ∧ H a = some (.dT kvs) ∧
  ∀ p (zs : List (Addr × List Key)), H p = none → zs.map (·.2) = kvs.map (·.1) → (∀ z ∈ zs, H z.1 = some (.tup (z.2.map kV))) → Q (.ref p) (upd H p (.lst (zs.map fun z => V.ref z.1)))
theorem cr_listDT {X : Cx} (hc : X.calm = true) : CallR X (.type "list") rListDT := by
  rintro pins s σ H vs us Q I r ⟨a, kvs, rfl, ha, q⟩
  obtain rfl := Vals.ref1 r
  obtain ⟨z, lo, xs, rel, o, en, ep, ho, hx, hdat, hes, his, hn⟩ := dt_of I.hok ha
  obtain ⟨k1, k2⟩ := kt_keys rel
  have l1 : xs.length = kvs.length := by
    have := congrArg List.length k1
    rw [List.length_map, List.length_map] at this
    exact this
  have l2 : en.size = xs.length := size_of_entries hes
  refine PySem.W.kdl_call (PySem.KdlSrc.rawDict (ep := ep) lo) (I.ok.hd hc) ⟨o, ho, hx, hdat⟩ (by omega) fun h' tk acc c' hk hD hacc => ?_
  have e := raw_keys hes hacc
  have hp : H s.heap.objs.size = none := I.hok.fresh (Nat.le_refl _)
  have rv : Vals ((xs.map fun x => (x.2.1, x.1)).map fun z => V.ref z.1) acc.toList := by
    rw [e, List.map_map]
    exact vals_maps (fun x : List Key × Addr × Value => V.ref x.2.1) (fun x => Value.ref x.2.1) xs fun _ _ => rfl
  refine ⟨.ref s.heap.objs.size, _, I.laid (t' := tk) (fun b u e => hk b u e) (Nat.le_refl _) (show ObjOk X.prog X.w _ _ _ (.lst ((xs.map fun x => (x.2.1, x.1)).map fun z => V.ref z.1)) from ⟨by rw [List.length_map, List.length_map]; omega, acc.toList, c', rv, by rw [Array.toArray_toList]; exact hD⟩), rfl, q _ (xs.map fun x => (x.2.1, x.1)) hp ?_ fun z hz => ?_⟩
  · rw [List.map_map, ← k1]; rfl
  · obtain ⟨x, hx', rfl⟩ := List.mem_map.mp hz
    exact k2 x hx'
/-! sorted(d) -/
def rSortDT : List V → Hp → VK → Prop := fun vs H Q => ∃ (a : Addr) (kvs : List (List Int × V)), vs = [.ref a] ∧ H a = some (.dT (kvs.map fun e => (kI e.1, e.2))) ∧ kvs.length ≤ 1000 ∧ (∃ v r, kvs = ([], v) :: r) ∧
  ∀ p (zs : List (Addr × List Int)), H p = none → (zs.map (·.2)).Perm (kvs.map (·.1)) → (∀ z ∈ zs, H z.1 = some (.tup (z.2.map V.int))) → Q (.ref p) (upd H p (.lst (zs.map fun z => V.ref z.1)))
theorem each_refs (zs : List (Addr × List Int)) : PySem.W.EachIs (fun (v : Value) (b : Addr × List Int) => v = .ref b.1) (zs.map fun z => Value.ref z.1) zs := by
  induction zs with
  | nil => exact .nil
  | cons a t ih => exact .cons rfl ih
theorem cr_sortDT {X : Cx} (hc : X.calm = true) (hu : X.A.units + 64 < cLine) : CallR X (.builtin "sorted") rSortDT := by
  rintro pins s σ H vs us Q I r ⟨a, kvs, rfl, ha, hsz, ⟨fv, fr, hfst⟩, q⟩
  obtain rfl := Vals.ref1 r
  obtain ⟨z, lo, xs, rel, o, en, ep, ho, hx, hdat, hes, his, hn⟩ := dt_of I.hok ha
  obtain ⟨k1, k2⟩ := kt_keys rel
  have l1 : xs.length = kvs.length := by
    have := congrArg List.length k1
    rw [List.length_map, List.length_map, List.length_map] at this
    exact this
  have l2 : en.size = xs.length := size_of_entries hes
  have hh : X.A.handled = none := I.ok.hd hc
  -- the keys as ints
  have k3 : xs.map (·.1) = (kvs.map (·.1)).map kI := by rw [k1, List.map_map, List.map_map]; rfl
  generalize hz0 : xs.zip (kvs.map (·.1)) = zp
  have hks : ∃ zs : List (Addr × List Int), xs.map (·.2.1) = zs.map (·.1) ∧ zs.map (·.2) = kvs.map (·.1) ∧ ∀ z ∈ zs, H z.1 = some (.tup (z.2.map V.int)) := by
    generalize kvs.map (·.1) = ks at k3
    clear hz0 hes his hn rel k1 l1 l2
    induction xs generalizing ks with
    | nil =>
      cases ks with
      | nil => exact ⟨[], rfl, rfl, fun _ z => nomatch z⟩
      | cons _ _ => cases k3
    | cons x xs ih =>
      cases ks with
      | nil => cases k3
      | cons k ks =>
        rw [List.map_cons, List.map_cons] at k3
        injection k3 with e1 e2
        obtain ⟨zs, g1, g2, g3⟩ := ih (fun y hy => k2 y (List.mem_cons_of_mem _ hy)) ks e2
        refine ⟨(x.2.1, k) :: zs, by rw [List.map_cons, g1]; rfl, by rw [List.map_cons, g2], fun z hz => ?_⟩
        rcases List.mem_cons.mp hz with rfl | hz
        · have := k2 x List.mem_cons_self
          rw [e1] at this
          unfold kI at this
          rw [List.map_map] at this
          exact this
        · exact g3 z hz
  obtain ⟨zs, g1, g2, g3⟩ := hks
  have lz : zs.length = kvs.length := by
    have := congrArg List.length g2
    rw [List.length_map, List.length_map] at this
    exact this
  obtain ⟨z0, zr, hzz, hz00⟩ : ∃ z0 zr, zs = z0 :: zr ∧ z0.2 = [] := by
    cases zs with
    | nil => rw [hfst] at g2; cases g2
    | cons z0 zr =>
      rw [hfst, List.map_cons, List.map_cons] at g2
      injection g2 with e1 _
      exact ⟨z0, zr, rfl, e1⟩
  refine Calls.call_function_entry kind_sorted plain_sorted entry_sorted (args_sorted1 _) ?_
  unfold Builtin.«sorted»
  refine wpAny_bind (m := checkCount "sorted" 1 1 _) (wpAny_pure ?_)
  refine wpAny_bind (PySem.W.kdu_collect (A := X.A.in1) (PySem.KdlSrc.rawDict (ep := ep) lo) hh ⟨o, ho, hx, hdat⟩ (by rw [sizeLine_eq]; omega) fun h' tk acc hk hacc => ?_)
  have e := raw_keys hes hacc
  have e2 : acc.toList = zs.map fun z => Value.ref z.1 := by
    rw [e, show (xs.map fun x => Value.ref x.2.1) = (xs.map (·.2.1)).map Value.ref by rw [List.map_map]; rfl, g1, List.map_map]
    rfl
  rw [e2]
  refine wpAny_bind (wpAny_newList ?_ (by rw [List.length_map, sizeLine_eq]; omega))
  have hob : (h'.push { cls := .type "list", data := .seq (zs.map fun z => Value.ref z.1).toArray }).get? h'.objs.size = some (seqObj "list" (zs.map fun z => Value.ref z.1).toArray 0) := Heap.get?_push_size _ rfl
  have kb : ∀ b o, s.heap.get? b = some o → (h'.push { cls := .type "list", data := .seq (zs.map fun z => Value.ref z.1).toArray }).get? b = some o := fun b o e => Heap.get?_push_of_some _ (hk b o e)
  have ne0 : ∀ b o, s.heap.get? b = some o → b ≠ h'.objs.size := fun b o e => Nat.ne_of_lt (Heap.lt_size (hk b o e))
  have I0 : Inv X pins σ H { s with heap := h', toks := tk } := I.kept hk
  have hn0 : H h'.objs.size = none := I0.hok.fresh (Nat.le_refl _)
  show wpAny _ _ _ _ _ { s with heap := h'.push { cls := .type "list", data := .seq (zs.map fun z => Value.ref z.1).toArray }, toks := tk }
  generalize h'.push { cls := .type "list", data := .seq (zs.map fun z => Value.ref z.1).toArray } = h2 at hob kb ⊢
  have al : PySem.W.AllAlike (zs.map fun b => tupI b.2) := PySem.W.AllAlike.of fun b b' => alike_keys _ _
  have ea := each_refs zs
  have hlz : zs.length ≤ sizeLine := by rw [sizeLine_eq]; omega
  have er : PySem.W.EachIs (fun v b => ∃ as, Reads h2 v (tupI b.2) as ∧ h'.objs.size ∉ as) (zs.map fun z => Value.ref z.1) zs := ?er
  have hdp : ∀ b, b ∈ zs → X.A.in1.units + 1 + (tupI b.2).depth < cLine := fun b hb => ?hdp
  have fin : ∀ out : List Value, out.length = zs.length → PySem.W.EachIs (fun (v : Value) (b : Addr × List Int) => v = .ref b.1) out (zs.mergeSort (PySem.W.dataLe false fun b => tupI b.2)) → EP X pins σ Q (.ref h'.objs.size) { s with heap := sortedHeap h2 h'.objs.size (zs.map fun z => Value.ref z.1) out.toArray, toks := tk } := fun out hlen hE => ?fin
  · refine wpAny_bind (wpAny_holding ?_)
    generalize hvs : (zs.map fun z => Value.ref z.1) = vs' at *
    rw [hzz] at ea er al hlz hdp fin hvs
    rw [List.map_cons] at hvs
    subst hvs
    refine DLS.sort_e (A := X.A.in1) (s := { s with heap := h2, toks := tk }) (enc := fun b : Addr × List Int => tupI b.2) hob ea er al (by show tupI z0.2 = _; rw [hz00]; rfl) (fun b _ => ⟨_, rfl⟩) hlz hdp fun out hlen hE => ?_
    exact wpAny_pure ⟨_, rfl, fin out hlen hE⟩
  case er =>
    exact (PySem.W.each_mem (each_refs zs)).mono fun v b ⟨hvb, hb⟩ => by
      subst hvb
      have k1 := tup_reads (ks := kI b.2) I (by unfold kI; rw [List.map_map]; exact g3 b hb)
      have e1 : (kI b.2).map keyD = b.2.map PyData.int := by unfold kI; rw [List.map_map]; rfl
      rw [e1] at k1
      exact ⟨[], PyProof.Rows.Reads.keeps (fun b o e => kb b o e) k1, fun z => nomatch z⟩
  case hdp =>
    have : (tupI b.2).depth ≤ 12 := by
      unfold tupI
      simp only [PyData.depth, PySem.W.depth_ints]
      omega
    show X.A.units + 1 + 1 + (tupI b.2).depth < cLine
    omega
  case fin =>
    generalize hzs : zs.mergeSort (PySem.W.dataLe false fun b => tupI b.2) = ys at hE
    have pz : ys.Perm zs := by rw [← hzs]; exact List.mergeSort_perm _ _
    have hout : out = ys.map fun z => Value.ref z.1 := by
      clear hlen pz hzs
      induction hE with
      | nil => rfl
      | cons h1 h2 ih => rw [h1, ih]; rfl
    have kF : ∀ b o, b ≠ h'.objs.size → h2.get? b = some o → (sortedHeap h2 h'.objs.size (zs.map fun z => Value.ref z.1) out.toArray).get? b = some o := fun b o hb e => (PyProof.Rows.sortedHeap_old hb (Heap.lt_size e)).trans e
    have kS : ∀ b o, s.heap.get? b = some o → (sortedHeap h2 h'.objs.size (zs.map fun z => Value.ref z.1) out.toArray).get? b = some o := fun b o e => kF b o (ne0 _ _ e) (kb b o e)
    obtain ⟨eF, heF⟩ := PyProof.Rows.sortedHeap_at (vs := zs.map fun z => Value.ref z.1) (out := out.toArray) hob
    revert kS eF heF
    generalize sortedHeap h2 h'.objs.size (zs.map fun z => Value.ref z.1) out.toArray = h3
    intro kS eF heF
    have I1 : Inv X pins σ H { s with heap := h3, toks := tk } := I.kept (t' := tk) kS
    have rv : Vals (ys.map fun z => V.ref z.1) out := by
      rw [hout]
      exact vals_maps (fun z : Addr × List Int => V.ref z.1) (fun z => Value.ref z.1) ys fun _ _ => rfl
    have hyl := pz.length_eq
    have fp : FpOk X pins H h'.objs.size := I0.fpOk (b := h'.objs.size) (Nat.le_refl h'.objs.size) hn0
    have hyl2 : (ys.map fun z => V.ref z.1).length ≤ sizeLine := by rw [List.length_map, sizeLine_eq]; omega
    have nw : ObjOk X.prog X.w (upd H h'.objs.size (.lst (ys.map fun z => V.ref z.1))) h3 h'.objs.size (.lst (ys.map fun z => V.ref z.1)) := ⟨hyl2, out, eF, rv, heF⟩
    have I2 : Inv X pins σ (upd H h'.objs.size (.lst (ys.map fun z => V.ref z.1))) { s with heap := h3, toks := tk } :=
      I1.take (it := h'.objs.size) (o := .lst (ys.map fun z => V.ref z.1)) (h' := h3) (t' := tk) (fun b ob _ e => e) fp nw
    have hp2 : (ys.map fun z => z.2).Perm (kvs.map fun e => e.1) := g2 ▸ pz.map fun z => z.2
    have hk2 : ∀ z ∈ ys, H z.1 = some (.tup (z.2.map V.int)) := fun z hz => g3 z (pz.mem_iff.mp hz)
    have hq : Q (.ref h'.objs.size) (upd H h'.objs.size (.lst (ys.map fun z => V.ref z.1))) := q h'.objs.size ys hn0 hp2 hk2
    exact ⟨V.ref h'.objs.size, upd H h'.objs.size (.lst (ys.map fun z => V.ref z.1)), I2, rfl, hq⟩
end DL
/-! dict(d), and these at the level of data -/
namespace DL
open PySem L2 PySem.Spec PyProof.Rows
/-- dict(d): what the library says of filling a dict by another one, on a dict just made -/
theorem dict_ofH {prog : Program} {w : World} {K : Type} [DecidableEq K] {knd : HeapKind prog w K} {A : Around} {E : Value → Shared → Prop} {s : Shared} {o : Addr} {more : List (K × Addr × Value)} {Q : Value → Shared → Prop} (hu : ∀ B : Around, B.units ≤ A.units + 3 → knd.room B) (hoS : (o == sysModules) = false) (ho : s.heap.DictOfH knd o more)
    (hkp : ∀ x ∈ more, knd.is (s.heap.push { cls := .type "dict", data := .dict #[] }) x.1 x.2.1) (hty : ∀ x ∈ more, s.TypeIs (.ref x.2.1) "tuple") (hap : (more.map fun x => knd.hash x.1).Nodup) (hsz : more.length ≤ sizeLine)
    (h : ∀ h', h'.DictOfH knd s.heap.objs.size more → Heap.SameBut s.heap.objs.size (s.heap.push { cls := .type "dict", data := .dict #[] }) h' → Q (.ref s.heap.objs.size) { s with heap := h' }) :
    wpAny (model prog w) A (call (.type "dict") [.ref o]) Q E s := by
  have up : ∀ b u, s.heap.get? b = some u → (s.heap.push { cls := .type "dict", data := .dict #[] }).get? b = some u := fun b u e => Heap.get?_push_of_some _ e
  have d0 := Heap.DictOfH.new (knd := knd) s.heap
  have d1 := ho.at' (up o) hkp
  have apart : s.heap.objs.size ≠ o := fun e => by
    obtain ⟨u, _, _, g, _⟩ := ho
    exact Nat.lt_irrefl _ (e ▸ Heap.lt_size g)
  have types : ∀ x ∈ more, ({ s with heap := s.heap.push { cls := .type "dict", data := .dict #[] } } : Shared).TypeIs (.ref x.2.1) "tuple" := fun x hx => (hty x hx).imp fun u z => ⟨up _ _ z.1, z.2⟩
  refine callType_codes (Q₁ := fun v t => v = .ref s.heap.objs.size ∧ t = { s with heap := s.heap.push { cls := .type "dict", data := .dict #[] } }) F.kt_called_dict (F.kt_typeCall_dict_1 _) F.entry_dict_init (kt_code_dict_new _ ⟨rfl, rfl⟩) fun v t e => ?_
  obtain ⟨rfl, rfl⟩ := e
  refine ⟨d0.typeIs, F.args_dict_init_2 _ _, ?_⟩
  unfold Builtin.«dict.__init__» Builtin.Dict.selfAndRest
  refine wpAny_bind (wpAny_bind (wpAny_notOrdered_dict d0.typeIs (wpAny_pure ?_)))
  show wpAny _ A.in1.in1 (Builtin.Dict.updateFrom "dict.__init__" _ (.ref o) [] .none) _ _ _
  refine updateFrom_dictH (A := A.in1) (kvs := []) .none (hu _ (by show A.units + 1 + 1 ≤ _; omega)) apart hoS d0 d1 (.inr ⟨types, hap⟩) (by rw [List.length_nil, Nat.zero_add]; exact hsz) fun h' hd _ hs => ⟨rfl, h h' ?_ hs⟩
  rwa [storedAllH_nil_of_nodup more ho.nodup] at hd
def hI (ns : List Int) : Int := reduceHash (Builtin.Tuple.tupleHashOf (ns.map hashInt))
theorem hash_kI (P : Program) (w : World) (ns : List Int) : (tupleKind (mixKind P w)).hash (kI ns) = hI ns := by
  show reduceHash (Builtin.Tuple.tupleHashOf ((kI ns).map (mixKind P w).hash)) = _
  unfold kI hI
  rw [List.map_map]
  rfl
def rDictC : List V → Hp → VK → Prop := fun vs H Q => ∃ (a : Addr) (kvs : List (List Int × V)), vs = [.ref a] ∧ H a = some (.dT (kvs.map fun e => (kI e.1, e.2))) ∧ (kvs.map fun e => hI e.1).Nodup ∧
  ∀ p, H p = none → Q (.ref p) (upd H p (.dT (kvs.map fun e => (kI e.1, e.2))))
theorem cr_dictC {X : Cx} (hu : X.A.units + 64 < cLine) : CallR X (.type "dict") rDictC := by
  rintro pins s σ H vs us Q I r ⟨a, kvs, rfl, ha, hap, q⟩
  obtain rfl := Vals.ref1 r
  obtain ⟨z, lo, xs, rel, dd⟩ := dt_of I.hok ha
  obtain ⟨k1, k2⟩ := kt_keys rel
  have hl : xs.length = (kvs.map fun e => (kI e.1, e.2)).length := (Paired.length rel).symm
  refine dict_ofH (knd := tupleKind (mixKind X.prog X.w)) (fun B hB => show B.units < cLine by omega) lo dd (fun x hx => ?_) (fun x hx => ?_) ?_ (by rw [hl]; exact z) fun h' hd hs => ?_
  · obtain ⟨_, _, _, _, _, _, _, his, _⟩ := id dd
    obtain ⟨o', its', n', w1, w2⟩ := his x hx
    exact ⟨o', its', n', Heap.get?_push_of_some _ w1, w2⟩
  · obtain ⟨_, its, rv, o, g1, g2, n, g3⟩ := (show ObjOk X.prog X.w H s.heap x.2.1 (.tup (x.1.map kV)) from I.hok x.2.1 _ (k2 x hx))
    exact ⟨o, g1, g2⟩
  · have : (xs.map fun x => (tupleKind (mixKind X.prog X.w)).hash x.1) = kvs.map fun e => hI e.1 := by
      rw [show (xs.map fun x => (tupleKind (mixKind X.prog X.w)).hash x.1) = (xs.map (·.1)).map (tupleKind (mixKind X.prog X.w)).hash by rw [List.map_map]; rfl, k1, List.map_map, List.map_map]
      exact List.map_congr_left fun e _ => hash_kI _ _ _
    rw [this]; exact hap
  · have hf : H s.heap.objs.size = none := I.hok.fresh (Nat.le_refl _)
    have big : (s.heap.objs.size == sysModules) = false := beq_eq_false_iff_ne.mpr (Nat.ne_of_gt I.big)
    have stay : ∀ {l : List (List Key × V)} {l2 : List (List Key × Addr × Value)} {o : HO}, KT H l l2 → KT (upd H s.heap.objs.size o) l l2 := fun z => by
      induction z with
      | nil => exact .nil
      | cons h _ ih => exact .cons ⟨h.1, by rw [upd_ne (ne_of_none h.2.1 hf)]; exact h.2.1, h.2.2⟩ ih
    have ok : ObjOk X.prog X.w (upd H s.heap.objs.size (.dT (kvs.map fun e => (kI e.1, e.2)))) h' s.heap.objs.size (.dT (kvs.map fun e => (kI e.1, e.2))) := by
      obtain ⟨o1, es, ep, q1, q2, q3, q4, q5, q6⟩ := hd
      exact ⟨z, big, xs, stay rel, o1, es, ep, q1, q2, q3, q4, q6⟩
    exact ⟨.ref s.heap.objs.size, _, I.laid (t' := s.toks) (fun b u e => (hs.2 b (Nat.ne_of_lt (Heap.lt_size e))).trans (Heap.get?_push_of_some _ e)) (Nat.le_refl _) ok, rfl, q _ hf⟩
theorem kListDT {X : Cx} (hc : X.calm = true := by rfl) : CallR X (.type "list") rListDT := cr_listDT hc
theorem kSortDT {X : Cx} {j : Nat} (hr : Room j X.A) (hc : X.calm = true := by rfl) : CallR X (.builtin "sorted") rSortDT := cr_sortDT hc (by have := hr.un; omega)
theorem kDictC {X : Cx} {j : Nat} (hr : Room j X.A) : CallR X (.type "dict") rDictC := cr_dictC (by have := hr.un; omega)
/-! at the level of data -/
section
variable {K : PySem.W.Frag} {m : Mm} {Q : Val → Mm → Prop}
theorem tall_zs {G : Hp} : ∀ {zs : List (Addr × List Int)}, (∀ z ∈ zs, G z.1 = some (.tup (z.2.map V.int))) → TAll G (zs.map (·.2)) (zs.map fun z => V.ref z.1)
  | [], _ => rfl
  | z :: zs, h => ⟨z.1, _, rfl, h z List.mem_cons_self, tall_zs fun y hy => h y (List.mem_cons_of_mem _ hy)⟩
theorem KVs.keyI {G : Hp} : ∀ {kvs : List (List Int × Val)} {es : List (List Key × V)}, KVs K G (dI kvs) es → ∃ ks : List (List Int × V), es = ks.map (fun e => (kI e.1, e.2)) ∧ ks.map (·.1) = kvs.map (·.1)
  | [], es, h => ⟨[], h, rfl⟩
  | (k, z) :: kvs, es, h => by
    obtain ⟨v, u, rfl, h2, h3⟩ := h
    obtain ⟨ks, rfl, e⟩ := KVs.keyI h3
    exact ⟨(k, v) :: ks, rfl, by rw [List.map_cons, List.map_cons, e]⟩
theorem keys_in {H G : Hp} (S : Sta K m H G) {zs : List (Addr × List Int)} (h : ∀ z ∈ zs, H z.1 = some (.tup (z.2.map V.int))) : ∃ G', Sta K m H G' ∧ Le G G' ∧ ∀ z ∈ zs, G' z.1 = some (.tup (z.2.map V.int)) := by
  obtain ⟨S', hle⟩ := S.all
  refine ⟨_, S', hle, fun z hz => ?_⟩
  show (if m z.1 = none then H z.1 else none) = _
  rw [if_pos (S.notTup (h z hz))]
  exact h z hz
theorem on_listDT {p : Addr} {kvs : List (List Int × Val)} (hm : m p = some (.dT (dI kvs))) (q : Q (.lt (kvs.map (·.1))) m) : OpN K rListDT [.v (.ref p)] m Q := fun H G vs S a R k => by
  obtain ⟨v, rfl, hv⟩ := vrs1 a
  obtain rfl := hv.eq
  obtain ⟨es, g1, g2⟩ := S.mem p _ hm
  obtain ⟨ks, rfl, e⟩ := KVs.keyI g2
  refine ⟨p, _, rfl, g1, fun l zs hl hz hk => ?_⟩
  have hz2 : ∃ ys : List (Addr × List Int), zs = ys.map (fun y => (y.1, kI y.2)) ∧ ys.map (·.2) = ks.map (·.1) := by
    rw [List.map_map] at hz
    clear g1 g2 e hk
    induction ks generalizing zs with
    | nil =>
      cases zs with
      | nil => exact ⟨[], rfl, rfl⟩
      | cons _ _ => cases hz
    | cons x ks ih =>
      cases zs with
      | nil => cases hz
      | cons z zs =>
        rw [List.map_cons, List.map_cons] at hz
        injection hz with e1 e2
        obtain ⟨ys, h1, h2⟩ := ih zs e2
        exact ⟨(z.1, x.1) :: ys, by rw [List.map_cons, ← h1, ← (show z.2 = kI x.1 from e1)], by rw [List.map_cons, List.map_cons, h2]⟩
  obtain ⟨ys, rfl, h2⟩ := hz2
  have hk2 : ∀ y ∈ ys, H y.1 = some (.tup (y.2.map V.int)) := fun y hy => by
    have := hk (y.1, kI y.2) (List.mem_map.mpr ⟨y, hy, rfl⟩)
    unfold kI at this
    rw [List.map_map] at this
    exact this
  obtain ⟨G', S', hle, hG⟩ := keys_in S hk2
  have hg := S'.free hl
  rw [List.map_map]
  refine k _ _ (upd G' l (.lst (ys.map fun y => V.ref y.1))) _ m q (S'.fix hl) (hle.trans (Le.new hg)) (.lt (Rd.of upd_same) ?_)
  rw [← e, ← h2]
  exact tall_zs fun y hy => Le.new hg _ _ (hG y hy)
theorem on_sortDT {p : Addr} {kvs : List (List Int × Val)} (hm : m p = some (.dT (dI kvs))) (hn : kvs.length ≤ 1000) (h0 : ∃ v r, kvs = ([], v) :: r) (q : ∀ nss, nss.Perm (kvs.map (·.1)) → Q (.lt nss) m) : OpN K rSortDT [.v (.ref p)] m Q := fun H G vs S a R k => by
  obtain ⟨v, rfl, hv⟩ := vrs1 a
  obtain rfl := hv.eq
  obtain ⟨es, g1, g2⟩ := S.mem p _ hm
  obtain ⟨ks, rfl, e⟩ := KVs.keyI g2
  have hl := congrArg List.length e
  rw [List.length_map, List.length_map] at hl
  refine ⟨p, ks, rfl, g1, by omega, ?_, fun l zs hl hz hk => ?_⟩
  · obtain ⟨v, r, rfl⟩ := h0
    cases ks with
    | nil => cases hl
    | cons x ks =>
      rw [List.map_cons, List.map_cons] at e
      injection e with e1 _
      exact ⟨x.2, ks, by rw [← (show x.1 = [] from e1)]⟩
  obtain ⟨G', S', hle, hG⟩ := keys_in S hk
  have hg := S'.free hl
  refine k _ _ (upd G' l (.lst (zs.map fun y => V.ref y.1))) (.lt (zs.map (·.2))) m (q _ (by rw [← e]; exact hz)) (S'.fix hl) (hle.trans (Le.new hg)) (.lt (Rd.of upd_same) ?_)
  exact tall_zs fun y hy => Le.new hg _ _ (hG y hy)
theorem on_dictC {p : Addr} {kvs : List (List Int × Val)} (hm : m p = some (.dT (dI kvs))) (hh : (kvs.map fun e => hI e.1).Nodup) (q : ∀ p', m p' = none → Q (.v (.ref p')) (put m p' (.dT (dI kvs)))) : OpN K rDictC [.v (.ref p)] m Q := fun H G vs S a R k => by
  obtain ⟨v, rfl, hv⟩ := vrs1 a
  obtain rfl := hv.eq
  obtain ⟨es, g1, g2⟩ := S.mem p _ hm
  obtain ⟨ks, rfl, e⟩ := KVs.keyI g2
  refine ⟨p, ks, rfl, g1, ?_, fun l hl => ?_⟩
  · have : (ks.map fun e => hI e.1) = kvs.map fun e => hI e.1 := by
      have := congrArg (List.map hI) e
      rw [List.map_map, List.map_map] at this
      exact this
    rw [this]; exact hh
  · exact k _ _ G _ _ (q l (S.freeM hl)) (S.new hl ⟨_, upd_same, g2⟩) (Le.refl G) .v
end
theorem hI_all : ∀ n : _root_.Fin 6, ((allS n.val).map fun s => hI (kn s)).Nodup := by decide +kernel
end DL
namespace DL
open PySem L2
instance (i : Int) (k : Nat) : Decidable (Bt i k) := by unfold Bt; infer_instance
instance (q : Rat) (a : Nat) : Decidable (FrB q a) := by unfold FrB; infer_instance
end DL
/-! repr of any data; the end of a law that knows that sys.modules stands ahead of it -/
namespace DL
open PySem L2 PySem.Spec PyProof.Rows L2H
def SysAt (base : Heap) : Prop := ∃ mm, base.Ns sysModules mm
section
variable {X : Cx} {pins : List (Addr × Obj)} {σ : L2.St} {H : Hp} {s : Shared}
theorem sys_ne (I : Inv X pins σ H s) (hs : SysAt X.base) {a : Addr} (h : ∃ o, H a = some o) : a ≠ sysModules := fun e => by
  obtain ⟨mm, o, _, _, ho, _⟩ := hs
  have := (I.bs _ _ ho).2
  obtain ⟨u, hu⟩ := h
  rw [e, this] at hu
  cases hu
mutual
theorem rdA (I : Inv X pins σ H s) (hs : SysAt X.base) : ∀ (d : PyData) (v : V) (u : Value), Rp X.K H d v → RelV v u → ∃ as, Reads s.heap u d as ∧ sysModules ∉ as
  | .none, v, u, h, r => by
    rw [rp_none.mp h] at r; cases r
    exact ⟨[], Reads.none, fun z => nomatch z⟩
  | .bool b, v, u, h, r => by
    rw [rp_bool.mp h] at r; cases r
    exact ⟨[], Reads.bool b, fun z => nomatch z⟩
  | .int i, v, u, h, r => by
    rw [rp_int.mp h] at r
    obtain ⟨t, rfl⟩ := r
    exact ⟨[], Reads.int i t, fun z => nomatch z⟩
  | .str x, v, u, h, r => by
    rw [rp_str.mp h] at r
    obtain ⟨t, rfl⟩ := r
    exact ⟨[], Reads.str x t, fun z => nomatch z⟩
  | .list ds, v, u, h, r => by
    obtain ⟨a, xs, rfl, h2, h3⟩ := rp_list.mp h
    cases r
    obtain ⟨z, its, n, rv, hl, e⟩ := rd_list I h2
    obtain ⟨as, hr, hns⟩ := rdAAll I hs ds xs its h3 rv
    refine ⟨a :: as, Reads.list e rfl rfl (by rw [List.toList_toArray]; exact hr), fun z => ?_⟩
    rcases List.mem_cons.mp z with z | z
    · exact sys_ne I hs (by rcases h2 with h2 | ⟨_, h2⟩ <;> exact ⟨_, h2⟩) z.symm
    · exact hns z
  | .tuple ds, v, u, h, r => by
    obtain ⟨a, xs, rfl, h2, h3⟩ := rp_tuple.mp h
    cases r
    obtain ⟨its, rv, ⟨o, ho, hc, n2, hd⟩, _⟩ := I.tuple h2
    obtain ⟨as, hr, hns⟩ := rdAAll I hs ds xs its h3 rv
    exact ⟨as, Reads.tuple ho hc hd hr, hns⟩
  | .dict kvs, v, u, h, r => by
    rw [Rp] at h
    obtain ⟨a, rfl, h⟩ := h
    cases r
    rcases h with ⟨es, h1, h2⟩ | ⟨es, h1, h2⟩
    · obtain ⟨_, hd, xs, rel, o, es2, ep, g1, g2, g3, g4, _⟩ := dt_rd I.hok (.inl h1)
      obtain ⟨as, bs, q1, q2, q3, q4⟩ := rdAT I hs kvs es xs h2 rel
      refine ⟨a :: as ++ bs, Reads.dict g1 g2.1 g3 ?_ ?_, ?_⟩
      · rw [g4, List.map_map]; exact q1
      · rw [g4, List.map_map]; exact q2
      · intro z
        rcases List.mem_append.mp z with z | z
        · rcases List.mem_cons.mp z with z | z
          · rw [z] at hd; simp at hd
          · exact q3 z
        · exact q4 z
    · obtain ⟨_, hd, vs, rel, o, es2, ep, g1, g2, g3, _, g4, _⟩ := dk_rd I.hok (.inl h1)
      obtain ⟨as, bs, q1, q2, q3, q4⟩ := rdAK I hs kvs es vs es2.toList h2 rel g4
      refine ⟨a :: as ++ bs, Reads.dict g1 g2.1 g3 q1 q2, ?_⟩
      intro z
      rcases List.mem_append.mp z with z | z
      · rcases List.mem_cons.mp z with z | z
        · rw [z] at hd; simp at hd
        · exact q3 z
      · exact q4 z
theorem rdAAll (I : Inv X pins σ H s) (hs : SysAt X.base) : ∀ (ds : List PyData) (vs : List V) (us : List Value), RpAll X.K H ds vs → Vals vs us → ∃ as, ReadsAll s.heap us ds as ∧ sysModules ∉ as
  | [], vs, us, h, r => by
    rw [rpa_nil.mp h] at r; cases r
    exact ⟨[], ReadsAll.nil, fun z => nomatch z⟩
  | d :: ds, vs, us, h, r => by
    obtain ⟨x, t, rfl, h2, h3⟩ := rpa_cons.mp h
    cases r with
    | cons r1 r2 =>
      obtain ⟨as, q1, q2⟩ := rdA I hs d x _ h2 r1
      obtain ⟨bs, q3, q4⟩ := rdAAll I hs ds t _ h3 r2
      exact ⟨as ++ bs, ReadsAll.cons q1 q3, fun z => (List.mem_append.mp z).elim q2 q4⟩
theorem rdAT (I : Inv X pins σ H s) (hs : SysAt X.base) : ∀ (kvs : List (PyData × PyData)) (es : List (List Key × V)) (xs : List (List Key × Addr × Value)), RpT X.K H kvs es → KT H es xs →
    ∃ as bs, ReadsAll s.heap (xs.map fun x => Value.ref x.2.1) (kvs.map (·.1)) as ∧ ReadsAll s.heap (xs.map fun x => x.2.2) (kvs.map (·.2)) bs ∧ sysModules ∉ as ∧ sysModules ∉ bs
  | [], es, xs, h, r => by
    rw [RpT] at h
    subst h
    cases r
    exact ⟨[], [], ReadsAll.nil, ReadsAll.nil, (fun z => nomatch z), (fun z => nomatch z)⟩
  | (k, d) :: kvs, es, xs, h, r => by
    rw [RpT] at h
    obtain ⟨ks, v, t, rfl, rfl, h2, h3⟩ := h
    cases r with
    | @cons p q ps qs hq r2 =>
      obtain ⟨e1, e2, e3⟩ := hq
      obtain ⟨as, q1, q2⟩ := rdA I hs d v _ h2 e3
      obtain ⟨cs, bs, q3, q4, q5, q6⟩ := rdAT I hs kvs t qs h3 r2
      exact ⟨[] ++ cs, as ++ bs, ReadsAll.cons (tup_reads I e2) q3, ReadsAll.cons q1 q4, q5, fun z => (List.mem_append.mp z).elim q2 q6⟩
theorem rdAK (I : Inv X pins σ H s) (hs : SysAt X.base) : ∀ (kvs : List (PyData × PyData)) (es : List (Key × V)) (vs : List (Key × Value)) (en : List DictEntry), RpK X.K H kvs es → KV es vs → Pairs (mixKind X.prog X.w) en vs →
    ∃ as bs, ReadsAll s.heap (en.map (·.key)) (kvs.map (·.1)) as ∧ ReadsAll s.heap (en.map (·.val)) (kvs.map (·.2)) bs ∧ sysModules ∉ as ∧ sysModules ∉ bs
  | [], es, vs, en, h, r, p => by
    rw [RpK] at h
    subst h
    cases r
    cases p
    exact ⟨[], [], ReadsAll.nil, ReadsAll.nil, (fun z => nomatch z), (fun z => nomatch z)⟩
  | (k, d) :: kvs, es, vs, en, h, r, p => by
    rw [RpK] at h
    obtain ⟨ks, v, t, rfl, rfl, h2, h3⟩ := h
    cases r with
    | @cons p1 q ps qs hq r2 =>
      obtain ⟨e1, e3⟩ := hq
      cases p with
      | @cons e kv es2 kvs2 g1 g2 g3 =>
        obtain ⟨as, q1, q2⟩ := rdA I hs d v _ h2 e3
        obtain ⟨cs, bs, q3, q4, q5, q6⟩ := rdAK I hs kvs t qs es2 h3 r2 g3
        have kr : Reads s.heap e.key (keyD ks) [] := by
          have e1 : ks = q.1 := e1
          rw [e1]
          rcases keyIs_shape g1 with ⟨i, tk, e5, e4⟩ | ⟨x, tk, e5, e4⟩
          · rw [e5, e4]; exact Reads.int i tk
          · rw [e5, e4]; exact Reads.str x tk
        rw [← g2] at q1
        exact ⟨[] ++ cs, as ++ bs, ReadsAll.cons kr q3, ReadsAll.cons q1 q4, q5, fun z => (List.mem_append.mp z).elim q2 q6⟩
end
end
def rReprA (K : PySem.W.Frag) : List V → Hp → VK → Prop := fun xs H Q => ∃ v d, xs = [v] ∧ Rp K H d v ∧ d.depth ≤ 64 ∧ d.showable = true ∧ d.shown.length ≤ sizeLine ∧ Q (.str d.shown) H
theorem cReprA {X : Cx} {k : Nat} (hr : Room k X.A) (hg : X.A.guards = some []) (hs : SysAt X.base) : CallR X (.builtin "repr") (rReprA X.K) := by
  intro pins s σ H xs us Q I r h
  obtain ⟨v, d, rfl, hd, h1, h2, h3, q⟩ := h
  by_cases hdd : d.hasDict = true
  · obtain ⟨u, rfl, rx⟩ := vals1 r
    obtain ⟨as, rd, ns⟩ := rdA I hs d _ u hd rx
    have := hr.un
    have hv : ∃ a, v = V.ref a := by
      cases d with
      | list ds => obtain ⟨a, _, e, _⟩ := rp_list.mp hd; exact ⟨a, e⟩
      | tuple ds => obtain ⟨a, _, e, _⟩ := rp_tuple.mp hd; exact ⟨a, e⟩
      | dict kvs => rw [Rp] at hd; obtain ⟨a, e, _⟩ := hd; exact ⟨a, e⟩
      | _ => simp [PyData.hasDict] at hdd
    obtain ⟨a, rfl⟩ := hv
    cases rx
    exact repr_of_reads' rd h2 (fun _ => ns) hg (by omega) (fun _ _ e => e) (fun h' u tk hk => ⟨.str _, H, I.kept hk, ⟨_, rfl⟩, q⟩) h3
  · exact cRepr hr hg pins s σ H [v] us Q I r ⟨v, d, rfl, hd, by simpa using hdd, h1, h2, h3, q⟩
theorem kReprA {X : Cx} {j : Nat} (K : PySem.W.Frag) (hr : Room j X.A) (hg : X.A.guards = some []) (hs : SysAt X.base) (h : X.K = K := by rfl) : CallR X (.builtin "repr") (rReprA K) := h ▸ cReprA hr hg hs
structure ShA (x : PyData) : Prop where
  dp : x.depth ≤ 64
  sh : x.showable = true
  ln : x.shown.length ≤ 16777216
section
variable {K : PySem.W.Frag} {m : Mm} {Q : Val → Mm → Prop}
theorem on_showN {x : PyData} (h : ShA x) (q : Q (.d (.str x.shown)) m) : OpN K (rReprA K) [.d x] m Q := fun H G vs S a R kk => by
  obtain ⟨v, rfl, hv⟩ := vrs1 a
  exact ⟨v, x, rfl, Rp.mono S.sub _ _ hv.rp, h.dp, h.sh, by rw [sizeLine_eq]; exact h.ln, kk _ H G _ m q S (Le.refl G) vr_str⟩
end
theorem Sh.toA {x : PyData} {k n : Nat} (h : Sh x k n) (h1 : k ≤ 64) (h2 : n ≤ 16777216) : ShA x := ⟨Nat.le_trans h.dp h1, h.sh, Nat.le_trans h.ln h2⟩
section
variable {P : Program} {w : World} {K : PySem.W.Frag} {mg mb : Str → Option Value} {k : Nat} {fa a : Addr} {fd : FuncData} {x : Str} {sp : FSp} {s1 : Shared} {vs : List Value} {ns : List Int}
/-- what the law's def is asked at the heap behind the top: the script alone is known -/
theorem law_coreS (KX : K.In s1.heap) (hns : s1.heap.Ns mainGlobals mg) (hb : s1.heap.Ns builtinsNs mb) (hbb : ∀ x : Str, x ≠ "__name__" → mb x = bootBuiltins x) (hlim : s1.heap.NoLimit) (hgs : s1.gens = #[])
    (ha : s1.heap.get? a = some { cls := .type "list", data := .seq vs.toArray }) (hr : Room k callerA)
    (hsy : SysAt s1.heap) (F : ∀ base : Heap, K.In base → base.Ns mainGlobals mg → SysAt base → FnG P w K mg base k fa fd [x] (spD K sp)) (hbind : ∀ (s : Shared) (u : Value), BindsTo s fd ⟨[u], []⟩ [(x, u)])
    (hsp : sp [.scr ns] (fun _ => none) fun y _ => y = .d (.bool true))
    (H : Hp) (hO : Only H) (hS : SqL K H a (ns.map V.int)) (hok : HOk P w H s1.heap) (hA : ∀ b, H b ≠ none → b = a) (hK : H a ≠ none → K.lookup a = none) :
    codeAny (model P w) callerA (.call (.ref fa) ⟨[.ref a], []⟩) (fun r s' => r = .ok (.ret (.bool true)) ∧ OldK s1.heap s'.heap ∧ s'.os = s1.os ∧ PyProof.Rows.AllBare s'.gens) s1 := by
  have baseOf : ∀ {b : Addr} {o : Obj}, s1.heap.get? b = some o → H b = none → (hidT s1.heap H).get? b = some o := hidT_get
  have free : ∀ {b : Addr} {o : Obj} {es : Array DictEntry} {ep : Nat}, s1.heap.get? b = some o → o.data = .dict es ep → H b = none := fun {b o es ep} e d => by
    cases q : H b with
    | none => rfl
    | some u =>
      obtain rfl : b = a := hA b fun z => by rw [q] at z; cases z
      rw [ha] at e
      cases e
      exact absurd d fun z => nomatch z
  have nsK : ∀ {b : Addr} {m : Str → Option Value}, s1.heap.Ns b m → (hidT s1.heap H).Ns b m := fun ⟨o, es, ep, e, d, z⟩ => ⟨o, es, ep, baseOf e (free e d), d, z⟩
  have kB : K.In (hidT s1.heap H) := fun b o e => baseOf (KX b o e) (by
    cases q : H b with
    | none => rfl
    | some u =>
      obtain rfl : b = a := hA b fun z => by rw [q] at z; cases z
      rw [hK fun z => by rw [q] at z; cases z] at e
      cases e)
  have e0 : Env0 P w K mg (hidT s1.heap H) callerA [] s1 H := by
    refine ⟨rfl, ⟨kB, nsK hns, ⟨mb, nsK hb, hbb⟩, ?_⟩, fun b o e => of_hidT e, Nat.le_of_eq (hidT_size _ _), trivial, fun b z => ?_, hok, .of_eq hgs⟩
    · obtain ⟨mc, z1, z2⟩ := hlim
      exact ⟨mc, nsK z1, z2⟩
    · exact nomatch (show b ∈ ([] : List Addr) from z)
  have hs : spD K sp [.ref a] H (fun v _ => v = .bl true) fun _ _ _ => False := by
    refine ⟨fun _ => none, H, [.scr ns], fun y _ => y = .d (.bool true), ⟨fun _ _ e => e, (fun _ _ e => nomatch e), (fun _ _ e => nomatch e)⟩, ⟨_, [], rfl, .scr hS, rfl⟩, hsp, ?_⟩
    intro v H' G' y m' hy _ _ hv
    subst hy
    exact rp_bool.mp hv.rp
  refine codeAny_mono ((F _ kB (nsK hns) (let ⟨mm, z⟩ := hsy; ⟨mm, nsK z⟩)).run callerA [] s1 H ⟨[.ref a], []⟩ [.ref a] [.ref a] _ _ rfl hr e0 (hbind s1 (.ref a)) (.cons rfl .nil) hs) fun r s' h => ?_
  cases r with
  | error e => exact False.elim h
  | ok fl =>
    cases fl with
    | next => exact False.elim h
    | brk => exact False.elim h
    | cont => exact False.elim h
    | ret u =>
      obtain ⟨v, H', os, bare, un, hok', rv, q⟩ := h
      have q : v = .bl true := q
      subst q
      obtain rfl : u = Value.bool true := rv
      refine ⟨rfl, OldK.of_keep fun b o e => ?_, os, bare⟩
      cases q : H b with
      | none => exact un.keep b o e q (fun z => nomatch (show b ∈ ([] : List Addr) from z)) (fun z => nomatch z)
      | some y =>
        rcases hO b with z | ⟨ob, xs, z⟩
        · rw [q] at z; cases z
        · obtain ⟨e1, _⟩ := hok b _ z
          obtain ⟨e2, _⟩ := hok' b _ (un.frzs b ob _ z)
          rw [e] at e1
          cases e1
          exact e2
theorem law_runS (KX : K.In s1.heap) (hns : s1.heap.Ns mainGlobals mg) (hb : s1.heap.Ns builtinsNs mb) (hbb : ∀ x : Str, x ≠ "__name__" → mb x = bootBuiltins x) (hlim : s1.heap.NoLimit) (hgs : s1.gens = #[])
    (ha : s1.heap.get? a = some { cls := .type "list", data := .seq vs.toArray }) (hi : PyProof.Rows.IntsAre vs ns) (hl : ns.length ≤ sizeLine) (hr : Room k callerA)
    (hsy : SysAt s1.heap) (F : ∀ base : Heap, K.In base → base.Ns mainGlobals mg → SysAt base → FnG P w K mg base k fa fd [x] (spD K sp)) (hbind : ∀ (s : Shared) (u : Value), BindsTo s fd ⟨[u], []⟩ [(x, u)])
    (hsp : sp [.scr ns] (fun _ => none) fun y _ => y = .d (.bool true)) :
    codeAny (model P w) callerA (.call (.ref fa) ⟨[.ref a], []⟩) (fun r s' => r = .ok (.ret (.bool true)) ∧ OldK s1.heap s'.heap ∧ s'.os = s1.os ∧ PyProof.Rows.AllBare s'.gens) s1 := by
  have rv := vals_ints hi
  have hlen := hi.length
  cases hk : K.lookup a with
  | some o =>
    have e := KX a o hk
    rw [ha] at e
    cases e
    refine law_coreS KX hns hb hbb hlim hgs ha hr hsy F hbind hsp (fun _ => none) (fun _ => Or.inl rfl) (Or.inr ⟨_, vs.toArray, _, hk, rfl, rfl, rfl, ?_, ?_⟩) (fun b u z => nomatch (show (none : Option HO) = some u from z)) (fun b z => absurd rfl z) fun z => absurd rfl z
    · rw [List.size_toArray, hlen]; exact hl
    · simpa using rv
  | none =>
    refine law_coreS KX hns hb hbb hlim hgs ha hr hsy F hbind hsp (fun b => if b = a then some (.frz { cls := .type "list", data := .seq vs.toArray } (.lst (ns.map V.int))) else none) (fun b => ?_) (Or.inl (Or.inr ⟨{ cls := .type "list", data := .seq vs.toArray }, if_pos rfl⟩)) (fun b u z => ?_) (fun b z => ?_) fun _ => hk
    · by_cases h : b = a
      · exact Or.inr ⟨_, _, if_pos h⟩
      · exact Or.inl (if_neg h)
    · by_cases h : b = a
      · have z := (if_pos h).symm.trans z
        cases z
        subst h
        exact ⟨ha, by rw [List.length_map]; exact hl, vs, _, rv, ha⟩
      · exact nomatch (if_neg h).symm.trans z
    · by_cases h : b = a
      · exact h
      · exact absurd (if_neg h) z
end
/-- from the law's def to the row -/
theorem walkS {l : PySem.W.OpenLaw} {n k : Nat} {q : Program} {loose : List Str} {XP : (Str → Option Value) → Heap → Prop} {YP : World → Heap → Prop} {d : DefRec} {K : Params → PySem.W.Frag} {sp : FSp} {x : Str}
    (hn : l.most = some n) (hn2 : n ≤ sizeLine) (hi : importsNone q = true) (hdf : d.params.defaults = []) (hr : Room k callerA) (hY : ∀ (w : World) (h : Heap), YP w h → (K w.params).In h)
    (F : ∀ (w : World) (mg : Str → Option Value) (fa : Addr) (h : Heap), (K w.params).In h → h.Ns mainGlobals mg → mg d.name = some (.ref fa) →
      ∃ fd : FuncData, (∀ (s : Shared) (u : Value), BindsTo s fd ⟨[u], []⟩ [(x, u)]) ∧
        ∀ base : Heap, (K w.params).In base → base.Ns mainGlobals mg → SysAt base → FnG l.prog w (K w.params) mg base k fa fd [x] (spD (K w.params) sp))
    (hsp : ∀ ns : List Int, ns.length ≤ n → (∀ z ∈ ns, Builtin.Int.intBits z ≤ 1048576) → sp [.scr ns] (fun _ => none) fun y _ => y = .d (.bool true)) :
    PySem.W.WalkO q loose XP YP l.row.toRowW d [] (fun f vs => PySem.call f vs) := by
  refine Att.attach_callB hn hdf fun w s0 s1 mg mb fa o pm cd doc a vs ns G Y ho hd hcd hmg hobj hints hlen hbits hg => ?_
  have KX := hY w _ Y
  obtain ⟨fd, hb, hF⟩ := F w mg fa _ KX G.T.g hmg
  exact law_runS KX G.T.g G.T.b G.T.builtins G.T.nolimit hg hobj hints (Nat.le_trans hlen hn2) hr (let ⟨mm, z, _⟩ := (G.T.seer hi).mods; ⟨mm, z⟩) hF hb (hsp ns hlen hbits)
/-! how long it is shown -/
structure ShB (d : PyData) (k n : Nat) : Prop where
  dp : d.depth ≤ k
  sh : d.showable = true
  ln : d.shown.length ≤ n
theorem ShB.mono {d : PyData} {k n k' n' : Nat} (h : ShB d k n) (h1 : k ≤ k') (h2 : n ≤ n') : ShB d k' n' := ⟨Nat.le_trans h.dp h1, h.sh, Nat.le_trans h.ln h2⟩
theorem Sh.toB {d : PyData} {k n : Nat} (h : Sh d k n) : ShB d k n := ⟨h.dp, h.sh, h.ln⟩
theorem ShB.toA {x : PyData} {k n : Nat} (h : ShB x k n) (h1 : k ≤ 64) (h2 : n ≤ 16777216) : ShA x := ⟨Nat.le_trans h.dp h1, h.sh, Nat.le_trans h.ln h2⟩
theorem shbAll {k n : Nat} : ∀ {ds : List PyData}, (∀ d ∈ ds, ShB d k n) → PyData.depthAll ds ≤ k ∧ PyData.showableAll ds = true ∧ ((PyData.shownAll ds).map (·.length)).sum ≤ n * ds.length ∧ (PyData.shownAll ds).length = ds.length
  | [], _ => ⟨by simp only [PyData.depthAll]; exact Nat.zero_le _, by simp only [PyData.showableAll], by simp [PyData.shownAll], by simp [PyData.shownAll]⟩
  | d :: ds, h => by
    have h1 := h d (List.mem_cons_self ..)
    obtain ⟨b, c, e, f⟩ := shbAll (ds := ds) fun x hx => h x (List.mem_cons_of_mem _ hx)
    refine ⟨?_, by simp only [PyData.showableAll, h1.sh, c]; rfl, ?_, ?_⟩
    · simp only [PyData.depthAll]
      exact Nat.max_le.mpr ⟨h1.dp, b⟩
    · have := h1.ln
      simp only [PyData.shownAll, List.map_cons, List.sum_cons, List.length_cons]
      rw [Nat.mul_succ]
      omega
    · simp only [PyData.shownAll, List.length_cons, f]
theorem shb_tuple {ds : List PyData} {k n c : Nat} (h : ∀ d ∈ ds, ShB d k n) (hc : ds.length ≤ c) : ShB (.tuple ds) (k + 1) ((n + 2) * c + 3) := by
  obtain ⟨b, e, f, g⟩ := shbAll h
  refine ⟨by simp only [PyData.depth]; omega, by simp only [PyData.showable, e], ?_⟩
  simp only [PyData.shown]
  have := tupleText_len_le (PyData.shownAll ds)
  have h1 : n * ds.length ≤ n * c := Nat.mul_le_mul_left n hc
  have h2 : (n + 2) * c = n * c + 2 * c := Nat.add_mul n 2 c
  omega
theorem shb_list {ds : List PyData} {k n c : Nat} (h : ∀ d ∈ ds, ShB d k n) (hc : ds.length ≤ c) : ShB (.list ds) (k + 1) ((n + 2) * c + 3) := by
  obtain ⟨b, e, f, g⟩ := shbAll h
  refine ⟨by simp only [PyData.depth]; omega, by simp only [PyData.showable, e], ?_⟩
  simp only [PyData.shown]
  have := listText_len_le (PyData.shownAll ds)
  have h1 : n * ds.length ≤ n * c := Nat.mul_le_mul_left n hc
  have h2 : (n + 2) * c = n * c + 2 * c := Nat.add_mul n 2 c
  omega
end DL
/-! unlike things are shown unlike, where one of them is made of ints, tuples, lists -/
namespace DL
open PySem
def sL (x : PyData) : List Nat := x.shown.cps.toList
theorem cps_app (a b : Str) : (a ++ b).cps.toList = a.cps.toList ++ b.cps.toList := by
  show (a.cps ++ b.cps).toList = _
  exact Array.toList_append
theorem sL_int (i : Int) : sL (.int i) = (toString i).toList.map Char.toNat := by
  unfold sL
  simp only [PyData.shown]
  rw [Str.ofString_eq_toList]
def bdT (c : Nat) : List PyData → List Nat
  | [] => [c]
  | x :: t => 44 :: 32 :: (sL x ++ bdT c t)
theorem join_bd (c : Nat) : ∀ (t : List PyData) (x : PyData), (Str.join ", " (PyData.shownAll (x :: t))).cps.toList ++ [c] = sL x ++ bdT c t
  | [], x => by
    simp only [PyData.shownAll, Str.join]
    rfl
  | y :: t, x => by
    have ih := join_bd c t y
    simp only [PyData.shownAll] at ih ⊢
    rw [Str.join]
    · rw [cps_app, cps_app, List.append_assoc, List.append_assoc, ih]
      rfl
    · exact fun h => nomatch h
theorem sL_nil : sL (.list []) = [91, 93] := by decide +kernel
theorem sL_list (x : PyData) (t : List PyData) : sL (.list (x :: t)) = 91 :: (sL x ++ bdT 93 t) := by
  have h : (PyData.list (x :: t)).shown = ("[" : Str) ++ Str.join ", " (PyData.shownAll (x :: t)) ++ "]" := by
    simp only [PyData.shown, PyData.shownAll]
    unfold PySem.listText
    rw [show textFrom 0 "[" (PyData.shown x :: PyData.shownAll t) = textFrom 1 (("[" : Str) ++ PyData.shown x) (PyData.shownAll t) by rfl]
    rw [textFrom_pos _ _ _ _ (by decide)]
  unfold sL
  rw [h, cps_app, cps_app, List.append_assoc]
  rw [show ("]" : Str).cps.toList = [93] by decide +kernel, show ("[" : Str).cps.toList = [91] by decide +kernel, join_bd 93 t x]
  rfl
theorem sL_tnil : sL (.tuple []) = [40, 41] := by decide +kernel
theorem sL_tone (x : PyData) : sL (.tuple [x]) = 40 :: (sL x ++ [44, 41]) := by
  unfold sL
  simp only [PyData.shown, PyData.shownAll]
  unfold PySem.tupleText
  rw [cps_app, cps_app]
  rw [show ("(" : Str).cps.toList = [40] by decide +kernel]
  rfl
theorem sL_tup (x y : PyData) (t : List PyData) : sL (.tuple (x :: y :: t)) = 40 :: (sL x ++ bdT 41 (y :: t)) := by
  have h : (PyData.tuple (x :: y :: t)).shown = ("(" : Str) ++ Str.join ", " (PyData.shownAll (x :: y :: t)) ++ ")" := by
    simp only [PyData.shown]
    unfold PySem.tupleText
    have hl : ((PyData.shownAll (x :: y :: t)).length == 1) = false := by simp [PyData.shownAll]
    rw [hl]
    rfl
  unfold sL
  rw [h, cps_app, cps_app, List.append_assoc]
  rw [show (")" : Str).cps.toList = [41] by decide +kernel, show ("(" : Str).cps.toList = [40] by decide +kernel, join_bd 41 (y :: t) x]
  rfl
/-! the first sign -/
def hc : PyData → Nat → Prop
  | .none, c => c = 78
  | .bool _, c => c = 84 ∨ c = 70
  | .int _, c => (48 ≤ c ∧ c ≤ 57) ∨ c = 45
  | .str _, c => c = 39 ∨ c = 34
  | .list _, c => c = 91
  | .tuple _, c => c = 40
  | .dict _, c => c = 123
def dgS (c : Nat) : Prop := (48 ≤ c ∧ c ≤ 57) ∨ c = 45
theorem int_dgS (i : Int) : ∀ c ∈ sL (.int i), dgS c := fun c hc => by
  rw [sL_int] at hc
  obtain ⟨ch, h1, rfl⟩ := List.mem_map.mp hc
  rcases PyProof.Rows.int_sign i ch h1 with h | h
  · have h : (48 : UInt32) ≤ ch.val ∧ ch.val ≤ 57 := by simpa [Char.isDigit] using h
    exact Or.inl ⟨UInt32.le_iff_toNat_le.mp h.1, UInt32.le_iff_toNat_le.mp h.2⟩
  · exact Or.inr (by rw [h]; rfl)
theorem int_ne (i : Int) : sL (.int i) ≠ [] := fun h => by
  rw [sL_int] at h
  have h : (toString i).toList = [] := List.map_eq_nil_iff.mp h
  cases i with
  | ofNat n =>
    have h : (Nat.repr n).toList = [] := h
    rw [Nat.toList_repr] at h
    exact Nat.toDigits_ne_nil h
  | negSucc n =>
    have h : ("-" ++ Nat.repr (n + 1)).toList = [] := h
    simp at h
theorem fold_head (f : Nat → List Nat) : ∀ (l : List Nat) (acc : Array Nat), ∃ t, (l.foldl (fun out c => out ++ (f c).toArray) acc).toList = acc.toList ++ t
  | [], acc => ⟨[], by simp⟩
  | c :: l, acc => by
    obtain ⟨t, ht⟩ := fold_head f l (acc ++ (f c).toArray)
    exact ⟨f c ++ t, by rw [List.foldl_cons, ht]; simp⟩
theorem sL_head : ∀ x : PyData, ∃ c l, sL x = c :: l ∧ hc x c
  | .none => ⟨78, [111, 110, 101], by decide +kernel, rfl⟩
  | .bool true => ⟨84, [114, 117, 101], by decide +kernel, Or.inl rfl⟩
  | .bool false => ⟨70, [97, 108, 115, 101], by decide +kernel, Or.inr rfl⟩
  | .int i => by
    cases h : sL (.int i) with
    | nil => exact absurd h (int_ne i)
    | cons c l => exact ⟨c, l, rfl, int_dgS i c (by rw [h]; exact List.mem_cons_self)⟩
  | .str x => by
    have hq : reprQuote x = 39 ∨ reprQuote x = 34 := by
      unfold reprQuote
      split <;> simp
    obtain ⟨t, ht⟩ := fold_head (PySem.Builtin.Str.reprChar (reprQuote x)) x.cps.toList #[reprQuote x]
    refine ⟨reprQuote x, t ++ [reprQuote x], ?_, hq⟩
    unfold sL
    simp only [PyData.shown]
    unfold reprText
    show ((x.cps.foldl (fun out c => out ++ (PySem.Builtin.Str.reprChar (reprQuote x) c).toArray) #[reprQuote x]).push (reprQuote x)).toList = _
    rw [Array.toList_push, ← Array.foldl_toList, ht]
    rfl
  | .list [] => ⟨91, [93], sL_nil, rfl⟩
  | .list (x :: t) => ⟨91, _, sL_list x t, rfl⟩
  | .tuple [] => ⟨40, [41], sL_tnil, rfl⟩
  | .tuple [x] => ⟨40, _, sL_tone x, rfl⟩
  | .tuple (x :: y :: t) => ⟨40, _, sL_tup x y t, rfl⟩
  | .dict kvs => by
    refine ⟨123, (Str.join ", " (PyData.shownKv kvs)).cps.toList ++ ("}" : Str).cps.toList, ?_, rfl⟩
    unfold sL
    simp only [PyData.shown]
    unfold PySem.dictText
    rw [cps_app, cps_app, show ("{" : Str).cps.toList = [123] by decide +kernel]
    rfl
/-- what may stand behind an item -/
def sep (r : List Nat) : Prop := ∀ c l, r = c :: l → c = 44 ∨ c = 41 ∨ c = 93
theorem dgS_cut : ∀ {l1 l2 r1 r2 : List Nat}, (∀ c ∈ l1, dgS c) → (∀ c ∈ l2, dgS c) → sep r1 → sep r2 → l1 ++ r1 = l2 ++ r2 → l1 = l2 ∧ r1 = r2
  | [], [], r1, r2, _, _, _, _, h => ⟨rfl, h⟩
  | [], c :: l2, r1, r2, _, h2, s1, _, h => by
    have := s1 c _ h
    have := h2 c List.mem_cons_self
    unfold dgS at this
    omega
  | c :: l1, [], r1, r2, h1, _, _, s2, h => by
    have := s2 c _ h.symm
    have := h1 c List.mem_cons_self
    unfold dgS at this
    omega
  | c :: l1, d :: l2, r1, r2, h1, h2, s1, s2, h => by
    rw [List.cons_append, List.cons_append] at h
    injection h with e h
    obtain ⟨h3, h4⟩ := dgS_cut (fun c hc => h1 c (List.mem_cons_of_mem _ hc)) (fun c hc => h2 c (List.mem_cons_of_mem _ hc)) s1 s2 h
    exact ⟨by rw [e, h3], h4⟩
theorem int_text_inj {i j : Int} (h : sL (.int i) = sL (.int j)) : i = j := by
  rw [sL_int, sL_int] at h
  have hc : ∀ {a b : Char}, a.toNat = b.toNat → a = b := fun {a b} e => Char.ext (UInt32.toNat_inj.mp e)
  have h2 : (toString i).toList = (toString j).toList := (List.map_inj_right (fun _ _ e => hc e)).mp h
  exact Int.repr_injective (String.toList_inj.mp h2)
mutual
def itl : PyData → Bool
  | .int _ => true
  | .list ys => itlAll ys
  | .tuple ys => itlAll ys
  | .none => false
  | .bool _ => false
  | .str _ => false
  | .dict _ => false
def itlAll : List PyData → Bool
  | [] => true
  | y :: t => itl y && itlAll t
end
theorem bd_head (c : Nat) (hc : c = 41 ∨ c = 93) (t : List PyData) (r : List Nat) : sep (bdT c t ++ r) := fun d l h => by
  cases t with
  | nil =>
    have h : c :: r = d :: l := h
    injection h with h _
    omega
  | cons x t =>
    have h : 44 :: (32 :: (sL x ++ bdT c t) ++ r) = d :: l := h
    injection h with h _
    omega
theorem same_head {x y : PyData} {r1 r2 : List Nat} (h : sL x ++ r1 = sL y ++ r2) : ∃ c, hc x c ∧ hc y c := by
  obtain ⟨c, l, e1, h1⟩ := sL_head x
  obtain ⟨d, k, e2, h2⟩ := sL_head y
  rw [e1, e2, List.cons_append, List.cons_append] at h
  injection h with e _
  exact ⟨c, h1, e ▸ h2⟩
theorem not_close {y : PyData} (hy : itl y = true) {r1 r2 : List Nat} {c : Nat} (hc' : c = 41 ∨ c = 93) : c :: r1 ≠ sL y ++ r2 := fun h => by
  obtain ⟨d, k, e2, h2⟩ := sL_head y
  rw [e2, List.cons_append] at h
  injection h with e _
  subst e
  cases y <;> simp [itl] at hy <;> simp only [hc] at h2 <;> omega
mutual
theorem cut : ∀ (y x : PyData) (r1 r2 : List Nat), itl y = true → sep r1 → sep r2 → sL x ++ r1 = sL y ++ r2 → x = y ∧ r1 = r2
  | .int i, x, r1, r2, _, s1, s2, h => by
    obtain ⟨c, h1, h2⟩ := same_head h
    cases x with
    | int j =>
      obtain ⟨h3, h4⟩ := dgS_cut (int_dgS j) (int_dgS i) s1 s2 h
      exact ⟨by rw [int_text_inj h3], h4⟩
    | _ => simp only [hc] at h1 h2; omega
  | .list ys, x, r1, r2, hy, s1, s2, h => by
    obtain ⟨c, h1, h2⟩ := same_head h
    cases x with
    | list xs =>
      cases ys with
      | nil =>
        cases xs with
        | nil => exact ⟨rfl, List.append_cancel_left h⟩
        | cons a t =>
          rw [sL_nil, sL_list] at h
          injection h with _ h
          obtain ⟨d, k, e2, h2⟩ := sL_head a
          rw [e2] at h
          injection h with h _
          subst h
          cases a <;> simp only [hc] at h2 <;> omega
      | cons b u =>
        have hy : itl b = true ∧ itlAll u = true := by simpa [itl, itlAll] using hy
        cases xs with
        | nil =>
          rw [sL_nil, sL_list] at h
          injection h with _ h
          have h : 93 :: ([] ++ r1) = (sL b ++ bdT 93 u) ++ r2 := h
          rw [List.append_assoc] at h
          exact absurd h (not_close hy.1 (Or.inr rfl))
        | cons a t =>
          rw [sL_list, sL_list] at h
          injection h with _ h
          have h : (sL a ++ bdT 93 t) ++ r1 = (sL b ++ bdT 93 u) ++ r2 := h
          rw [List.append_assoc, List.append_assoc] at h
          obtain ⟨h3, h4⟩ := cut b a _ _ hy.1 (bd_head 93 (Or.inr rfl) t r1) (bd_head 93 (Or.inr rfl) u r2) h
          obtain ⟨h5, h6⟩ := cutT u t 93 r1 r2 hy.2 (Or.inr rfl) h4
          exact ⟨by rw [h3, h5], h6⟩
    | _ => simp only [hc] at h1 h2; omega
  | .tuple ys, x, r1, r2, hy, s1, s2, h => by
    obtain ⟨c, h1, h2⟩ := same_head h
    cases x with
    | tuple xs =>
      have s41 : ∀ r : List Nat, sep (44 :: r) := fun r d l e => by injection e with e _; omega
      cases ys with
      | nil =>
        cases xs with
        | nil => exact ⟨rfl, List.append_cancel_left h⟩
        | cons a t =>
          obtain ⟨d, k, e2, h2⟩ := sL_head a
          have h3 : d = 41 := by
            cases t with
            | nil =>
              rw [sL_tnil, sL_tone, e2] at h
              injection h with _ h
              injection h with h _
            | cons b t =>
              rw [sL_tnil, sL_tup, e2] at h
              injection h with _ h
              injection h with h _
          subst h3
          cases a <;> simp only [hc] at h2 <;> omega
      | cons b u =>
        have hy : itl b = true ∧ itlAll u = true := by simpa [itl, itlAll] using hy
        cases xs with
        | nil =>
          rw [sL_tnil] at h
          cases u with
          | nil =>
            rw [sL_tone] at h
            injection h with _ h
            have h : 41 :: ([] ++ r1) = (sL b ++ [44, 41]) ++ r2 := h
            rw [List.append_assoc] at h
            exact absurd h (not_close hy.1 (Or.inl rfl))
          | cons b2 u =>
            rw [sL_tup] at h
            injection h with _ h
            have h : 41 :: ([] ++ r1) = (sL b ++ bdT 41 (b2 :: u)) ++ r2 := h
            rw [List.append_assoc] at h
            exact absurd h (not_close hy.1 (Or.inl rfl))
        | cons a t =>
          cases t with
          | nil =>
            cases u with
            | nil =>
              rw [sL_tone, sL_tone] at h
              injection h with _ h
              have h : (sL a ++ [44, 41]) ++ r1 = (sL b ++ [44, 41]) ++ r2 := h
              rw [List.append_assoc, List.append_assoc] at h
              obtain ⟨h3, h4⟩ := cut b a _ _ hy.1 (s41 _) (s41 _) h
              exact ⟨by rw [h3], by injection h4 with _ h4; injection h4 with _ h4⟩
            | cons b2 u =>
              rw [sL_tone, sL_tup] at h
              injection h with _ h
              have h : (sL a ++ [44, 41]) ++ r1 = (sL b ++ bdT 41 (b2 :: u)) ++ r2 := h
              rw [List.append_assoc, List.append_assoc] at h
              obtain ⟨h3, h4⟩ := cut b a _ _ hy.1 (s41 _) (s41 _) h
              have h4 : 44 :: (41 :: r1) = 44 :: (32 :: (sL b2 ++ bdT 41 u) ++ r2) := h4
              injection h4 with _ h4
              injection h4 with h4 _
              omega
          | cons a2 t =>
            cases u with
            | nil =>
              rw [sL_tup, sL_tone] at h
              injection h with _ h
              have h : (sL a ++ bdT 41 (a2 :: t)) ++ r1 = (sL b ++ [44, 41]) ++ r2 := h
              rw [List.append_assoc, List.append_assoc] at h
              obtain ⟨h3, h4⟩ := cut b a _ _ hy.1 (s41 _) (s41 _) h
              have h4 : 44 :: (32 :: (sL a2 ++ bdT 41 t) ++ r1) = 44 :: (41 :: r2) := h4
              injection h4 with _ h4
              injection h4 with h4 _
              omega
            | cons b2 u =>
              rw [sL_tup, sL_tup] at h
              injection h with _ h
              have h : (sL a ++ bdT 41 (a2 :: t)) ++ r1 = (sL b ++ bdT 41 (b2 :: u)) ++ r2 := h
              rw [List.append_assoc, List.append_assoc] at h
              obtain ⟨h3, h4⟩ := cut b a _ _ hy.1 (s41 _) (s41 _) h
              obtain ⟨h5, h6⟩ := cutT (b2 :: u) (a2 :: t) 41 r1 r2 hy.2 (Or.inl rfl) h4
              exact ⟨by rw [h3, h5], h6⟩
    | _ => simp only [hc] at h1 h2; omega
  | .none, _, _, _, hy, _, _, _ => by simp [itl] at hy
  | .bool _, _, _, _, hy, _, _, _ => by simp [itl] at hy
  | .str _, _, _, _, hy, _, _, _ => by simp [itl] at hy
  | .dict _, _, _, _, hy, _, _, _ => by simp [itl] at hy
theorem cutT : ∀ (ys xs : List PyData) (c : Nat) (r1 r2 : List Nat), itlAll ys = true → (c = 41 ∨ c = 93) → bdT c xs ++ r1 = bdT c ys ++ r2 → xs = ys ∧ r1 = r2
  | [], xs, c, r1, r2, _, hc', h => by
    cases xs with
    | nil => exact ⟨rfl, List.append_cancel_left h⟩
    | cons a t =>
      have h : 44 :: (32 :: (sL a ++ bdT c t) ++ r1) = c :: r2 := h
      injection h with h _
      omega
  | b :: u, xs, c, r1, r2, hy, hc', h => by
    have hy : itl b = true ∧ itlAll u = true := by simpa [itlAll] using hy
    cases xs with
    | nil =>
      have h : c :: r1 = 44 :: (32 :: (sL b ++ bdT c u) ++ r2) := h
      injection h with h _
      omega
    | cons a t =>
      have h : 44 :: (32 :: ((sL a ++ bdT c t) ++ r1)) = 44 :: (32 :: ((sL b ++ bdT c u) ++ r2)) := h
      injection h with _ h
      injection h with _ h
      rw [List.append_assoc, List.append_assoc] at h
      obtain ⟨h3, h4⟩ := cut b a _ _ hy.1 (bd_head c hc' t r1) (bd_head c hc' u r2) h
      obtain ⟨h5, h6⟩ := cutT u t c r1 r2 hy.2 hc' h4
      exact ⟨by rw [h3, h5], h6⟩
end
end DL
/-! k33: pack papers among things that are told otherwise -/
namespace DL
open PySem L2
/-- a thing that is a list of small enough items -/
structure OkI (d : PyData) : Prop where
  sh : ShB d 4 4000
  sz : szFrac d
theorem oki_odd {o : PyData} (h : o ∈ oddL) : OkI o := by
  obtain ⟨h1, h2, _⟩ := odd_facts h
  refine ⟨?_, h2.2⟩
  rcases h1 with h1 | h1
  · exact h1.toB.mono (by decide) (by decide)
  · exact ShB.mono (k := 3) (n := 2000) ⟨h1.2.1, h1.2.2.1, h1.2.2.2⟩ (by decide) (by decide)
/-! it is the paper where it is shown as the paper -/
theorem isFrac_of {d : PyData} (h : isFrac d = true) : ∃ q : Rat, d = frac q := by
  unfold isFrac at h
  split at h
  · rename_i t b
    have h : decide (1 ≤ b) = true ∧ decide (Nat.gcd b.toNat t.natAbs = 1) = true := by simpa using h
    have h1 := of_decide_eq_true h.1
    have h2 := of_decide_eq_true h.2
    refine ⟨mkRat t b.toNat, ?_⟩
    rw [frac_mk t b.toNat (by omega)]
    rw [h2]
    simp
    omega
  · cases h
theorem eqv_frQ (p q : Rat) : PyData.eqv (frac p) (frac q) = decide (p = q) := by
  by_cases h : p = q
  · subst h
    rw [eqv_data (shaped_frac p), decide_eq_true rfl]
  · rw [decide_eq_false h]
    unfold frac
    have hne : ¬ (p.num = q.num ∧ (p.den : Int) = (q.den : Int)) := fun ⟨h1, h2⟩ => h (Rat.ext h1 (by omega))
    simp only [PyData.eqv, PyData.eqvAll, Bool.and_true]
    by_cases a : p.num = q.num
    · have b : ¬ (p.den : Int) = (q.den : Int) := fun z => hne ⟨a, z⟩
      simp [a, b]
    · simp [a]
end DL
/-! k21: rules, papers that are over or under, words -/
namespace DL
open PySem L2
section
variable {K : PySem.W.Frag} {r : List Val} {m : Mm} {Q : Val → Mm → Prop} {te td tl : TE} {tt : TT}
/-- items of data over a list of tuples, with a test -/
theorem ev_lcLtD {j : Nat} {nss : List (List Int)} (h : Ev K tl r m fun x m1 => x = .lt nss ∧ m1 = m) (hn : nss.length ≤ 100000) (p : List Int → Bool) (g : List Int → PyData)
    (ht : ∀ (ns : List Int) m', ns ∈ nss → Ext m m' → EvT K tt (r.set j (.t ns)) m' fun b m3 => b = p ns ∧ m3 = m')
    (hs : ∀ (ns : List Int) m', ns ∈ nss → Ext m m' → p ns = true → Ev K te (r.set j (.t ns)) m' fun x m3 => x = .d (g ns) ∧ m3 = m') (q : Q (.d (.list ((nss.filter p).map g))) m) : Ev K (tLc (iList K tl) (gName j) tt te [j]) r m Q := fun σ H G S L R k =>
  h σ H G S L _ fun v H1 G1 x m1 ⟨hx, hm⟩ S1 e1 r1 => by
    subst hx hm
    cases r1 with
    | @lt _ a xs hs1 hA =>
      have hs1 : SqL K G1 a xs := Or.inl hs1
      refine ⟨a, rfl, ⟨xs, S1.sqL hs1⟩, fun D hD => ?_⟩
      have hmD := S1.freeM hD
      refine lc_list (xs := xs) (LcW K m1 G1 D fun i acc => acc = ((nss.take i).filter p).map g) (lc_start S1 hD (by simp)) ?_ ?_ ?_
      · rintro i H' hi ⟨G', acc, _, _, S', e'⟩
        exact S'.sqL (e'.sqL hs1)
      · intro i y H' hy hP
        obtain ⟨ns, c, hns, rfl, hc⟩ := hA.at hy
        have hmem := List.mem_of_getElem? hns
        have hi : i < 100000 := by
          have := (List.getElem?_eq_some_iff.mp hy).1
          rw [hA.len] at this
          omega
        refine ⟨wipe1 σ j _, lc_turn hmD hi (fun G' e' => ?_) (fun m' acc hx hw => (ht ns m' hmem hx).imp fun b m2 e => ⟨e.2, fun hb => (hs ns m' hmem hx (e.1.symm.trans hb)).imp fun x m3 e2 => ⟨e2.2, g ns, e2.1, ?_⟩, fun hb => ?_⟩) hP⟩
        · have := (L.mono (e1.trans e')).set (r := .t ns) (.t (e' _ _ hc)) j
          show Sl K G' (r.set j (.t ns)) ((σ.set j none).set j (some (.ref c)))
          rw [List.set_set]
          exact this
        · rw [hw, take_one hns, List.filter_append, List.filter_cons, if_pos (e.1.symm.trans hb), List.map_append]; rfl
        · rw [hw, take_one hns, List.filter_append, List.filter_cons, if_neg (by rw [← e.1, hb]; decide)]; simp
      · intro H' hP
        rw [hA.len] at hP
        exact lc_end hmD hP (fun acc hw => by rw [hw, List.take_length]; exact q) fun v H' G' x m' q S' e' r' => k v H' G' x m' q S' (e1.trans e') r'
/-- [e for a, b in a list of pairs] -/
theorem ev_mapL2 {j1 j2 : Nat} {α : Type} {xs : List α} {f1 f2 : α → PyData} (hj : j1 ≠ j2) (h : Ev K tl r m fun x m1 => x = .d (.list (xs.map fun x => .tuple [f1 x, f2 x])) ∧ m1 = m) (hn : xs.length ≤ 100000) (g : α → PyData)
    (hs : ∀ (x : α) m', x ∈ xs → Ext m m' → Ev K te ((r.set j1 (.d (f1 x))).set j2 (.d (f2 x))) m' fun y m3 => y = .d (g x) ∧ m3 = m') (q : Q (.d (.list (xs.map g))) m) :
    Ev K (tLc (iList K tl) (gTup K 2 (gCons (gName j1) (gCons (gName j2) gNil))) tYes te [j1, j2]) r m Q := fun σ H G S L R k =>
  h σ H G S L _ fun v H1 G1 x m1 ⟨hx, hm⟩ S1 e1 r1 => by
    subst hx hm
    obtain ⟨p, zs, rfl, hs1, hA⟩ := rp_list.mp r1.rp
    have hlen := hA.length
    rw [List.length_map] at hlen
    have hs1 : SqL K G1 p zs := Or.inl hs1
    refine ⟨p, rfl, ⟨zs, S1.sqL hs1⟩, fun D hD => ?_⟩
    have hmD := S1.freeM hD
    refine lc_list (xs := zs) (LcW K m1 G1 D fun i acc => acc = (xs.take i).map g) (lc_start S1 hD (by simp)) ?_ ?_ ?_
    · rintro i H' hi ⟨G', acc, _, _, S', e'⟩
      exact S'.sqL (e'.sqL hs1)
    · intro i y H' hy hP
      obtain ⟨d, hd1, hd2⟩ := hA.get hy
      obtain ⟨x, hx, rfl⟩ := map_at hd1
      have hi : i < 100000 := by
        have := (List.getElem?_eq_some_iff.mp hx).1
        omega
      obtain ⟨b, ys, rfl, g1, g2⟩ := rp_tuple.mp hd2
      obtain ⟨x1, t1, rfl, a1, g2⟩ := rpa_cons.mp g2
      obtain ⟨x2, t2, rfl, a2, g2⟩ := rpa_cons.mp g2
      obtain rfl := rpa_nil.mp g2
      have hq : SqT K H' b [x1, x2] := by
        obtain ⟨G', acc, _, _, S', e'⟩ := id hP
        exact S'.sqT (e'.sqT g1)
      refine ⟨b, _, rfl, hq, rfl, x1, [x2], rfl, x2, [], rfl, rfl, wipe2 σ hj _ _, ?_⟩
      refine lc_turn hmD hi (fun G3 e3 => sl_in2 hj (L.mono e1) e3 (Rp.mono e3 _ _ a1) (Rp.mono e3 _ _ a2)) (fun m' acc hx' hw => evt_yes ⟨rfl, fun _ => (hs x m' (List.mem_of_getElem? hx) hx').imp fun z m3 e => ⟨e.2, g x, e.1, ?_⟩, (fun g => nomatch g)⟩) hP
      rw [hw, take_one hx, List.map_append]; rfl
    · intro H' hP
      rw [hlen] at hP
      exact lc_end hmD hP (fun acc hw => by rw [hw, List.take_length]; exact q) fun v H' G' x m' q S' e' r' => k v H' G' x m' q S' (e1.trans e') r'
theorem o2_ixLt {nss : List (List Int)} {i : Nat} {ns : List Int} (h : nss[i]? = some ns) (q : Q (.t ns) m) : Op2 K (rIx K) (.lt nss) (.d (.int (i : Int))) m Q := fun H G v w S a b R k => by
  rw [int_of b]
  cases a with
  | @lt _ p xs h1 h2 =>
    have hlen := h2.len
    have hi : i < xs.length := by rw [hlen]; exact (List.getElem?_eq_some_iff.mp h).1
    obtain ⟨ns', c, hns, hc, hG⟩ := h2.at (List.getElem?_eq_getElem hi)
    rw [h] at hns
    cases hns
    refine Or.inl ⟨p, xs, (i : Int), .ref c, rfl, rfl, S.sqL (Or.inl h1), ?_, k _ H G _ m q S (Le.refl G) (.t hG)⟩
    exact L2.atI_nat (by rw [List.getElem?_eq_getElem hi, hc])
end
end DL
/-! k21: papers that are over or under: plain mathematics, words -/
namespace DL
open PySem L2
def hQ : Rat := mkRat 1 2
/-- papers whose numbers are small enough -/
structure FB (ss : List Int) (P : List Nat → Rat) : Prop where
  nn : ∀ s, Kinds ss.length s → 0 ≤ P s
  fr : ∀ s, Kinds ss.length s → FrB (P s) 1400
  acc : ∀ s, Kinds ss.length s → ∀ i, FrB (dueAcc ss P s (s.take i)) 1400
theorem PB.fb {ss : List Int} (hs : Shares ss) {P : List Nat → Rat} (h : PB ss P) : FB ss P := ⟨fun s hk => (h s hk).nn, fun s hk => (h.fr hs hk).mono (by decide), fun s hk i => (h.accFr hs hk i).mono (by decide)⟩
theorem FB.due {ss : List Int} (hs : Shares ss) {P : List Nat → Rat} (h : FB ss P) {s : List Nat} (hk : Kinds ss.length s) (h0 : s ≠ []) : FrB (dueT ss P s) 1420 := by
  have ha := h.acc s hk s.length
  rw [List.take_length] at ha
  have hp := sumP_pos hs h0 hk.lt
  have hl := sumP_le hs hk
  exact ha.mul (b := 8) (frB_mk (bt_lit (n := 1) (by decide) (by decide)) (bt_lit (n := 8) (by show _ < 256; omega) (by decide)) (by omega)) (by decide)
/-- 1/2 more -/
def addH (P : List Nat → Rat) : List Nat → Rat := fun s => if s = [] then P s else P s + hQ
/-- nothing -/
def nilP : List Nat → Rat := fun _ => 0
/-! the time paper's own numbers -/
/-! words -/
def f_dueF : FSp := fun args m R => ∃ (ss : List Int) (s : List Nat) (p : Addr) (kvs : List (List Key × Val)) (P : List Nat → Rat), args = [.d (tupI ss), .v (.ref p), .d (tupN s)] ∧ Shares ss ∧ Kinds ss.length s ∧ s ≠ [] ∧ Dat m p kvs ∧ FB ss P ∧
  (∀ k ∈ s, getV kvs (kI (kn (s.filter fun x => !decide (x = k)))) = some (.d (frac (P (s.filter fun x => !decide (x = k)))))) ∧ R (.d (frac (dueT ss P s))) m
def someL (n : Nat) : List (List Nat) := (allS n).filter noNil
/-- a paper stands at p -/
structure PapAt (ss : List Int) (m : Mm) (p : Addr) (P : List Nat → Rat) : Prop where
  sh : Shares ss
  fb : FB ss P
  nil : P [] = 0
  mem : m p = some (.dT (tabT P ([] :: rsX ss.length)))
theorem PapAt.less {ss : List Int} {m m' : Mm} {p : Addr} {P : List Nat → Rat} (h : PapAt ss m p P) (hl : ∀ a o, m a = some o → m' a = some o) : PapAt ss m' p P := ⟨h.sh, h.fb, h.nil, hl _ _ h.mem⟩
def ovB (ss : List Int) (P : List Nat → Rat) : Bool := (someL ss.length).any fun s => decide (P s < dueT ss P s)
def unB (ss : List Int) (P : List Nat → Rat) : Bool := (someL ss.length).any fun s => decide (dueT ss P s < P s)
theorem someL_k {n : Nat} {s : List Nat} (h : s ∈ someL n) : Kinds n s ∧ s ≠ [] := by
  obtain ⟨h1, h2⟩ := List.mem_filter.mp h
  exact ⟨allS_kinds h1, by simpa [noNil] using h2⟩
theorem someL_len {n : Nat} (h : n ≤ 5) : (someL n).length ≤ 32 := by
  refine Nat.le_trans (List.length_filter_le ..) ?_
  rw [allS_len]
  exact Nat.pow_le_pow_right (by decide) h
theorem zero_in : ∀ n : _root_.Fin 6, 1 ≤ n.val → [0] ∈ someL n.val := by decide +kernel
theorem someL_map (n : Nat) : ((allS n).map kn).filter (fun ns => !decide (ns = [])) = (someL n).map kn := by
  unfold someL
  rw [List.filter_map]
  refine congrArg _ (List.filter_congr fun s _ => ?_)
  show (!decide (kn s = [])) = noNil s
  unfold noNil
  rw [show decide (kn s = []) = decide (s = []) from decide_eq_decide.mpr List.map_eq_nil_iff]
/-! what they tell -/
/-- the paper while 1/2 is added -/
def hF (ss : List Int) (l : List (List Nat)) : List Nat → Rat := fun s => if s ∈ l then addH (timeT ss) s else timeT ss s
theorem tabT_same {f g : List Nat → Rat} {l : List (List Nat)} (h : ∀ s ∈ l, f s = g s) : tabT f l = tabT g l := List.map_congr_left fun s hs => by rw [h s hs]
end DL
/-! k63: papers and plans told; for a, b in two pairs; d.pop(k) -/
namespace DL
open PySem L2 PySem.Spec PyProof.Rows
/-! d.pop(k), the key there -/
def rPop1T : V → List V → Hp → VK → Prop := fun x xs H Q => ∃ (a : Addr) (kvs : List (List L2.Key × V)) (k : List L2.Key) (b : Addr) (v : V), x = .ref a ∧ xs = [.ref b] ∧ H a = some (.dT kvs) ∧ H b = some (.tup (k.map kV)) ∧
  valV kvs k = some v ∧ Q v (upd H a (.dT (dropK kvs k)))
theorem mt_pop1T {X : Cx} (hu : X.A.units + 1 < cLine) : MtR X "dict.pop" rPop1T := by
  intro pins s σ H x xs v us Q I rx rxs h
  obtain ⟨a, kvs, k, b, v0, rfl, rfl, ha, hb, hv, q⟩ := h
  cases rx
  obtain ⟨u1, rfl, r1⟩ := vals1 rxs
  cases r1
  obtain ⟨z, hd, xs', rel, dd⟩ := dt_of I.hok ha
  have hz : xs'.length ≤ sizeLine := by rw [← Paired.length rel]; exact z
  have r := rel.val k
  rw [hv] at r
  obtain ⟨p, hp, rp⟩ : ∃ p, atKey xs' k = some p ∧ RelV v0 p.2 := by
    cases ev : atKey xs' k with
    | none => rw [ev] at r; exact (show False from r).elim
    | some p => rw [ev] at r; exact ⟨p, rfl, r⟩
  refine call_pop_heap (more := []) (.inl rfl) (PySem.F.args_dict_pop_2 _ _) (tupleKind_room_in1 hu) (key_of I.hok hb) hd dd hp (fun h' dd' hs => ?_) hz
  obtain ⟨o, es, ep, hq, h2, h3, h4, _, h5⟩ := dd'
  have I2 : Inv X pins σ (upd H a (.dT (dropK kvs k))) { s with heap := h', toks := s.toks + (tupleKind (mixKind X.prog X.w)).draws k } :=
    d_write I (by rw [ha]; exact True.intro) hs ⟨o, hq⟩ ⟨Nat.le_trans (dropK_le kvs k) z, hd, _, (DX.KT_drop k rel).keeps (fun c ys ec => (by rw [upd_ne (ne_of ec ha (fun z => nomatch z))]; exact ec)), o, es, ep, hq, h2, h3, h4, h5⟩
  exact ⟨v0, _, I2, rp, q⟩
theorem kPop1T (K : PySem.W.Frag) {X : Cx} {e : Expr} {to : TE} {ta : TA} (hp : PE X e (tBM X.K "dict" rPop1T to ta)) (h : X.K = K := by rfl) : PE X e (tBM K "dict" rPop1T to ta) := h ▸ hp
section
variable {K : PySem.W.Frag} {r : List Val} {m : Mm} {Q : Val → Mm → Prop} {te tk : TE}
theorem KVs.dropK {G : Hp} (k : List Key) : ∀ {kvs : List (List Key × Val)} {es : List (List Key × V)}, KVs K G kvs es → KVs K G (kvs.filter fun e => !decide (e.1 = k)) (L2.dropK es k)
  | [], es, h => by
    have h : es = [] := h
    subst h; exact rfl
  | (c, x) :: t, es, h => by
    obtain ⟨v, u, rfl, h2, h3⟩ := h
    have ih := KVs.dropK k h3
    by_cases e : c = k
    · have z1 : L2.dropK ((c, v) :: u) k = L2.dropK u k := List.filter_cons_of_neg (by simp [e])
      rw [z1, List.filter_cons, if_neg (by simp [e])]
      exact ih
    · have z1 : L2.dropK ((c, v) :: u) k = (c, v) :: L2.dropK u k := List.filter_cons_of_pos (by simp [e])
      rw [z1, List.filter_cons, if_pos (by simp [e])]
      exact ⟨v, _, rfl, h2, ih⟩
theorem ev_pop1T (h : Ev K te r m fun x m1 => ∃ p, x = .v (.ref p) ∧ (∃ kvs, m1 p = some (.dT kvs)) ∧ Ev K tk r m1 fun y m2 => ∃ (kvs : List (List Key × Val)) (ns : List Int) (z : Val), y = .t ns ∧ m2 p = some (.dT kvs) ∧ getV kvs (kI ns) = some z ∧ Q z (put m2 p (.dT (kvs.filter fun e => !decide (e.1 = kI ns))))) :
    Ev K (tBM K "dict" rPop1T te (tCons tk tNil)) r m Q := fun σ H G S L R k =>
  h σ H G S L _ fun v H1 G1 x m1 ⟨p, hx, ⟨kvs0, hm⟩, h1⟩ S1 e1 r1 => by
    subst hx
    obtain rfl := r1.eq
    obtain ⟨es, hes, hk⟩ := S1.mem p _ hm
    refine ⟨.inr (.inr (.inl ⟨rfl, .inr ⟨_, hes⟩⟩)), ?_⟩
    refine h1 σ H1 G1 S1 (L.mono e1) _ fun w H2 G2 y m2 ⟨kvs, ns, z, hy, hm2, hg, q⟩ S2 e2 r2 => ?_
    subst hy
    obtain ⟨b, rfl, hb⟩ := t_of r2
    obtain ⟨es2, g1, g2⟩ := S2.mem p _ hm2
    obtain ⟨v, hv, rv⟩ := (g2.get (kI ns)).1 z hg
    exact ⟨p, es2, kI ns, b, v, rfl, rfl, g1, S2.sub _ _ hb, hv, k v _ G2 _ _ q (S2.chg hm2 ⟨_, upd_same, g2.dropK (kI ns)⟩) (e1.trans e2) rv⟩
end
/-! plans as pairs -/
end DL
/-! things that may be dicts with tuple keys, lists of such things -/
namespace DL
open PySem L2
/-! dicts of data -/
def dV (kds : List (List Int × PyData)) : List (List Int × Val) := kds.map fun e => (e.1, Val.d e.2)
def dctD (kds : List (List Int × PyData)) : PyData := .dict (kds.map fun e => (tupI e.1, e.2))
def lkD (kds : List (List Int × PyData)) (k : List Int) : Option PyData := (kds.find? fun e => decide (e.1 = k)).map (·.2)
theorem dV_len (kds : List (List Int × PyData)) : (dI (dV kds)).length = kds.length := by unfold dI dV; rw [List.length_map, List.length_map]
theorem getV_dV (kds : List (List Int × PyData)) (k : List Int) : getV (dI (dV kds)) (kI k) = (lkD kds k).map Val.d := by
  induction kds with
  | nil => rfl
  | cons e kds ih =>
    unfold getV lkD dI dV at *
    rw [List.map_cons, List.map_cons, List.find?_cons, List.find?_cons]
    by_cases h : e.1 = k
    · subst h; simp
    · rw [show decide (kI e.1 = kI k) = false from decide_eq_false fun z => h (kI_inj z), show decide (e.1 = k) = false from decide_eq_false h]
      exact ih
theorem lkD_mem {kds : List (List Int × PyData)} (hn : (kds.map (·.1)).Nodup) {e : List Int × PyData} (he : e ∈ kds) : lkD kds e.1 = some e.2 := by
  induction kds with
  | nil => cases he
  | cons a kds ih =>
    rw [List.map_cons, List.nodup_cons] at hn
    unfold lkD at *
    rw [List.find?_cons]
    rcases List.mem_cons.mp he with rfl | he
    · simp
    · have : a.1 ≠ e.1 := fun z => hn.1 (z ▸ List.mem_map.mpr ⟨e, he, rfl⟩)
      rw [show decide (a.1 = e.1) = false from decide_eq_false this]
      exact ih hn.2 he
theorem lkD_in {kds : List (List Int × PyData)} {k : List Int} {d : PyData} (h : lkD kds k = some d) : (k, d) ∈ kds := by
  induction kds with
  | nil => cases h
  | cons a kds ih =>
    unfold lkD at *
    rw [List.find?_cons] at h
    by_cases e : a.1 = k
    · rw [show decide (a.1 = k) = true from decide_eq_true e] at h
      cases h
      rw [← e]; exact List.mem_cons_self
    · rw [show decide (a.1 = k) = false from decide_eq_false e] at h
      exact List.mem_cons_of_mem _ (ih h)
section
variable {K : PySem.W.Frag} {G : Hp}
theorem rpT_of : ∀ {kds : List (List Int × PyData)} {es : List (List Key × V)}, KVs K G (dI (dV kds)) es → RpT K G (kds.map fun e => (tupI e.1, e.2)) es
  | [], es, h => by rw [List.map_nil, RpT]; exact h
  | e :: kds, es, h => by
    obtain ⟨v, u, rfl, h2, h3⟩ := h
    rw [List.map_cons, RpT]
    refine ⟨kI e.1, v, u, rfl, ?_, h2.rp, rpT_of h3⟩
    unfold tupI kI
    rw [List.map_map]
    rfl
end
section
variable {K : PySem.W.Frag} {r : List Val} {m : Mm} {Q : Val → Mm → Prop} {te tl ta tb : TE} {tt : TT} {N : List Val → Mm → Prop} {E : Val → Mm → Prop} {t : TS}
theorem on_showDT {p : Addr} {kds : List (List Int × PyData)} (hm : m p = some (.dT (dI (dV kds)))) (h : ShA (dctD kds)) (q : Q (.d (.str (dctD kds).shown)) m) : OpN K (rReprA K) [.v (.ref p)] m Q := fun H G vs S a R kk => by
  obtain ⟨v, rfl, hv⟩ := vrs1 a
  obtain rfl := hv.eq
  obtain ⟨es, g1, g2⟩ := S.mem p _ hm
  refine ⟨_, dctD kds, rfl, ?_, h.dp, h.sh, by rw [sizeLine_eq]; exact h.ln, kk _ H G _ m q S (Le.refl G) vr_str⟩
  unfold dctD
  rw [Rp]
  exact ⟨p, rfl, Or.inl ⟨es, g1, RpT.mono S.sub _ _ (rpT_of g2)⟩⟩
/-! len of anything that has one -/
def rLenA (K : PySem.W.Frag) : List V → Hp → VK → Prop := fun xs H Q => rLen K xs H Q ∨ (rLenT xs H Q ∨ ∃ a kvs, xs = [V.ref a] ∧ H a = some (.dK kvs) ∧ Q (.int kvs.length) H)
theorem kLenA (K : PySem.W.Frag) {X : Cx} (h : X.K = K := by rfl) : CallR X (.builtin "len") (rLenA K) := by
  subst h
  exact (kLen X.K).or (call_len_dT.or call_lenD)
theorem rpT_len : ∀ {kvs : List (PyData × PyData)} {es : List (List Key × V)}, RpT K G kvs es → es.length = kvs.length := by
  intro kvs
  induction kvs with
  | nil => intro es h; rw [RpT] at h; rw [h]; rfl
  | cons e kvs ih =>
    intro es h
    obtain ⟨k, d⟩ := e
    rw [RpT] at h
    obtain ⟨ks, v, u, rfl, _, _, h3⟩ := h
    rw [List.length_cons, List.length_cons, ih h3]
theorem rpK_len {G : Hp} : ∀ {kvs : List (PyData × PyData)} {es : List (Key × V)}, RpK K G kvs es → es.length = kvs.length := by
  intro kvs
  induction kvs with
  | nil => intro es h; rw [RpK] at h; rw [h]; rfl
  | cons e kvs ih =>
    intro es h
    obtain ⟨k, d⟩ := e
    rw [RpK] at h
    obtain ⟨ks, v, u, rfl, _, _, h3⟩ := h
    rw [List.length_cons, List.length_cons, ih h3]
theorem on_lenDD {kvs : List (PyData × PyData)} (q : Q (.d (.int (kvs.length : Int))) m) : OpN K (rLenA K) [.d (.dict kvs)] m Q := fun H G vs S a R k => by
  obtain ⟨v, rfl, hv⟩ := vrs1 a
  have hv := hv.rp
  rw [Rp] at hv
  obtain ⟨p, rfl, ⟨es, h1, h2⟩ | ⟨es, h1, h2⟩⟩ := hv
  · refine Or.inr (Or.inl ⟨p, es, rfl, S.sub _ _ h1, ?_⟩)
    rw [rpT_len h2]
    exact k _ H G _ m q S (Le.refl G) vr_int
  · refine Or.inr (Or.inr ⟨p, es, rfl, S.sub _ _ h1, ?_⟩)
    rw [rpK_len h2]
    exact k _ H G _ m q S (Le.refl G) vr_int
theorem on_lenAT {xs : List Val} (h : OpN K rLenT xs m Q) : OpN K (rLenA K) xs m Q := fun H G vs S a R k => Or.inr (Or.inl (h H G vs S a R k))
/-! lists of any values, that stay -/
def vL (K : PySem.W.Frag) (rs : List Val) : Val := .g fun G v => ∃ a xs, v = .ref a ∧ Rd G a (.lst xs) ∧ VRs K G rs xs
theorem vL_mono (rs : List Val) (v : V) : ∀ G G', Le G G' → (∃ a xs, v = .ref a ∧ Rd G a (.lst xs) ∧ VRs K G rs xs) → ∃ a xs, v = .ref a ∧ Rd G' a (.lst xs) ∧ VRs K G' rs xs := fun G G' e ⟨a, xs, h1, h2, h3⟩ => ⟨a, xs, h1, e.rd h2, h3.mono e⟩
theorem vL_mk {G : Hp} {rs : List Val} {a : Addr} {xs : List V} (h : Rd G a (.lst xs)) (h2 : VRs K G rs xs) : VR K G (vL K rs) (.ref a) := .g ⟨a, xs, rfl, h, h2⟩ (vL_mono rs _)
theorem vL_of {G : Hp} {rs : List Val} {v : V} (h : VR K G (vL K rs) v) : ∃ a xs, v = .ref a ∧ Rd G a (.lst xs) ∧ VRs K G rs xs := by
  cases h with
  | g h _ => exact h
theorem ev_lstV {t : TA} (h : EvA K t r m fun xs m1 => xs.length ≤ 100000 ∧ Q (vL K xs) m1) : Ev K (tLst t) r m Q := fun σ H G S L R k =>
  h σ H G S L _ fun vs H1 G1 xs m1 ⟨hl, q⟩ S1 e1 r1 => by
    refine ⟨by rw [r1.length]; exact Nat.le_trans hl (by decide), fun p hp => ?_⟩
    have hg := S1.free hp
    exact k (.ref p) _ (upd G1 p _) _ m1 q (S1.fix hp) (e1.trans (Le.new hg)) (vL_mk (Rd.of upd_same) (r1.mono (Le.new hg)))
theorem o2_addV {a b : List Val} (hz : a.length + b.length ≤ 100000) (q : Q (vL K (a ++ b)) m) : Op2 K (rAdd K) (vL K a) (vL K b) m Q := fun H G v w S x y R k => by
  obtain ⟨p, xs, rfl, h1, h1'⟩ := vL_of x
  obtain ⟨p', ys, rfl, h2, h2'⟩ := vL_of y
  refine Or.inr (Or.inr (Or.inl ⟨p, p', xs, ys, rfl, rfl, Le.rd S.sub h1, Le.rd S.sub h2, ?_, fun l hl => ?_⟩))
  · rw [h1'.length, h2'.length]; exact Nat.le_trans hz (by decide)
  · have hg := S.free hl
    exact k _ _ (upd G l (.lst (xs ++ ys))) _ m q (S.fix hl) (Le.new hg) (vL_mk (Rd.of upd_same) ((h1'.append h2').mono (Le.new hg)))
theorem o2_ixV {rs : List Val} {i : Nat} {x : Val} (h : rs[i]? = some x) (q : Q x m) : Op2 K (rIx K) (vL K rs) (.d (.int (i : Int))) m Q := fun H G v w S a b R k => by
  rw [int_of b]
  obtain ⟨p, xs, rfl, h1, h2⟩ := vL_of a
  obtain ⟨y, hy, ry⟩ := VRs.atI h2 h
  exact Or.inl ⟨p, xs, (i : Int), y, rfl, rfl, S.sqL (Or.inl h1), L2.atI_nat hy, k _ H G _ m q S (Le.refl G) ry⟩
theorem w_forV {j : Nat} {rs : List Val} (h : Ev K tl r m fun x m1 => x = vL K rs ∧ m1 = m) (W : Nat → List Val → Mm → Prop) (h0 : W 0 r m)
    (hs : ∀ (i : Nat) (x : Val) r' m', rs[i]? = some x → W i r' m' → Wp K t (r'.set j x) m' (W (i + 1)) E) (hd : ∀ r' m', W rs.length r' m' → N r' m') : Wp K (tFor (iList K tl) (gName j) t) r m N E := fun σ H G D S L a b =>
  h σ H G S L _ fun v H1 G1 x m1 ⟨hx, hm⟩ S1 e1 r1 => by
    subst hx hm
    obtain ⟨p, xs, rfl, hs1, hA⟩ := vL_of r1
    have hs1 : SqL K G1 p xs := Or.inl hs1
    refine ⟨p, rfl, ⟨xs, S1.sqL hs1⟩, for_list (xs := xs) (fun i σ' H' => ∃ G' r' m', W i r' m' ∧ Sta K m' H' G' ∧ Le G1 G' ∧ Sl K G' r' σ') ⟨G1, r, _, h0, S1, Le.refl G1, L.mono e1⟩ ?_ ?_ ?_⟩
    · rintro i σ' H' hi ⟨G', r', m', _, S', e', _⟩
      exact S'.sqL (e'.sqL hs1)
    · rintro i y σ' H' hy ⟨G', r', m', hw, S', e', L'⟩
      have hil : i < rs.length := by rw [← hA.length]; exact (List.getElem?_eq_some_iff.mp hy).1
      obtain ⟨y', hy', ry⟩ := VRs.atI hA (List.getElem?_eq_getElem hil)
      rw [hy] at hy'
      cases hy'
      refine hs i _ r' m' (List.getElem?_eq_getElem hil) hw (σ'.set j (some y)) H' G' _ S' (L'.set (ry.mono e') j) (fun σ3 H3 G3 r3 m3 h3 S3 e3 L3 => ⟨G3, r3, m3, h3, S3, e'.trans e3, L3⟩) (fun v H3 G3 x m3 n3 S3 e3 L3 => b v H3 G3 x m3 n3 S3 (e1.trans (e'.trans e3)) L3)
    · rintro σ' H' ⟨G', r', m', hw, S', e', L'⟩
      rw [hA.length] at hw
      exact a σ' H' G' r' m' (hd r' m' hw) S' (e1.trans e') L'
def LcY (K : PySem.W.Frag) (G : Hp) (D : Addr) (W : Nat → List Val → Mm → Prop) (i : Nat) (H' : Hp) : Prop :=
  ∃ G' acc mm, W i acc mm ∧ mm D = none ∧ acc.length = i ∧ Sta K (put mm D (.lst acc)) H' G' ∧ Le G G'
/-- [.. for j in range(n)], any items, what may change may change -/
theorem ev_lcR1Y {ta : TA} {j : Nat} {n : Nat} (h : EvA K ta r m fun xs m1 => xs = [.d (.int (n : Int))] ∧ m1 = m) (hn : n ≤ 100000) (W : Nat → List Val → Mm → Prop) (h0 : W 0 [] m)
    (hs : ∀ (i : Nat) mm D acc, i < n → mm D = none → W i acc mm → Ev K te (r.set j (.d (.int (i : Int)))) (put mm D (.lst acc)) fun x m3 => ∃ mm', mm' D = none ∧ m3 = put mm' D (.lst acc) ∧ W (i + 1) (acc ++ [x]) mm')
    (hd : ∀ acc mm, acc.length = n → W n acc mm → Q (vL K acc) mm) : Ev K (tLc (iRng1 ta) (gName j) tYes te [j]) r m Q := fun σ H G S L R k =>
  h σ H G S L _ fun vs H1 G1 xs m1 ⟨hx, hm⟩ S1 e1 r1 => by
    subst hx hm
    obtain ⟨v1, rfl, a1⟩ := vrs1 r1
    have a1 := int_of a1
    subst a1
    have en : ((n : Int)).toNat = n := by omega
    refine ⟨(n : Int), rfl, by omega, by omega, ?_⟩
    rw [en]
    intro D hD
    have hmD := S1.freeM hD
    refine lc_range (lo := 0) (n := n) (LcY K G1 D W) ⟨G1, [], m1, h0, hmD, rfl, S1.new hD ⟨[], upd_same, rfl⟩, Le.refl G1⟩ ?_ ?_
    · intro i H' hi hP
      rw [Int.zero_add]
      refine ⟨wipe1 σ j _, ?_⟩
      obtain ⟨G', acc, mm, hw, hmm, hl, S', e'⟩ := hP
      show te _ H' _
      refine hs i mm D acc hi hmm hw _ H' G' S' (sl_in (L.mono e1) e' (rp_int.mpr rfl)) _ fun v H4 G4 x m4 ⟨mm', hm', e4, hw'⟩ S4 l4 r4 => ?_
      subst e4
      obtain ⟨xs, g1, g2⟩ := S4.mem D _ put_same
      have hlen := g2.length
      refine ⟨xs, g1, Nat.lt_of_lt_of_le (show xs.length < 100000 by omega) (by decide), G4, acc ++ [x], mm', hw', hm', by rw [List.length_append, hl]; rfl, ?_, e'.trans l4⟩
      have S5 := S4.chg (u := .lst (acc ++ [x])) (o := .lst (xs ++ [v])) put_same ⟨_, upd_same, g2.append ⟨v, [], rfl, r4, rfl⟩⟩
      rw [put_put] at S5
      exact S5
    · intro H' ⟨G', acc, mm, hw, hmm, hl, S', e'⟩
      obtain ⟨xs, g1, g2⟩ := S'.mem D _ put_same
      have hg := S'.dis D _ put_same
      have S2 := S'.freeze put_same g1
      rw [del_put hmm] at S2
      exact k _ H' _ _ mm (hd acc mm hl hw) S2 (e1.trans (e'.trans (Le.new hg))) (vL_mk (Rd.of upd_same) (g2.mono (Le.new hg)))
/-! x in a list of tuples -/
theorem dp_lt {H G : Hp} {nss : List (List Int)} {v : V} (S : Sta K m H G) (h : SeqAt.shaped (.list (nss.map tupI)) = true) (a : VR K G (.lt nss) v) : Dp K H v (.list (nss.map tupI)) := dp_of S h (lt_d a)
def rInA (K : PySem.W.Frag) (neg : Bool) : R2 := fun x y H Q => rIn K neg x y H Q ∨ (if neg then rNotInD K x y H Q else rInD K x y H Q)
theorem kNotInA (K : PySem.W.Frag) {X : Cx} {j : Nat} (hr : Room j X.A) (h : X.K = K := by rfl) : OpR X (compareOp .NotIn) (rInA K true) := by
  subst h
  exact op_notIn_seq.or (op_notInD (by have := hr.un; omega))
theorem canLay_tups (nss : List (List Int)) : PyData.canLayAll0 (nss.map tupI) = true := by
  induction nss with
  | nil => simp [PyData.canLayAll0]
  | cons ns l ih =>
    rw [List.map_cons]
    have h := shaped_tupI ns
    simp only [SeqAt.shaped, Bool.and_eq_true] at h
    simp only [PyData.canLayAll0, h.1, ih, Bool.and_self]
theorem depth_tups1 (nss : List (List Int)) : PyData.depthAll (nss.map tupI) ≤ 1 := by
  induction nss with
  | nil => simp [PyData.depthAll]
  | cons ns l ih =>
    rw [List.map_cons]
    have : (tupI ns).depth ≤ 1 := by
      unfold tupI
      have : ∀ l : List Int, PyData.depthAll (l.map PyData.int) ≤ 0 := fun l => by
        induction l with
        | nil => simp [PyData.depthAll]
        | cons a l ih => rw [List.map_cons]; simp only [PyData.depthAll, PyData.depth]; exact Nat.max_le.mpr ⟨Nat.le_refl _, ih⟩
      have := this ns
      simp only [PyData.depth]
      omega
    simp only [PyData.depthAll]
    exact Nat.max_le.mpr ⟨this, ih⟩
theorem shaped_tups (nss : List (List Int)) : SeqAt.shaped (.list (nss.map tupI)) = true := by
  have h := depth_tups1 nss
  simp only [SeqAt.shaped, PyData.canLay0, canLay_tups, PyData.depth, Bool.true_and]
  exact decide_eq_true (by omega)
theorem eqv_tupI (a b : List Int) : PyData.eqv (tupI a) (tupI b) = decide (a = b) := by
  unfold tupI
  rw [PyData.eqv, eqvAll_ints]
theorem any_tupI (ns : List Int) (nss : List (List Int)) : ((nss.map tupI).any fun z => PyData.eqv z (tupI ns)) = decide (ns ∈ nss) := by
  rw [List.any_map, Bool.eq_iff_iff, List.any_eq_true, decide_eq_true_eq]
  constructor
  · rintro ⟨x, hx, e⟩
    have : x = ns := by
      have e : PyData.eqv (tupI x) (tupI ns) = true := e
      rw [eqv_tupI] at e
      exact of_decide_eq_true e
    rw [← this]; exact hx
  · intro h
    refine ⟨ns, h, ?_⟩
    show PyData.eqv (tupI ns) (tupI ns) = true
    rw [eqv_tupI, decide_eq_true rfl]
theorem o2_notInLt {ns : List Int} {nss : List (List Int)} (q : Q (.d (.bool (!decide (ns ∈ nss)))) m) : Op2 K (rInA K true) (.d (tupI ns)) (.lt nss) m Q := fun H G v w S a b R k => by
  refine Or.inr ⟨tupI ns, nss.map tupI, dp_of S (shaped_tupI ns) a, dp_lt S (shaped_tups nss) b, shaped_tupI ns, shaped_tups nss, ?_⟩
  rw [any_tupI]
  exact k _ H G _ m q S (Le.refl G) vr_bool
end
end DL
/-! k17: any thing looked at as a paper: plain mathematics, words -/
namespace DL
open PySem L2
theorem pair_rise : ∀ {ns : List Int}, (∀ i, i + 1 < ns.length → ns.getD i 0 < ns.getD (i + 1) 0) → ns.Pairwise (· < ·)
  | [], _ => List.Pairwise.nil
  | [a], _ => List.pairwise_singleton ..
  | a :: b :: t, h => by
    have hp := pair_rise (ns := b :: t) fun i hi => by simpa using h (i + 1) (by simpa using hi)
    have hab : a < b := by simpa using h 0 (by simp)
    refine List.pairwise_cons.mpr ⟨fun x hx => ?_, hp⟩
    rcases List.mem_cons.mp hx with rfl | hx
    · exact hab
    · exact Int.lt_trans hab ((List.pairwise_cons.mp hp).1 x hx)
theorem kinds_are {n : Nat} {ns : List Int} (h : areKinds (tupI ns) (n : Int) = true) : ∃ s, Kinds n s ∧ ns = kn s := by
  have h : ((ns.map PyData.int).all (okK n) && rising (ns.map PyData.int)) = true := h
  rw [Bool.and_eq_true, List.all_eq_true] at h
  obtain ⟨h1, h2⟩ := h
  have hb : ∀ i ∈ ns, 0 ≤ i ∧ i < (n : Int) := fun i hi => by
    have := h1 (.int i) (List.mem_map.mpr ⟨i, hi, rfl⟩)
    have : (decide (0 ≤ i) && decide (i < (n : Int))) = true := this
    simpa using this
  have e : ns = kn (ns.map Int.toNat) := by
    unfold kn
    rw [List.map_map]
    refine (List.map_id _).symm.trans (List.map_congr_left fun i hi => ?_)
    have := (hb i hi).1
    show i = ((i.toNat : Nat) : Int)
    omega
  refine ⟨ns.map Int.toNat, ⟨?_, fun k hk => ?_⟩, e⟩
  · have hp : ns.Pairwise (· < ·) := pair_rise fun i hi => by
      unfold rising at h2
      rw [List.all_eq_true] at h2
      have := of_decide_eq_true (h2 i (List.mem_range.mpr (by rw [List.length_map]; omega)))
      have g : ∀ j, j < ns.length → intOf ((ns.map PyData.int).getD j .none) = ns.getD j 0 := fun j hj => by
        rw [List.getD_eq_getElem?_getD, List.getElem?_map, List.getD_eq_getElem?_getD, List.getElem?_eq_getElem hj]; rfl
      rw [g i (by omega), g (i + 1) hi] at this
      exact this
    exact List.pairwise_map.mpr (hp.imp_of_mem fun {a b} ha hb' hab => by
      have := hb a ha
      have := hb b hb'
      omega)
  · obtain ⟨i, hi, rfl⟩ := List.mem_map.mp hk
    have := hb i hi
    omega
theorem areKinds_mem (n : Nat) (ns : List Int) : areKinds (tupI ns) (n : Int) = decide (ns ∈ (allS n).map kn) := by
  rw [Bool.eq_iff_iff, decide_eq_true_eq]
  constructor
  · intro h
    obtain ⟨s, hs, rfl⟩ := kinds_are h
    exact List.mem_map.mpr ⟨s, kinds_allS hs, rfl⟩
  · intro h
    obtain ⟨s, hs, rfl⟩ := List.mem_map.mp h
    exact areKinds_of (allS_kinds hs)
def topI : PyData → Int
  | .tuple (.int t :: _) => t
  | _ => 0
def frQ : PyData → Rat
  | .tuple [.int t, .int b] => mkRat t b.toNat
  | _ => 0
theorem frQ_frac (q : Rat) : frQ (frac q) = q := by
  show mkRat q.num ((q.den : Int)).toNat = q
  rw [Int.toNat_natCast, Rat.mkRat_self]
theorem topI_frac (q : Rat) : topI (frac q) = q.num := rfl
def okEn (n : Nat) (e : List Int × PyData) : Bool := areKinds (tupI e.1) (n : Int) && (isFrac e.2 && decide (0 ≤ topI e.2))
def numK (kds : List (List Int × PyData)) (s : List Nat) : Rat := match lkD kds (kn s) with
  | some d => frQ d
  | none => 0
def okPap (n : Nat) (kds : List (List Int × PyData)) : Bool := decide (kds.length = 2 ^ n) && (kds.all (okEn n) && decide (numK kds [] = 0))
theorem okEn_of {n : Nat} {e : List Int × PyData} (h : okEn n e = true) : ∃ s q, Kinds n s ∧ e = (kn s, frac q) ∧ 0 ≤ q := by
  unfold okEn at h
  rw [Bool.and_eq_true, Bool.and_eq_true] at h
  obtain ⟨h1, h2, h3⟩ := h
  obtain ⟨s, hs, e1⟩ := kinds_are h1
  obtain ⟨q, e2⟩ := isFrac_of h2
  refine ⟨s, q, hs, by rw [← e1, ← e2], ?_⟩
  rw [e2, topI_frac] at h3
  exact Rat.num_nonneg.mp (of_decide_eq_true h3)
/-- so many unlike right keys: all -/
theorem all_there {n : Nat} {kds : List (List Int × PyData)} (hn : (kds.map (·.1)).Nodup) (hl : kds.length = 2 ^ n) (ha : kds.all (okEn n) = true) {s : List Nat} (hs : s ∈ allS n) : ∃ d, lkD kds (kn s) = some d := by
  rw [List.all_eq_true] at ha
  cases h : lkD kds (kn s) with
  | some d => exact ⟨d, rfl⟩
  | none =>
    exfalso
    have hno : kn s ∉ kds.map (·.1) := fun hm => by
      obtain ⟨e, he, e1⟩ := List.mem_map.mp hm
      rw [← e1, lkD_mem hn he] at h
      cases h
    have hsub : ∀ x ∈ kn s :: kds.map (·.1), x ∈ (allS n).map kn := fun x hx => by
      rcases List.mem_cons.mp hx with rfl | hx
      · exact List.mem_map.mpr ⟨s, hs, rfl⟩
      · obtain ⟨e, he, rfl⟩ := List.mem_map.mp hx
        obtain ⟨u, q, hu, rfl, _⟩ := okEn_of (ha e he)
        exact List.mem_map.mpr ⟨u, kinds_allS hu, rfl⟩
    have := nd_len (List.nodup_cons.mpr ⟨hno, hn⟩) hsub
    rw [List.length_cons, List.length_map, List.length_map, allS_len, hl] at this
    omega
theorem pap_num {n : Nat} {kds : List (List Int × PyData)} (hn : (kds.map (·.1)).Nodup) (hl : kds.length = 2 ^ n) (ha : kds.all (okEn n) = true) {s : List Nat} (hs : Kinds n s) : lkD kds (kn s) = some (frac (numK kds s)) ∧ 0 ≤ numK kds s := by
  obtain ⟨d, hd⟩ := all_there hn hl ha (kinds_allS hs)
  obtain ⟨u, q, hu, e, h0⟩ := okEn_of (List.all_eq_true.mp ha _ (lkD_in hd))
  injection e with e1 e2
  subst e2
  have : numK kds s = q := by
    unfold numK
    rw [hd]
    exact frQ_frac q
  rw [this]
  exact ⟨hd, h0⟩
theorem pap_split {n : Nat} {kds : List (List Int × PyData)} (h : okPap n kds = true) : kds.length = 2 ^ n ∧ kds.all (okEn n) = true ∧ numK kds [] = 0 := by
  unfold okPap at h
  rw [Bool.and_eq_true, Bool.and_eq_true] at h
  exact ⟨of_decide_eq_true h.1, h.2.1, of_decide_eq_true h.2.2⟩
/-! things -/
inductive Tg where
  | dat (x : PyData)
  | dct (kds : List (List Int × PyData))
def Tg.data : Tg → PyData
  | .dat x => x
  | .dct kds => dctD kds
/-- the thing t stands at y -/
def Tg.At (m : Mm) (y : Val) : Tg → Prop
  | .dat x => y = .d x ∧ ∀ kvs, x = .dict kvs → kvs.length ≤ 1
  | .dct kds => ∃ p, y = .v (.ref p) ∧ m p = some (.dT (dI (dV kds))) ∧ (kds.map (·.1)).Nodup ∧ kds.length ≤ 100 ∧ ∀ e ∈ kds, szFrac e.2 ∧ e.1.length ≤ 100
theorem Tg.At.less {m m' : Mm} {y : Val} {t : Tg} (h : t.At m y) (hl : ∀ a o, m a = some o → m' a = some o) : t.At m' y := by
  cases t with
  | dat x => exact h
  | dct kds =>
    obtain ⟨p, h1, h2, h3⟩ := h
    exact ⟨p, h1, hl _ _ h2, h3⟩
theorem Tg.At.ne {m : Mm} {y : Val} {t : Tg} (h : t.At m y) : y ≠ .any := by
  cases t with
  | dat x => rw [h.1]; exact fun z => nomatch z
  | dct kds =>
    obtain ⟨p, h1, _⟩ := h
    rw [h1]; exact fun z => nomatch z
def Tg.pap (n : Nat) : Tg → Bool
  | .dat _ => false
  | .dct kds => okPap n kds
def Tg.num : Tg → List Nat → Rat
  | .dat _ => fun _ => 0
  | .dct kds => numK kds
def Tg.over (ss : List Int) (t : Tg) : PyData := if t.pap ss.length = true then (if ovB ss t.num = true then .none else frac (t.num (List.range ss.length))) else .none
def Tg.under (ss : List Int) (t : Tg) : PyData := if t.pap ss.length = true then (if unB ss t.num = true then .none else frac (t.num (List.range ss.length))) else .none
/-- a paper stands at p, its keys in any order -/
structure PapD (ss : List Int) (m : Mm) (p : Addr) (kds : List (List Int × PyData)) : Prop where
  sh : Shares ss
  fb : FB ss (numK kds)
  mem : m p = some (.dT (dI (dV kds)))
  num : ∀ s, Kinds ss.length s → lkD kds (kn s) = some (frac (numK kds s))
theorem PapD.get {ss : List Int} {m : Mm} {p : Addr} {kds : List (List Int × PyData)} (h : PapD ss m p kds) {s : List Nat} (hs : Kinds ss.length s) : getV (dI (dV kds)) (kI (kn s)) = some (.d (frac (numK kds s))) := by
  rw [getV_dV, h.num s hs]; rfl
theorem pap_at {ss : List Int} (hs : Shares ss) {m : Mm} {p : Addr} {kds : List (List Int × PyData)} (hm : m p = some (.dT (dI (dV kds)))) (hn : (kds.map (·.1)).Nodup) (h : okPap ss.length kds = true) (hf : FB ss (numK kds)) : PapD ss m p kds := by
  obtain ⟨h1, h2, h3⟩ := pap_split h
  exact ⟨hs, hf, hm, fun s hk => (pap_num hn h1 h2 hk).1⟩
/-- small enough for all that is reckoned -/
def TgB (ss : List Int) (t : Tg) : Prop := t.pap ss.length = true → FB ss t.num
def f_isPapG : FSp := fun args m R => ∃ (y : Val) (ss : List Int) (t : Tg), args = [y, .d (tupI ss)] ∧ Shares ss ∧ t.At m y ∧ R (.d (.bool (t.pap ss.length))) m
def f_lawIsPap : FSp := fun args m R => ∃ (y : Val) (n : Nat) (t : Tg), args = [y, .d (.int (n : Int))] ∧ 1 ≤ n ∧ n ≤ 5 ∧ t.At m y ∧ R (.d (.bool (t.pap n))) m
def f_duePairsD : FSp := fun args m R => ∃ (ss : List Int) (p : Addr) (kds : List (List Int × PyData)), args = [.v (.ref p), .d (tupI ss)] ∧ PapD ss m p kds ∧ R (.d (.list ((someL ss.length).map fun s => .tuple [frac (numK kds s), frac (dueT ss (numK kds) s)]))) m
def f_overG : FSp := fun args m R => ∃ (y : Val) (ss : List Int) (t : Tg), args = [y, .d (tupI ss)] ∧ Shares ss ∧ t.At m y ∧ TgB ss t ∧ R (.d (t.over ss)) m
def f_underG : FSp := fun args m R => ∃ (y : Val) (ss : List Int) (t : Tg), args = [y, .d (tupI ss)] ∧ Shares ss ∧ t.At m y ∧ TgB ss t ∧ R (.d (t.under ss)) m
def f_lawDueD : FSp := fun args m R => ∃ (ss : List Int) (s : List Nat) (p : Addr) (kvs : List (List Key × Val)) (P : List Nat → Rat), args = [.v (.ref p), .d (tupI ss), .d (tupN s)] ∧ Shares ss ∧ Kinds ss.length s ∧ s ≠ [] ∧ Dat m p kvs ∧ FB ss P ∧
  (∀ k ∈ s, getV kvs (kI (kn (s.filter fun x => !decide (x = k)))) = some (.d (frac (P (s.filter fun x => !decide (x = k)))))) ∧ R (.d (frac (dueT ss P s))) m
def f_lawBounds : FSp := fun args m R => ∃ (y : Val) (ss : List Int) (t : Tg), args = [y, .d (tupI ss)] ∧ Shares ss ∧ t.At m y ∧ TgB ss t ∧ R (.d (.list [t.over ss, t.under ss])) m
/-! bounds of what is grown -/
/-- bits of the bottoms -/
def gB : Nat → Nat
  | 0 => 0
  | n + 1 => (n + 1) * gB n + 12
/-- each number small: bottoms by how many kinds, tops at most v -/
def GB (ss : List Int) (v : Nat) (P : List Nat → Rat) : Prop := ∀ s, Kinds ss.length s → QB (P s) (gB s.length) v
theorem accB {ss : List Int} (hs : Shares ss) {P : List Nat → Rat} {s : List Nat} {d v : Nat} (hP : ∀ k ∈ s, QB (P (s.filter fun x => !decide (x = k))) d v) : ∀ l : List Nat, (∀ k ∈ l, k ∈ s) → QB (dueAcc ss P s l) (l.length * d) (45 + l.length * (9 * v)) := by
  intro l
  have hsum := shares_sum hs
  have gen : ∀ (l : List Nat) (a : Rat) (c u : Nat), QB a c u → (∀ k ∈ l, k ∈ s) → QB (l.foldl (fun acc k => acc + ((ss.getD k 0 : Int) : Rat) * P (s.filter fun x => !decide (x = k))) a) (c + l.length * d) (u + l.length * (9 * v)) := by
    intro l
    induction l with
    | nil =>
      intro a c u h _
      exact h.mono (by simp) (by simp)
    | cons k t ih =>
      intro a c u h hl
      rw [List.foldl_cons]
      have hb := getD_bounds hs k
      have e1 : ss.getD k 0 = (((ss.getD k 0).toNat : Nat) : Int) := by omega
      have h1 := (hP k (hl k (List.mem_cons_self ..))).mulN (ss.getD k 0).toNat
      rw [← e1] at h1
      have h1 := h1.mono (d' := d) (v' := 9 * v) (Nat.le_refl _) (Nat.mul_le_mul_right _ (by omega))
      have h2 := ih _ _ _ (h.add h1) fun x hx => hl x (List.mem_cons_of_mem _ hx)
      have e2 : (t.length + 1) * (9 * v) = t.length * (9 * v) + 9 * v := Nat.succ_mul _ _
      refine h2.mono ?_ ?_
      · rw [List.length_cons, Nat.succ_mul]; omega
      · show _ ≤ u + (t.length + 1) * (9 * v)
        omega
  intro hl
  have e : ss.sum = ((ss.sum.toNat : Nat) : Int) := by omega
  have h0 : QB ((ss.sum : Int) : Rat) 0 45 := by
    rw [e]
    exact (QB.nat _).mono (Nat.le_refl _) (by omega)
  exact (gen l _ 0 45 h0 hl).mono (by omega) (Nat.le_refl _)
theorem GB.sub {ss : List Int} {v : Nat} {P : List Nat → Rat} (h : GB ss v P) {s : List Nat} (hk : Kinds ss.length s) {n : Nat} (hl : s.length = n + 1) : ∀ k ∈ s, QB (P (s.filter fun x => !decide (x = k))) (gB n) v := fun k hks => by
  have := h _ (kinds_without hk k)
  have hw := without_len hk.up hks
  rw [show (s.filter fun x => !decide (x = k)).length = n by omega] at this
  exact this
theorem gB_le {n : Nat} (h : n ≤ 4) : gB n ≤ 492 := by
  have : n = 0 ∨ n = 1 ∨ n = 2 ∨ n = 3 ∨ n = 4 := by omega
  rcases this with rfl | rfl | rfl | rfl | rfl <;> decide
theorem GB.fb {ss : List Int} (hs : Shares ss) (h4 : ss.length ≤ 4) {v : Nat} (hv : v ≤ 1100000) {P : List Nat → Rat} (h : GB ss v P) : FB ss P := by
  refine ⟨fun s hk => (h s hk).nn, fun s hk => ?_, fun s hk i => ?_⟩
  · have := hk.len
    have := gB_le (n := s.length) (by omega)
    exact ((h s hk).frB (e := 21) (by show _ < 2097152; omega)).mono (by omega)
  · have hl4 := hk.len
    cases hn : s.length with
    | zero =>
      have : s = [] := List.length_eq_zero_iff.mp hn
      subst this
      have := shares_sum hs
      have e : ss.sum = ((ss.sum.toNat : Nat) : Int) := by omega
      have : dueAcc ss P [] (List.take i []) = ((ss.sum : Int) : Rat) := by simp [dueAcc]
      rw [this, e]
      exact ((QB.nat ss.sum.toNat).frB (e := 10) (by show _ < 1024; omega)).mono (by decide)
    | succ n =>
      have hb := accB hs (h.sub hk hn) (s.take i) fun k hk => List.mem_of_mem_take hk
      have hl : (s.take i).length ≤ 4 := by rw [List.length_take]; omega
      have hd := gB_le (n := n) (by omega)
      have hg : gB n ≤ 120 := by
        have : n = 0 ∨ n = 1 ∨ n = 2 ∨ n = 3 := by omega
        rcases this with rfl | rfl | rfl | rfl <;> decide
      have hd2 : (s.take i).length * gB n ≤ 480 := Nat.le_trans (Nat.mul_le_mul hl hg) (by decide)
      have hv2 : (s.take i).length * (9 * v) ≤ 4 * (9 * 1100000) := Nat.mul_le_mul hl (Nat.mul_le_mul_left _ hv)
      exact (hb.frB (e := 26) (by show _ < 67108864; omega)).mono (by omega)
theorem GB.due {ss : List Int} (hs : Shares ss) {v : Nat} {P : List Nat → Rat} {s : List Nat} (hk : Kinds ss.length s) (h0 : s ≠ []) {n : Nat} (hl : s.length = n + 1) (hP : ∀ k ∈ s, QB (P (s.filter fun x => !decide (x = k))) (gB n) v) : QB (dueT ss P s) ((n + 1) * gB n + 6) (45 + (n + 1) * (9 * v)) := by
  have h1 := accB hs hP s fun _ h => h
  have hp := sumP_pos hs h0 hk.lt
  have hle := sumP_le hs hk
  unfold dueT
  rw [← hl]
  refine h1.over (n := (sumP ss s).toNat) (e := 6) (by omega) (by show _ ≤ 64; omega) ?_
  exact Nat.le_mul_of_pos_right _ (by omega)
/-- the values, level by level -/
def vB : Nat → Nat
  | 0 => 0
  | n + 1 => 45 + (n + 1) * (9 * vB n) + 4
theorem vB_le {n : Nat} (h : n ≤ 4) : vB n ≤ 1000000 := by
  have : n = 0 ∨ n = 1 ∨ n = 2 ∨ n = 3 ∨ n = 4 := by omega
  rcases this with rfl | rfl | rfl | rfl | rfl <;> decide
/-- papers, level by level small -/
def LB (ss : List Int) (P : List Nat → Rat) (s : List Nat) : Prop := QB (P s) (gB s.length) (vB s.length)
theorem LB.gb {ss : List Int} (h4 : ss.length ≤ 4) {P : List Nat → Rat} (h : ∀ s, Kinds ss.length s → LB ss P s) : GB ss 1000000 P := fun s hk => (h s hk).mono (Nat.le_refl _) (vB_le (by have := hk.len; omega))
theorem LB.due {ss : List Int} (hs : Shares ss) {P : List Nat → Rat} {s : List Nat} (hk : Kinds ss.length s) (h0 : s ≠ []) {n : Nat} (hl : s.length = n + 1) (h : ∀ k ∈ s, LB ss P (s.filter fun x => !decide (x = k))) : QB (dueT ss P s) ((n + 1) * gB n + 6) (45 + (n + 1) * (9 * vB n)) := by
  refine GB.due hs hk h0 hl fun k hks => ?_
  have := h k hks
  have hw := without_len hk.up hks
  unfold LB at this
  rw [show (s.filter fun x => !decide (x = k)).length = n by omega] at this
  exact this
/-! dicts by a table -/
def tabX (f : List Nat → PyData) (l : List (List Nat)) : List (List Int × PyData) := l.map fun s => (kn s, f s)
theorem tabX_keys (f : List Nat → PyData) (l : List (List Nat)) : (tabX f l).map (·.1) = l.map kn := by unfold tabX; rw [List.map_map]; rfl
theorem tabX_nodup {f : List Nat → PyData} {l : List (List Nat)} (h : l.Nodup) : ((tabX f l).map (·.1)).Nodup := by
  rw [tabX_keys]
  exact h.map _ fun x y ne e => ne (kn_inj e)
theorem tabX_T (P : List Nat → Rat) (l : List (List Nat)) : tabT P l = dI (dV (tabX (fun s => frac (P s)) l)) := by
  unfold tabT dI dV tabX
  rw [List.map_map, List.map_map]
  rfl
theorem lkD_tabX {f : List Nat → PyData} {s : List Nat} : ∀ {l : List (List Nat)}, s ∈ l → lkD (tabX f l) (kn s) = some (f s)
  | [], h => by cases h
  | t :: l, h => by
    unfold lkD tabX
    rw [List.map_cons, List.find?_cons]
    by_cases e : t = s
    · subst e; simp
    · have h1 : ¬ kn t = kn s := fun z => e (kn_inj z)
      rw [show decide (kn t = kn s) = false from decide_eq_false h1]
      rcases List.mem_cons.mp h with h | h
      · exact absurd h.symm e
      · exact lkD_tabX h
theorem lkD_tabX_none {f : List Nat → PyData} {s : List Nat} {l : List (List Nat)} (h : s ∉ l) : lkD (tabX f l) (kn s) = none := by
  cases e : lkD (tabX f l) (kn s) with
  | none => rfl
  | some d =>
    obtain ⟨u, hu, e2⟩ := List.mem_map.mp (lkD_in e)
    injection e2 with e3 _
    exact absurd (kn_inj e3 ▸ hu) h
theorem putV_tabX {f : List Nat → PyData} {s : List Nat} {x : PyData} {l : List (List Nat)} (h : s ∈ l) : putV (dI (dV (tabX f l))) (kI (kn s)) (.d x) = dI (dV (tabX (fun u => if u = s then x else f u) l)) := by
  unfold putV
  have hany : ((dI (dV (tabX f l))).any fun kv => decide (kv.1 = kI (kn s))) = true := by
    rw [List.any_eq_true]
    refine ⟨(kI (kn s), .d (f s)), ?_, by simp⟩
    unfold dI dV tabX
    rw [List.map_map, List.map_map]
    exact List.mem_map.mpr ⟨s, h, rfl⟩
  rw [if_pos hany]
  unfold dI dV tabX
  rw [List.map_map, List.map_map, List.map_map, List.map_map, List.map_map]
  refine List.map_congr_left fun u _ => ?_
  show (if kI (kn u) = kI (kn s) then _ else _) = _
  by_cases e : u = s
  · subst e
    rw [if_pos rfl]
    show _ = (kI (kn u), Val.d (if u = u then x else f u))
    rw [if_pos rfl]
  · rw [if_neg fun z => e (kn_inj (kI_inj z))]
    show _ = (kI (kn u), Val.d (if u = s then x else f u))
    rw [if_neg e]
theorem putV_tabX_new {f : List Nat → PyData} {s : List Nat} {x : PyData} {l : List (List Nat)} (h : s ∉ l) : putV (dI (dV (tabX f l))) (kI (kn s)) (.d x) = dI (dV (tabX (fun u => if u = s then x else f u) (l ++ [s]))) := by
  rw [putV_new _ fun p hp => ?_]
  · unfold tabX dV dI
    rw [List.map_append, List.map_append, List.map_append, List.map_map, List.map_map, List.map_map, List.map_map]
    have e1 : l.map (fun u => (kI (kn u), Val.d (f u))) = l.map (fun u => (kI (kn u), Val.d (if u = s then x else f u))) := List.map_congr_left fun u hu => by
      have hne : ¬ u = s := fun e => h (e ▸ hu)
      rw [if_neg hne]
    have e2 : [(kI (kn s), Val.d x)] = [(kI (kn s), Val.d (if s = s then x else f s))] := by rw [if_pos rfl]
    exact (congrArg (· ++ [(kI (kn s), Val.d x)]) e1).trans (congrArg (_ ++ ·) e2)
  · unfold dI dV tabX at hp
    rw [List.map_map, List.map_map] at hp
    obtain ⟨t, ht, rfl⟩ := List.mem_map.mp hp
    exact fun z => h (kn_inj (kI_inj z) ▸ ht)
/-! how long dicts are shown -/
theorem shbKv {k n : Nat} : ∀ {kvs : List (PyData × PyData)}, (∀ e ∈ kvs, ShB e.1 k n ∧ ShB e.2 k n) → PyData.depthKv kvs ≤ k ∧ PyData.showableKv kvs = true ∧ ((PyData.shownKv kvs).map (·.length)).sum ≤ (2 * n + 2) * kvs.length ∧ (PyData.shownKv kvs).length = kvs.length
  | [], _ => ⟨by simp only [PyData.depthKv]; exact Nat.zero_le _, by simp only [PyData.showableKv], by simp [PyData.shownKv], by simp [PyData.shownKv]⟩
  | e :: kvs, h => by
    obtain ⟨h1, h2⟩ := h e List.mem_cons_self
    obtain ⟨b, c, e1, f⟩ := shbKv (kvs := kvs) fun x hx => h x (List.mem_cons_of_mem _ hx)
    obtain ⟨x, y⟩ := e
    refine ⟨?_, by simp only [PyData.showableKv, h1.sh, h2.sh, c]; rfl, ?_, ?_⟩
    · simp only [PyData.depthKv]
      exact Nat.max_le.mpr ⟨Nat.max_le.mpr ⟨h1.dp, h2.dp⟩, b⟩
    · have l1 : x.shown.length ≤ n := h1.ln
      have l2 : y.shown.length ≤ n := h2.ln
      simp only [PyData.shownKv, List.map_cons, List.sum_cons, List.length_cons]
      rw [strLen_append, strLen_append, Nat.mul_succ]
      have : (": " : Str).length = 2 := by decide +kernel
      omega
    · simp only [PyData.shownKv, List.length_cons, f]
theorem shb_dict {kvs : List (PyData × PyData)} {k n c : Nat} (h : ∀ e ∈ kvs, ShB e.1 k n ∧ ShB e.2 k n) (hc : kvs.length ≤ c) : ShB (.dict kvs) (k + 1) ((2 * n + 4) * c + 3) := by
  obtain ⟨b, e, f, g⟩ := shbKv h
  refine ⟨by simp only [PyData.depth]; omega, by simp only [PyData.showable, e], ?_⟩
  simp only [PyData.shown]
  have := dictText_len_le (PyData.shownKv kvs)
  have h1 : (2 * n + 2) * kvs.length ≤ (2 * n + 2) * c := Nat.mul_le_mul_left _ hc
  have h2 : (2 * n + 4) * c = (2 * n + 2) * c + 2 * c := by rw [show 2 * n + 4 = 2 * n + 2 + 2 by omega, Nat.add_mul]
  omega
theorem shb_key {s : List Nat} (h : ∀ k ∈ s, k ≤ 1000) (hl : s.length ≤ 20) : ShB (tupI (kn s)) 4 9000 := by
  refine (shb_tuple (ds := (kn s).map PyData.int) (k := 0) (n := 12) (c := 20) (fun d hd => ?_) (by rw [List.length_map, List.length_map]; exact hl)).mono (by decide) (by decide)
  obtain ⟨i, hi, rfl⟩ := List.mem_map.mp hd
  obtain ⟨k, hk, rfl⟩ := List.mem_map.mp hi
  have := h k hk
  exact (sh_int (a := 11) (bt_lit (n := 11) (by show _ < 2048; omega) (by decide)) (by decide) (by decide)).toB
theorem shA_tabX {f : List Nat → PyData} {l : List (List Nat)} (hl : l.length ≤ 64) (hk : ∀ s ∈ l, (∀ k ∈ s, k ≤ 1000) ∧ s.length ≤ 20) (hf : ∀ s ∈ l, ShB (f s) 4 9000) : ShA (dctD (tabX f l)) := by
  unfold dctD tabX
  rw [List.map_map]
  refine (shb_dict (k := 4) (n := 9000) (c := 64) (fun e he => ?_) (by rw [List.length_map]; exact hl)).toA (by decide) (by decide)
  obtain ⟨s, hs, rfl⟩ := List.mem_map.mp he
  exact ⟨shb_key (hk s hs).1 (hk s hs).2, hf s hs⟩
/-- an item that may be shown and looked at -/
structure ItX (x : PyData) : Prop where
  sh : ShB x 4 9000
  sz : szFrac x
/-- what a thing must be like in the law -/
structure Gd (ss : List Int) (t : Tg) : Prop where
  sh : ShA t.data
  b : TgB ss t
theorem gd_dat {ss : List Int} {x : PyData} (h : ShA x) : Gd ss (.dat x) := ⟨h, fun z => nomatch z⟩
/-- a table whose right items are small -/
theorem gd_tabX {ss : List Int} (hs : Shares ss) (h4 : ss.length ≤ 4) {f : List Nat → PyData} {l : List (List Nat)} (hl : l.length ≤ 64) (hk : ∀ s ∈ l, (∀ k ∈ s, k ≤ 1000) ∧ s.length ≤ 20) (hf : ∀ s ∈ l, ItX (f s)) (hn : l.Nodup)
    (hq : ∀ s ∈ l, s ≠ [] → Kinds ss.length s → ∀ q : Rat, f s = frac q → 0 ≤ q → QB q (gB s.length) 1100000) : Gd ss (.dct (tabX f l)) := by
  refine ⟨shA_tabX hl hk fun s h => (hf s h).sh, fun hp => ?_⟩
  obtain ⟨h1, h2, h3⟩ := pap_split hp
  refine GB.fb hs h4 (v := 1100000) (Nat.le_refl _) fun s hks => ?_
  by_cases h0 : s = []
  · subst h0
    show QB (numK (tabX f l) []) _ _
    rw [h3]
    exact ⟨Rat.le_refl, by exact_mod_cast Nat.zero_le _, Nat.one_le_two_pow⟩
  · obtain ⟨e1, e2⟩ := pap_num (tabX_nodup hn) h1 h2 hks
    have hm : s ∈ l := by
      by_cases hm : s ∈ l
      · exact hm
      · rw [lkD_tabX_none hm] at e1; cases e1
    rw [lkD_tabX hm] at e1
    exact hq s hm h0 hks _ (Option.some.inj e1) e2
theorem itx_frac {q : Rat} (h : FrB q 700) : ItX (frac q) := ⟨(sh_frac h (by decide) (by decide)).toB.mono (by decide) (by decide), by unfold frac; exact h.2.mono (by decide)⟩
theorem itx_pair {t b : Int} (h1 : Bt t 720) (h2 : Bt b 720) : ItX (.tuple [.int t, .int b]) := ⟨(shb_tuple (ds := [.int t, .int b]) (k := 0) (n := 721) (c := 2) (fun d hd => by
  simp only [List.mem_cons, List.not_mem_nil, or_false] at hd
  rcases hd with rfl | rfl
  · exact (sh_int (a := 720) h1 (by decide) (by decide)).toB
  · exact (sh_int (a := 720) h2 (by decide) (by decide)).toB) (Nat.le_refl 2)).mono (by decide) (by decide), h2.mono (by decide)⟩
theorem itx_int {t : Int} (h1 : Bt t 720) : ItX (.int t) := ⟨(sh_int (a := 720) h1 (by decide) (by decide)).toB.mono (by decide) (by decide), by simp [szFrac]⟩
theorem itx_odd {o : PyData} (h : o ∈ oddL) : ItX o := ⟨(oki_odd h).sh.mono (by decide) (by decide), (oki_odd h).sz⟩
theorem odd_frac : ∀ o ∈ oddL, (isFrac o && decide (0 ≤ topI o)) = true → frQ o ≤ ((1 : Nat) : Rat) ∧ (frQ o).den ≤ 2 ^ 1 := by decide +kernel
theorem odd_QB {o : PyData} (h : o ∈ oddL) {q : Rat} (e : o = frac q) (h0 : 0 ≤ q) : QB q 1 1 := by
  have := odd_frac o h (by rw [e, isFrac_frac, topI_frac, decide_eq_true (Rat.num_nonneg.mpr h0)]; rfl)
  rw [e, frQ_frac] at this
  exact ⟨h0, this.1, this.2⟩
/-! the things of k17 -/
def f_grown : FSp := fun args m R => ∃ (ss : List Int) (b : Addr) (w : Nat), args = [.v (.ref b), .d (tupI ss), .d (.int (w : Int))] ∧ m b = some .box ∧ Shares ss ∧ ss.length ≤ 4 ∧ w ≤ 2 ∧ ∀ P p, m p = none → P [] = 0 → (∀ s, Kinds ss.length s → LB ss P s) → R (.v (.ref p)) (put m p (.dT (tabT P (allS ss.length))))
def f_bent17 : FSp := fun args m R => ∃ (ss : List Int) (b p : Addr) (P : List Nat → Rat) (o : PyData), args = [.v (.ref b), .v (.ref p), .d o] ∧ m b = some .box ∧ Shares ss ∧ ss.length ≤ 4 ∧ P [] = 0 ∧ (∀ s, Kinds ss.length s → LB ss P s) ∧ m p = some (.dT (tabT P (allS ss.length))) ∧ o ∈ oddL ∧
  ∀ y t m', Ext m m' → t.At m' y → Gd ss t → R y m'
theorem allS_drop : ∀ n : _root_.Fin 6, (allS n.val).drop 1 = someL n.val ∧ allS n.val = [] :: someL n.val ∧ (someL n.val).Nodup ∧ ∀ s ∈ someL n.val, s ≠ [] := by decide +kernel
theorem someL_ahead : ∀ n : _root_.Fin 6, ∀ i : _root_.Fin 32, ∀ s, (someL n.val)[i.val]? = some s → (∀ k ∈ s, wo s k ∈ [] :: (someL n.val).take i.val) ∧ s ∉ [] :: (someL n.val).take i.val := by
  have h : ∀ n : _root_.Fin 6, ∀ i : _root_.Fin 32, ((someL n.val)[i.val]?).all (fun s => (s.all fun k => decide (wo s k ∈ [] :: (someL n.val).take i.val)) && decide (s ∉ [] :: (someL n.val).take i.val)) = true := by decide +kernel
  intro n i s hs
  have := h n i
  rw [hs] at this
  simp only [Option.all_some, Bool.and_eq_true, List.all_eq_true, decide_eq_true_eq] at this
  exact this
/-- over and under, so far -/
def ovL (ss : List Int) (P : List Nat → Rat) (l : List (List Nat)) : PyData := if (l.any fun s => decide (P s < dueT ss P s)) = true then .none else frac (P (List.range ss.length))
def unL (ss : List Int) (P : List Nat → Rat) (l : List (List Nat)) : PyData := if (l.any fun s => decide (dueT ss P s < P s)) = true then .none else frac (P (List.range ss.length))
theorem lt_away (p q : Rat) : (p.num * (q.den : Int) - q.num * (p.den : Int) < 0 ↔ p < q) ∧ (0 < p.num * (q.den : Int) - q.num * (p.den : Int) ↔ q < p) := by
  rw [Rat.lt_iff, Rat.lt_iff]
  constructor <;> constructor <;> intro h <;> omega
theorem ovL_step (ss : List Int) (P : List Nat → Rat) {l : List (List Nat)} {s : List Nat} : ovL ss P (l ++ [s]) = if P s < dueT ss P s then .none else ovL ss P l := by
  unfold ovL
  rw [List.any_append, List.any_cons, List.any_nil, Bool.or_false]
  by_cases h : P s < dueT ss P s
  · rw [decide_eq_true h, Bool.or_true, if_pos rfl, if_pos h]
  · rw [decide_eq_false h, Bool.or_false, if_neg h]
theorem unL_step (ss : List Int) (P : List Nat → Rat) {l : List (List Nat)} {s : List Nat} : unL ss P (l ++ [s]) = if dueT ss P s < P s then .none else unL ss P l := by
  unfold unL
  rw [List.any_append, List.any_cons, List.any_nil, Bool.or_false]
  by_cases h : dueT ss P s < P s
  · rw [decide_eq_true h, Bool.or_true, if_pos rfl, if_pos h]
  · rw [decide_eq_false h, Bool.or_false, if_neg h]
/-! what is grown -/
/-- a piece more or less -/
structure MoreQ (q : Rat) : Prop where
  b : QB q 4 4
theorem more_zero : MoreQ 0 := ⟨⟨Rat.le_refl, by decide, by decide⟩⟩
theorem more_part {z : Nat} (h : z < 9) : MoreQ (mkRat 1 (1 + z)) := by
  have : z = 0 ∨ z = 1 ∨ z = 2 ∨ z = 3 ∨ z = 4 ∨ z = 5 ∨ z = 6 ∨ z = 7 ∨ z = 8 := by omega
  rcases this with rfl | rfl | rfl | rfl | rfl | rfl | rfl | rfl | rfl <;> exact ⟨⟨by decide, by decide, by decide⟩⟩
theorem more_int {z : Nat} (h : z < 5) : MoreQ (((z : Nat) : Int) : Rat) := ⟨((QB.nat z).mono (Nat.zero_le _) (by omega))⟩
theorem LB_more {ss : List Int} (hs : Shares ss) {P : List Nat → Rat} {s : List Nat} (hk : Kinds ss.length s) (h0 : s ≠ []) (h : ∀ k ∈ s, LB ss P (wo s k)) {q : Rat} (hq : MoreQ q) :
    QB (dueT ss P s) (gB s.length) (vB s.length) ∧ QB (dueT ss P s + q) (gB s.length) (vB s.length) ∧ (q ≤ dueT ss P s → QB (dueT ss P s - q) (gB s.length) (vB s.length)) := by
  cases hn : s.length with
  | zero => exact absurd (List.length_eq_zero_iff.mp hn) h0
  | succ n =>
    have hd := LB.due hs hk h0 hn h
    have hq := hq.b
    have e1 : gB (n + 1) = (n + 1) * gB n + 12 := rfl
    have e2 : vB (n + 1) = 45 + (n + 1) * (9 * vB n) + 4 := rfl
    refine ⟨hd.mono (by omega) (by omega), (hd.add hq).mono (by omega) (by omega), fun hle => ⟨?_, ?_, ?_⟩⟩
    · grind
    · refine Rat.le_trans ?_ (Rat.le_trans hd.le (Rat.natCast_le_natCast.mpr (by omega)))
      have := hq.nn
      grind
    · rw [Rat.sub_eq_add_neg, Rat.add_def']
      refine Nat.le_trans (den_mk_le _ _ (Nat.mul_pos (den_pos _) (den_pos _))) ?_
      rw [Rat.neg_den]
      have : 2 ^ ((n + 1) * gB n + 6) * 2 ^ 4 ≤ 2 ^ gB (n + 1) := by
        rw [← Nat.pow_add]
        exact Nat.pow_le_pow_right (by decide) (by omega)
      exact Nat.le_trans (Nat.mul_le_mul hd.den hq.den) this
theorem mk_num_den (q : Rat) : q * ((q.den : Nat) : Rat) = ((q.num : Int) : Rat) := by
  have h : (((q.den : Nat) : Rat)) ≠ 0 := nat_ne (den_pos q)
  have e : q = ((q.num : Int) : Rat) / ((q.den : Nat) : Rat) := by
    have := Rat.mkRat_eq_div q.num q.den
    rw [Rat.mkRat_self] at this
    exact this
  generalize hd : ((q.den : Nat) : Rat) = D at *
  generalize hn : ((q.num : Int) : Rat) = N at *
  rw [e]
  grind
/-- a fraction over the same bottom -/
theorem le_over {q r : Rat} {c : Nat} (hd : r.den = q.den) (hn : r.num ≤ q.num + (c : Int) * (q.den : Int)) : r ≤ q + ((c : Nat) : Rat) := by
  have h0 : (0 : Rat) < ((q.den : Nat) : Rat) := Rat.natCast_pos.mpr (den_pos q)
  have e1 := mk_num_den q
  have e2 := mk_num_den r
  rw [hd] at e2
  have h1 : ((r.num : Int) : Rat) ≤ ((q.num : Int) : Rat) + ((c : Nat) : Rat) * ((q.den : Nat) : Rat) := by
    have := Rat.intCast_le_intCast.mpr hn
    rw [Rat.intCast_add, Rat.intCast_mul, Rat.intCast_natCast, Rat.intCast_natCast] at this
    exact this
  refine Rat.le_of_mul_le_mul_right ?_ h0
  generalize ((q.den : Nat) : Rat) = D at *
  generalize ((q.num : Int) : Rat) = A at *
  generalize ((r.num : Int) : Rat) = B at *
  generalize ((c : Nat) : Rat) = C at *
  grind
theorem QB.over2 {q r : Rat} {d v c : Nat} (h : QB q d v) (hd : r.den = q.den) (hn : r.num ≤ q.num + (c : Int) * (q.den : Int)) (h0 : 0 ≤ r) : QB r d (v + c) := by
  refine ⟨h0, Rat.le_trans (le_over hd hn) ?_, by rw [hd]; exact h.den⟩
  have := h.le
  rw [Rat.natCast_add]
  grind
theorem mk_le {t : Int} {b : Nat} {q : Rat} (hb : 0 < b) (h : t * (q.den : Int) ≤ q.num * (b : Int)) : mkRat t b ≤ q := by
  have h0 : (0 : Rat) < ((b : Nat) : Rat) := Rat.natCast_pos.mpr hb
  have h1 : (0 : Rat) < ((q.den : Nat) : Rat) := Rat.natCast_pos.mpr (den_pos q)
  have e := mk_num_den q
  have hc := Rat.intCast_le_intCast.mpr h
  rw [Rat.intCast_mul, Rat.intCast_mul, Rat.intCast_natCast, Rat.intCast_natCast] at hc
  rw [Rat.mkRat_eq_div]
  refine Rat.le_of_mul_le_mul_right (Rat.le_of_mul_le_mul_right ?_ h1) h0
  generalize ((q.den : Nat) : Rat) = D at *
  generalize ((q.num : Int) : Rat) = A at *
  generalize ((t : Int) : Rat) = T at *
  generalize ((b : Nat) : Rat) = B at *
  have hB : B ≠ 0 := by grind
  have h2 : T / B * B = T := by grind
  have h3 : T / B * D * B = T * D := by
    have : T / B * D * B = (T / B * B) * D := by grind
    rw [this, h2]
  have h4 : q * D * B = A * B := by rw [e]
  have h5 : T / B * B * D = T * D := by rw [h2]
  have h6 : q * B * D = A * B := by rw [← e]; grind
  rw [h5, h6]
  exact hc
/-- a thing told otherwise at one place -/
def bentX (q : Rat) (o : PyData) : List PyData := [.tuple [.int (q.num + 1), .int (q.den : Int)], .tuple [.int (2 * q.num), .int (2 * (q.den : Int))], .tuple [.int 0, .int 1], o, .tuple [.int (-1), .int 1], .tuple [.int (q.num + 9 * (q.den : Int)), .int (q.den : Int)], .int q.num]
theorem frac_parts {t b : Int} {r : Rat} (h : PyData.tuple [.int t, .int b] = frac r) : r.num = t ∧ (r.den : Int) = b := by
  unfold frac at h
  injection h with h
  injection h with h1 h2
  injection h2 with h2 _
  injection h1 with h1
  injection h2 with h2
  exact ⟨h1.symm, h2.symm⟩
theorem bentX_ok {q : Rat} {n : Nat} (hn : n ≤ 4) (h : QB q (gB n) (vB n)) {o : PyData} (ho : o ∈ oddL) {x : PyData} (hx : x ∈ bentX q o) : ItX x ∧ (n ≠ 0 → ∀ r : Rat, x = frac r → 0 ≤ r → QB r (gB n) 1100000) := by
  have hg := gB_le hn
  have hv := vB_le hn
  have hf : FrB q 520 := (h.frB (e := 20) (by show _ < 1048576; omega)).mono (by omega)
  have hq : QB q (gB n) 1000000 := h.mono (Nat.le_refl _) hv
  have b1 : Bt (1 : Int) 2 := bt_lit (n := 2) (by decide) (by decide)
  have b2 : Bt (2 : Int) 2 := bt_lit (n := 2) (by decide) (by decide)
  have b9 : Bt (9 : Int) 4 := bt_lit (n := 4) (by decide) (by decide)
  have hgn : n ≠ 0 → 12 ≤ gB n := fun h0 => by
    have : n = 1 ∨ n = 2 ∨ n = 3 ∨ n = 4 := by omega
    rcases this with rfl | rfl | rfl | rfl <;> decide
  simp only [bentX, List.mem_cons, List.not_mem_nil, or_false] at hx
  rcases hx with rfl | rfl | rfl | rfl | rfl | rfl | rfl
  · refine ⟨itx_pair ((hf.1.add b1 (Nat.le_refl _) (by decide)).mono (by decide)) (hf.2.mono (by decide)), fun _ r e h0 => ?_⟩
    obtain ⟨e1, e2⟩ := frac_parts e
    have hd : r.den = q.den := by omega
    exact (hq.over2 (c := 1) hd (by have := den_pos q; rw [e1]; omega) h0).mono (Nat.le_refl _) (by decide)
  · refine ⟨itx_pair ((b2.mul hf.1).mono (by decide)) ((b2.mul hf.2).mono (by decide)), fun _ r e h0 => ?_⟩
    obtain ⟨e1, e2⟩ := frac_parts e
    have hr := r.reduced
    have hd2 : 2 ∣ Nat.gcd r.num.natAbs r.den := Nat.dvd_gcd ⟨q.num.natAbs, by rw [e1, Int.natAbs_mul]; rfl⟩ ⟨q.den, by omega⟩
    have : Nat.gcd r.num.natAbs r.den = 1 := hr
    rw [this] at hd2
    exact absurd (Nat.le_of_dvd (by decide) hd2) (by decide)
  · refine ⟨itx_pair (bt_lit (n := 1) (by decide) (by decide)) (bt_lit (n := 1) (by decide) (by decide)), fun _ r e h0 => ?_⟩
    have : r = 0 := frac_inj (e.symm.trans (show PyData.tuple [.int 0, .int 1] = frac 0 from rfl))
    subst this
    exact ⟨Rat.le_refl, by exact_mod_cast Nat.zero_le _, Nat.one_le_two_pow⟩
  · refine ⟨itx_odd ho, fun hn0 r e h0 => (odd_QB ho e h0).mono (by have := hgn hn0; omega) (by decide)⟩
  · refine ⟨itx_pair (bt_lit (n := 1) (by decide) (by decide)) (bt_lit (n := 1) (by decide) (by decide)), fun _ r e h0 => ?_⟩
    obtain ⟨e1, e2⟩ := frac_parts e
    have := Rat.num_nonneg.mpr h0
    omega
  · refine ⟨itx_pair ((hf.1.add (b9.mul hf.2) (by decide) (Nat.le_refl _)).mono (by decide)) (hf.2.mono (by decide)), fun _ r e h0 => ?_⟩
    obtain ⟨e1, e2⟩ := frac_parts e
    have hd : r.den = q.den := by omega
    exact (hq.over2 (c := 9) hd (by rw [e1]; exact Int.le_refl _) h0).mono (Nat.le_refl _) (by decide)
  · refine ⟨itx_int (hf.1.mono (by decide)), fun _ r e h0 => ?_⟩
    unfold frac at e
    cases e
theorem frac_ItX {q : Rat} {n : Nat} (hn : n ≤ 4) (h : QB q (gB n) (vB n)) : ItX (frac q) ∧ ∀ r : Rat, frac q = frac r → 0 ≤ r → QB r (gB n) 1100000 := by
  have hg := gB_le hn
  have hv := vB_le hn
  have hf : FrB q 520 := (h.frB (e := 20) (by show _ < 1048576; omega)).mono (by omega)
  refine ⟨itx_frac (hf.mono (by decide)), fun r e _ => ?_⟩
  have : q = r := frac_inj e
  subst this
  exact h.mono (Nat.le_refl _) (by omega)
theorem allS_small {n : Nat} (hn : n ≤ 5) {s : List Nat} (h : s ∈ allS n) : (∀ k ∈ s, k ≤ 1000) ∧ s.length ≤ 20 := by
  obtain ⟨h1, h2⟩ := allS_mem n s h
  exact ⟨fun k hk => by have := h2 k hk; omega, by omega⟩
/-- a table over all some kinds, one of them told otherwise -/
theorem gd_bent {ss : List Int} (hs : Shares ss) (h4 : ss.length ≤ 4) {P : List Nat → Rat} (hP : ∀ s, Kinds ss.length s → LB ss P s) {l : List (List Nat)} (hl : ∀ s ∈ l, s ∈ allS ss.length) (hn : l.Nodup) {s : List Nat} (hsl : s ∈ allS ss.length) {o x : PyData} (ho : o ∈ oddL)
    (hx : x ∈ bentX (P s) o ∨ x = frac (P s)) : Gd ss (.dct (tabX (fun u => if u = s then x else frac (P u)) l)) ∧ ∀ u ∈ l, szFrac (if u = s then x else frac (P u)) := by
  have hit : ∀ u ∈ l, ItX (if u = s then x else frac (P u)) ∧ (u ≠ [] → ∀ r : Rat, (if u = s then x else frac (P u)) = frac r → 0 ≤ r → QB r (gB u.length) 1100000) := fun u hu => by
    have hk := allS_kinds (hl u hu)
    have hlu := hk.len
    by_cases e : u = s
    · rw [if_pos e, e]
      rw [e] at hk hlu
      rcases hx with hx | rfl
      · obtain ⟨a, b⟩ := bentX_ok (by omega) (hP s hk) ho hx
        exact ⟨a, fun h0 => b fun z => h0 (List.length_eq_zero_iff.mp z)⟩
      · obtain ⟨a, b⟩ := frac_ItX (by omega) (hP s hk)
        exact ⟨a, fun _ => b⟩
    · rw [if_neg e]
      obtain ⟨a, b⟩ := frac_ItX (by omega) (hP u hk)
      exact ⟨a, fun _ => b⟩
  have hlen : l.length ≤ 64 := by
    have := nd_len hn hl
    rw [allS_len] at this
    have h2 : 2 ^ ss.length ≤ 2 ^ 4 := Nat.pow_le_pow_right (by decide) h4
    have : (2 : Nat) ^ 4 = 16 := by decide
    omega
  exact ⟨gd_tabX hs h4 hlen (fun u hu => allS_small (by omega) (hl u hu)) (fun u hu => (hit u hu).1) hn fun u hu h0 _ r e h => (hit u hu).2 h0 r e h, fun u hu => (hit u hu).1.sz⟩
/-- one more key, that is no kinds -/
theorem gd_more {ss : List Int} (hs : Shares ss) (h4 : ss.length ≤ 4) {P : List Nat → Rat} (hP : ∀ s, Kinds ss.length s → LB ss P s) {l : List (List Nat)} (hl : ∀ s ∈ l, s ∈ allS ss.length) (hn : l.Nodup) {c : Nat} (hc : ss.length ≤ c) (hc2 : c ≤ 1000) {x : PyData} (hx : ItX x) :
    Gd ss (.dct (tabX (fun u => if u = [c] then x else frac (P u)) (l ++ [[c]]))) ∧ (∀ u ∈ l ++ [[c]], szFrac (if u = [c] then x else frac (P u)) ∧ u.length ≤ 100) ∧ (l ++ [[c]]).Nodup ∧ [c] ∉ l := by
  have hno : [c] ∉ l := fun h => by
    have := (allS_mem _ _ (hl _ h)).2 c (by simp)
    omega
  have hnd : (l ++ [[c]]).Nodup := List.nodup_append.mpr ⟨hn, by simp, fun a ha b hb e => hno (by rw [List.mem_singleton.mp hb] at e; exact e ▸ ha)⟩
  have hit : ∀ u ∈ l ++ [[c]], ItX (if u = [c] then x else frac (P u)) := fun u hu => by
    by_cases e : u = [c]
    · rw [if_pos e]; exact hx
    · rw [if_neg e]
      rcases List.mem_append.mp hu with hu | hu
      · have hk := allS_kinds (hl u hu)
        have hlu := hk.len
        exact (frac_ItX (by omega) (hP u hk)).1
      · exact absurd (List.mem_singleton.mp hu) e
  have hsm : ∀ u ∈ l ++ [[c]], (∀ k ∈ u, k ≤ 1000) ∧ u.length ≤ 20 := fun u hu => by
    rcases List.mem_append.mp hu with hu | hu
    · exact allS_small (by omega) (hl u hu)
    · rw [List.mem_singleton.mp hu]
      exact ⟨fun k hk => by rw [List.mem_singleton.mp hk]; exact hc2, by show 1 ≤ 20; decide⟩
  have hlen : (l ++ [[c]]).length ≤ 64 := by
    have := nd_len hn hl
    rw [allS_len] at this
    have h2 : 2 ^ ss.length ≤ 2 ^ 4 := Nat.pow_le_pow_right (by decide) h4
    have : (2 : Nat) ^ 4 = 16 := by decide
    rw [List.length_append, List.length_singleton]
    omega
  refine ⟨⟨shA_tabX hlen hsm fun u hu => (hit u hu).sh, fun hp => ?_⟩, fun u hu => ⟨(hit u hu).sz, by have := (hsm u hu).2; omega⟩, hnd, hno⟩
  obtain ⟨_, h2, _⟩ := pap_split hp
  have := List.all_eq_true.mp h2 (kn [c], x) (by
    unfold tabX
    rw [List.map_append]
    exact List.mem_append_right _ (by simp))
  obtain ⟨u, r, hu, e, _⟩ := okEn_of this
  injection e with e1 _
  have e1 := kn_inj e1
  rw [← e1] at hu
  have := hu.lt c (by simp)
  omega
theorem szKey {ss : List Int} (h5 : ss.length ≤ 5) {l : List (List Nat)} (hl : ∀ s ∈ l, s ∈ allS ss.length) : ∀ u ∈ l, u.length ≤ 100 := fun u hu => by
  have := (allS_small h5 (hl u hu)).2
  omega
/-- such a table stands at p -/
theorem at_tabX {m : Mm} {p : Addr} {f : List Nat → PyData} {l : List (List Nat)} (hm : m p = some (.dT (dI (dV (tabX f l))))) (hn : l.Nodup) (hl : l.length ≤ 100) (h : ∀ u ∈ l, szFrac (f u) ∧ u.length ≤ 100) : (Tg.dct (tabX f l)).At m (.v (.ref p)) :=
  ⟨p, rfl, hm, tabX_nodup hn, by unfold tabX; rw [List.length_map]; exact hl, fun e he => by
    obtain ⟨u, hu, rfl⟩ := List.mem_map.mp he
    exact ⟨(h u hu).1, by rw [List.length_map]; exact (h u hu).2⟩⟩
theorem odd_dict : ∀ o ∈ oddL, ∀ kvs, o = .dict kvs → kvs.length ≤ 1 := by
  have h : ∀ o ∈ oddL, (match o with | .dict kvs => decide (kvs.length ≤ 1) | _ => true) = true := by decide +kernel
  intro o ho kvs e
  have := h o ho
  rw [e] at this
  exact of_decide_eq_true this
theorem none_odd : PyData.none ∈ oddL := List.mem_append_left _ List.mem_cons_self
theorem put_del {m : Mm} {a : Addr} {o : MO} (h : m a = some o) : put (del m a) a o = m := by
  funext c
  unfold put del
  by_cases hc : c = a
  · rw [if_pos hc, hc, h]
  · rw [if_neg hc, if_neg hc]
theorem time_LB {ss : List Int} (hs : Shares ss) : ∀ (n : Nat) (s : List Nat), s.length = n → Kinds ss.length s → LB ss (timeT ss) s
  | 0, s, hl, hk => by
    have : s = [] := List.length_eq_zero_iff.mp hl
    subst this
    unfold LB
    rw [timeT_nil]
    exact ⟨Rat.le_refl, Rat.le_refl, Nat.le_refl 1⟩
  | n + 1, s, hl, hk => by
    have h0 : s ≠ [] := fun e => by rw [e] at hl; cases hl
    have := (LB_more hs hk h0 (fun k hks => time_LB hs n _ (by have := wo_len hk hks; omega) (wo_kinds hk k)) more_zero).1
    unfold LB
    rw [timeT_step ss hk.up h0]
    exact this
theorem bnd_sh {ss : List Int} {P : List Nat → Rat} {c : Bool} (h : FrB (P (List.range ss.length)) 1400) : ShB (if c = true then .none else frac (P (List.range ss.length))) 1 4000 := by
  split
  · exact sh_none.toB.mono (by decide) (by decide)
  · exact (sh_frac h (by decide) (by decide)).toB
theorem over_sh {ss : List Int} (hs : Shares ss) {t : Tg} (h : TgB ss t) : ShA (.list [t.over ss, t.under ss]) := by
  refine (shb_list (ds := [t.over ss, t.under ss]) (k := 1) (n := 4000) (c := 2) (fun d hd => ?_) (Nat.le_refl 2)).toA (by decide) (by decide)
  simp only [List.mem_cons, List.not_mem_nil, or_false] at hd
  have hn : ShB .none 1 4000 := sh_none.toB.mono (by decide) (by decide)
  cases hp : t.pap ss.length with
  | false =>
    unfold Tg.over Tg.under at hd
    rw [hp, if_neg (by decide), if_neg (by decide), or_self] at hd
    rw [hd]; exact hn
  | true =>
    have hf := (h hp).fr _ (kinds_all ss.length)
    unfold Tg.over Tg.under at hd
    rw [hp, if_pos rfl, if_pos rfl] at hd
    rcases hd with rfl | rfl
    · exact bnd_sh hf
    · exact bnd_sh hf
theorem on_showTh {K : PySem.W.Frag} {m : Mm} {Q : Val → Mm → Prop} {y : Val} {t : Tg} (h : t.At m y) (hs : ShA t.data) (q : Q (.d (.str t.data.shown)) m) : OpN K (rReprA K) [y] m Q := by
  cases t with
  | dat x => rw [h.1]; exact on_showN hs q
  | dct kds =>
    obtain ⟨p, rfl, h2, _⟩ := h
    exact on_showDT h2 hs q
end DL
namespace Law
open PySem L2 DL
def topS (i : Nat) : Stmt := PySem.Challenge.pw_kindsgathered_k17_bounds_by_papers.main.body.getD i (.Pass ⟨0, 0, 0, 0⟩)
local macro_rules | `(tactic| walk_at "dl1") => `(tactic| first
  | with_reducible refine w_seq ?_
  | with_reducible refine w_asg ?_
  | with_reducible refine w_ret ?_
  | with_reducible refine w_drop ?_
  | with_reducible refine w_if ?_
  | with_reducible refine w_par ?_
  | with_reducible refine evt_B ?_
  | with_reducible refine evt_test ?_
  | with_reducible refine evt_and ?_
  | with_reducible refine evt_or ?_
  | with_reducible refine evt_not ?_
  | with_reducible refine evt_yes ?_
  | with_reducible refine ev_lstMul ?_
  | with_reducible refine ev_op ?_
  | with_reducible refine ev_un ?_
  | with_reducible refine ev_callB ?_
  | with_reducible refine ev_call ?_
  | with_reducible refine eva_cons ?_
  | with_reducible refine eva_nil ?_
  | with_reducible refine evo_none ?_
  | with_reducible refine evo_some ?_
  | with_reducible refine ev_slL ?_
  | with_reducible refine ev_slT ?_
  | with_reducible refine ev_and ?_
  | with_reducible refine ev_or ?_
  | with_reducible refine ev_not ?_
  | with_reducible refine ev_chain ?_
  | with_reducible refine ev_tup ?_
  | with_reducible refine ev_if ?_
  | (refine ev_varTN rfl ?_)
  | (refine ev_varT rfl ?_)
  | (refine ev_var rfl (fun h => nomatch h) ?_)
  | with_reducible refine ev_cI ?_
  | with_reducible refine ev_cB ?_
  | with_reducible refine ev_cS ?_
  | with_reducible refine ev_cN ?_
  | with_reducible refine ev_cTy ?_)
local macro_rules | `(tactic| walk_at "dl2") => `(tactic| first
  | with_reducible refine o2_addI ?_
  | with_reducible refine o2_sub ?_
  | with_reducible refine o2_lt ?_
  | with_reducible refine o2_le ?_
  | with_reducible refine o2_gt ?_
  | with_reducible refine o2_ge ?_
  | with_reducible refine o2_eqI ?_
  | with_reducible refine o2_neI ?_
  | with_reducible refine o2_neS ?_
  | with_reducible refine o2_eqS ?_
  | with_reducible refine o1_neg ?_
  | with_reducible refine o2_isB ?_
  | with_reducible refine o2_isNotB ?_
  | with_reducible refine o2_inN ?_
  | with_reducible refine o2_notInN ?_
  | with_reducible refine on_abs ?_
  | with_reducible refine on_max ?_
  | with_reducible refine on_min ?_
  | with_reducible refine o2_ixF0 ?_
  | with_reducible refine o2_ixF1 ?_
  | with_reducible refine on_lenI ?_
  | with_reducible refine on_lenN ?_
  | with_reducible refine on_sumI ?_
  | with_reducible refine on_lenT ?_
  | with_reducible refine on_lenL ?_
  | with_reducible refine on_lenS ?_
  | with_reducible refine on_tupL ?_
  | with_reducible refine on_tupT ?_
  | with_reducible refine on_lstT ?_
  | with_reducible refine on_isiTup ?_
  | with_reducible refine on_isiInt ?_
  | with_reducible refine on_isiBool ?_
  | with_reducible refine on_isiStr ?_
  | with_reducible refine on_isiList ?_
  | with_reducible refine on_isiDict ?_
  | with_reducible refine on_sumL ?_
  | with_reducible refine on_sumT ?_
  | with_reducible refine on_all ?_
  | with_reducible refine on_any ?_
  | refine ⟨_, rfl, ?_⟩
  | refine ⟨_, _, rfl, ?_⟩
  | refine ⟨[], rfl, Nat.le_of_ble_eq_true rfl, ?_⟩
  | refine ⟨[_], rfl, Nat.le_of_ble_eq_true rfl, ?_⟩
  | refine ⟨[_, _], rfl, Nat.le_of_ble_eq_true rfl, ?_⟩
  | refine ⟨[_, _, _], rfl, Nat.le_of_ble_eq_true rfl, ?_⟩)
local macro_rules | `(tactic| walk_at "dl") => `(tactic| first | walk_at "dl1" | walk_at "dl2")
local macro_rules | `(tactic| walk_at "go") => `(tactic| repeat walk_at "dl")
section
variable {P : Program} {w : World} {K : PySem.W.Frag} {mg : Str → Option Value} {base : Heap}
variable {c_NoShares c_GatherError : Addr}
abbrev s_is_whole : Stmt := topS 5
theorem sc_is_whole : FnScope ["thing"] ["thing"] (defScope s_is_whole) := ⟨rfl, rfl, rfl, by decide +kernel, rfl, by decide +kernel, by decide +kernel⟩
theorem ok_is_whole {a : Addr} {fd : FuncData} (F : Fun K "is_whole" "is_whole" s_is_whole a fd) (hm : mg "is_whole" = some (.ref a)) (z_isinstance : mg "isinstance" = none) (z_bool : mg "bool" = none) (z_int : mg "int" = none) :
    Cl P w K mg base 1 "is_whole" f_isWhole := by
  refine ⟨a, fd, ["thing"], fn_ok F sc_is_whole (fun args m R h => ?_) (fun cdv A outer s H E hr => ⟨_, (pss_one (ps_ret (pe_and (pe_callB (kIsi K) (by rfl) z_isinstance (by decide +kernel) (pa_cons (pv 0) (pa_cons (pe_bltn (v := .ty "int") (by rfl) z_int (by decide +kernel) rfl) pa_nil))) (pe_one (pe_not (pe_callB (kIsi K) (by rfl) z_isinstance (by decide +kernel) (pa_cons (pv 0) (pa_cons (pe_bltn (v := .ty "bool") (by rfl) z_bool (by decide +kernel) rfl) pa_nil)))))))), fun args m R h => ?_⟩), hm, F.kp, F.binds (ps := ["thing"]) fun _ _ _ _ _ _ us hl => match us, hl with | [_], _ => rfl⟩
  ·
    obtain ⟨_, rfl, _⟩ := h; rfl
  ·
    obtain ⟨x, rfl, q⟩ := h
    repeat walk_at "dl"
    refine ⟨fun hc => ?_, fun hc => ?_⟩
    · repeat walk_at "dl"
      have e : (!isBoo x) = isInt x := by cases x <;> simp_all [isBoo, isInt, isIntB]
      rw [e]
      exact q
    · have e : isInt x = false := by cases x <;> simp_all [isInt, isIntB]
      rw [e] at q
      exact q
abbrev s_greatest_common : Stmt := topS 6
theorem sc_greatest_common : FnScope ["one", "other"] ["one", "other"] (defScope s_greatest_common) := ⟨rfl, rfl, rfl, by decide +kernel, rfl, by decide +kernel, by decide +kernel⟩
theorem ok_greatest_common {a : Addr} {fd : FuncData} (F : Fun K "greatest_common" "greatest_common" s_greatest_common a fd) (hm : mg "greatest_common" = some (.ref a)) :
    Cl P w K mg base 1 "greatest_common" f_gcd := by
  refine ⟨a, fd, ["one", "other"], fn_ok F sc_greatest_common (fun args m R h => ?_) (fun cdv A outer s H E hr => ⟨_, (pss_cons (ps_while PassesOwn.never (pt_cmpR (kNe K hr) (pv 1) pe_int (nomark _)) (pss_one (ps_par (i := 0) (j := 1) rfl sc_greatest_common.nd rfl rfl (by decide) rfl rfl (pa_cons (pv 1) (pa_cons (pe_op oMod (pv 0) (pv 1)) pa_nil)) rfl)))
      (pss_one (ps_ret (pv 0)))), fun args m R h => ?_⟩), hm, F.kp, F.binds (ps := ["one", "other"]) fun _ _ _ _ _ _ us hl => match us, hl with | [_, _], _ => rfl⟩
  ·
    obtain ⟨_, _, rfl, _⟩ := h; rfl
  ·
    obtain ⟨a0, b0, rfl, q⟩ := h
    refine w_seq (w_while (fun n r m' => m' = m ∧ ∃ x y : Nat, n = y ∧ r = [.d (.int (x : Int)), .d (.int (y : Int))] ∧ Nat.gcd x y = Nat.gcd a0 b0) b0 ⟨rfl, a0, b0, rfl, rfl, rfl⟩ ?_)
    rintro n r m' ⟨rfl, x, y, rfl, rfl, hg⟩
    repeat walk_at "dl"
    refine ⟨fun hc => ?_, fun hc => ?_⟩
    · have hy : n ≠ 0 := by
        intro e
        rw [e] at hc
        simp at hc
      repeat walk_at "dl"
      refine o2_mod (by omega) ?_
      repeat walk_at "dl"
      refine ⟨x % n, Nat.mod_lt x (by omega), rfl, n, x % n, rfl, rfl, ?_⟩
      rw [← hg, Nat.gcd_comm n (x % n), ← Nat.gcd_rec, Nat.gcd_comm]
    · have hy : n = 0 := by
        have : ((n : Nat) : Int) = 0 := by simpa using hc
        omega
      subst hy
      repeat walk_at "dl"
      rw [Nat.gcd_zero_right] at hg
      rw [hg]
      exact q
abbrev s_below : Stmt := topS 11
theorem sc_below : FnScope ["one", "other"] ["one", "other"] (defScope s_below) := ⟨rfl, rfl, rfl, by decide +kernel, rfl, by decide +kernel, by decide +kernel⟩
theorem ok_below {a : Addr} {fd : FuncData} (F : Fun K "below" "below" s_below a fd) (hm : mg "below" = some (.ref a)) :
    Cl P w K mg base 1 "below" f_below := by
  refine ⟨a, fd, ["one", "other"], fn_ok F sc_below (fun args m R h => ?_) (fun cdv A outer s H E hr => ⟨_, (pss_one (ps_ret (pe_cmpR oLt (pe_op (kMul K) (pe_ix (kIx K) (pv 0) pe_int (fun _ _ => rfl)) (pe_ix (kIx K) (pv 1) pe_int (fun _ _ => rfl))) (pe_op (kMul K) (pe_ix (kIx K) (pv 1) pe_int (fun _ _ => rfl)) (pe_ix (kIx K) (pv 0) pe_int (fun _ _ => rfl))) (nomark _)))), fun args m R h => ?_⟩), hm, F.kp, F.binds (ps := ["one", "other"]) fun _ _ _ _ _ _ us hl => match us, hl with | [_, _], _ => rfl⟩
  ·
    obtain ⟨_, _, rfl, _⟩ := h; rfl
  ·
    obtain ⟨p, r, rfl, hp, hr, q⟩ := h
    walk_at "go"
    refine o2_mulI (hp.1.cmul hr.2 (by decide)) ?_
    walk_at "go"
    refine o2_mulI (hr.1.cmul hp.2 (by decide)) ?_
    walk_at "go"
    have e : decide (p.num * (r.den : Int) < r.num * (p.den : Int)) = decide (p < r) := by
      rw [decide_eq_decide]; exact (Rat.lt_iff p r).symm
    rw [e]
    exact q
abbrev s_sum_part : Stmt := topS 18
theorem sc_sum_part : FnScope ["shares", "some", "kind"] ["shares", "some"] (defScope s_sum_part) := ⟨rfl, rfl, rfl, by decide +kernel, rfl, by decide +kernel, by decide +kernel⟩
theorem ok_sum_part {a : Addr} {fd : FuncData} (F : Fun K "sum_part" "sum_part" s_sum_part a fd) (hm : mg "sum_part" = some (.ref a)) (z_sum : mg "sum" = none) :
    Cl P w K mg base 1 "sum_part" f_sumPart := by
  refine ⟨a, fd, ["shares", "some"], fn_ok F sc_sum_part (fun args m R h => ?_) (fun cdv A outer s H E hr => ⟨_, (pss_one (ps_ret (pe_callB (kSum K) (by rfl) z_sum (by decide +kernel) (pa_cons (pe_lc (own := [("kind", 2)]) rfl sc_sum_part.nd (kiT K (pv 1)) (blkOk_by (own := [("kind", 2)]) (N := ["shares", "some", "kind"]) (sc := defScope s_sum_part) (by decide +kernel)) (fun _ _ _ _ _ => (pg_name (i := 2) sc_sum_part.nd rfl (by first | exact Or.inl rfl | exact Or.inr rfl))) (fun _ _ _ _ _ => pts_nil) (fun _ _ _ _ _ => (pe_ix (kIx K) (pv 0) (pv 2) (fun _ _ => rfl)))) pa_nil)))), fun args m R h => ?_⟩), hm, F.kp, F.binds (ps := ["shares", "some"]) fun _ _ _ _ _ _ us hl => match us, hl with | [_, _], _ => rfl⟩
  ·
    obtain ⟨_, _, rfl, _⟩ := h; rfl
  ·
    obtain ⟨ss, ks, rfl, hz, hk, q⟩ := h
    repeat walk_at "dl"
    refine ev_mapT (ds := (ks.map fun (k : Nat) => (k : Int)).map PyData.int) ?_ (by rw [List.length_map, List.length_map]; omega) (fun d => .int (ss.getD (intOf d).toNat 0)) (fun i d m' hd hx => ?_) ?_
    · repeat walk_at "dl"
      exact ⟨rfl, rfl⟩
    · obtain ⟨k, hk1, rfl⟩ : ∃ k, k ∈ ks ∧ d = .int (k : Int) := by
        have := List.mem_of_getElem? hd
        rw [List.map_map] at this
        obtain ⟨k, h1, h2⟩ := List.mem_map.mp this
        exact ⟨k, h1, h2.symm⟩
      repeat walk_at "dl"
      refine o2_ixT (tupI_at (hk k hk1)) ?_
      exact ⟨rfl, rfl⟩
    · repeat walk_at "dl"
      have e : ((ks.map fun (k : Nat) => (k : Int)).map PyData.int).map (fun d => PyData.int (ss.getD (intOf d).toNat 0)) = (ks.map fun k => ss.getD k 0).map PyData.int := by
        rw [List.map_map, List.map_map, List.map_map]
        exact List.map_congr_left fun k _ => rfl
      rw [e]
      refine on_sumL ?_
      exact q
abbrev s_all_some : Stmt := topS 19
theorem sc_all_some : FnScope ["kinds", "found", "kind", "some"] ["kinds"] (defScope s_all_some) := ⟨rfl, rfl, rfl, by decide +kernel, rfl, by decide +kernel, by decide +kernel⟩
theorem ok_all_some {a : Addr} {fd : FuncData} (F : Fun K "all_some" "all_some" s_all_some a fd) (hm : mg "all_some" = some (.ref a)) :
    Cl P w K mg base 1 "all_some" f_allSome := by
  refine ⟨a, fd, ["kinds"], fn_ok F sc_all_some (fun args m R h => ?_) (fun cdv A outer s H E hr => ⟨_, (pss_cons (ps_set (i := 1) sc_all_some.nd rfl (by first | exact Or.inl rfl | exact Or.inr rfl) (pe_lst (pa_cons (pe_tup pa_nil) pa_nil)))
      (pss_cons (ps_for PassesOwn.never rfl (kiL K (pv 0)) (pg_name (i := 2) sc_all_some.nd rfl (by first | exact Or.inl rfl | exact Or.inr rfl)) (pss_one (ps_set (i := 1) sc_all_some.nd rfl (by first | exact Or.inl rfl | exact Or.inr rfl) (pe_op (kAdd K) (pv 1) (pe_lc (own := [("some", 3)]) rfl sc_all_some.nd (kiL K (pv 1)) (blkOk_by (own := [("some", 3)]) (N := ["kinds", "found", "kind", "some"]) (sc := defScope s_all_some) (by decide +kernel)) (fun _ _ _ _ _ => (pg_name (i := 3) sc_all_some.nd rfl (by first | exact Or.inl rfl | exact Or.inr rfl))) (fun _ _ _ _ _ => pts_nil) (fun _ _ _ _ _ => (pe_op (kAdd K) (pv 3) (pe_tup (pa_cons (pv 2) pa_nil)))))))))
      (pss_one (ps_ret (pv 1))))), fun args m R h => ?_⟩), hm, F.kp, F.binds (ps := ["kinds"]) fun _ _ _ _ _ _ us hl => match us, hl with | [_], _ => rfl⟩
  ·
    obtain ⟨_, rfl, _⟩ := h; rfl
  ·
    obtain ⟨ks, rfl, hn, q⟩ := h
    refine w_seq (w_asg (ev_lstT ?_))
    refine eva_cons (ev_tupT ?_)
    walk_at "dl1"
    refine ⟨[], rfl, by decide, ?_⟩
    walk_at "dl1"
    refine ⟨[[]], rfl, by decide, ?_⟩
    refine w_seq (w_forLf (xs := ks) (f := intN) ?_ (fun i r' m' => m' = m ∧ ∃ y, r' = [.d (.list (ks.map intN)), .lt ((allSL (ks.take i)).map kn), y, .any]) ⟨rfl, _, rfl⟩ ?_ ?_)
    · walk_at "go"
      exact ⟨rfl, rfl⟩
    · rintro i k r' m' hk ⟨rfl, y, rfl⟩
      have hl := allSL_len (ks.take i)
      have hp : (2 : Nat) ^ (ks.take i).length ≤ 2 ^ 8 := Nat.pow_le_pow_right (by decide) (by rw [List.length_take]; omega)
      refine w_asg (ev_op (ev_var (x := .lt ((allSL (ks.take i)).map kn)) rfl (fun h => nomatch h) ?_))
      refine ev_mapLt (nss := (allSL (ks.take i)).map kn) (ev_var rfl (fun h => nomatch h) ⟨rfl, rfl⟩) (by rw [List.length_map]; omega) (fun ns => ns ++ [(k : Int)]) (fun ns m2 hns hx => ?_) ?_
      · refine ev_op (ev_var (x := .t ns) rfl (fun h => nomatch h) (ev_tupT ?_))
        walk_at "go"
        obtain ⟨s, hs, rfl⟩ := List.mem_map.mp hns
        have := allSL_mem_len s hs
        rw [List.length_take] at this
        refine o2_addTt (by rw [List.length_map]; show s.length + 1 ≤ 100000; omega) ⟨rfl, rfl⟩
      · refine o2_addLt (by rw [List.length_map, List.length_map, List.length_map]; omega) ?_
        refine ⟨rfl, .d (.int (k : Int)), ?_⟩
        rw [take_one hk, allSL_snoc, List.map_append, List.map_map, List.map_map]
        have e : (allSL (ks.take i)).map ((fun ns => ns ++ [(k : Int)]) ∘ kn) = (allSL (ks.take i)).map (kn ∘ fun s => s ++ [k]) := List.map_congr_left fun s _ => by
          show kn s ++ [(k : Int)] = kn (s ++ [k])
          unfold kn
          rw [List.map_append]; rfl
        rw [e]
        rfl
    · rintro r' m' ⟨rfl, y, rfl⟩
      rw [List.take_length]
      refine w_ret (ev_var rfl (fun h => nomatch h) q)
abbrev s__law_cell : Stmt := topS 27
theorem sc__law_cell : FnScope ["_law_script", "_law_k"] ["_law_script", "_law_k"] (defScope s__law_cell) := ⟨rfl, rfl, rfl, by decide +kernel, rfl, by decide +kernel, by decide +kernel⟩
theorem ok__law_cell {a : Addr} {fd : FuncData} (F : Fun K "_law_cell" "_law_cell" s__law_cell a fd) (hm : mg "_law_cell" = some (.ref a)) (z_len : mg "len" = none) :
    Cl P w K mg base 1 "_law_cell" f_cell := by
  refine ⟨a, fd, ["_law_script", "_law_k"], fn_ok F sc__law_cell (fun args m R h => ?_) (fun cdv A outer s H E hr => ⟨_, (pss_cons (ps_if (pt_cmpR oLt (pv 1) (pe_callB (kLen K) (by rfl) z_len (by decide +kernel) (pa_cons (pv 0) pa_nil)) (nomark _)) (pss_one (ps_ret (pe_ix (kIx K) (pv 0) (pv 1) (fun _ _ => rfl)))) pss_nil)
      (pss_one (ps_ret pe_int))), fun args m R h => ?_⟩), hm, F.kp, F.binds (ps := ["_law_script", "_law_k"]) fun _ _ _ _ _ _ us hl => match us, hl with | [_, _], _ => rfl⟩
  ·
    obtain ⟨_, _, rfl, _⟩ := h; rfl
  ·
    obtain ⟨ns, k, rfl, q⟩ := h
    repeat walk_at "dl"
    by_cases hk : (k : Int) < (ns.length : Int)
    · refine br_t (decide_eq_true hk) ?_
      repeat walk_at "dl"
      refine o2_ixS (List.getElem?_eq_getElem (by omega)) ?_
      exact q _
    · refine br_f (decide_eq_false hk) (w_next ?_)
      repeat walk_at "dl"
      exact q _
abbrev s__law_mix : Stmt := topS 28
theorem sc__law_mix : FnScope ["_law_cell_here", "_law_k", "_law_some", "_law_stir"] ["_law_cell_here", "_law_k"] (defScope s__law_mix) := ⟨rfl, rfl, rfl, by decide +kernel, rfl, by decide +kernel, by decide +kernel⟩
theorem ok__law_mix {a : Addr} {fd : FuncData} (F : Fun K "_law_mix" "_law_mix" s__law_mix a fd) (hm : mg "_law_mix" = some (.ref a)) :
    Cl P w K mg base 1 "_law_mix" f_mix := by
  refine ⟨a, fd, ["_law_cell_here", "_law_k"], fn_ok F sc__law_mix (fun args m R h => ?_) (fun cdv A outer s H E hr => ⟨_, (pss_cons (ps_set (i := 2) sc__law_mix.nd rfl (by first | exact Or.inl rfl | exact Or.inr rfl) (pe_lst (pa_cons pe_int (pa_cons pe_int (pa_cons pe_int (pa_cons pe_int (pa_cons pe_int (pa_cons pe_int (pa_cons pe_int (pa_cons pe_int (pa_cons pe_int (pa_cons pe_int (pa_cons pe_int (pa_cons pe_int (pa_cons pe_int pa_nil)))))))))))))))
      (pss_cons (ps_set (i := 3) sc__law_mix.nd rfl (by first | exact Or.inl rfl | exact Or.inr rfl) (pe_op (kMul K) (pe_op (kAdd K) (pe_op oMod (pv 0) pe_int) pe_int) (pe_ix (kIx K) (pv 2) (pe_op oMod (pv 1) pe_int) (fun _ _ => rfl))))
      (pss_cons (ps_set (i := 3) sc__law_mix.nd rfl (by first | exact Or.inl rfl | exact Or.inr rfl) (pe_op (kAdd K) (pe_op (kAdd K) (pv 3) (pe_op (kMul K) pe_int (pv 1))) (pe_op (kMul K) pe_int (pe_op oFdv (pv 1) pe_int))))
      (pss_cons (ps_set (i := 3) sc__law_mix.nd rfl (by first | exact Or.inl rfl | exact Or.inr rfl) (pe_op oMod (pv 3) pe_int))
      (pss_one (ps_ret (pe_op oFdv (pe_op oMod (pe_op (kAdd K) (pe_op (kMul K) (pv 3) (pv 3)) (pe_op (kMul K) pe_int (pv 1))) pe_int) pe_int))))))), fun args m R h => ?_⟩), hm, F.kp, F.binds (ps := ["_law_cell_here", "_law_k"]) fun _ _ _ _ _ _ us hl => match us, hl with | [_, _], _ => rfl⟩
  ·
    obtain ⟨_, _, rfl, _⟩ := h; rfl
  ·
    obtain ⟨c, k, rfl, hk, q⟩ := h
    refine w_seq (w_asg (ev_lstD ?_))
    iterate 27 walk_at "dl1"
    refine ⟨([48271, 69621, 16807, 39373, 30269, 40014, 40692, 50021, 61687, 71993, 83869, 95561, 30307] : List Int).map PyData.int, rfl, Nat.le_of_ble_eq_true rfl, ?_⟩
    obtain ⟨v, hv, hv0, hv1⟩ : ∃ v : Int, atI (([48271, 69621, 16807, 39373, 30269, 40014, 40692, 50021, 61687, 71993, 83869, 95561, 30307] : List Int).map PyData.int) ((k : Int) % 13) = some (.int v) ∧ 0 ≤ v ∧ v < 131072 := by
      have h13 : k % 13 < 13 := Nat.mod_lt k (by decide)
      have e : (k : Int) % 13 = ((k % 13 : Nat) : Int) := by omega
      rw [e, atI_nth, List.getElem?_map, List.getElem?_eq_getElem (by simpa using h13)]
      refine ⟨_, rfl, ?_⟩
      have hm := List.getElem_mem (l := ([48271, 69621, 16807, 39373, 30269, 40014, 40692, 50021, 61687, 71993, 83869, 95561, 30307] : List Int)) (n := k % 13) (by simpa using h13)
      revert hm
      generalize ([48271, 69621, 16807, 39373, 30269, 40014, 40692, 50021, 61687, 71993, 83869, 95561, 30307] : List Int)[k % 13] = w
      intro hm
      simp only [List.mem_cons, List.mem_nil_iff, or_false] at hm
      omega
    have hc := Int.emod_nonneg c (show (2147483647 : Int) ≠ 0 by decide)
    have hc2 := Int.emod_lt_of_pos c (show (0 : Int) < 2147483647 by decide)
    repeat walk_at "dl"
    refine o2_mod (by decide) ?_
    repeat walk_at "dl"
    refine o2_mod (by decide) ?_
    refine o2_ixL hv ?_
    refine o2_mulI (cmul_small (by omega) (by omega)) ?_
    repeat walk_at "dl"
    refine o2_mulI (cmul_small (by decide) (by omega)) ?_
    repeat walk_at "dl"
    refine o2_fdv (cdiv_small (by decide) (by decide)) ?_
    refine o2_mulI (cmul_small (by decide) (by omega)) ?_
    repeat walk_at "dl"
    refine o2_mod (by decide) ?_
    generalize hs : ((c % 2147483647 + 12345) * v + 977 * (k : Int) + 7919 * ((k : Int) / 13)) = S
    have h1 := Int.emod_nonneg S (show (1000000007 : Int) ≠ 0 by decide)
    have h2 := Int.emod_lt_of_pos S (show (0 : Int) < 1000000007 by decide)
    generalize ht : S % 1000000007 = T at *
    repeat walk_at "dl"
    refine o2_mulI (cmul_small (by omega) (by omega)) ?_
    repeat walk_at "dl"
    refine o2_mulI (cmul_small (by decide) (by omega)) ?_
    repeat walk_at "dl"
    refine o2_mod (by decide) ?_
    repeat walk_at "dl"
    refine o2_fdv (cdiv_small (by decide) (by decide)) ?_
    have h3 := Int.emod_nonneg (T * T + 48271 * (k : Int)) (show (1000000007 : Int) ≠ 0 by decide)
    have h4 := Int.emod_lt_of_pos (T * T + 48271 * (k : Int)) (show (0 : Int) < 1000000007 by decide)
    exact q _ (by omega) (by omega)
abbrev s__law_take : Stmt := topS 30
theorem sc__law_take : FnScope ["_law_box_here", "_law_many", "_law_left", "_law_digit"] ["_law_box_here", "_law_many"] (defScope s__law_take) := ⟨rfl, rfl, rfl, by decide +kernel, rfl, by decide +kernel, by decide +kernel⟩
theorem ok__law_take {a : Addr} {fd : FuncData} (F : Fun K "_law_take" "_law_take" s__law_take a fd) (hm : mg "_law_take" = some (.ref a)) (z_divmod : mg "divmod" = none) :
    Cl P w K mg base 1 "_law_take" f_take := by
  refine ⟨a, fd, ["_law_box_here", "_law_many"], fn_ok F sc__law_take (fun args m R h => ?_) (fun cdv A outer s H E hr => ⟨_, (pss_cons (ps_asg (pe_callB cDivmod (by rfl) z_divmod (by decide +kernel) (pa_cons (pe_ix (kIx K) (pv 0) pe_int (fun _ _ => rfl)) (pa_cons (pv 1) pa_nil))) (kgT K (pg_tup (n := 2) rfl (pgs_cons (pg_name (i := 2) sc__law_take.nd rfl (by first | exact Or.inl rfl | exact Or.inr rfl)) (pgs_cons (pg_name (i := 3) sc__law_take.nd rfl (by first | exact Or.inl rfl | exact Or.inr rfl)) pgs_nil)))))
      (pss_cons (ps_asg (pv 2) (pg_sub (pv 0) pe_int set_list))
      (pss_one (ps_ret (pv 3))))), fun args m R h => ?_⟩), hm, F.kp, F.binds (ps := ["_law_box_here", "_law_many"]) fun _ _ _ _ _ _ us hl => match us, hl with | [_, _], _ => rfl⟩
  ·
    obtain ⟨_, _, rfl, _⟩ := h; rfl
  ·
    obtain ⟨p, k, rfl, hp, hk, hb, q⟩ := h
    refine w_seq (w_asg2 ?_)
    repeat walk_at "dl"
    refine o2_ixB hp fun n => ?_
    repeat walk_at "dl"
    refine on_divmod (hb.cdiv hk (by decide)) ?_
    repeat walk_at "dl"
    refine w_setB (p := p) ?_
    repeat walk_at "dl"
    refine ⟨rfl, ?_⟩
    repeat walk_at "dl"
    refine ⟨rfl, hp, ?_⟩
    repeat walk_at "dl"
    exact q _ (Int.emod_nonneg n (by omega)) (Int.emod_lt_of_pos n hk)
abbrev s__law_whole : Stmt := topS 31
theorem sc__law_whole : FnScope ["_law_thing"] ["_law_thing"] (defScope s__law_whole) := ⟨rfl, rfl, rfl, by decide +kernel, rfl, by decide +kernel, by decide +kernel⟩
theorem ok__law_whole {a : Addr} {fd : FuncData} (F : Fun K "_law_whole" "_law_whole" s__law_whole a fd) (hm : mg "_law_whole" = some (.ref a)) (z_isinstance : mg "isinstance" = none) (z_bool : mg "bool" = none) (z_int : mg "int" = none) :
    Cl P w K mg base 1 "_law_whole" f_isWhole := by
  refine ⟨a, fd, ["_law_thing"], fn_ok F sc__law_whole (fun args m R h => ?_) (fun cdv A outer s H E hr => ⟨_, (pss_one (ps_ret (pe_and (pe_callB (kIsi K) (by rfl) z_isinstance (by decide +kernel) (pa_cons (pv 0) (pa_cons (pe_bltn (v := .ty "int") (by rfl) z_int (by decide +kernel) rfl) pa_nil))) (pe_one (pe_not (pe_callB (kIsi K) (by rfl) z_isinstance (by decide +kernel) (pa_cons (pv 0) (pa_cons (pe_bltn (v := .ty "bool") (by rfl) z_bool (by decide +kernel) rfl) pa_nil)))))))), fun args m R h => ?_⟩), hm, F.kp, F.binds (ps := ["_law_thing"]) fun _ _ _ _ _ _ us hl => match us, hl with | [_], _ => rfl⟩
  ·
    obtain ⟨_, rfl, _⟩ := h; rfl
  ·
    obtain ⟨x, rfl, q⟩ := h
    repeat walk_at "dl"
    refine ⟨fun hc => ?_, fun hc => ?_⟩
    · repeat walk_at "dl"
      have e : (!isBoo x) = isInt x := by cases x <;> simp_all [isBoo, isInt, isIntB]
      rw [e]
      exact q
    · have e : isInt x = false := by cases x <;> simp_all [isInt, isIntB]
      rw [e] at q
      exact q
abbrev s__law_common : Stmt := topS 33
theorem sc__law_common : FnScope ["_law_one", "_law_other"] ["_law_one", "_law_other"] (defScope s__law_common) := ⟨rfl, rfl, rfl, by decide +kernel, rfl, by decide +kernel, by decide +kernel⟩
theorem ok__law_common {a : Addr} {fd : FuncData} (F : Fun K "_law_common" "_law_common" s__law_common a fd) (hm : mg "_law_common" = some (.ref a)) :
    Cl P w K mg base 1 "_law_common" f_gcd := by
  refine ⟨a, fd, ["_law_one", "_law_other"], fn_ok F sc__law_common (fun args m R h => ?_) (fun cdv A outer s H E hr => ⟨_, (pss_cons (ps_while PassesOwn.never (pt_cmpR (kNe K hr) (pv 1) pe_int (nomark _)) (pss_one (ps_par (i := 0) (j := 1) rfl sc__law_common.nd rfl rfl (by decide) rfl rfl (pa_cons (pv 1) (pa_cons (pe_op oMod (pv 0) (pv 1)) pa_nil)) rfl)))
      (pss_one (ps_ret (pv 0)))), fun args m R h => ?_⟩), hm, F.kp, F.binds (ps := ["_law_one", "_law_other"]) fun _ _ _ _ _ _ us hl => match us, hl with | [_, _], _ => rfl⟩
  ·
    obtain ⟨_, _, rfl, _⟩ := h; rfl
  ·
    obtain ⟨a0, b0, rfl, q⟩ := h
    refine w_seq (w_while (fun n r m' => m' = m ∧ ∃ x y : Nat, n = y ∧ r = [.d (.int (x : Int)), .d (.int (y : Int))] ∧ Nat.gcd x y = Nat.gcd a0 b0) b0 ⟨rfl, a0, b0, rfl, rfl, rfl⟩ ?_)
    rintro n r m' ⟨rfl, x, y, rfl, rfl, hg⟩
    repeat walk_at "dl"
    refine ⟨fun hc => ?_, fun hc => ?_⟩
    · have hy : n ≠ 0 := by
        intro e
        rw [e] at hc
        simp at hc
      repeat walk_at "dl"
      refine o2_mod (by omega) ?_
      repeat walk_at "dl"
      refine ⟨x % n, Nat.mod_lt x (by omega), rfl, n, x % n, rfl, rfl, ?_⟩
      rw [← hg, Nat.gcd_comm n (x % n), ← Nat.gcd_rec, Nat.gcd_comm]
    · have hy : n = 0 := by
        have : ((n : Nat) : Int) = 0 := by simpa using hc
        omega
      subst hy
      repeat walk_at "dl"
      rw [Nat.gcd_zero_right] at hg
      rw [hg]
      exact q
abbrev s__law_all_some : Stmt := topS 38
theorem sc__law_all_some : FnScope ["_law_many", "_law_found", "_law_kind", "_law_some"] ["_law_many"] (defScope s__law_all_some) := ⟨rfl, rfl, rfl, by decide +kernel, rfl, by decide +kernel, by decide +kernel⟩
theorem ok__law_all_some {a : Addr} {fd : FuncData} (F : Fun K "_law_all_some" "_law_all_some" s__law_all_some a fd) (hm : mg "_law_all_some" = some (.ref a)) (z_range : mg "range" = none) :
    Cl P w K mg base 1 "_law_all_some" f_lawAllSomeT := by
  refine ⟨a, fd, ["_law_many"], fn_ok F sc__law_all_some (fun args m R h => ?_) (fun cdv A outer s H E hr => ⟨_, (pss_cons (ps_set (i := 1) sc__law_all_some.nd rfl (by first | exact Or.inl rfl | exact Or.inr rfl) (pe_lst (pa_cons (pe_tup pa_nil) pa_nil)))
      (pss_cons (ps_for PassesOwn.never rfl (pi_range1 (by rfl) z_range (pa_cons (pv 0) pa_nil)) (pg_name (i := 2) sc__law_all_some.nd rfl (by first | exact Or.inl rfl | exact Or.inr rfl)) (pss_one (ps_set (i := 1) sc__law_all_some.nd rfl (by first | exact Or.inl rfl | exact Or.inr rfl) (pe_op (kAdd K) (pv 1) (pe_lc (own := [("_law_some", 3)]) rfl sc__law_all_some.nd (kiL K (pv 1)) (blkOk_by (own := [("_law_some", 3)]) (N := ["_law_many", "_law_found", "_law_kind", "_law_some"]) (sc := defScope s__law_all_some) (by decide +kernel)) (fun _ _ _ _ _ => (pg_name (i := 3) sc__law_all_some.nd rfl (by first | exact Or.inl rfl | exact Or.inr rfl))) (fun _ _ _ _ _ => pts_nil) (fun _ _ _ _ _ => (pe_op (kAdd K) (pv 3) (pe_tup (pa_cons (pv 2) pa_nil)))))))))
      (pss_one (ps_ret (pv 1))))), fun args m R h => ?_⟩), hm, F.kp, F.binds (ps := ["_law_many"]) fun _ _ _ _ _ _ us hl => match us, hl with | [_], _ => rfl⟩
  ·
    obtain ⟨_, rfl, _⟩ := h; rfl
  ·
    obtain ⟨n, rfl, hn, q⟩ := h
    refine w_seq (w_asg (ev_lstT ?_))
    refine eva_cons (ev_tupT ?_)
    walk_at "dl1"
    refine ⟨[], rfl, by decide, ?_⟩
    walk_at "dl1"
    refine ⟨[[]], rfl, by decide, ?_⟩
    refine w_seq (w_forR1 (n := n) ?_ (by omega) (fun i r' m' => m' = m ∧ ∃ y, r' = [.d (.int (n : Int)), .lt ((allS i).map kn), y, .any]) ⟨rfl, _, rfl⟩ ?_ ?_)
    · walk_at "go"
      exact ⟨rfl, rfl⟩
    · rintro i r' m' hi ⟨rfl, y, rfl⟩
      have hl := allS_len i
      have hp : (2 : Nat) ^ i ≤ 2 ^ 8 := Nat.pow_le_pow_right (by decide) (by omega)
      refine w_asg (ev_op (ev_var (x := .lt ((allS i).map kn)) rfl (fun h => nomatch h) ?_))
      refine ev_mapLt (nss := (allS i).map kn) (ev_var rfl (fun h => nomatch h) ⟨rfl, rfl⟩) (by rw [List.length_map]; omega) (fun ns => ns ++ [(i : Int)]) (fun ns m2 hns hx => ?_) ?_
      · refine ev_op (ev_var (x := .t ns) rfl (fun h => nomatch h) (ev_tupT ?_))
        walk_at "go"
        obtain ⟨s, hs, rfl⟩ := List.mem_map.mp hns
        have := (allS_mem i s hs).1
        refine o2_addTt (by rw [List.length_map]; show s.length + 1 ≤ 100000; omega) ⟨rfl, rfl⟩
      · refine o2_addLt (by rw [List.length_map, List.length_map, List.length_map]; omega) ?_
        refine ⟨rfl, .d (.int (i : Int)), ?_⟩
        rw [allS, List.map_append, List.map_map, List.map_map]
        have e : (allS i).map ((fun ns => ns ++ [(i : Int)]) ∘ kn) = (allS i).map (kn ∘ fun s => s ++ [i]) := List.map_congr_left fun s _ => by
          show kn s ++ [(i : Int)] = kn (s ++ [i])
          unfold kn
          rw [List.map_append]; rfl
        rw [e]
        rfl
    · rintro r' m' ⟨rfl, y, rfl⟩
      refine w_ret (ev_var rfl (fun h => nomatch h) q)
abbrev s_made : Stmt := topS 7
theorem sc_made : FnScope ["top", "bottom", "both"] ["top", "bottom"] (defScope s_made) := ⟨rfl, rfl, rfl, by decide +kernel, rfl, by decide +kernel, by decide +kernel⟩
theorem ok_made {a : Addr} {fd : FuncData} (F : Fun K "made" "made" s_made a fd) (hm : mg "made" = some (.ref a)) (z_abs : mg "abs" = none) (k_greatest_common : Cl P w K mg base 1 "greatest_common" f_gcd) :
    Cl P w K mg base 2 "made" f_made := by
  refine ⟨a, fd, ["top", "bottom"], fn_ok F sc_made (fun args m R h => ?_) (fun cdv A outer s H E hr => ⟨_, (pss_cons (ps_set (i := 2) sc_made.nd rfl (by first | exact Or.inl rfl | exact Or.inr rfl) (pe_cl k_greatest_common hr (by decide) (by rfl) (pa_cons (pv 1) (pa_cons (pe_callB cAbs (by rfl) z_abs (by decide +kernel) (pa_cons (pv 0) pa_nil)) pa_nil))))
      (pss_one (ps_ret (pe_tup (pa_cons (pe_op oFdv (pv 0) (pv 2)) (pa_cons (pe_op oFdv (pv 1) (pv 2)) pa_nil)))))), fun args m R h => ?_⟩), hm, F.kp, F.binds (ps := ["top", "bottom"]) fun _ _ _ _ _ _ us hl => match us, hl with | [_, _], _ => rfl⟩
  ·
    obtain ⟨_, _, rfl, _⟩ := h; rfl
  ·
    obtain ⟨t, b, rfl, hb, hz, q⟩ := h
    have hp : 0 < Nat.gcd b t.natAbs := Nat.gcd_pos_of_pos_left _ hb
    have hB : Bt ((Nat.gcd b t.natAbs : Nat) : Int) 8000 := hz.le (by
      have := Nat.le_of_dvd hb (Nat.gcd_dvd_left b t.natAbs)
      omega)
    repeat walk_at "dl"
    refine o2_fdv (hB.cdiv (by omega) (by decide)) ?_
    repeat walk_at "dl"
    refine o2_fdv (hB.cdiv (by omega) (by decide)) ?_
    repeat walk_at "dl"
    rw [frac_mk t b (by omega)] at q
    exact q
abbrev s_is_shares : Stmt := topS 15
theorem sc_is_shares : FnScope ["thing", "one"] ["thing"] (defScope s_is_shares) := ⟨rfl, rfl, rfl, by decide +kernel, rfl, by decide +kernel, by decide +kernel⟩
theorem ok_is_shares {a : Addr} {fd : FuncData} (F : Fun K "is_shares" "is_shares" s_is_shares a fd) (hm : mg "is_shares" = some (.ref a)) (z_len : mg "len" = none) (z_isinstance : mg "isinstance" = none) (z_tuple : mg "tuple" = none) (z_all : mg "all" = none) (c_MOST_KINDS : ∃ t, mg "MOST_KINDS" = some (.int 5 t)) (c_MOST_SHARE : ∃ t, mg "MOST_SHARE" = some (.int 9 t)) (k_is_whole : Cl P w K mg base 1 "is_whole" f_isWhole) :
    Cl P w K mg base 2 "is_shares" f_isShares := by
  refine ⟨a, fd, ["thing"], fn_ok F sc_is_shares (fun args m R h => ?_) (fun cdv A outer s H E hr => ⟨_, (pss_cons (ps_if (PW.pt (pw_or (pt_not (pt_val (pe_callB (kIsi K) (by rfl) z_isinstance (by decide +kernel) (pa_cons (pv 0) (pa_cons (pe_bltn (v := .ty "tuple") (by rfl) z_tuple (by decide +kernel) rfl) pa_nil))))) (pw_or1 (pt_not (pt_chain oLe oLe pe_int (pe_callB (kLen K) (by rfl) z_len (by decide +kernel) (pa_cons (pv 0) pa_nil)) (pe_gi c_MOST_KINDS (by rfl))))))) (pss_one (ps_ret pe_bl)) pss_nil)
      (pss_one (ps_ret (pe_callB (kAll K) (by rfl) z_all (by decide +kernel) (pa_cons (pe_lc (own := [("one", 1)]) rfl sc_is_shares.nd (kiT K (pv 0)) (blkOk_by (own := [("one", 1)]) (N := ["thing", "one"]) (sc := defScope s_is_shares) (by decide +kernel)) (fun _ _ _ _ _ => (pg_name (i := 1) sc_is_shares.nd rfl (by first | exact Or.inl rfl | exact Or.inr rfl))) (fun _ _ _ _ _ => pts_nil) (fun _ _ _ _ _ => (pe_and (pe_cl k_is_whole hr (by decide) (by rfl) (pa_cons (pv 1) pa_nil)) (pe_one (pe_chain oLe oLe pe_int (pv 1) (pe_gi c_MOST_SHARE (by rfl))))))) pa_nil))))), fun args m R h => ?_⟩), hm, F.kp, F.binds (ps := ["thing"]) fun _ _ _ _ _ _ us hl => match us, hl with | [_], _ => rfl⟩
  ·
    obtain ⟨_, rfl, _⟩ := h; rfl
  ·
    obtain ⟨x, rfl, q⟩ := h
    repeat walk_at "dl"
    cases hx : isTup x with
    | false =>
      refine br_t rfl (br_t rfl ?_)
      repeat walk_at "dl"
      have e : isShares x = false := by cases x <;> first | rfl | cases hx
      rw [e] at q
      exact q
    | true =>
      obtain ⟨ds, rfl⟩ := tup_shape hx
      refine br_f rfl ?_
      repeat walk_at "dl"
      by_cases h1 : (1 : Int) ≤ (ds.length : Int)
      · refine br_t (decide_eq_true h1) ?_
        repeat walk_at "dl"
        by_cases h5 : (ds.length : Int) ≤ 5
        · rw [decide_eq_true h5]
          refine br_f rfl ?_
          refine w_next ?_
          repeat walk_at "dl"
          refine ev_mapT (ds := ds) ?_ (by omega) (fun d => .bool (okS d)) (fun i d m' hd hx => ?_) ?_
          · repeat walk_at "dl"
            exact ⟨rfl, rfl⟩
          · repeat walk_at "dl"
            cases hi : isInt d with
            | false =>
              refine br_f rfl ⟨?_, rfl⟩
              cases d <;> first | rfl | cases hi
            | true =>
              obtain ⟨i, rfl⟩ := int_shape hi
              refine br_t rfl ?_
              repeat walk_at "dl"
              by_cases g1 : (1 : Int) ≤ i
              · refine br_t (decide_eq_true g1) ?_
                repeat walk_at "dl"
                refine ⟨?_, rfl⟩
                show Val.d (.bool (decide (i ≤ 9))) = .d (.bool (decide (1 ≤ i) && decide (i ≤ 9)))
                rw [decide_eq_true g1, Bool.true_and]
              · refine br_f (decide_eq_false g1) ⟨?_, rfl⟩
                show Val.d (.bool false) = .d (.bool (decide (1 ≤ i) && decide (i ≤ 9)))
                rw [decide_eq_false g1, Bool.false_and]
          · repeat walk_at "dl"
            have e : (ds.map fun d => PyData.bool (okS d)) = (ds.map okS).map PyData.bool := by rw [List.map_map]; rfl
            rw [e]
            repeat walk_at "dl"
            have e : (ds.map okS).all id = isShares (.tuple ds) := by
              show _ = (decide (1 ≤ ds.length) && (decide (ds.length ≤ 5) && ds.all okS))
              rw [decide_eq_true (show 1 ≤ ds.length by omega), decide_eq_true (show ds.length ≤ 5 by omega), List.all_map]; rfl
            rw [e]
            exact q
        · rw [decide_eq_false h5]
          refine br_t rfl ?_
          repeat walk_at "dl"
          have e : isShares (.tuple ds) = false := by
            show (decide (1 ≤ ds.length) && (decide (ds.length ≤ 5) && ds.all okS)) = false
            rw [decide_eq_false (show ¬ ds.length ≤ 5 by omega), Bool.false_and, Bool.and_false]
          rw [e] at q
          exact q
      · refine br_f (decide_eq_false h1) ⟨_, rfl, br_t rfl ?_⟩
        repeat walk_at "dl"
        have e : isShares (.tuple ds) = false := by
          show (decide (1 ≤ ds.length) && (decide (ds.length ≤ 5) && ds.all okS)) = false
          rw [decide_eq_false (show ¬ 1 ≤ ds.length by omega), Bool.false_and]
        rw [e] at q
        exact q
abbrev s_are_kinds : Stmt := topS 17
theorem sc_are_kinds : FnScope ["thing", "many", "at", "one"] ["thing", "many"] (defScope s_are_kinds) := ⟨rfl, rfl, rfl, by decide +kernel, rfl, by decide +kernel, by decide +kernel⟩
theorem ok_are_kinds {a : Addr} {fd : FuncData} (F : Fun K "are_kinds" "are_kinds" s_are_kinds a fd) (hm : mg "are_kinds" = some (.ref a)) (z_all : mg "all" = none) (z_isinstance : mg "isinstance" = none) (z_tuple : mg "tuple" = none) (z_range : mg "range" = none) (z_len : mg "len" = none) (k_is_whole : Cl P w K mg base 1 "is_whole" f_isWhole) :
    Cl P w K mg base 2 "are_kinds" f_areKinds := by
  refine ⟨a, fd, ["thing", "many"], fn_ok F sc_are_kinds (fun args m R h => ?_) (fun cdv A outer s H E hr => ⟨_, (pss_cons (ps_if (PW.pt (pw_or (pt_not (pt_val (pe_callB (kIsi K) (by rfl) z_isinstance (by decide +kernel) (pa_cons (pv 0) (pa_cons (pe_bltn (v := .ty "tuple") (by rfl) z_tuple (by decide +kernel) rfl) pa_nil))))) (pw_or1 (pt_not (pt_val (pe_callB (kAll K) (by rfl) z_all (by decide +kernel) (pa_cons (pe_lc (own := [("one", 3)]) rfl sc_are_kinds.nd (kiT K (pv 0)) (blkOk_by (own := [("one", 3)]) (N := ["thing", "many", "at", "one"]) (sc := defScope s_are_kinds) (by decide +kernel)) (fun _ _ _ _ _ => (pg_name (i := 3) sc_are_kinds.nd rfl (by first | exact Or.inl rfl | exact Or.inr rfl))) (fun _ _ _ _ _ => pts_nil) (fun _ _ _ _ _ => (pe_and (pe_cl k_is_whole hr (by decide) (by rfl) (pa_cons (pv 3) pa_nil)) (pe_one (pe_chain oLe oLt pe_int (pv 3) (pv 1)))))) pa_nil))))))) (pss_one (ps_ret pe_bl)) pss_nil)
      (pss_one (ps_ret (pe_callB (kAll K) (by rfl) z_all (by decide +kernel) (pa_cons (pe_lc (own := [("at", 2)]) rfl sc_are_kinds.nd (pi_range2 (by rfl) z_range (pa_cons pe_int (pa_cons (pe_callB (kLen K) (by rfl) z_len (by decide +kernel) (pa_cons (pv 0) pa_nil)) pa_nil))) (blkOk_by (own := [("at", 2)]) (N := ["thing", "many", "at", "one"]) (sc := defScope s_are_kinds) (by decide +kernel)) (fun _ _ _ _ _ => (pg_name (i := 2) sc_are_kinds.nd rfl (by first | exact Or.inl rfl | exact Or.inr rfl))) (fun _ _ _ _ _ => pts_nil) (fun _ _ _ _ _ => (pe_cmpR oLt (pe_ix (kIx K) (pv 0) (pe_op oSub (pv 2) pe_int) (fun _ _ => rfl)) (pe_ix (kIx K) (pv 0) (pv 2) (fun _ _ => rfl)) (nomark _)))) pa_nil))))), fun args m R h => ?_⟩), hm, F.kp, F.binds (ps := ["thing", "many"]) fun _ _ _ _ _ _ us hl => match us, hl with | [_, _], _ => rfl⟩
  ·
    obtain ⟨_, _, rfl, _⟩ := h; rfl
  ·
    obtain ⟨x, n, rfl, hz, q⟩ := h
    repeat walk_at "dl"
    cases hx : isTup x with
    | false =>
      refine br_t rfl (br_t rfl ?_)
      repeat walk_at "dl"
      have e : areKinds x n = false := by cases x <;> first | rfl | cases hx
      rw [e] at q
      exact q
    | true =>
      obtain ⟨ds, rfl⟩ := tup_shape hx
      have hz : ds.length ≤ 90000 := hz
      refine br_f rfl ?_
      repeat walk_at "dl"
      refine ev_mapT (ds := ds) ?_ (by omega) (fun d => .bool (okK n d)) (fun i d m' hd hx => ?_) ?_
      · repeat walk_at "dl"
        exact ⟨rfl, rfl⟩
      · repeat walk_at "dl"
        cases hi : isInt d with
        | false =>
          refine br_f rfl ⟨?_, rfl⟩
          cases d <;> first | rfl | cases hi
        | true =>
          obtain ⟨i, rfl⟩ := int_shape hi
          refine br_t rfl ?_
          repeat walk_at "dl"
          by_cases g1 : (0 : Int) ≤ i
          · refine br_t (decide_eq_true g1) ?_
            repeat walk_at "dl"
            refine ⟨?_, rfl⟩
            show Val.d (.bool (decide (i < n))) = .d (.bool (decide (0 ≤ i) && decide (i < n)))
            rw [decide_eq_true g1, Bool.true_and]
          · refine br_f (decide_eq_false g1) ⟨?_, rfl⟩
            show Val.d (.bool false) = .d (.bool (decide (0 ≤ i) && decide (i < n)))
            rw [decide_eq_false g1, Bool.false_and]
      · repeat walk_at "dl"
        have e : (ds.map fun d => PyData.bool (okK n d)) = (ds.map (okK n)).map PyData.bool := by rw [List.map_map]; rfl
        rw [e]
        repeat walk_at "dl"
        have e : (ds.map (okK n)).all id = ds.all (okK n) := by rw [List.all_map]; rfl
        rw [e]
        cases hk : ds.all (okK n) with
        | false =>
          refine br_t rfl ?_
          repeat walk_at "dl"
          have e : areKinds (.tuple ds) n = false := by
            show (ds.all (okK n) && rising ds) = false
            rw [hk]; rfl
          rw [e] at q
          exact q
        | true =>
          refine br_f rfl ?_
          refine w_next ?_
          have hI : ∀ k, k < ds.length → ds[k]? = some (.int (intOf (ds.getD k .none))) := by
            intro k hk1
            have h2 := List.all_eq_true.mp hk ds[k] (List.getElem_mem hk1)
            rw [List.getD_eq_getElem?_getD, List.getElem?_eq_getElem hk1]
            cases hq : ds[k] with
            | int i => rfl
            | _ => rw [hq] at h2; cases h2
          have fin : Ev K (tCB (rAll K) (tCons (tLc (iRng2 (tCons (tC (.int 1)) (tCons (tCB (DL.rLen K) (tCons (tVar 0) tNil)) tNil))) (gName 2) tYes (tOp rLt (tOp (rIx K) (tVar 0) (tOp DL.rSub (tVar 2) (tC (.int 1)))) (tOp (rIx K) (tVar 0) (tVar 2))) [2]) tNil)) [.d (.tuple ds), .d (.int n), .any, .any] m R := by
            repeat walk_at "dl"
            by_cases h0 : ds = []
            · subst h0
              refine ev_lcR2' ?_ ?_
              · repeat walk_at "dl"
                exact ⟨rfl, rfl⟩
              · repeat walk_at "dl"
                refine on_all (bs := []) ?_
                have e : areKinds (.tuple []) n = true := rfl
                rw [e] at q
                exact q
            have h1 : 1 ≤ ds.length := by
              cases ds with
              | nil => exact absurd rfl h0
              | cons a b => simp
            refine ev_mapR2 (lo := 1) (n := ds.length - 1) ?_ (by omega) (fun i => .bool (decide (intOf (ds.getD i .none) < intOf (ds.getD (i + 1) .none)))) (fun i m' hi hx => ?_) ?_
            · repeat walk_at "dl"
              refine ⟨?_, rfl⟩
              rw [show 1 + (ds.length - 1) = ds.length by omega]
              rfl
            · repeat walk_at "dl"
              rw [show ((1 + i : Nat) : Int) - 1 = (i : Int) by omega]
              refine o2_ixT (by rw [atI_nth]; exact hI i (by omega)) ?_
              repeat walk_at "dl"
              refine o2_ixT (by rw [atI_nth]; exact hI (1 + i) (by omega)) ?_
              repeat walk_at "dl"
              refine ⟨?_, rfl⟩
              rw [Nat.add_comm 1 i]
            · repeat walk_at "dl"
              have e : ((List.range (ds.length - 1)).map fun i => PyData.bool (decide (intOf (ds.getD i .none) < intOf (ds.getD (i + 1) .none)))) = ((List.range (ds.length - 1)).map fun i => decide (intOf (ds.getD i .none) < intOf (ds.getD (i + 1) .none))).map PyData.bool := by rw [List.map_map]; rfl
              rw [e]
              repeat walk_at "dl"
              have e : areKinds (.tuple ds) n = (((List.range (ds.length - 1)).map fun i => decide (intOf (ds.getD i .none) < intOf (ds.getD (i + 1) .none))).all id) := by
                show (ds.all (okK n) && rising ds) = _
                rw [hk, List.all_map]; rfl
              rw [← e]
              exact q
          exact w_ret fin
abbrev s__law_box : Stmt := topS 29
theorem sc__law_box : FnScope ["_law_script", "_law_k", "_law_cell_here", "_law_number", "_law_j"] ["_law_script", "_law_k"] (defScope s__law_box) := ⟨rfl, rfl, rfl, by decide +kernel, rfl, by decide +kernel, by decide +kernel⟩
theorem ok__law_box {a : Addr} {fd : FuncData} (F : Fun K "_law_box" "_law_box" s__law_box a fd) (hm : mg "_law_box" = some (.ref a)) (z_abs : mg "abs" = none) (z_range : mg "range" = none) (k__law_cell : Cl P w K mg base 1 "_law_cell" f_cell) (k__law_mix : Cl P w K mg base 1 "_law_mix" f_mix) :
    Cl P w K mg base 2 "_law_box" f_box := by
  refine ⟨a, fd, ["_law_script", "_law_k"], fn_ok F sc__law_box (fun args m R h => ?_) (fun cdv A outer s H E hr => ⟨_, (pss_cons (ps_set (i := 2) sc__law_box.nd rfl (by first | exact Or.inl rfl | exact Or.inr rfl) (pe_cl k__law_cell hr (by decide) (by rfl) (pa_cons (pv 0) (pa_cons (pv 1) pa_nil))))
      (pss_cons (ps_if (pt_cmpR (kEq K hr) (pe_op oMod (pv 2) pe_int) pe_int (nomark _)) (pss_one (ps_ret (pe_lst (pa_cons (pe_op oFdv (pe_callB cAbs (by rfl) z_abs (by decide +kernel) (pa_cons (pv 2) pa_nil)) pe_int) pa_nil)))) pss_nil)
      (pss_cons (ps_set (i := 3) sc__law_box.nd rfl (by first | exact Or.inl rfl | exact Or.inr rfl) pe_int)
      (pss_cons (ps_for PassesOwn.never rfl (pi_range1 (by rfl) z_range (pa_cons pe_int pa_nil)) (pg_name (i := 4) sc__law_box.nd rfl (by first | exact Or.inl rfl | exact Or.inr rfl)) (pss_one (ps_set (i := 3) sc__law_box.nd rfl (by first | exact Or.inl rfl | exact Or.inr rfl) (pe_op (kAdd K) (pe_op (kMul K) (pv 3) pe_int) (pe_cl k__law_mix hr (by decide) (by rfl) (pa_cons (pv 2) (pa_cons (pv 4) pa_nil)))))))
      (pss_one (ps_ret (pe_lst (pa_cons (pv 3) pa_nil)))))))), fun args m R h => ?_⟩), hm, F.kp, F.binds (ps := ["_law_script", "_law_k"]) fun _ _ _ _ _ _ us hl => match us, hl with | [_, _], _ => rfl⟩
  ·
    obtain ⟨_, _, rfl, _⟩ := h; rfl
  ·
    obtain ⟨ns, k, rfl, q⟩ := h
    repeat walk_at "dl"
    intro z
    repeat walk_at "dl"
    refine o2_mod (by decide) ?_
    repeat walk_at "dl"
    by_cases hz : z % 2 = 0
    · refine br_t (decide_eq_true hz) (w_ret (ev_lstB ?_))
      repeat walk_at "dl"
      refine o2_fdv (cdiv_small (by decide) (by decide)) ?_
      repeat walk_at "dl"
      exact q
    · refine br_f (decide_eq_false hz) (w_next ?_)
      repeat walk_at "dl"
      refine w_forR1 (n := 40) ?_ (by decide) (fun i r' m' => m' = m ∧ ∃ (n : Int) (y : Val), r' = [.scr ns, .d (.int (k : Int)), .d (.int z), .d (.int n), y] ∧ 0 ≤ n ∧ Bt n (32 * i + 1)) ⟨rfl, 0, .any, rfl, by decide, bt_lit (n := 1) (by decide) (by omega)⟩ ?_ ?_
      · repeat walk_at "dl"
        exact ⟨rfl, rfl⟩
      · rintro i r' m' hi ⟨rfl, n, y, rfl, hn, hb⟩
        repeat walk_at "dl"
        refine o2_mulI (hb.cmul (b := 31) (bt_lit (n := 31) (by decide) (by decide)) (by omega)) ?_
        repeat walk_at "dl"
        refine ⟨by omega, fun w hw hw1 => ?_⟩
        repeat walk_at "dl"
        refine ⟨rfl, n * 142857143 + w, _, rfl, by omega, ?_⟩
        have h1 : Bt (n * 142857143) (32 * i + 1 + 28) := hb.mul (bt_lit (n := 28) (by decide) (Nat.le_refl _))
        exact (h1.add (bt_lit (i := w) (n := 30) (a := 32 * i + 30) (by
          have e : (2 : Nat) ^ 30 = 1073741824 := by decide
          rw [e]; omega) (by omega)) (c := 32 * i + 30) (by omega) (Nat.le_refl _)).mono (by omega)
      · rintro r' m' ⟨rfl, n, y, rfl, hn, hb⟩
        refine w_ret (ev_lstB ?_)
        repeat walk_at "dl"
        exact q
abbrev s__law_drawn_shares : Stmt := topS 32
theorem sc__law_drawn_shares : FnScope ["_law_box_here", "_law_most", "_law_top", "_law_many", "_law_kind", "_law_place"] ["_law_box_here", "_law_most", "_law_top"] (defScope s__law_drawn_shares) := ⟨rfl, rfl, rfl, by decide +kernel, rfl, by decide +kernel, by decide +kernel⟩
theorem ok__law_drawn_shares {a : Addr} {fd : FuncData} (F : Fun K "_law_drawn_shares" "_law_drawn_shares" s__law_drawn_shares a fd) (hm : mg "_law_drawn_shares" = some (.ref a)) (z_tuple : mg "tuple" = none) (z_range : mg "range" = none) (k__law_take : Cl P w K mg base 1 "_law_take" f_take) :
    Cl P w K mg base 2 "_law_drawn_shares" f_drawnShares := by
  refine ⟨a, fd, ["_law_box_here", "_law_most", "_law_top"], fn_ok F sc__law_drawn_shares (fun args m R h => ?_) (fun cdv A outer s H E hr => ⟨_, (pss_cons (ps_set (i := 3) sc__law_drawn_shares.nd rfl (by first | exact Or.inl rfl | exact Or.inr rfl) (pe_op (kAdd K) pe_int (pe_cl k__law_take hr (by decide) (by rfl) (pa_cons (pv 0) (pa_cons (pv 1) pa_nil)))))
      (pss_cons (ps_set (i := 4) sc__law_drawn_shares.nd rfl (by first | exact Or.inl rfl | exact Or.inr rfl) (pe_cl k__law_take hr (by decide) (by rfl) (pa_cons (pv 0) (pa_cons pe_int pa_nil))))
      (pss_cons (ps_if (pt_cmpR (kEq K hr) (pv 4) pe_int (nomark _)) (pss_one (ps_ret (pe_op (kMul K) (pe_tup (pa_cons (pe_op (kAdd K) pe_int (pe_cl k__law_take hr (by decide) (by rfl) (pa_cons (pv 0) (pa_cons (pv 2) pa_nil)))) pa_nil)) (pv 3)))) pss_nil)
      (pss_one (ps_ret (pe_callTy (kTup K) (by rfl) z_tuple (by decide +kernel) (pa_cons (pe_lc (own := [("_law_place", 5)]) rfl sc__law_drawn_shares.nd (pi_range1 (by rfl) z_range (pa_cons (pv 3) pa_nil)) (blkOk_by (own := [("_law_place", 5)]) (N := ["_law_box_here", "_law_most", "_law_top", "_law_many", "_law_kind", "_law_place"]) (sc := defScope s__law_drawn_shares) (by decide +kernel)) (fun _ _ _ _ _ => (pg_name (i := 5) sc__law_drawn_shares.nd rfl (by first | exact Or.inl rfl | exact Or.inr rfl))) (fun _ _ _ _ _ => pts_nil) (fun _ _ _ _ _ => (pe_op (kAdd K) pe_int (pe_cl k__law_take hr (by decide) (by rfl) (pa_cons (pv 0) (pa_cons (pe_ix (kIx K) (pe_lst (pa_cons (pv 2) (pa_cons pe_int (pa_cons (pv 2) pa_nil)))) (pe_op oSub (pv 4) pe_int) (fun _ _ => rfl)) pa_nil)))))) pa_nil))))))), fun args m R h => ?_⟩), hm, F.kp, F.binds (ps := ["_law_box_here", "_law_most", "_law_top"]) fun _ _ _ _ _ _ us hl => match us, hl with | [_, _, _], _ => rfl⟩
  ·
    obtain ⟨_, _, _, rfl, _⟩ := h; rfl
  ·
    obtain ⟨p, a, b, rfl, hp, ha1, ha5, hb2, hb9, q⟩ := h
    repeat walk_at "dl"
    refine ⟨hp, by omega, bt_lit (n := 3) (by show _ < 8; omega) (by decide), fun n0 hn0 hn1 => ?_⟩
    obtain ⟨n, rfl⟩ : ∃ n : Nat, n0 = (n : Int) := ⟨n0.toNat, by omega⟩
    repeat walk_at "dl"
    refine ⟨hp, by decide, bt_lit (n := 3) (by decide) (by decide), fun kd hk0 hk1 => ?_⟩
    repeat walk_at "dl"
    have en : (1 : Int) + (n : Int) = ((n + 1 : Nat) : Int) := by omega
    by_cases hz : kd = 0
    · refine br_t (decide_eq_true hz) ?_
      repeat walk_at "dl"
      refine ⟨hp, by omega, bt_lit (n := 4) (by show _ < 16; omega) (by decide), fun s hs0 hs1 => ?_⟩
      repeat walk_at "dl"
      rw [en]
      refine o2_mulT (by simp) (by omega) (by omega) (Nat.le_of_ble_eq_true rfl) ?_
      have e : (PyData.tuple (List.replicate (n + 1) [PyData.int (1 + s)]).flatten) = tupI (List.replicate (n + 1) (1 + s)) := by
        unfold tupI
        congr 1
        rw [List.map_replicate]
        induction (n + 1) with
        | zero => rfl
        | succ k ih => rw [List.replicate_succ, List.replicate_succ, List.flatten_cons, ih]; rfl
      rw [e]
      refine q _ ⟨by rw [List.length_replicate]; omega, by rw [List.length_replicate]; omega, fun x hx => ?_⟩ (by rw [List.length_replicate]; omega)
      rw [List.eq_of_mem_replicate hx]
      omega
    · refine br_f (decide_eq_false hz) (w_next ?_)
      repeat walk_at "dl"
      refine ev_anyR1 (n := n + 1) ?_ (by omega) (fun _ y => ∃ s : Int, y = .int s ∧ 1 ≤ s ∧ s ≤ 9) (fun i m' hi hx => ?_) fun ds hl hds => ?_
      · repeat walk_at "dl"
        exact ⟨by rw [en], rfl⟩
      · have hv : ∃ v : Int, atI ([PyData.int b, .int 2, .int b] : List PyData) (kd - 1) = some (.int v) ∧ 2 ≤ v ∧ v ≤ 9 := by
          have h3 : kd = 1 ∨ kd = 2 ∨ kd = 3 := by omega
          rcases h3 with rfl | rfl | rfl
          · exact ⟨b, rfl, hb2, hb9⟩
          · exact ⟨2, rfl, by decide, by decide⟩
          · exact ⟨b, rfl, hb2, hb9⟩
        obtain ⟨v, hv1, hv2, hv3⟩ := hv
        iterate 6 walk_at "dl"
        refine ev_op (ev_lstD ?_)
        repeat walk_at "dl"
        refine o2_ixL hv1 ?_
        repeat walk_at "dl"
        refine ⟨hx p _ hp, by omega, bt_lit (n := 4) (by show _ < 16; omega) (by decide), fun s hs0 hs1 => ?_⟩
        repeat walk_at "dl"
        exact ⟨⟨_, rfl, 1 + s, rfl, by omega, by omega⟩, rfl⟩
      · repeat walk_at "dl"
        obtain ⟨ss, hss, hl2⟩ : ∃ ss : List Int, ds = ss.map PyData.int ∧ ∀ s ∈ ss, 1 ≤ s ∧ s ≤ 9 := by
          refine ⟨ds.map intOf, ?_, fun s hs => ?_⟩
          · rw [List.map_map]
            refine (List.map_id ds).symm.trans (List.map_congr_left fun d hd => ?_)
            obtain ⟨i, hi⟩ := List.getElem?_of_mem hd
            obtain ⟨s, rfl, _⟩ := hds i d hi
            rfl
          · obtain ⟨d, hd, rfl⟩ := List.mem_map.mp hs
            obtain ⟨i, hi⟩ := List.getElem?_of_mem hd
            obtain ⟨s, rfl, h1⟩ := hds i d hi
            exact h1
        subst hss
        rw [List.length_map] at hl
        exact q ss ⟨by omega, by omega, hl2⟩ (by omega)
abbrev s__law_made : Stmt := topS 34
theorem sc__law_made : FnScope ["_law_top", "_law_bottom", "_law_both"] ["_law_top", "_law_bottom"] (defScope s__law_made) := ⟨rfl, rfl, rfl, by decide +kernel, rfl, by decide +kernel, by decide +kernel⟩
theorem ok__law_made {a : Addr} {fd : FuncData} (F : Fun K "_law_made" "_law_made" s__law_made a fd) (hm : mg "_law_made" = some (.ref a)) (z_abs : mg "abs" = none) (k__law_common : Cl P w K mg base 1 "_law_common" f_gcd) :
    Cl P w K mg base 2 "_law_made" f_made := by
  refine ⟨a, fd, ["_law_top", "_law_bottom"], fn_ok F sc__law_made (fun args m R h => ?_) (fun cdv A outer s H E hr => ⟨_, (pss_cons (ps_set (i := 2) sc__law_made.nd rfl (by first | exact Or.inl rfl | exact Or.inr rfl) (pe_cl k__law_common hr (by decide) (by rfl) (pa_cons (pv 1) (pa_cons (pe_callB cAbs (by rfl) z_abs (by decide +kernel) (pa_cons (pv 0) pa_nil)) pa_nil))))
      (pss_one (ps_ret (pe_tup (pa_cons (pe_op oFdv (pv 0) (pv 2)) (pa_cons (pe_op oFdv (pv 1) (pv 2)) pa_nil)))))), fun args m R h => ?_⟩), hm, F.kp, F.binds (ps := ["_law_top", "_law_bottom"]) fun _ _ _ _ _ _ us hl => match us, hl with | [_, _], _ => rfl⟩
  ·
    obtain ⟨_, _, rfl, _⟩ := h; rfl
  ·
    obtain ⟨t, b, rfl, hb, hz, q⟩ := h
    have hp : 0 < Nat.gcd b t.natAbs := Nat.gcd_pos_of_pos_left _ hb
    have hB : Bt ((Nat.gcd b t.natAbs : Nat) : Int) 8000 := hz.le (by
      have := Nat.le_of_dvd hb (Nat.gcd_dvd_left b t.natAbs)
      omega)
    repeat walk_at "dl"
    refine o2_fdv (hB.cdiv (by omega) (by decide)) ?_
    repeat walk_at "dl"
    refine o2_fdv (hB.cdiv (by omega) (by decide)) ?_
    repeat walk_at "dl"
    rw [frac_mk t b (by omega)] at q
    exact q
abbrev s__law_odd : Stmt := topS 36
theorem sc__law_odd : FnScope ["_law_box_here", "_law_some"] ["_law_box_here"] (defScope s__law_odd) := ⟨rfl, rfl, rfl, by decide +kernel, rfl, by decide +kernel, by decide +kernel⟩
theorem ok__law_odd {a : Addr} {fd : FuncData} (F : Fun K "_law_odd" "_law_odd" s__law_odd a fd) (hm : mg "_law_odd" = some (.ref a)) (k__law_take : Cl P w K mg base 1 "_law_take" f_take) :
    Cl P w K mg base 2 "_law_odd" f_odd := by
  refine ⟨a, fd, ["_law_box_here"], fn_ok F sc__law_odd (fun args m R h => ?_) (fun cdv A outer s H E hr => ⟨_, (pss_cons (ps_set (i := 1) sc__law_odd.nd rfl (by first | exact Or.inl rfl | exact Or.inr rfl) (pe_lst (pa_cons pe_non (pa_cons pe_bl (pa_cons pe_bl (pa_cons (pe_un oNeg pe_int) (pa_cons pe_int (pa_cons pe_int (pa_cons pe_str (pa_cons pe_str (pa_cons (pe_tup pa_nil) (pa_cons (pe_lst pa_nil) (pa_cons (pe_tup (pa_cons pe_int pa_nil)) (pa_cons (pe_lst (pa_cons pe_int pa_nil)) (pa_cons (pe_tup (pa_cons pe_int (pa_cons pe_int pa_nil))) (pa_cons (pe_disp (pps_cons pe_str pe_int pps_nil) rfl rfl (fun h => nomatch h) (by decide)) (pa_cons pe_dnewT (pa_cons (pe_op oPow pe_int pe_int) (pa_cons (pe_tup (pa_cons pe_int (pa_cons pe_int pa_nil))) (pa_cons (pe_tup (pa_cons pe_int (pa_cons pe_int pa_nil))) pa_nil))))))))))))))))))))
      (pss_one (ps_ret (pe_ix (kIx K) (pe_op (kAdd K) (pv 1) (pe_lst (pa_cons (pe_tup (pa_cons (pe_tup (pa_cons pe_int (pa_cons pe_int pa_nil))) pa_nil)) (pa_cons (pe_tup (pa_cons pe_int (pa_cons pe_int pa_nil))) (pa_cons (pe_tup (pa_cons pe_int (pa_cons (pe_un oNeg pe_int) pa_nil))) (pa_cons (pe_tup (pa_cons pe_bl (pa_cons pe_int pa_nil))) (pa_cons (pe_tup (pa_cons pe_int (pa_cons pe_int (pa_cons pe_int pa_nil)))) (pa_cons (pe_tup (pa_cons (pe_lst (pa_cons pe_int pa_nil)) pa_nil)) pa_nil)))))))) (pe_cl k__law_take hr (by decide) (by rfl) (pa_cons (pv 0) (pa_cons pe_int pa_nil))) (fun _ _ => rfl))))), fun args m R h => ?_⟩), hm, F.kp, F.binds (ps := ["_law_box_here"]) fun _ _ _ _ _ _ us hl => match us, hl with | [_], _ => rfl⟩
  ·
    obtain ⟨_, rfl, _⟩ := h; rfl
  ·
    obtain ⟨p, rfl, hp, q⟩ := h
    refine w_seq (w_asg (ev_lstD ?_))
    walk_at "go"
    refine ev_lstD (eva_nil ⟨[], rfl, by decide, ?_⟩)
    walk_at "go"
    refine ev_lstD (eva_cons (ev_cI (eva_nil ⟨[_], rfl, by decide, ?_⟩)))
    walk_at "go"
    refine ev_dispS ?_
    walk_at "go"
    refine ev_dnewD ?_
    walk_at "go"
    refine o2_pow ⟨by decide, by decide, by decide⟩ ?_
    walk_at "go"
    refine ⟨oddA, rfl, by decide, ?_⟩
    refine w_ret (ev_op (ev_op (ev_var rfl (fun h => nomatch h) (ev_lstD ?_))))
    walk_at "go"
    refine ev_lstD (eva_cons (ev_cI (eva_nil ⟨[_], rfl, by decide, ?_⟩)))
    walk_at "go"
    refine ⟨oddB, rfl, by decide, ?_⟩
    refine o2_addL (by decide) ?_
    walk_at "go"
    refine ⟨hp, by decide, bt_lit (n := 5) (by decide) (by decide), fun z hz0 hz1 => ?_⟩
    obtain ⟨k, rfl⟩ : ∃ k : Nat, z = (k : Int) := ⟨z.toNat, by omega⟩
    have hk : k < oddL.length := by show k < 24; omega
    refine o2_ixL (d := oddL[k]) (by rw [atI_nth]; exact List.getElem?_eq_getElem hk) ?_
    exact q _ (List.getElem_mem hk)
abbrev s__law_is_fraction : Stmt := topS 37
theorem sc__law_is_fraction : FnScope ["_law_thing"] ["_law_thing"] (defScope s__law_is_fraction) := ⟨rfl, rfl, rfl, by decide +kernel, rfl, by decide +kernel, by decide +kernel⟩
theorem ok__law_is_fraction {a : Addr} {fd : FuncData} (F : Fun K "_law_is_fraction" "_law_is_fraction" s__law_is_fraction a fd) (hm : mg "_law_is_fraction" = some (.ref a)) (z_len : mg "len" = none) (z_isinstance : mg "isinstance" = none) (z_tuple : mg "tuple" = none) (z_abs : mg "abs" = none) (k__law_whole : Cl P w K mg base 1 "_law_whole" f_isWhole) (k__law_common : Cl P w K mg base 1 "_law_common" f_gcd) :
    Cl P w K mg base 2 "_law_is_fraction" f_isFrac := by
  refine ⟨a, fd, ["_law_thing"], fn_ok F sc__law_is_fraction (fun args m R h => ?_) (fun cdv A outer s H E hr => ⟨_, (pss_cons (ps_if (PW.pt (pw_or (pt_not (pt_val (pe_callB (kIsi K) (by rfl) z_isinstance (by decide +kernel) (pa_cons (pv 0) (pa_cons (pe_bltn (v := .ty "tuple") (by rfl) z_tuple (by decide +kernel) rfl) pa_nil))))) (pw_or (pt_cmpR (kNe K hr) (pe_callB (kLen K) (by rfl) z_len (by decide +kernel) (pa_cons (pv 0) pa_nil)) pe_int (nomark _)) (pw_or (pt_not (pt_val (pe_cl k__law_whole hr (by decide) (by rfl) (pa_cons (pe_ix (kIx K) (pv 0) pe_int (fun _ _ => rfl)) pa_nil)))) (pw_or1 (pt_not (pt_val (pe_cl k__law_whole hr (by decide) (by rfl) (pa_cons (pe_ix (kIx K) (pv 0) pe_int (fun _ _ => rfl)) pa_nil))))))))) (pss_one (ps_ret pe_bl)) pss_nil)
      (pss_one (ps_ret (pe_and (pe_cmpR oGt (pe_ix (kIx K) (pv 0) pe_int (fun _ _ => rfl)) pe_int (nomark _)) (pe_one (pe_cmpR (kEq K hr) (pe_cl k__law_common hr (by decide) (by rfl) (pa_cons (pe_ix (kIx K) (pv 0) pe_int (fun _ _ => rfl)) (pa_cons (pe_callB cAbs (by rfl) z_abs (by decide +kernel) (pa_cons (pe_ix (kIx K) (pv 0) pe_int (fun _ _ => rfl)) pa_nil)) pa_nil))) pe_int (nomark _))))))), fun args m R h => ?_⟩), hm, F.kp, F.binds (ps := ["_law_thing"]) fun _ _ _ _ _ _ us hl => match us, hl with | [_], _ => rfl⟩
  ·
    obtain ⟨_, rfl, _⟩ := h; rfl
  ·
    obtain ⟨x, rfl, hz, q⟩ := h
    walk_at "go"
    cases hx : isTup x with
    | false =>
      refine br_t rfl (br_t rfl ?_)
      walk_at "go"
      have e : isFrac x = false := by cases x <;> first | rfl | cases hx
      rw [e] at q
      exact q
    | true =>
      obtain ⟨ds, rfl⟩ := tup_shape hx
      refine br_f rfl ?_
      walk_at "go"
      by_cases h2 : (ds.length : Int) = 2
      · refine br_f (by rw [decide_eq_true h2]; rfl) ?_
        obtain ⟨d0, d1, rfl⟩ : ∃ d0 d1, ds = [d0, d1] := by
          match ds, h2 with
          | [a, b], _ => exact ⟨a, b, rfl⟩
          | [], h => exact absurd h (by decide)
          | [_], h => exact absurd h (by simp)
          | _ :: _ :: _ :: _, h => simp at h; omega
        walk_at "go"
        refine o2_ixT (d := d0) rfl ?_
        walk_at "go"
        cases h0 : isInt d0 with
        | false =>
          refine br_t rfl (br_t rfl ?_)
          walk_at "go"
          have e : isFrac (.tuple [d0, d1]) = false := by cases d0 <;> first | rfl | cases h0
          rw [e] at q
          exact q
        | true =>
          obtain ⟨t, rfl⟩ := int_shape h0
          refine br_f rfl ?_
          walk_at "go"
          refine o2_ixT (d := d1) rfl ?_
          walk_at "go"
          cases h1 : isInt d1 with
          | false =>
            refine br_t rfl ?_
            walk_at "go"
            have e : isFrac (.tuple [.int t, d1]) = false := by cases d1 <;> first | rfl | cases h1
            rw [e] at q
            exact q
          | true =>
            obtain ⟨b, rfl⟩ := int_shape h1
            have hz : Bt b 8000 := hz
            refine br_f rfl (w_next ?_)
            walk_at "go"
            refine o2_ixT (d := .int b) rfl ?_
            walk_at "go"
            by_cases hb : (0 : Int) < b
            · refine br_t (decide_eq_true hb) ?_
              obtain ⟨n, rfl⟩ : ∃ n : Nat, b = (n : Int) := ⟨b.toNat, by omega⟩
              walk_at "go"
              refine o2_ixT (d := .int (n : Int)) rfl ?_
              walk_at "go"
              refine o2_ixT (d := .int t) rfl ?_
              walk_at "go"
              have e : isFrac (.tuple [.int t, .int (n : Int)]) = decide (((Nat.gcd n t.natAbs : Nat) : Int) = 1) := by
                show (decide (1 ≤ (n : Int)) && decide (Nat.gcd ((n : Int)).toNat t.natAbs = 1)) = _
                rw [decide_eq_true (show 1 ≤ (n : Int) by omega), Int.toNat_natCast, Bool.true_and]
                exact decide_eq_decide.mpr (by omega)
              rw [e] at q
              exact q
            · refine br_f (decide_eq_false hb) ?_
              have e : isFrac (.tuple [.int t, .int b]) = false := by
                show (decide (1 ≤ b) && decide (Nat.gcd b.toNat t.natAbs = 1)) = false
                rw [decide_eq_false (show ¬ 1 ≤ b by omega), Bool.false_and]
              rw [e] at q
              exact q
      · refine br_t (by rw [decide_eq_false h2]; rfl) (br_t rfl ?_)
        walk_at "go"
        have e : isFrac (.tuple ds) = false := by
          match ds, h2 with
          | [], _ => rfl
          | [_], _ => simp [isFrac]
          | [a, b], h => exact absurd rfl h
          | _ :: _ :: _ :: _, _ => simp [isFrac]
        rw [e] at q
        exact q
abbrev s__law_bent : Stmt := topS 44
theorem sc__law_bent : FnScope ["_law_box_here", "_law_paper_here", "_law_odd_here", "_law_keys", "_law_key", "_law_found", "_law_top", "_law_bottom", "_law_kind", "_law_news"] ["_law_box_here", "_law_paper_here", "_law_odd_here"] (defScope s__law_bent) := ⟨rfl, rfl, rfl, by decide +kernel, rfl, by decide +kernel, by decide +kernel⟩
theorem ok__law_bent {a : Addr} {fd : FuncData} (F : Fun K "_law_bent" "_law_bent" s__law_bent a fd) (hm : mg "_law_bent" = some (.ref a)) (z_sorted : mg "sorted" = none) (z_len : mg "len" = none) (z_dict : mg "dict" = none) (z_list : mg "list" = none) (k__law_take : Cl P w K mg base 1 "_law_take" f_take) :
    Cl P w K mg base 2 "_law_bent" f_bent17 := by
  refine ⟨a, fd, ["_law_box_here", "_law_paper_here", "_law_odd_here"], fn_ok F sc__law_bent (fun args m R h => ?_) (fun cdv A outer s H E hr => ⟨_, (pss_cons (ps_set (i := 3) sc__law_bent.nd rfl (by first | exact Or.inl rfl | exact Or.inr rfl) (pe_callB (kSortDT hr) (by rfl) z_sorted (by decide +kernel) (pa_cons (pv 1) pa_nil)))
      (pss_cons (ps_set (i := 4) sc__law_bent.nd rfl (by first | exact Or.inl rfl | exact Or.inr rfl) (pe_ix (kIx K) (pv 3) (pe_cl k__law_take hr (by decide) (by rfl) (pa_cons (pv 0) (pa_cons (pe_callB (kLen K) (by rfl) z_len (by decide +kernel) (pa_cons (pv 3) pa_nil)) pa_nil))) (fun _ _ => rfl)))
      (pss_cons (ps_set (i := 5) sc__law_bent.nd rfl (by first | exact Or.inl rfl | exact Or.inr rfl) (pe_callTy (kDictC hr) (by rfl) z_dict (by decide +kernel) (pa_cons (pv 1) pa_nil)))
      (pss_cons (ps_asg (pe_dget (hu_of hr) (pv 1) (pv 4) (fun _ _ => rfl)) (kgT K (pg_tup (n := 2) rfl (pgs_cons (pg_name (i := 6) sc__law_bent.nd rfl (by first | exact Or.inl rfl | exact Or.inr rfl)) (pgs_cons (pg_name (i := 7) sc__law_bent.nd rfl (by first | exact Or.inl rfl | exact Or.inr rfl)) pgs_nil)))))
      (pss_cons (ps_set (i := 8) sc__law_bent.nd rfl (by first | exact Or.inl rfl | exact Or.inr rfl) (pe_cl k__law_take hr (by decide) (by rfl) (pa_cons (pv 0) (pa_cons pe_int pa_nil))))
      (pss_cons (ps_if (pt_cmpR oLt (pv 8) pe_int (nomark _)) (pss_cons (ps_set (i := 9) sc__law_bent.nd rfl (by first | exact Or.inl rfl | exact Or.inr rfl) (pe_lst (pa_cons (pe_tup (pa_cons (pe_op (kAdd K) (pv 6) pe_int) (pa_cons (pv 7) pa_nil))) (pa_cons (pe_tup (pa_cons (pe_op (kMul K) pe_int (pv 6)) (pa_cons (pe_op (kMul K) pe_int (pv 7)) pa_nil))) (pa_cons (pe_tup (pa_cons pe_int (pa_cons pe_int pa_nil))) (pa_cons (pv 2) (pa_cons (pe_tup (pa_cons (pe_un oNeg pe_int) (pa_cons pe_int pa_nil))) (pa_cons (pe_tup (pa_cons (pe_op (kAdd K) (pv 6) (pe_op (kMul K) pe_int (pv 7))) (pa_cons (pv 7) pa_nil))) (pa_cons (pv 6) pa_nil)))))))))
      (pss_one (ps_dput (hu_of hr) (pv 5) (pv 4) (pe_ix (kIx K) (pv 9) (pv 8) (fun _ _ => rfl)) rfl))) (pss_one (ps_if (pt_cmpR (kEq K hr) (pv 8) pe_int (nomark _)) (pss_one (ps_expr (kPop1T K (pe_bm PySem.F.plainAttrs_dict PySem.F.slot_dict_pop PySem.F.type_dict_pop (mt_pop1T (hu_of hr)) (pv 5) (pa_cons (pv 4) pa_nil))))) (pss_one (ps_if (pt_cmpR (kEq K hr) (pv 8) pe_int (nomark _)) (pss_one (ps_dput (hu_of hr) (pv 5) (pe_tup (pa_cons pe_int pa_nil)) (pe_tup (pa_cons pe_int (pa_cons pe_int pa_nil))) rfl)) (pss_one (ps_ret (pe_callTy kListDT (by rfl) z_list (by decide +kernel) (pa_cons (pv 5) pa_nil)))))))))
      (pss_one (ps_ret (pv 5))))))))), fun args m R h => ?_⟩), hm, F.kp, F.binds (ps := ["_law_box_here", "_law_paper_here", "_law_odd_here"]) fun _ _ _ _ _ _ us hl => match us, hl with | [_, _, _], _ => rfl⟩
  ·
    obtain ⟨_, _, _, _, _, rfl, _⟩ := h; rfl
  ·
    obtain ⟨ss, b, p, P, o, rfl, hb, hs, h4, hP0, hLB, hm, ho, q⟩ := h
    have h5 := hs.few
    have h1 := hs.pos
    obtain ⟨o1, o2, o3, o4⟩ := allS_drop ⟨ss.length, by omega⟩
    have o2 : allS ss.length = [] :: someL ss.length := o2
    have hal : (allS ss.length).length ≤ 32 := by rw [allS_len]; exact Nat.pow_le_pow_right (by decide) h5
    have hp0 : 0 < (allS ss.length).length := by rw [o2]; exact Nat.succ_pos _
    have hnd : (allS ss.length).Nodup := allS_nodup ⟨ss.length, by omega⟩
    have hmD : m p = some (.dT (dI (tabQ P (allS ss.length)))) := by rw [← tabT_dI]; exact hm
    have hkeys : (tabQ P (allS ss.length)).map (·.1) = (allS ss.length).map kn := by unfold tabQ; rw [List.map_map]; rfl
    have hhash : ((tabQ P (allS ss.length)).map fun e => hI e.1).Nodup := by
      unfold tabQ
      rw [List.map_map]
      exact hI_all ⟨ss.length, by omega⟩
    have hlq : (tabQ P (allS ss.length)).length ≤ 1000 := by unfold tabQ; rw [List.length_map]; omega
    refine w_seq (w_asg (ev_callB (eva_cons (ev_var rfl (fun h => nomatch h) (eva_nil (on_sortDT hmD hlq ⟨_, _, by unfold tabQ; rw [o2]; rfl⟩ fun nss hperm => ?_))))))
    rw [hkeys] at hperm
    have hpl := hperm.length_eq
    rw [List.length_map] at hpl
    walk_at "go"
    refine on_lenLt ?_
    walk_at "go"
    refine ⟨hb, by omega, bt_lit (n := 6) (by show _ < 64; omega) (by decide), fun z hz0 hz1 => ?_⟩
    obtain ⟨zi, rfl⟩ : ∃ k : Nat, z = (k : Int) := ⟨z.toNat, by omega⟩
    have hzi : zi < nss.length := by omega
    obtain ⟨s, hsL, hse⟩ := List.mem_map.mp (hperm.mem_iff.mp (List.getElem_mem hzi))
    refine o2_ixLt (ns := kn s) (by rw [List.getElem?_eq_getElem hzi, hse]) ?_
    have hsk := allS_kinds hsL
    have hsl := hsk.len
    refine w_seq (w_asg (ev_callB (eva_cons (ev_var rfl (fun h => nomatch h) (eva_nil (on_dictC hmD hhash fun e he => ?_))))))
    rw [← tabT_dI]
    have hpe : p ≠ e := ne_of_get hm he
    have hbe : b ≠ e := ne_of_get hb he
    have hb2 : ∀ o, put m e o b = some .box := fun o => by rw [put_ne hbe]; exact hb
    have hx : ∀ o, Ext m (put m e o) := fun o => put_less he
    have hel : (tabT P (allS ss.length)).length < 100000 := by rw [tab_len]; omega
    refine w_seq (w_asg2 (ev_dgetV (ns := kn s) rfl (ev_var rfl (fun h => nomatch h) ⟨p, _, _, rfl, Or.inl (by rw [put_ne hpe]; exact hm), getV_tab hsL, _, _, rfl, ?_⟩)))
    walk_at "go"
    refine ⟨hb2 _, by decide, bt_lit (n := 4) (by decide) (by decide), fun c hc0 hc1 => ?_⟩
    obtain ⟨ci, rfl⟩ : ∃ k : Nat, c = (k : Int) := ⟨c.toNat, by omega⟩
    have hgl := gB_le (n := s.length) (by omega)
    have hvl := vB_le (n := s.length) (by omega)
    have hf : FrB (P s) 520 := ((hLB s hsk).frB (e := 20) (by show _ < 1048576; omega)).mono (by omega)
    have b2 : Bt (2 : Int) 2 := bt_lit (n := 2) (by decide) (by decide)
    have b9 : Bt (9 : Int) 4 := bt_lit (n := 4) (by decide) (by decide)
    have hin : ∀ u ∈ allS ss.length, u ∈ allS ss.length := fun _ h => h
    walk_at "go"
    by_cases h7 : (ci : Int) < 7
    · refine br_t (decide_eq_true h7) ?_
      refine w_seq (w_asg (ev_lstD ?_))
      walk_at "go"
      refine o2_mulI (b2.cmul hf.1 (by decide)) ?_
      walk_at "go"
      refine o2_mulI (b2.cmul hf.2 (by decide)) ?_
      walk_at "go"
      refine o2_mulI (b9.cmul hf.2 (by decide)) ?_
      walk_at "go"
      refine ⟨bentX (P s) o, rfl, by show 7 ≤ 100000; decide, ?_⟩
      have hcl : ci < (bentX (P s) o).length := by show ci < 7; omega
      refine w_dputV (ns := kn s) rfl ?_
      walk_at "go"
      refine o2_ixL (by rw [atI_nth]; exact List.getElem?_eq_getElem hcl) ?_
      refine ev_var rfl (fun h => nomatch h) ⟨e, _, rfl, put_same, hel, ?_⟩
      obtain ⟨g1, g2⟩ := gd_bent hs h4 hLB hin hnd hsL ho (Or.inl (List.getElem_mem hcl))
      rw [put_put, tabX_T, putV_tabX hsL]
      walk_at "go"
      exact q _ _ _ (hx _) (at_tabX put_same hnd (by omega) fun u hu => ⟨g2 u hu, szKey h5 hin u hu⟩) g1
    refine br_f (decide_eq_false h7) (w_if ?_)
    walk_at "go"
    by_cases h8 : (ci : Int) = 7
    · refine br_t (decide_eq_true h8) ?_
      refine w_drop (ev_pop1T (ev_var rfl (fun h => nomatch h) ⟨e, rfl, ⟨_, put_same⟩, ev_var rfl (fun h => nomatch h) ⟨_, kn s, _, rfl, put_same, getV_tab hsL, ?_⟩⟩))
      have hfl : (tabT P (allS ss.length)).filter (fun e => !decide (e.1 = kI (kn s))) = tabT P ((allS ss.length).filter fun u => !decide (u = s)) := by
        unfold tabT
        rw [List.filter_map]
        refine congrArg _ (List.filter_congr fun u _ => ?_)
        show (!decide (kI (kn u) = kI (kn s))) = !decide (u = s)
        rw [show decide (kI (kn u) = kI (kn s)) = decide (u = s) from decide_eq_decide.mpr ⟨fun h => kn_inj (kI_inj h), fun h => by rw [h]⟩]
      have hsub : ∀ u ∈ (allS ss.length).filter (fun u => !decide (u = s)), u ∈ allS ss.length := fun u hu => (List.mem_filter.mp hu).1
      have hfun : (fun u => if u = s then frac (P s) else frac (P u)) = fun u => frac (P u) := by
        funext u
        by_cases e : u = s
        · rw [if_pos e, e]
        · rw [if_neg e]
      obtain ⟨g1, g2⟩ := gd_bent (o := .none) hs h4 hLB hsub (hnd.filter _) hsL none_odd (x := frac (P s)) (Or.inr rfl)
      rw [hfun] at g1
      have g2 : ∀ u ∈ (allS ss.length).filter (fun u => !decide (u = s)), szFrac (frac (P u)) := fun u hu => by
        have := g2 u hu
        rw [show (if u = s then frac (P s) else frac (P u)) = frac (P u) from congrFun hfun u] at this
        exact this
      rw [put_put, hfl, tabX_T]
      walk_at "go"
      exact q _ _ _ (hx _) (at_tabX put_same (hnd.filter _) (Nat.le_trans (List.length_filter_le ..) (by omega)) fun u hu => ⟨g2 u hu, szKey h5 hsub u hu⟩) g1
    refine br_f (decide_eq_false h8) (w_if ?_)
    walk_at "go"
    by_cases h9 : (ci : Int) = 8
    · refine br_t (decide_eq_true h9) ?_
      obtain ⟨g1, g2, g3, g4⟩ := gd_more (c := 9) (x := frac 0) hs h4 hLB hin hnd (by omega) (by decide) (itx_frac ⟨bt_lit (n := 1) (by decide) (by decide), bt_lit (n := 1) (by decide) (by decide)⟩)
      refine w_dput (ev_tup (eva_cons (ev_cI (eva_cons (ev_cI (eva_nil ⟨[.int 0, .int 1], rfl, by show 2 ≤ 100000; decide, ?_⟩))))))
      refine ev_var rfl (fun h => nomatch h) ⟨e, rfl, ev_tupT (eva_cons (ev_cI (eva_nil ⟨[9], rfl, by show 1 ≤ 100000; decide, [9], _, rfl, put_same, hel, ?_⟩)))⟩
      rw [put_put, tabX_T, show kI [9] = kI (kn [9]) from rfl, show PyData.tuple [.int 0, .int 1] = frac 0 from rfl, putV_tabX_new g4]
      walk_at "go"
      exact q _ _ _ (hx _) (at_tabX put_same g3 (by rw [List.length_append, List.length_singleton]; omega) g2) g1
    refine br_f (decide_eq_false h9) ?_
    refine w_ret (ev_lt2d ?_)
    refine ev_callB (eva_cons (ev_var rfl (fun h => nomatch h) (eva_nil (on_listDT (kvs := tabQ P (allS ss.length)) (by rw [← tabT_dI]; exact put_same) ?_))))
    refine ⟨_, rfl, ?_⟩
    rw [hkeys]
    have hsh : ShA (.list (((allS ss.length).map kn).map tupI)) := by
      rw [List.map_map]
      refine (shb_list (k := 4) (n := 9000) (c := 32) (fun d hd => ?_) (by rw [List.length_map]; exact hal)).toA (by decide) (by decide)
      obtain ⟨u, hu, rfl⟩ := List.mem_map.mp hd
      have := allS_small h5 hu
      exact shb_key this.1 this.2
    exact q _ (.dat _) _ (hx _) ⟨rfl, fun kvs e => nomatch e⟩ (gd_dat hsh)
abbrev s_is_fraction : Stmt := topS 8
theorem sc_is_fraction : FnScope ["thing"] ["thing"] (defScope s_is_fraction) := ⟨rfl, rfl, rfl, by decide +kernel, rfl, by decide +kernel, by decide +kernel⟩
theorem ok_is_fraction {a : Addr} {fd : FuncData} (F : Fun K "is_fraction" "is_fraction" s_is_fraction a fd) (hm : mg "is_fraction" = some (.ref a)) (z_len : mg "len" = none) (z_isinstance : mg "isinstance" = none) (z_tuple : mg "tuple" = none) (k_is_whole : Cl P w K mg base 1 "is_whole" f_isWhole) (k_made : Cl P w K mg base 2 "made" f_made) :
    Cl P w K mg base 3 "is_fraction" f_isFrac := by
  refine ⟨a, fd, ["thing"], fn_ok F sc_is_fraction (fun args m R h => ?_) (fun cdv A outer s H E hr => ⟨_, (pss_cons (ps_if (PW.pt (pw_or (pt_not (pt_val (pe_callB (kIsi K) (by rfl) z_isinstance (by decide +kernel) (pa_cons (pv 0) (pa_cons (pe_bltn (v := .ty "tuple") (by rfl) z_tuple (by decide +kernel) rfl) pa_nil))))) (pw_or (pt_cmpR (kNe K hr) (pe_callB (kLen K) (by rfl) z_len (by decide +kernel) (pa_cons (pv 0) pa_nil)) pe_int (nomark _)) (pw_or (pt_not (pt_val (pe_cl k_is_whole hr (by decide) (by rfl) (pa_cons (pe_ix (kIx K) (pv 0) pe_int (fun _ _ => rfl)) pa_nil)))) (pw_or1 (pt_not (pt_val (pe_cl k_is_whole hr (by decide) (by rfl) (pa_cons (pe_ix (kIx K) (pv 0) pe_int (fun _ _ => rfl)) pa_nil))))))))) (pss_one (ps_ret pe_bl)) pss_nil)
      (pss_one (ps_ret (pe_and (pe_cmpR oGe (pe_ix (kIx K) (pv 0) pe_int (fun _ _ => rfl)) pe_int (nomark _)) (pe_one (pe_cmpR (kEq K hr) (pe_cl k_made hr (by decide) (by rfl) (pa_cons (pe_ix (kIx K) (pv 0) pe_int (fun _ _ => rfl)) (pa_cons (pe_ix (kIx K) (pv 0) pe_int (fun _ _ => rfl)) pa_nil))) (pv 0) (nomark _))))))), fun args m R h => ?_⟩), hm, F.kp, F.binds (ps := ["thing"]) fun _ _ _ _ _ _ us hl => match us, hl with | [_], _ => rfl⟩
  ·
    obtain ⟨_, rfl, _⟩ := h; rfl
  ·
    obtain ⟨x, rfl, hz, q⟩ := h
    walk_at "go"
    cases hx : isTup x with
    | false =>
      refine br_t rfl (br_t rfl ?_)
      walk_at "go"
      have e : isFrac x = false := by cases x <;> first | rfl | cases hx
      rw [e] at q
      exact q
    | true =>
      obtain ⟨ds, rfl⟩ := tup_shape hx
      refine br_f rfl ?_
      walk_at "go"
      by_cases h2 : (ds.length : Int) = 2
      · refine br_f (by rw [decide_eq_true h2]; rfl) ?_
        obtain ⟨d0, d1, rfl⟩ : ∃ d0 d1, ds = [d0, d1] := by
          match ds, h2 with
          | [a, b], _ => exact ⟨a, b, rfl⟩
          | [], h => exact absurd h (by decide)
          | [_], h => exact absurd h (by simp)
          | _ :: _ :: _ :: _, h => simp at h; omega
        walk_at "go"
        refine o2_ixT (d := d0) rfl ?_
        walk_at "go"
        cases h0 : isInt d0 with
        | false =>
          refine br_t rfl (br_t rfl ?_)
          walk_at "go"
          have e : isFrac (.tuple [d0, d1]) = false := by cases d0 <;> first | rfl | cases h0
          rw [e] at q
          exact q
        | true =>
          obtain ⟨t, rfl⟩ := int_shape h0
          refine br_f rfl ?_
          walk_at "go"
          refine o2_ixT (d := d1) rfl ?_
          walk_at "go"
          cases h1 : isInt d1 with
          | false =>
            refine br_t rfl ?_
            walk_at "go"
            have e : isFrac (.tuple [.int t, d1]) = false := by cases d1 <;> first | rfl | cases h1
            rw [e] at q
            exact q
          | true =>
            obtain ⟨b, rfl⟩ := int_shape h1
            have hz : Bt b 8000 := hz
            refine br_f rfl (w_next ?_)
            walk_at "go"
            refine o2_ixT (d := .int b) rfl ?_
            walk_at "go"
            by_cases hb : (1 : Int) ≤ b
            · refine br_t (decide_eq_true hb) ?_
              obtain ⟨n, rfl⟩ : ∃ n : Nat, b = (n : Int) := ⟨b.toNat, by omega⟩
              walk_at "go"
              refine o2_ixT (d := .int t) rfl ?_
              walk_at "go"
              refine o2_ixT (d := .int (n : Int)) rfl ?_
              walk_at "go"
              refine ⟨by omega, hz, ?_⟩
              walk_at "go"
              refine o2_eq (shaped_frac _) (by simp [SeqAt.shaped, PyData.canLay0, PyData.canLayAll0, PyData.depth, PyData.depthAll]) ?_
              rw [eqv_frac2 t n (by omega)]
              have e : isFrac (.tuple [.int t, .int (n : Int)]) = decide (Nat.gcd n t.natAbs = 1) := by
                show (decide (1 ≤ (n : Int)) && decide (Nat.gcd ((n : Int)).toNat t.natAbs = 1)) = _
                rw [decide_eq_true hb, Int.toNat_natCast, Bool.true_and]
              rw [e] at q
              exact q
            · refine br_f (decide_eq_false hb) ?_
              have e : isFrac (.tuple [.int t, .int b]) = false := by
                show (decide (1 ≤ b) && decide (Nat.gcd b.toNat t.natAbs = 1)) = false
                rw [decide_eq_false hb, Bool.false_and]
              rw [e] at q
              exact q
      · refine br_t (by rw [decide_eq_false h2]; rfl) (br_t rfl ?_)
        walk_at "go"
        have e : isFrac (.tuple ds) = false := by
          match ds, h2 with
          | [], _ => rfl
          | [_], _ => simp [isFrac]
          | [a, b], h => exact absurd rfl h
          | _ :: _ :: _ :: _, _ => simp [isFrac]
        rw [e] at q
        exact q
abbrev s_sum_of : Stmt := topS 9
theorem sc_sum_of : FnScope ["one", "other"] ["one", "other"] (defScope s_sum_of) := ⟨rfl, rfl, rfl, by decide +kernel, rfl, by decide +kernel, by decide +kernel⟩
theorem ok_sum_of {a : Addr} {fd : FuncData} (F : Fun K "sum_of" "sum_of" s_sum_of a fd) (hm : mg "sum_of" = some (.ref a)) (k_made : Cl P w K mg base 2 "made" f_made) :
    Cl P w K mg base 3 "sum_of" f_sumOf := by
  refine ⟨a, fd, ["one", "other"], fn_ok F sc_sum_of (fun args m R h => ?_) (fun cdv A outer s H E hr => ⟨_, (pss_one (ps_ret (pe_cl k_made hr (by decide) (by rfl) (pa_cons (pe_op (kAdd K) (pe_op (kMul K) (pe_ix (kIx K) (pv 0) pe_int (fun _ _ => rfl)) (pe_ix (kIx K) (pv 1) pe_int (fun _ _ => rfl))) (pe_op (kMul K) (pe_ix (kIx K) (pv 1) pe_int (fun _ _ => rfl)) (pe_ix (kIx K) (pv 0) pe_int (fun _ _ => rfl)))) (pa_cons (pe_op (kMul K) (pe_ix (kIx K) (pv 0) pe_int (fun _ _ => rfl)) (pe_ix (kIx K) (pv 1) pe_int (fun _ _ => rfl))) pa_nil))))), fun args m R h => ?_⟩), hm, F.kp, F.binds (ps := ["one", "other"]) fun _ _ _ _ _ _ us hl => match us, hl with | [_, _], _ => rfl⟩
  ·
    obtain ⟨_, _, rfl, _⟩ := h; rfl
  ·
    obtain ⟨p, r, rfl, hp, hr, q⟩ := h
    walk_at "go"
    refine o2_mulI (hp.1.cmul hr.2 (by decide)) ?_
    walk_at "go"
    refine o2_mulI (hr.1.cmul hp.2 (by decide)) ?_
    walk_at "go"
    refine o2_mulI (hp.2.cmul hr.2 (by decide)) ?_
    walk_at "go"
    refine ⟨Nat.mul_pos (den_pos p) (den_pos r), ?_, ?_⟩
    · rw [Int.natCast_mul]; exact (hp.2.mul hr.2).mono (by decide)
    · rw [← Rat.add_def']; exact q
abbrev s_times_of : Stmt := topS 10
theorem sc_times_of : FnScope ["one", "other"] ["one", "other"] (defScope s_times_of) := ⟨rfl, rfl, rfl, by decide +kernel, rfl, by decide +kernel, by decide +kernel⟩
theorem ok_times_of {a : Addr} {fd : FuncData} (F : Fun K "times_of" "times_of" s_times_of a fd) (hm : mg "times_of" = some (.ref a)) (k_made : Cl P w K mg base 2 "made" f_made) :
    Cl P w K mg base 3 "times_of" f_timesOf := by
  refine ⟨a, fd, ["one", "other"], fn_ok F sc_times_of (fun args m R h => ?_) (fun cdv A outer s H E hr => ⟨_, (pss_one (ps_ret (pe_cl k_made hr (by decide) (by rfl) (pa_cons (pe_op (kMul K) (pe_ix (kIx K) (pv 0) pe_int (fun _ _ => rfl)) (pe_ix (kIx K) (pv 1) pe_int (fun _ _ => rfl))) (pa_cons (pe_op (kMul K) (pe_ix (kIx K) (pv 0) pe_int (fun _ _ => rfl)) (pe_ix (kIx K) (pv 1) pe_int (fun _ _ => rfl))) pa_nil))))), fun args m R h => ?_⟩), hm, F.kp, F.binds (ps := ["one", "other"]) fun _ _ _ _ _ _ us hl => match us, hl with | [_, _], _ => rfl⟩
  ·
    obtain ⟨_, _, rfl, _⟩ := h; rfl
  ·
    obtain ⟨p, r, rfl, hp, hr, q⟩ := h
    walk_at "go"
    refine o2_mulI (hp.1.cmul hr.1 (by decide)) ?_
    walk_at "go"
    refine o2_mulI (hp.2.cmul hr.2 (by decide)) ?_
    walk_at "go"
    refine ⟨Nat.mul_pos (den_pos p) (den_pos r), ?_, ?_⟩
    · rw [Int.natCast_mul]; exact (hp.2.mul hr.2).mono (by decide)
    · rw [← Rat.mul_def']; exact q
abbrev s_need_shares : Stmt := topS 16
theorem sc_need_shares : FnScope ["shares"] ["shares"] (defScope s_need_shares) := ⟨rfl, rfl, rfl, by decide +kernel, rfl, by decide +kernel, by decide +kernel⟩
theorem ok_need_shares {a : Addr} {fd : FuncData} (F : Fun K "need_shares" "need_shares" s_need_shares a fd) (hm : mg "need_shares" = some (.ref a)) (k_is_shares : Cl P w K mg base 2 "is_shares" f_isShares) :
    Cl P w K mg base 3 "need_shares" f_needShares := by
  refine ⟨a, fd, ["shares"], fn_ok F sc_need_shares (fun args m R h => ?_) (fun cdv A outer s H E hr => ⟨_, (pss_one (ps_if (pt_not (pt_val (pe_cl k_is_shares hr (by decide) (by rfl) (pa_cons (pv 0) pa_nil)))) (pss_one ps_never) pss_nil)), fun args m R h => ?_⟩), hm, F.kp, F.binds (ps := ["shares"]) fun _ _ _ _ _ _ us hl => match us, hl with | [_], _ => rfl⟩
  ·
    obtain ⟨_, rfl, _⟩ := h; rfl
  ·
    obtain ⟨x, rfl, hx, q⟩ := h
    repeat walk_at "dl"
    rw [hx]
    refine br_f rfl ?_
    exact w_next q
abbrev s__law_plus : Stmt := topS 35
theorem sc__law_plus : FnScope ["_law_one", "_law_other"] ["_law_one", "_law_other"] (defScope s__law_plus) := ⟨rfl, rfl, rfl, by decide +kernel, rfl, by decide +kernel, by decide +kernel⟩
theorem ok__law_plus {a : Addr} {fd : FuncData} (F : Fun K "_law_plus" "_law_plus" s__law_plus a fd) (hm : mg "_law_plus" = some (.ref a)) (k__law_made : Cl P w K mg base 2 "_law_made" f_made) :
    Cl P w K mg base 3 "_law_plus" f_plusG := by
  refine ⟨a, fd, ["_law_one", "_law_other"], fn_ok F sc__law_plus (fun args m R h => ?_) (fun cdv A outer s H E hr => ⟨_, (pss_one (ps_ret (pe_cl k__law_made hr (by decide) (by rfl) (pa_cons (pe_op (kAdd K) (pe_op (kMul K) (pe_ix (kIx K) (pv 0) pe_int (fun _ _ => rfl)) (pe_ix (kIx K) (pv 1) pe_int (fun _ _ => rfl))) (pe_op (kMul K) (pe_ix (kIx K) (pv 1) pe_int (fun _ _ => rfl)) (pe_ix (kIx K) (pv 0) pe_int (fun _ _ => rfl)))) (pa_cons (pe_op (kMul K) (pe_ix (kIx K) (pv 0) pe_int (fun _ _ => rfl)) (pe_ix (kIx K) (pv 1) pe_int (fun _ _ => rfl))) pa_nil))))), fun args m R h => ?_⟩), hm, F.kp, F.binds (ps := ["_law_one", "_law_other"]) fun _ _ _ _ _ _ us hl => match us, hl with | [_, _], _ => rfl⟩
  ·
    obtain ⟨_, _, _, _, rfl, _⟩ := h; rfl
  ·
    obtain ⟨t1, b1, t2, b2, rfl, h1, h2, c1, c2, c3, c4, q⟩ := h
    walk_at "go"
    refine o2_ixT (d := .int t1) rfl ?_
    walk_at "go"
    refine o2_ixT (d := .int (b2 : Int)) rfl ?_
    refine o2_mulI (c1.cmul c4 (by decide)) ?_
    walk_at "go"
    refine o2_ixT (d := .int t2) rfl ?_
    walk_at "go"
    refine o2_ixT (d := .int (b1 : Int)) rfl ?_
    refine o2_mulI (c3.cmul c2 (by decide)) ?_
    walk_at "go"
    refine o2_ixT (d := .int (b1 : Int)) rfl ?_
    walk_at "go"
    refine o2_ixT (d := .int (b2 : Int)) rfl ?_
    refine o2_mulI (c2.cmul c4 (by decide)) ?_
    walk_at "go"
    refine ⟨Nat.mul_pos h1 h2, ?_, ?_⟩
    · rw [Int.natCast_mul]; exact (c2.mul c4).mono (by decide)
    have e : mkRat (t1 * (b2 : Int) + t2 * (b1 : Int)) (b1 * b2) = mkRat t1 b1 + mkRat t2 b2 := (Rat.mkRat_add_mkRat t1 t2 (by omega) (by omega)).symm
    rw [e]
    exact q
abbrev s__law_is_paper : Stmt := topS 40
theorem sc__law_is_paper : FnScope ["_law_thing", "_law_many", "_law_key", "_law_one"] ["_law_thing", "_law_many"] (defScope s__law_is_paper) := ⟨rfl, rfl, rfl, by decide +kernel, rfl, by decide +kernel, by decide +kernel⟩
theorem ok__law_is_paper {a : Addr} {fd : FuncData} (F : Fun K "_law_is_paper" "_law_is_paper" s__law_is_paper a fd) (hm : mg "_law_is_paper" = some (.ref a)) (z_len : mg "len" = none) (z_isinstance : mg "isinstance" = none) (z_dict : mg "dict" = none) (z_all : mg "all" = none) (z_tuple : mg "tuple" = none) (k__law_all_some : Cl P w K mg base 1 "_law_all_some" f_lawAllSomeT) (k__law_whole : Cl P w K mg base 1 "_law_whole" f_isWhole) (k__law_is_fraction : Cl P w K mg base 2 "_law_is_fraction" f_isFrac) :
    Cl P w K mg base 3 "_law_is_paper" f_lawIsPap := by
  refine ⟨a, fd, ["_law_thing", "_law_many"], fn_ok F sc__law_is_paper (fun args m R h => ?_) (fun cdv A outer s H E hr => ⟨_, (pss_cons (ps_if (PW.pt (pw_or (pt_not (pt_val (pe_callB (kIsi K) (by rfl) z_isinstance (by decide +kernel) (pa_cons (pv 0) (pa_cons (pe_bltn (v := .ty "dict") (by rfl) z_dict (by decide +kernel) rfl) pa_nil))))) (pw_or1 (pt_cmpR (kNe K hr) (pe_callB (kLenA K) (by rfl) z_len (by decide +kernel) (pa_cons (pv 0) pa_nil)) (pe_callB (kLen K) (by rfl) z_len (by decide +kernel) (pa_cons (pe_cl k__law_all_some hr (by decide) (by rfl) (pa_cons (pv 1) pa_nil)) pa_nil)) (nomark _))))) (pss_one (ps_ret pe_bl)) pss_nil)
      (pss_cons (ps_lock (ps_for PassesOwn.never rfl (pi_keys (pv 0)) (pg_name (i := 2) sc__law_is_paper.nd rfl (by first | exact Or.inl rfl | exact Or.inr rfl)) (pss_cons (ps_if (PW.pt (pw_or (pt_not (pt_val (pe_callB (kIsi K) (by rfl) z_isinstance (by decide +kernel) (pa_cons (pv 2) (pa_cons (pe_bltn (v := .ty "tuple") (by rfl) z_tuple (by decide +kernel) rfl) pa_nil))))) (pw_or (pt_not (pt_val (pe_callB (kAll K) (by rfl) z_all (by decide +kernel) (pa_cons (pe_lc (own := [("_law_one", 3)]) rfl sc__law_is_paper.nd (kiT K (pv 2)) (blkOk_by (own := [("_law_one", 3)]) (N := ["_law_thing", "_law_many", "_law_key", "_law_one"]) (sc := defScope s__law_is_paper) (by decide +kernel)) (fun _ _ _ _ _ => (pg_name (i := 3) sc__law_is_paper.nd rfl (by first | exact Or.inl rfl | exact Or.inr rfl))) (fun _ _ _ _ _ => pts_nil) (fun _ _ _ _ _ => (pe_cl k__law_whole hr (by decide) (by rfl) (pa_cons (pv 3) pa_nil)))) pa_nil)))) (pw_or1 (pt_cmpR (kNotInA K hr) (pv 2) (pe_cl k__law_all_some hr (by decide) (by rfl) (pa_cons (pv 1) pa_nil)) rfl))))) (pss_one (ps_ret pe_bl)) pss_nil)
      (pss_one (ps_if (PW.pt (pw_or (pt_not (pt_val (pe_cl k__law_is_fraction hr (by decide) (by rfl) (pa_cons (pe_dget (hu_of hr) (pv 0) (pv 2) (fun _ _ => rfl)) pa_nil)))) (pw_or1 (pt_cmpR oLt (pe_ix (kIx K) (pe_dget (hu_of hr) (pv 0) (pv 2) (fun _ _ => rfl)) pe_int (fun _ _ => rfl)) pe_int (nomark _))))) (pss_one (ps_ret pe_bl)) pss_nil)))))
      (pss_one (ps_ret (pe_cmpR (kEq K hr) (pe_dget (hu_of hr) (pv 0) (pe_tup pa_nil) (fun _ _ => rfl)) (pe_tup (pa_cons pe_int (pa_cons pe_int pa_nil))) (nomark _)))))), fun args m R h => ?_⟩), hm, F.kp, F.binds (ps := ["_law_thing", "_law_many"]) fun _ _ _ _ _ _ us hl => match us, hl with | [_, _], _ => rfl⟩
  ·
    obtain ⟨_, _, _, rfl, _⟩ := h; rfl
  ·
    obtain ⟨y, n, t, rfl, h1, h5, hy, q⟩ := h
    have hal : (allS n).length ≤ 32 := by rw [allS_len]; exact Nat.pow_le_pow_right (by decide) h5
    have h2p : 2 ^ 1 ≤ 2 ^ n := Nat.pow_le_pow_right (by decide) h1
    cases t with
    | dat x =>
      obtain ⟨rfl, hx⟩ := hy
      walk_at "go"
      cases hd : isDct x with
      | false =>
        refine br_t rfl (br_t rfl ?_)
        walk_at "go"
        exact q
      | true =>
        obtain ⟨kvs, rfl⟩ : ∃ kvs, x = .dict kvs := by cases x <;> first | exact ⟨_, rfl⟩ | (exact absurd hd (by simp [isDct]))
        have hkl := hx kvs rfl
        refine br_f rfl ?_
        walk_at "go"
        refine on_lenDD ?_
        walk_at "go"
        refine ⟨by omega, ?_⟩
        walk_at "go"
        refine on_lenLt ?_
        walk_at "go"
        refine br_t (by rw [List.length_map, allS_len]; simp only [Bool.not_eq_true', decide_eq_false_iff_not]; omega) ?_
        walk_at "go"
        exact q
    | dct kds =>
      obtain ⟨p, rfl, hm, hnd, hl, hit⟩ := hy
      have q : R (.d (.bool (okPap n kds))) m := q
      walk_at "go"
      refine on_isiDT hm ?_
      walk_at "go"
      refine br_f rfl ?_
      walk_at "go"
      refine on_lenAT (on_lenDT hm ?_)
      walk_at "go"
      refine ⟨by omega, ?_⟩
      walk_at "go"
      refine on_lenLt ?_
      walk_at "go"
      rw [dV_len, List.length_map, allS_len]
      by_cases hlen : kds.length = 2 ^ n
      · refine br_f (by rw [hlen]; simp) (w_next ?_)
        refine w_seq (w_forD (p := p) (kvs := dV kds) hm (fun od es => ev_var rfl (fun h => nomatch h) ⟨rfl, rfl⟩)
          (fun i r' m' => m' = m ∧ (kds.take i).all (okEn n) = true ∧ ∃ y z, r' = [.v (.ref p), .d (.int (n : Int)), y, z]) ⟨rfl, rfl, _, _, rfl⟩ ?_ ?_)
        · rintro i k z r' m' od es hk ⟨rfl, hal2, y, z2, rfl⟩ hm2
          obtain ⟨d, hkd, rfl⟩ : ∃ d, kds[i]? = some (k, d) ∧ z = .d d := by
            unfold dV at hk
            rw [List.getElem?_map] at hk
            cases hx : kds[i]? with
            | none => rw [hx] at hk; cases hk
            | some e => rw [hx] at hk; cases hk; exact ⟨e.2, rfl, rfl⟩
          have hmem := List.mem_of_getElem? hkd
          obtain ⟨hsz, hkl⟩ := hit _ hmem
          have hkl : k.length ≤ 100 := hkl
          have hgv : getV ((dV kds).map fun kv => (kI kv.1, kv.2)) (kI k) = some (.d d) := by
            show getV (dI (dV kds)) (kI k) = _
            rw [getV_dV, lkD_mem hnd hmem]; rfl
          have hst : ∀ od es, put (put m' p (.lk od es ((dV kds).map fun kv => (kI kv.1, kv.2)))) p (.dT ((dV kds).map fun kv => (kI kv.1, kv.2))) = m' := fun od es => by
            rw [put_put]
            funext a
            by_cases ha : a = p
            · subst ha; rw [put_same, hm2]
            · rw [put_ne ha]
          have hno : okEn n (k, d) = false → R (.d (.bool false)) m' := fun hf => by
            have : okPap n kds = false := by
              unfold okPap
              rw [show kds.all (okEn n) = false from List.all_eq_false.mpr ⟨_, hmem, by rw [hf]; decide⟩, Bool.false_and, Bool.and_false]
            rw [this] at q
            exact q
          refine w_seq (w_if (evt_or ?_))
          walk_at "go"
          refine br_f rfl ?_
          refine evt_or (evt_not (evt_B (ev_callB (eva_cons ?_))))
          refine ev_mapTf (xs := k) (f := PyData.int) ?_ (by omega) (fun _ => .bool true) (fun x m2 hx hxx => ?_) ?_
          · walk_at "go"
            exact ⟨rfl, rfl⟩
          · walk_at "go"
            exact ⟨rfl, rfl⟩
          rw [show (k.map fun _ => PyData.bool true) = (k.map fun _ => true).map PyData.bool by rw [List.map_map]; rfl]
          refine eva_nil (on_all ?_)
          refine ⟨_, rfl, br_f (by rw [List.all_map, show k.all (id ∘ fun _ => true) = true from List.all_eq_true.mpr fun _ _ => rfl]; rfl) ?_⟩
          walk_at "go"
          refine ⟨by omega, ?_⟩
          refine o2_notInLt ?_
          rw [← areKinds_mem]
          cases ha : areKinds (tupI k) (n : Int) with
          | false =>
            refine ⟨_, rfl, br_t rfl ?_⟩
            walk_at "go"
            exact ⟨put_same, by rw [hst od es]; exact hno (by unfold okEn; rw [show areKinds (tupI (k, d).1) (n : Int) = false from ha, Bool.false_and])⟩
          | true =>
            refine ⟨_, rfl, br_f rfl (w_next ?_)⟩
            refine w_if (evt_or (evt_not (evt_B (ev_call (eva_cons (ev_dgetV (ns := k) rfl (ev_var rfl (fun h => nomatch h) ⟨p, _, _, rfl, Or.inr ⟨od, es, put_same⟩, hgv, ?_⟩)))))))
            walk_at "go"
            refine ⟨hsz, ?_⟩
            cases hf : isFrac d with
            | false =>
              refine ⟨_, rfl, br_t rfl (br_t rfl ?_)⟩
              walk_at "go"
              exact ⟨put_same, by rw [hst od es]; exact hno (by unfold okEn; rw [show isFrac (k, d).2 = false from hf, Bool.false_and, Bool.and_false])⟩
            | true =>
              obtain ⟨u, rfl⟩ := isFrac_of hf
              refine ⟨_, rfl, br_f rfl ?_⟩
              refine evt_test (ev_op (ev_op (ev_dgetV (ns := k) rfl (ev_var rfl (fun h => nomatch h) ⟨p, _, _, rfl, Or.inr ⟨od, es, put_same⟩, hgv, ?_⟩))))
              walk_at "go"
              by_cases hneg : u.num < 0
              · refine br_t (decide_eq_true hneg) ?_
                walk_at "go"
                exact ⟨put_same, by rw [hst od es]; exact hno (by unfold okEn; rw [show topI (k, frac u).2 = u.num from rfl, decide_eq_false (show ¬ 0 ≤ u.num by omega), Bool.and_false, Bool.and_false])⟩
              · refine br_f (decide_eq_false hneg) (w_next ?_)
                refine ⟨put_same, hst od es, ?_, _, _, rfl⟩
                rw [take_one hkd, List.all_append, hal2, List.all_cons, List.all_nil, Bool.true_and, Bool.and_true]
                unfold okEn
                rw [show areKinds (tupI (k, frac u).1) (n : Int) = true from ha, show isFrac (k, frac u).2 = true from hf, show topI (k, frac u).2 = u.num from rfl, decide_eq_true (show 0 ≤ u.num by omega)]
                rfl
        · rintro r' m' ⟨rfl, hal2, y, z, rfl⟩
          have hal2 : kds.all (okEn n) = true := by
            rw [show (dV kds).length = kds.length by unfold dV; rw [List.length_map], List.take_length] at hal2
            exact hal2
          have h0 := (pap_num hnd hlen hal2 (s := []) ⟨List.Pairwise.nil, fun _ z => nomatch z⟩).1
          refine w_ret (ev_op (ev_dget (ev_var rfl (fun h => nomatch h) ⟨p, rfl, ev_tupT ?_⟩)))
          walk_at "dl1"
          refine ⟨[], rfl, by decide, [], _, _, rfl, Or.inl hm, (by rw [getV_dV, show lkD kds [] = some (frac (numK kds [])) from h0]; rfl), ?_⟩
          walk_at "go"
          refine o2_eq (shaped_frac _) (shaped_frac 0) ?_
          rw [show PyData.eqv (frac (numK kds [])) (.tuple [.int 0, .int 1]) = decide (numK kds [] = 0) from eqv_frQ _ 0]
          have : okPap n kds = decide (numK kds [] = 0) := by
            unfold okPap
            rw [decide_eq_true hlen, hal2, Bool.true_and, Bool.true_and]
          rw [this] at q
          exact q
      · have hno : okPap n kds = false := by
          unfold okPap
          rw [decide_eq_false hlen, Bool.false_and]
        rw [hno] at q
        refine br_t (by simp only [Bool.not_eq_true', decide_eq_false_iff_not]; omega) ?_
        walk_at "go"
        exact q
abbrev s_due_number : Stmt := topS 21
theorem sc_due_number : FnScope ["shares", "paper", "some", "found", "kind", "others", "one"] ["shares", "paper", "some"] (defScope s_due_number) := ⟨rfl, rfl, rfl, by decide +kernel, rfl, by decide +kernel, by decide +kernel⟩
theorem ok_due_number {a : Addr} {fd : FuncData} (F : Fun K "due_number" "due_number" s_due_number a fd) (hm : mg "due_number" = some (.ref a)) (z_sum : mg "sum" = none) (z_tuple : mg "tuple" = none) (k_sum_of : Cl P w K mg base 3 "sum_of" f_sumOf) (k_times_of : Cl P w K mg base 3 "times_of" f_timesOf) (k_sum_part : Cl P w K mg base 1 "sum_part" f_sumPart) :
    Cl P w K mg base 4 "due_number" f_dueF := by
  refine ⟨a, fd, ["shares", "paper", "some"], fn_ok F sc_due_number (fun args m R h => ?_) (fun cdv A outer s H E hr => ⟨_, (pss_cons (ps_set (i := 3) sc_due_number.nd rfl (by first | exact Or.inl rfl | exact Or.inr rfl) (pe_tup (pa_cons (pe_callB (kSum K) (by rfl) z_sum (by decide +kernel) (pa_cons (pv 0) pa_nil)) (pa_cons pe_int pa_nil))))
      (pss_cons (ps_for PassesOwn.never rfl (kiT K (pv 2)) (pg_name (i := 4) sc_due_number.nd rfl (by first | exact Or.inl rfl | exact Or.inr rfl)) (pss_cons (ps_set (i := 5) sc_due_number.nd rfl (by first | exact Or.inl rfl | exact Or.inr rfl) (pe_callTy (kTup K) (by rfl) z_tuple (by decide +kernel) (pa_cons (pe_lc (own := [("one", 6)]) rfl sc_due_number.nd (kiT K (pv 2)) (blkOk_by (own := [("one", 6)]) (N := ["shares", "paper", "some", "found", "kind", "others", "one"]) (sc := defScope s_due_number) (by decide +kernel)) (fun _ _ _ _ _ => (pg_name (i := 6) sc_due_number.nd rfl (by first | exact Or.inl rfl | exact Or.inr rfl))) (fun _ _ _ _ _ => (pts_one (pt_cmpR (kNe K hr) (pv 6) (pv 4) (nomark _)))) (fun _ _ _ _ _ => (pv 6))) pa_nil)))
      (pss_one (ps_set (i := 3) sc_due_number.nd rfl (by first | exact Or.inl rfl | exact Or.inr rfl) (pe_cl k_sum_of hr (by decide) (by rfl) (pa_cons (pv 3) (pa_cons (pe_cl k_times_of hr (by decide) (by rfl) (pa_cons (pe_tup (pa_cons (pe_ix (kIx K) (pv 0) (pv 4) (fun _ _ => rfl)) (pa_cons pe_int pa_nil))) (pa_cons (pe_dget (hu_of hr) (pv 1) (pv 5) (fun _ _ => rfl)) pa_nil))) pa_nil)))))))
      (pss_one (ps_ret (pe_cl k_times_of hr (by decide) (by rfl) (pa_cons (pv 3) (pa_cons (pe_tup (pa_cons pe_int (pa_cons (pe_cl k_sum_part hr (by decide) (by rfl) (pa_cons (pv 0) (pa_cons (pv 2) pa_nil))) pa_nil))) pa_nil))))))), fun args m R h => ?_⟩), hm, F.kp, F.binds (ps := ["shares", "paper", "some"]) fun _ _ _ _ _ _ us hl => match us, hl with | [_, _, _], _ => rfl⟩
  ·
    obtain ⟨_, _, _, _, _, rfl, _⟩ := h; rfl
  ·
    obtain ⟨ss, s, p, kvs, P, rfl, hs, hk, h0, hd, hB, hg, q⟩ := h
    have hsl := hk.len
    have hfew := hs.few
    have hsum := shares_sum hs
    walk_at "go"
    refine w_forTf (xs := s) (f := intN) ?_ (fun i r' m' => m' = m ∧ ∃ y4 y5, r' = [.d (tupI ss), .v (.ref p), .d (tupN s), .d (frac (dueAcc ss (P) s (s.take i))), y4, y5, .any]) ⟨rfl, _, _, rfl⟩ ?_ ?_
    · walk_at "go"
      exact ⟨by rw [tupN_eq], rfl⟩
    · rintro i k r' m' hi ⟨rfl, y4, y5, rfl⟩
      have hks := List.mem_of_getElem? hi
      have hkl := hk.lt k hks
      have hf := hB.fr _ (kinds_without hk k)
      have ha := hB.acc s hk i
      have hb9 := getD_bounds hs k
      have hw : FrB (((ss.getD k 0 : Int)) : Rat) 8 := ⟨bt_lit (n := 8) (by show (ss.getD k 0).natAbs < 256; omega) (by decide), bt_lit (n := 1) (by show 1 < 2; decide) (by decide)⟩
      walk_at "go"
      refine ev_filTf (xs := s) (f := intN) ?_ (by omega) (fun x => !decide (x = k)) intN (fun x m2 hx hxx => ?_) (fun x m2 hx hxx hq => ?_) ?_
      · walk_at "go"
        exact ⟨by rw [tupN_eq], rfl⟩
      · walk_at "go"
        refine ⟨?_, rfl⟩
        rw [show decide ((x : Int) = (k : Int)) = decide (x = k) from decide_eq_decide.mpr (by omega)]
      · walk_at "go"
        exact ⟨rfl, rfl⟩
      walk_at "dl1"
      refine on_tupLtN ?_
      walk_at "go"
      refine o2_ixT (tupI_at hkl) ?_
      walk_at "go"
      refine ev_dgetV (ns := kn (s.filter fun x => !decide (x = k))) rfl ?_
      refine ev_var rfl (fun h => nomatch h) ⟨p, kvs, _, rfl, hd, hg k hks, ?_⟩
      walk_at "go"
      refine ⟨((ss.getD k 0 : Int) : Rat), _, rfl, hw.mono (by decide), hf.mono (by decide), ?_⟩
      walk_at "go"
      refine ⟨ha.mono (by decide), (hw.mul hf (c := 1450) (by decide)).mono (by decide), ?_⟩
      refine ⟨rfl, .d (.int (k : Int)), .t (kn (s.filter fun x => !decide (x = k))), ?_⟩
      have e : dueAcc ss (P) s (s.take (i + 1)) = dueAcc ss (P) s (s.take i) + ((ss.getD k 0 : Int) : Rat) * P (s.filter fun x => !decide (x = k)) := by
        unfold dueAcc
        rw [take_one hi, List.foldl_append]; rfl
      rw [e]
      rfl
    · rintro r' m' ⟨rfl, y4, y5, rfl⟩
      have ha := hB.acc s hk s.length
      have hp := sumP_pos hs h0 hk.lt
      have hle := sumP_le hs hk
      rw [List.take_length] at ha ⊢
      walk_at "go"
      refine ⟨by omega, hk.lt, ?_⟩
      walk_at "go"
      have ho : FrB (mkRat 1 (sumP ss s).toNat) 8 := frB_mk (bt_lit (n := 1) (by decide) (by decide)) (bt_lit (n := 8) (by show _ < 256; omega) (by decide)) (by omega)
      refine ⟨_, mkRat 1 (sumP ss s).toNat, ?_, ha.mono (by decide), ho.mono (by decide), ?_⟩
      · rw [frac_unit (by omega), show (((sumP ss s).toNat : Nat) : Int) = sumP ss s by omega]
      exact q
abbrev s_is_paper : Stmt := topS 22
theorem sc_is_paper : FnScope ["thing", "shares", "every", "some"] ["thing", "shares"] (defScope s_is_paper) := ⟨rfl, rfl, rfl, by decide +kernel, rfl, by decide +kernel, by decide +kernel⟩
theorem ok_is_paper {a : Addr} {fd : FuncData} (F : Fun K "is_paper" "is_paper" s_is_paper a fd) (hm : mg "is_paper" = some (.ref a)) (z_range : mg "range" = none) (z_len : mg "len" = none) (z_list : mg "list" = none) (z_isinstance : mg "isinstance" = none) (z_dict : mg "dict" = none) (c_NOUGHT : ∃ a, mg "NOUGHT" = some (.ref a) ∧ ∀ G, Rp K G (.tuple [.int 0, .int 1]) (.ref a)) (k_all_some : Cl P w K mg base 1 "all_some" f_allSome) (k_are_kinds : Cl P w K mg base 2 "are_kinds" f_areKinds) (k_is_fraction : Cl P w K mg base 3 "is_fraction" f_isFrac) :
    Cl P w K mg base 4 "is_paper" f_isPapG := by
  obtain ⟨a_NOUGHT, h_NOUGHT, d_NOUGHT⟩ := c_NOUGHT
  refine ⟨a, fd, ["thing", "shares"], fn_ok F sc_is_paper (fun args m R h => ?_) (fun cdv A outer s H E hr => ⟨_, (pss_cons (ps_set (i := 2) sc_is_paper.nd rfl (by first | exact Or.inl rfl | exact Or.inr rfl) (pe_cl k_all_some hr (by decide) (by rfl) (pa_cons (pe_listRg rfl (by rfl) z_list (prg_1 (by rfl) z_range (pe_callB (kLen K) (by rfl) z_len (by decide +kernel) (pa_cons (pv 1) pa_nil)))) pa_nil)))
      (pss_cons (ps_if (PW.pt (pw_or (pt_not (pt_val (pe_callB (kIsi K) (by rfl) z_isinstance (by decide +kernel) (pa_cons (pv 0) (pa_cons (pe_bltn (v := .ty "dict") (by rfl) z_dict (by decide +kernel) rfl) pa_nil))))) (pw_or1 (pt_cmpR (kNe K hr) (pe_callB (kLenA K) (by rfl) z_len (by decide +kernel) (pa_cons (pv 0) pa_nil)) (pe_callB (kLen K) (by rfl) z_len (by decide +kernel) (pa_cons (pv 2) pa_nil)) (nomark _))))) (pss_one (ps_ret pe_bl)) pss_nil)
      (pss_cons (ps_lock (ps_for PassesOwn.never rfl (pi_keys (pv 0)) (pg_name (i := 3) sc_is_paper.nd rfl (by first | exact Or.inl rfl | exact Or.inr rfl)) (pss_cons (ps_if (pt_not (pt_val (pe_cl k_are_kinds hr (by decide) (by rfl) (pa_cons (pv 3) (pa_cons (pe_callB (kLen K) (by rfl) z_len (by decide +kernel) (pa_cons (pv 1) pa_nil)) pa_nil))))) (pss_one (ps_ret pe_bl)) pss_nil)
      (pss_one (ps_if (PW.pt (pw_or (pt_not (pt_val (pe_cl k_is_fraction hr (by decide) (by rfl) (pa_cons (pe_dget (hu_of hr) (pv 0) (pv 3) (fun _ _ => rfl)) pa_nil)))) (pw_or1 (pt_cmpR oLt (pe_ix (kIx K) (pe_dget (hu_of hr) (pv 0) (pv 3) (fun _ _ => rfl)) pe_int (fun _ _ => rfl)) pe_int (nomark _))))) (pss_one (ps_ret pe_bl)) pss_nil)))))
      (pss_one (ps_ret (pe_cmpR (kEq K hr) (pe_dget (hu_of hr) (pv 0) (pe_tup pa_nil) (fun _ _ => rfl)) (pe_glob (v := V.ref a_NOUGHT) (by rfl) h_NOUGHT rfl) (nomark _))))))), fun args m R h => ?_⟩), hm, F.kp, F.binds (ps := ["thing", "shares"]) fun _ _ _ _ _ _ us hl => match us, hl with | [_, _], _ => rfl⟩
  ·
    obtain ⟨_, _, _, rfl, _⟩ := h; rfl
  ·
    obtain ⟨y, ss, t, rfl, hs, hy, q⟩ := h
    have h5 := hs.few
    have h1 := hs.pos
    have hal : (allS ss.length).length ≤ 32 := by rw [allS_len]; exact Nat.pow_le_pow_right (by decide) h5
    have h2p : 2 ^ 1 ≤ 2 ^ ss.length := Nat.pow_le_pow_right (by decide) h1
    walk_at "go"
    refine ev_lstR1 (n := ss.length) (by omega) ?_
    walk_at "go"
    refine ⟨rfl, ?_⟩
    rw [rngD_intN]
    walk_at "go"
    refine ⟨by rw [List.length_range]; omega, ?_⟩
    rw [allSL_range]
    cases t with
    | dat x =>
      obtain ⟨rfl, hx⟩ := hy
      walk_at "go"
      cases hd : isDct x with
      | false =>
        refine br_t rfl (br_t rfl ?_)
        walk_at "go"
        exact q
      | true =>
        obtain ⟨kvs, rfl⟩ : ∃ kvs, x = .dict kvs := by cases x <;> first | exact ⟨_, rfl⟩ | (exact absurd hd (by simp [isDct]))
        have hkl := hx kvs rfl
        refine br_f rfl ?_
        walk_at "go"
        refine on_lenDD ?_
        walk_at "go"
        refine on_lenLt ?_
        walk_at "go"
        refine br_t (by rw [List.length_map, allS_len]; simp only [Bool.not_eq_true', decide_eq_false_iff_not]; omega) ?_
        walk_at "go"
        exact q
    | dct kds =>
      obtain ⟨p, rfl, hm, hnd, hl, hit⟩ := hy
      have q : R (.d (.bool (okPap ss.length kds))) m := q
      walk_at "go"
      refine on_isiDT hm ?_
      walk_at "go"
      refine br_f rfl ?_
      walk_at "go"
      refine on_lenAT (on_lenDT hm ?_)
      walk_at "go"
      refine on_lenLt ?_
      walk_at "go"
      rw [dV_len, List.length_map, allS_len]
      by_cases hlen : kds.length = 2 ^ ss.length
      · refine br_f (by rw [hlen]; simp) (w_next ?_)
        refine w_seq (w_forD (p := p) (kvs := dV kds) hm (fun od es => ev_var rfl (fun h => nomatch h) ⟨rfl, rfl⟩)
          (fun i r' m' => m' = m ∧ (kds.take i).all (okEn ss.length) = true ∧ ∃ y, r' = [.v (.ref p), .d (tupI ss), .lt ((allS ss.length).map kn), y]) ⟨rfl, rfl, _, rfl⟩ ?_ ?_)
        · rintro i k z r' m' od es hk ⟨rfl, hal2, y, rfl⟩ hm2
          obtain ⟨d, hkd, rfl⟩ : ∃ d, kds[i]? = some (k, d) ∧ z = .d d := by
            unfold dV at hk
            rw [List.getElem?_map] at hk
            cases hx : kds[i]? with
            | none => rw [hx] at hk; cases hk
            | some e => rw [hx] at hk; cases hk; exact ⟨e.2, rfl, rfl⟩
          have hmem := List.mem_of_getElem? hkd
          obtain ⟨hsz, hkl⟩ := hit _ hmem
          have hgv : getV ((dV kds).map fun kv => (kI kv.1, kv.2)) (kI k) = some (.d d) := by
            show getV (dI (dV kds)) (kI k) = _
            rw [getV_dV, lkD_mem hnd hmem]; rfl
          have hst : ∀ od es, put (put m' p (.lk od es ((dV kds).map fun kv => (kI kv.1, kv.2)))) p (.dT ((dV kds).map fun kv => (kI kv.1, kv.2))) = m' := fun od es => by
            rw [put_put]
            funext a
            by_cases ha : a = p
            · subst ha; rw [put_same, hm2]
            · rw [put_ne ha]
          have hno : okEn ss.length (k, d) = false → R (.d (.bool false)) m' := fun hf => by
            have : okPap ss.length kds = false := by
              unfold okPap
              rw [show kds.all (okEn ss.length) = false from List.all_eq_false.mpr ⟨_, hmem, by rw [hf]; decide⟩, Bool.false_and, Bool.and_false]
            rw [this] at q
            exact q
          walk_at "go"
          refine ⟨by show shortD (tupI k); unfold tupI; simp [shortD]; have : k.length ≤ 100 := hkl; omega, ?_⟩
          cases ha : areKinds (tupI k) (ss.length : Int) with
          | false =>
            walk_at "go"
            refine br_t rfl ?_
            walk_at "go"
            exact ⟨put_same, by rw [hst od es]; exact hno (by unfold okEn; rw [show areKinds (tupI (k, d).1) (ss.length : Int) = false from ha, Bool.false_and])⟩
          | true =>
            walk_at "go"
            refine br_f rfl (w_next ?_)
            refine w_if (evt_or (evt_not (evt_B (ev_call (eva_cons (ev_dgetV (ns := k) rfl (ev_var rfl (fun h => nomatch h) ⟨p, _, _, rfl, Or.inr ⟨od, es, put_same⟩, hgv, ?_⟩)))))))
            walk_at "go"
            refine ⟨hsz, ?_⟩
            cases hf : isFrac d with
            | false =>
              refine ⟨_, rfl, br_t rfl (br_t rfl ?_)⟩
              walk_at "go"
              exact ⟨put_same, by rw [hst od es]; exact hno (by unfold okEn; rw [show isFrac (k, d).2 = false from hf, Bool.false_and, Bool.and_false])⟩
            | true =>
              obtain ⟨u, rfl⟩ := isFrac_of hf
              refine ⟨_, rfl, br_f rfl ?_⟩
              refine evt_test (ev_op (ev_op (ev_dgetV (ns := k) rfl (ev_var rfl (fun h => nomatch h) ⟨p, _, _, rfl, Or.inr ⟨od, es, put_same⟩, hgv, ?_⟩))))
              walk_at "go"
              by_cases hneg : u.num < 0
              · refine br_t (decide_eq_true hneg) ?_
                walk_at "go"
                exact ⟨put_same, by rw [hst od es]; exact hno (by unfold okEn; rw [show topI (k, frac u).2 = u.num from rfl, decide_eq_false (show ¬ 0 ≤ u.num by omega), Bool.and_false, Bool.and_false])⟩
              · refine br_f (decide_eq_false hneg) (w_next ?_)
                refine ⟨put_same, hst od es, ?_, _, rfl⟩
                rw [take_one hkd, List.all_append, hal2, List.all_cons, List.all_nil, Bool.true_and, Bool.and_true]
                unfold okEn
                rw [show areKinds (tupI (k, frac u).1) (ss.length : Int) = true from ha, show isFrac (k, frac u).2 = true from hf, show topI (k, frac u).2 = u.num from rfl, decide_eq_true (show 0 ≤ u.num by omega)]
                rfl
        · rintro r' m' ⟨rfl, hal2, y, rfl⟩
          have hal2 : kds.all (okEn ss.length) = true := by
            rw [show (dV kds).length = kds.length by unfold dV; rw [List.length_map], List.take_length] at hal2
            exact hal2
          have h0 := (pap_num hnd hlen hal2 (s := []) ⟨List.Pairwise.nil, fun _ z => nomatch z⟩).1
          refine w_ret (ev_op (ev_dget (ev_var rfl (fun h => nomatch h) ⟨p, rfl, ev_tupT ?_⟩)))
          walk_at "dl1"
          refine ⟨[], rfl, by decide, [], _, _, rfl, Or.inl hm, (by rw [getV_dV, show lkD kds [] = some (frac (numK kds [])) from h0]; rfl), ?_⟩
          refine ev_cG d_NOUGHT ?_
          refine o2_eq (shaped_frac _) (shaped_frac 0) ?_
          rw [show PyData.eqv (frac (numK kds [])) (.tuple [.int 0, .int 1]) = decide (numK kds [] = 0) from eqv_frQ _ 0]
          have : okPap ss.length kds = decide (numK kds [] = 0) := by
            unfold okPap
            rw [decide_eq_true hlen, hal2, Bool.true_and, Bool.true_and]
          rw [this] at q
          exact q
      · have hno : okPap ss.length kds = false := by
          unfold okPap
          rw [decide_eq_false hlen, Bool.false_and]
        rw [hno] at q
        refine br_t (by simp only [Bool.not_eq_true', decide_eq_false_iff_not]; omega) ?_
        walk_at "go"
        exact q
abbrev s__law_paper : Stmt := topS 39
theorem sc__law_paper : FnScope ["_law_shares", "_law_found", "_law_some", "_law_number", "_law_kind", "_law_piece", "_law_one"] ["_law_shares"] (defScope s__law_paper) := ⟨rfl, rfl, rfl, by decide +kernel, rfl, by decide +kernel, by decide +kernel⟩
theorem ok__law_paper {a : Addr} {fd : FuncData} (F : Fun K "_law_paper" "_law_paper" s__law_paper a fd) (hm : mg "_law_paper" = some (.ref a)) (z_len : mg "len" = none) (z_sum : mg "sum" = none) (z_tuple : mg "tuple" = none) (k__law_all_some : Cl P w K mg base 1 "_law_all_some" f_lawAllSomeT) (k__law_plus : Cl P w K mg base 3 "_law_plus" f_plusG) (k__law_made : Cl P w K mg base 2 "_law_made" f_made) :
    Cl P w K mg base 4 "_law_paper" f_lawPaper := by
  refine ⟨a, fd, ["_law_shares"], fn_ok F sc__law_paper (fun args m R h => ?_) (fun cdv A outer s H E hr => ⟨_, (pss_cons (ps_set (i := 1) sc__law_paper.nd rfl (by first | exact Or.inl rfl | exact Or.inr rfl) (pe_disp1 hr (pe_tup pa_nil) (pe_tup (pa_cons pe_int (pa_cons pe_int pa_nil)))))
      (pss_cons (ps_for PassesOwn.never rfl (kiL K (pe_cl k__law_all_some hr (by decide) (by rfl) (pa_cons (pe_callB (kLen K) (by rfl) z_len (by decide +kernel) (pa_cons (pv 0) pa_nil)) pa_nil))) (pg_name (i := 2) sc__law_paper.nd rfl (by first | exact Or.inl rfl | exact Or.inr rfl)) (pss_one (ps_if (pt_cmpR (kNe K hr) (pv 2) (pe_tup pa_nil) (nomark _)) (pss_cons (ps_set (i := 3) sc__law_paper.nd rfl (by first | exact Or.inl rfl | exact Or.inr rfl) (pe_tup (pa_cons (pe_callB (kSum K) (by rfl) z_sum (by decide +kernel) (pa_cons (pv 0) pa_nil)) (pa_cons pe_int pa_nil))))
      (pss_cons (ps_for PassesOwn.never rfl (kiT K (pv 2)) (pg_name (i := 4) sc__law_paper.nd rfl (by first | exact Or.inl rfl | exact Or.inr rfl)) (pss_cons (ps_set (i := 5) sc__law_paper.nd rfl (by first | exact Or.inl rfl | exact Or.inr rfl) (pe_dget (hu_of hr) (pv 1) (pe_callTy (kTup K) (by rfl) z_tuple (by decide +kernel) (pa_cons (pe_lc (own := [("_law_one", 6)]) rfl sc__law_paper.nd (kiT K (pv 2)) (blkOk_by (own := [("_law_one", 6)]) (N := ["_law_shares", "_law_found", "_law_some", "_law_number", "_law_kind", "_law_piece", "_law_one"]) (sc := defScope s__law_paper) (by decide +kernel)) (fun _ _ _ _ _ => (pg_name (i := 6) sc__law_paper.nd rfl (by first | exact Or.inl rfl | exact Or.inr rfl))) (fun _ _ _ _ _ => (pts_one (pt_cmpR (kNe K hr) (pv 6) (pv 4) (nomark _)))) (fun _ _ _ _ _ => (pv 6))) pa_nil)) (fun _ _ => rfl)))
      (pss_one (ps_set (i := 3) sc__law_paper.nd rfl (by first | exact Or.inl rfl | exact Or.inr rfl) (pe_cl k__law_plus hr (by decide) (by rfl) (pa_cons (pv 3) (pa_cons (pe_tup (pa_cons (pe_op (kMul K) (pe_ix (kIx K) (pv 5) pe_int (fun _ _ => rfl)) (pe_ix (kIx K) (pv 0) (pv 4) (fun _ _ => rfl))) (pa_cons (pe_ix (kIx K) (pv 5) pe_int (fun _ _ => rfl)) pa_nil))) pa_nil)))))))
      (pss_one (ps_dput (hu_of hr) (pv 1) (pv 2) (pe_cl k__law_made hr (by decide) (by rfl) (pa_cons (pe_ix (kIx K) (pv 3) pe_int (fun _ _ => rfl)) (pa_cons (pe_op (kMul K) (pe_ix (kIx K) (pv 3) pe_int (fun _ _ => rfl)) (pe_callB (kSum K) (by rfl) z_sum (by decide +kernel) (pa_cons (pe_lc (own := [("_law_kind", 4)]) rfl sc__law_paper.nd (kiT K (pv 2)) (blkOk_by (own := [("_law_kind", 4)]) (N := ["_law_shares", "_law_found", "_law_some", "_law_number", "_law_kind", "_law_piece", "_law_one"]) (sc := defScope s__law_paper) (by decide +kernel)) (fun _ _ _ _ _ => (pg_name (i := 4) sc__law_paper.nd rfl (by first | exact Or.inl rfl | exact Or.inr rfl))) (fun _ _ _ _ _ => pts_nil) (fun _ _ _ _ _ => (pe_ix (kIx K) (pv 0) (pv 4) (fun _ _ => rfl)))) pa_nil))) pa_nil))) rfl)))) pss_nil)))
      (pss_one (ps_ret (pv 1))))), fun args m R h => ?_⟩), hm, F.kp, F.binds (ps := ["_law_shares"]) fun _ _ _ _ _ _ us hl => match us, hl with | [_], _ => rfl⟩
  ·
    obtain ⟨_, rfl, _⟩ := h; rfl
  ·
    obtain ⟨ss, rfl, hs, q⟩ := h
    have hfew := hs.few
    have hsum := shares_sum hs
    have hal : (allS ss.length).length ≤ 32 := by
      rw [allS_len]
      exact Nat.le_trans (Nat.pow_le_pow_right (by decide) hfew) (by decide)
    refine w_seq (w_asg (ev_disp1 fun p hp => ev_tupT ?_))
    walk_at "dl1"
    refine ⟨[], rfl, by decide, _, rfl, ?_⟩
    walk_at "go"
    refine ⟨put_same, ?_⟩
    rw [put_put]
    refine w_seq (w_forLt (nss := (allS ss.length).map kn) ?_ (fun i r' m' => m' = put m p (.dT (tabT (timeT ss) (doneL (allS ss.length) i))) ∧ ∃ y2 y3 y4 y5, r' = [.d (tupI ss), .v (.ref p), y2, y3, y4, y5, .any]) ⟨rfl, _, _, _, _, rfl⟩ ?_ ?_)
    · walk_at "go"
      exact ⟨by omega, rfl, rfl⟩
    · rintro i ns r' m' hi ⟨rfl, y2, y3, y4, y5, rfl⟩
      obtain ⟨s, hsi, rfl⟩ : ∃ s, (allS ss.length)[i]? = some s ∧ ns = kn s := by
        rw [List.getElem?_map] at hi
        cases hx : (allS ss.length)[i]? with
        | none => rw [hx] at hi; cases hi
        | some s => rw [hx] at hi; cases hi; exact ⟨s, rfl, rfl⟩
      have hil := (List.getElem?_eq_some_iff.mp hsi).1
      have hsa := List.mem_of_getElem? hsi
      have hk := allS_kinds hsa
      have hkl := hk.len
      have hdl := doneL_len (allS ss.length) i
      walk_at "go"
      refine o2_ne (shaped_tupI (kn s)) (shaped_tupI []) ?_
      rw [show PyData.eqv (tupN s) (.tuple []) = decide (s = []) from (eqv_nilT (kn s)).trans (decide_eq_decide.mpr List.map_eq_nil_iff)]
      walk_at "go"
      by_cases h0 : s = []
      · refine br_f (by rw [decide_eq_true h0]; rfl) (w_next ?_)
        rw [doneL_step hsi, if_pos h0]
        exact ⟨rfl, _, _, _, _, rfl⟩
      · refine br_t (by rw [decide_eq_false h0]; rfl) ?_
        walk_at "go"
        refine w_forTf (xs := s) (f := intN) ?_ (fun j r' m' => m' = put m p (.dT (tabT (timeT ss) (doneL (allS ss.length) i))) ∧ ∃ y4 y5, r' = [.d (tupI ss), .v (.ref p), .t (kn s), .d (frac (dueAcc ss (timeT ss) s (s.take j))), y4, y5, .any]) ⟨rfl, _, _, rfl⟩ ?_ ?_
        · walk_at "go"
          exact ⟨by rw [tupN_eq], rfl⟩
        · rintro j k r2 m2 hj ⟨rfl, z4, z5, rfl⟩
          have hks := List.mem_of_getElem? hj
          have hkn := hk.lt k hks
          have hf := time_fr hs (kinds_without hk k)
          have ha := acc_fr hs hk j
          have hb9 := getD_bounds hs k
          have hbk : Bt (ss.getD k 0) 8 := bt_lit (n := 8) (by show (ss.getD k 0).natAbs < 256; omega) (by decide)
          refine w_seq (w_asg (ev_dget ?_))
          walk_at "go"
          refine ev_filTf (xs := s) (f := intN) ?_ (by omega) (fun x => !decide (x = k)) intN (fun x m2 hx hxx => ?_) (fun x m2 hx hxx hq => ?_) ?_
          · walk_at "go"
            exact ⟨by rw [tupN_eq], rfl⟩
          · walk_at "go"
            refine ⟨?_, rfl⟩
            rw [show decide ((x : Int) = (k : Int)) = decide (x = k) from decide_eq_decide.mpr (by omega)]
          · walk_at "go"
            exact ⟨rfl, rfl⟩
          walk_at "dl1"
          refine on_tupLtN ?_
          refine ⟨_, _, _, rfl, Or.inl put_same, getV_tab (doneL_mem (allS_ahead ⟨ss.length, by omega⟩ ⟨i, by omega⟩ s hsi k hks)), ?_⟩
          walk_at "go"
          refine o2_ixT (tupI_at hkn) ?_
          refine o2_mulI (hf.1.cmul hbk (by decide)) ?_
          walk_at "go"
          refine ⟨_, _, _, _, rfl, den_pos _, den_pos _, ha.1.mono (by decide), ha.2.mono (by decide), (hf.1.mul hbk).mono (by decide), hf.2.mono (by decide), ?_⟩
          rw [mk_self, mk_mul]
          refine ⟨rfl, .d (.int (k : Int)), .d (frac (timeT ss (s.filter fun x => !decide (x = k)))), ?_⟩
          have e : dueAcc ss (timeT ss) s (s.take (j + 1)) = dueAcc ss (timeT ss) s (s.take j) + ((ss.getD k 0 : Int) : Rat) * timeT ss (s.filter fun x => !decide (x = k)) := by
            unfold dueAcc
            rw [take_one hj, List.foldl_append]; rfl
          rw [e]
          rfl
        · rintro r2 m2 ⟨rfl, z4, z5, rfl⟩
          have ha := acc_fr hs hk s.length
          have hp1 := sumP_pos hs h0 hk.lt
          have hle := sumP_le hs hk
          rw [List.take_length] at ha ⊢
          refine w_dputV (ns := kn s) rfl ?_
          walk_at "go"
          refine ev_mapTf (xs := s) (f := intN) ?_ (by omega) (fun k => .int (ss.getD k 0)) (fun k m2 hk2 hx => ?_) ?_
          · walk_at "go"
            exact ⟨by rw [tupN_eq], rfl⟩
          · walk_at "go"
            exact o2_ixT (tupI_at (hk.lt k hk2)) ⟨rfl, rfl⟩
          walk_at "dl1"
          have es : s.map (fun k => PyData.int (ss.getD k 0)) = (s.map fun k => ss.getD k 0).map PyData.int := by rw [List.map_map]; rfl
          rw [es]
          refine on_sumL ?_
          have hsm : (s.map fun k => ss.getD k 0).sum = (((sumP ss s).toNat : Nat) : Int) := by
            show sumP ss s = _
            omega
          rw [hsm]
          have hbs : Bt (((sumP ss s).toNat : Nat) : Int) 8 := bt_lit (n := 8) (by show _ < 256; omega) (by decide)
          refine o2_mulI (ha.2.cmul hbs (by decide)) ?_
          walk_at "go"
          refine ⟨Nat.mul_pos (den_pos _) (by omega), ?_, ?_⟩
          · rw [Int.natCast_mul]; exact (ha.2.mul hbs).mono (by decide)
          rw [mk_over _ (by omega)]
          have et : dueAcc ss (timeT ss) s s * mkRat 1 (sumP ss s).toNat = timeT ss s := (timeT_step ss hk.up h0).symm
          rw [et]
          refine ev_var rfl (fun h => nomatch h) ⟨p, _, rfl, put_same, ?_, ?_⟩
          · rw [tab_len]; omega
          · rw [put_put, putV_tab (doneL_fresh (allS_nodup ⟨ss.length, by omega⟩) hsi h0), doneL_step hsi, if_neg h0]
            exact ⟨rfl, _, _, _, _, rfl⟩
    · rintro r' m' ⟨rfl, y2, y3, y4, y5, rfl⟩
      rw [List.length_map]
      walk_at "go"
      exact q p hp
abbrev s__law_due : Stmt := topS 41
theorem sc__law_due : FnScope ["_law_thing", "_law_shares", "_law_some", "_law_number", "_law_kind", "_law_piece", "_law_one"] ["_law_thing", "_law_shares", "_law_some"] (defScope s__law_due) := ⟨rfl, rfl, rfl, by decide +kernel, rfl, by decide +kernel, by decide +kernel⟩
theorem ok__law_due {a : Addr} {fd : FuncData} (F : Fun K "_law_due" "_law_due" s__law_due a fd) (hm : mg "_law_due" = some (.ref a)) (z_sum : mg "sum" = none) (z_tuple : mg "tuple" = none) (k__law_plus : Cl P w K mg base 3 "_law_plus" f_plusG) (k__law_made : Cl P w K mg base 2 "_law_made" f_made) :
    Cl P w K mg base 4 "_law_due" f_lawDueD := by
  refine ⟨a, fd, ["_law_thing", "_law_shares", "_law_some"], fn_ok F sc__law_due (fun args m R h => ?_) (fun cdv A outer s H E hr => ⟨_, (pss_cons (ps_set (i := 3) sc__law_due.nd rfl (by first | exact Or.inl rfl | exact Or.inr rfl) (pe_tup (pa_cons (pe_callB (kSum K) (by rfl) z_sum (by decide +kernel) (pa_cons (pv 1) pa_nil)) (pa_cons pe_int pa_nil))))
      (pss_cons (ps_for PassesOwn.never rfl (kiT K (pv 2)) (pg_name (i := 4) sc__law_due.nd rfl (by first | exact Or.inl rfl | exact Or.inr rfl)) (pss_cons (ps_set (i := 5) sc__law_due.nd rfl (by first | exact Or.inl rfl | exact Or.inr rfl) (pe_dget (hu_of hr) (pv 0) (pe_callTy (kTup K) (by rfl) z_tuple (by decide +kernel) (pa_cons (pe_lc (own := [("_law_one", 6)]) rfl sc__law_due.nd (kiT K (pv 2)) (blkOk_by (own := [("_law_one", 6)]) (N := ["_law_thing", "_law_shares", "_law_some", "_law_number", "_law_kind", "_law_piece", "_law_one"]) (sc := defScope s__law_due) (by decide +kernel)) (fun _ _ _ _ _ => (pg_name (i := 6) sc__law_due.nd rfl (by first | exact Or.inl rfl | exact Or.inr rfl))) (fun _ _ _ _ _ => (pts_one (pt_cmpR (kNe K hr) (pv 6) (pv 4) (nomark _)))) (fun _ _ _ _ _ => (pv 6))) pa_nil)) (fun _ _ => rfl)))
      (pss_one (ps_set (i := 3) sc__law_due.nd rfl (by first | exact Or.inl rfl | exact Or.inr rfl) (pe_cl k__law_plus hr (by decide) (by rfl) (pa_cons (pv 3) (pa_cons (pe_tup (pa_cons (pe_op (kMul K) (pe_ix (kIx K) (pv 5) pe_int (fun _ _ => rfl)) (pe_ix (kIx K) (pv 1) (pv 4) (fun _ _ => rfl))) (pa_cons (pe_ix (kIx K) (pv 5) pe_int (fun _ _ => rfl)) pa_nil))) pa_nil)))))))
      (pss_one (ps_ret (pe_cl k__law_made hr (by decide) (by rfl) (pa_cons (pe_ix (kIx K) (pv 3) pe_int (fun _ _ => rfl)) (pa_cons (pe_op (kMul K) (pe_ix (kIx K) (pv 3) pe_int (fun _ _ => rfl)) (pe_callB (kSum K) (by rfl) z_sum (by decide +kernel) (pa_cons (pe_lc (own := [("_law_kind", 4)]) rfl sc__law_due.nd (kiT K (pv 2)) (blkOk_by (own := [("_law_kind", 4)]) (N := ["_law_thing", "_law_shares", "_law_some", "_law_number", "_law_kind", "_law_piece", "_law_one"]) (sc := defScope s__law_due) (by decide +kernel)) (fun _ _ _ _ _ => (pg_name (i := 4) sc__law_due.nd rfl (by first | exact Or.inl rfl | exact Or.inr rfl))) (fun _ _ _ _ _ => pts_nil) (fun _ _ _ _ _ => (pe_ix (kIx K) (pv 1) (pv 4) (fun _ _ => rfl)))) pa_nil))) pa_nil))))))), fun args m R h => ?_⟩), hm, F.kp, F.binds (ps := ["_law_thing", "_law_shares", "_law_some"]) fun _ _ _ _ _ _ us hl => match us, hl with | [_, _, _], _ => rfl⟩
  ·
    obtain ⟨_, _, _, _, _, rfl, _⟩ := h; rfl
  ·
    obtain ⟨ss, s, p, kvs, P, rfl, hs, hk, h0, hd, hB, hg, q⟩ := h
    have hsl := hk.len
    have hfew := hs.few
    have hsum := shares_sum hs
    walk_at "go"
    refine w_forTf (xs := s) (f := intN) ?_ (fun j r' m' => m' = m ∧ ∃ y4 y5, r' = [.v (.ref p), .d (tupI ss), .d (tupN s), .d (frac (dueAcc ss P s (s.take j))), y4, y5, .any]) ⟨rfl, _, _, rfl⟩ ?_ ?_
    · walk_at "go"
      exact ⟨by rw [tupN_eq], rfl⟩
    · rintro j k r2 m2 hj ⟨rfl, z4, z5, rfl⟩
      have hks := List.mem_of_getElem? hj
      have hkn := hk.lt k hks
      have hf := hB.fr _ (kinds_without hk k)
      have ha := hB.acc s hk j
      have hb9 := getD_bounds hs k
      have hbk : Bt (ss.getD k 0) 8 := bt_lit (n := 8) (by show (ss.getD k 0).natAbs < 256; omega) (by decide)
      refine w_seq (w_asg (ev_dget ?_))
      walk_at "go"
      refine ev_filTf (xs := s) (f := intN) ?_ (by omega) (fun x => !decide (x = k)) intN (fun x m2 hx hxx => ?_) (fun x m2 hx hxx hq => ?_) ?_
      · walk_at "go"
        exact ⟨by rw [tupN_eq], rfl⟩
      · walk_at "go"
        refine ⟨?_, rfl⟩
        rw [show decide ((x : Int) = (k : Int)) = decide (x = k) from decide_eq_decide.mpr (by omega)]
      · walk_at "go"
        exact ⟨rfl, rfl⟩
      walk_at "dl1"
      refine on_tupLtN ?_
      refine ⟨_, _, _, rfl, hd, hg k hks, ?_⟩
      walk_at "go"
      refine o2_ixT (tupI_at hkn) ?_
      refine o2_mulI (hf.1.cmul hbk (by decide)) ?_
      walk_at "go"
      refine ⟨_, _, _, _, rfl, den_pos _, den_pos _, ha.1.mono (by decide), ha.2.mono (by decide), (hf.1.mul hbk).mono (by decide), hf.2.mono (by decide), ?_⟩
      rw [mk_self, mk_mul]
      refine ⟨rfl, .d (.int (k : Int)), .d (frac (P (s.filter fun x => !decide (x = k)))), ?_⟩
      have e : dueAcc ss P s (s.take (j + 1)) = dueAcc ss P s (s.take j) + ((ss.getD k 0 : Int) : Rat) * P (s.filter fun x => !decide (x = k)) := by
        unfold dueAcc
        rw [take_one hj, List.foldl_append]; rfl
      rw [e]
      rfl
    · rintro r2 m2 ⟨rfl, z4, z5, rfl⟩
      have ha := hB.acc s hk s.length
      have hp1 := sumP_pos hs h0 hk.lt
      have hle := sumP_le hs hk
      rw [List.take_length] at ha ⊢
      walk_at "go"
      refine ev_mapTf (xs := s) (f := intN) ?_ (by omega) (fun k => .int (ss.getD k 0)) (fun k m2 hk2 hx => ?_) ?_
      · walk_at "go"
        exact ⟨by rw [tupN_eq], rfl⟩
      · walk_at "go"
        exact o2_ixT (tupI_at (hk.lt k hk2)) ⟨rfl, rfl⟩
      walk_at "dl1"
      have es : s.map (fun k => PyData.int (ss.getD k 0)) = (s.map fun k => ss.getD k 0).map PyData.int := by rw [List.map_map]; rfl
      rw [es]
      refine on_sumL ?_
      have hsm : (s.map fun k => ss.getD k 0).sum = (((sumP ss s).toNat : Nat) : Int) := by
        show sumP ss s = _
        omega
      rw [hsm]
      have hbs : Bt (((sumP ss s).toNat : Nat) : Int) 8 := bt_lit (n := 8) (by show _ < 256; omega) (by decide)
      refine o2_mulI (ha.2.cmul hbs (by decide)) ?_
      walk_at "go"
      refine ⟨Nat.mul_pos (den_pos _) (by omega), ?_, ?_⟩
      · rw [Int.natCast_mul]; exact (ha.2.mul hbs).mono (by decide)
      rw [mk_over _ (by omega)]
      exact q
abbrev s_due_pairs : Stmt := topS 23
theorem sc_due_pairs : FnScope ["thing", "shares", "some"] ["thing", "shares"] (defScope s_due_pairs) := ⟨rfl, rfl, rfl, by decide +kernel, rfl, by decide +kernel, by decide +kernel⟩
theorem ok_due_pairs {a : Addr} {fd : FuncData} (F : Fun K "due_pairs" "due_pairs" s_due_pairs a fd) (hm : mg "due_pairs" = some (.ref a)) (z_range : mg "range" = none) (z_len : mg "len" = none) (z_list : mg "list" = none) (k_all_some : Cl P w K mg base 1 "all_some" f_allSome) (k_due_number : Cl P w K mg base 4 "due_number" f_dueF) :
    Cl P w K mg base 5 "due_pairs" f_duePairsD := by
  refine ⟨a, fd, ["thing", "shares"], fn_ok F sc_due_pairs (fun args m R h => ?_) (fun cdv A outer s H E hr => ⟨_, (pss_one (ps_ret (pe_lc (own := [("some", 2)]) rfl sc_due_pairs.nd (kiL K (pe_cl k_all_some hr (by decide) (by rfl) (pa_cons (pe_listRg rfl (by rfl) z_list (prg_1 (by rfl) z_range (pe_callB (kLen K) (by rfl) z_len (by decide +kernel) (pa_cons (pv 1) pa_nil)))) pa_nil))) (blkOk_by (own := [("some", 2)]) (N := ["thing", "shares", "some"]) (sc := defScope s_due_pairs) (by decide +kernel)) (fun _ _ _ _ _ => (pg_name (i := 2) sc_due_pairs.nd rfl (by first | exact Or.inl rfl | exact Or.inr rfl))) (fun _ _ _ _ _ => (pts_one (pt_cmpR (kNe K hr) (pv 2) (pe_tup pa_nil) (nomark _)))) (fun _ _ _ _ _ => (pe_tup (pa_cons (pe_dget (hu_of hr) (pv 0) (pv 2) (fun _ _ => rfl)) (pa_cons (pe_cl k_due_number hr (by decide) (by rfl) (pa_cons (pv 1) (pa_cons (pv 0) (pa_cons (pv 2) pa_nil)))) pa_nil))))))), fun args m R h => ?_⟩), hm, F.kp, F.binds (ps := ["thing", "shares"]) fun _ _ _ _ _ _ us hl => match us, hl with | [_, _], _ => rfl⟩
  ·
    obtain ⟨_, _, _, rfl, _⟩ := h; rfl
  ·
    obtain ⟨ss, p, kds, rfl, hP, q⟩ := h
    have hs := hP.sh
    have h5 := hs.few
    have hal : (allS ss.length).length ≤ 32 := by rw [allS_len]; exact Nat.pow_le_pow_right (by decide) h5
    refine w_ret (ev_lcLtD (nss := (allS ss.length).map kn) ?_ (by rw [List.length_map]; omega) (fun ns => !decide (ns = [])) (fun ns => .tuple [frac (numK kds (ns.map Int.toNat)), frac (dueT ss (numK kds) (ns.map Int.toNat))]) (fun ns m' hns hx => ?_) (fun ns m' hns hx hp => ?_) ?_)
    · walk_at "go"
      refine ev_lstR1 (n := ss.length) (by omega) ?_
      walk_at "go"
      refine ⟨rfl, ?_⟩
      rw [rngD_intN]
      walk_at "go"
      refine ⟨by rw [List.length_range]; omega, ?_⟩
      rw [allSL_range]
      exact ⟨rfl, rfl⟩
    · walk_at "go"
      refine o2_ne (shaped_tupI ns) (shaped_tupI []) ?_
      rw [eqv_nilT ns]
      exact ⟨_, rfl, rfl, rfl⟩
    · obtain ⟨s, hsm, rfl⟩ := List.mem_map.mp hns
      have hk := allS_kinds hsm
      have h0 : s ≠ [] := fun e => by rw [e] at hp; simp [kn] at hp
      have hmem := hx _ _ hP.mem
      have e : (kn s).map Int.toNat = s := by unfold kn; rw [List.map_map]; exact (List.map_congr_left fun k _ => Int.toNat_natCast k).trans (List.map_id _)
      rw [e]
      refine ev_tup (eva_cons (ev_dgetV (ns := kn s) rfl (ev_var rfl (fun h => nomatch h) ⟨p, _, _, rfl, Or.inl hmem, hP.get hk, ?_⟩)))
      walk_at "go"
      refine ⟨ss, s, p, _, numK kds, rfl, hs, hk, h0, Or.inl hmem, hP.fb, fun k hks => hP.get (kinds_without hk k), ?_⟩
      walk_at "go"
      exact ⟨rfl, rfl⟩
    rw [someL_map, List.map_map]
    refine cast (congrArg (fun l => R (.d (.list l)) m) (List.map_congr_left fun s _ => ?_)) q
    show _ = PyData.tuple [frac (numK kds ((kn s).map Int.toNat)), frac (dueT ss (numK kds) ((kn s).map Int.toNat))]
    rw [show (kn s).map Int.toNat = s by unfold kn; rw [List.map_map]; exact (List.map_congr_left fun k _ => Int.toNat_natCast k).trans (List.map_id _)]
abbrev s__law_bounds : Stmt := topS 42
theorem sc__law_bounds : FnScope ["_law_thing", "_law_shares", "_law_found", "_law_some", "_law_due_here", "_law_away"] ["_law_thing", "_law_shares"] (defScope s__law_bounds) := ⟨rfl, rfl, rfl, by decide +kernel, rfl, by decide +kernel, by decide +kernel⟩
theorem ok__law_bounds {a : Addr} {fd : FuncData} (F : Fun K "_law_bounds" "_law_bounds" s__law_bounds a fd) (hm : mg "_law_bounds" = some (.ref a)) (z_len : mg "len" = none) (z_range : mg "range" = none) (z_tuple : mg "tuple" = none) (k__law_is_paper : Cl P w K mg base 3 "_law_is_paper" f_lawIsPap) (k__law_all_some : Cl P w K mg base 1 "_law_all_some" f_lawAllSomeT) (k__law_due : Cl P w K mg base 4 "_law_due" f_lawDueD) :
    Cl P w K mg base 5 "_law_bounds" f_lawBounds := by
  refine ⟨a, fd, ["_law_thing", "_law_shares"], fn_ok F sc__law_bounds (fun args m R h => ?_) (fun cdv A outer s H E hr => ⟨_, (pss_cons (ps_if (pt_not (pt_val (pe_cl k__law_is_paper hr (by decide) (by rfl) (pa_cons (pv 0) (pa_cons (pe_callB (kLen K) (by rfl) z_len (by decide +kernel) (pa_cons (pv 1) pa_nil)) pa_nil))))) (pss_one (ps_ret (pe_lst (pa_cons pe_non (pa_cons pe_non pa_nil))))) pss_nil)
      (pss_cons (ps_set (i := 2) sc__law_bounds.nd rfl (by first | exact Or.inl rfl | exact Or.inr rfl) (pe_op (kMul K) (pe_lst (pa_cons (pe_dget (hu_of hr) (pv 0) (pe_tupRg rfl (by rfl) z_tuple (prg_1 (by rfl) z_range (pe_callB (kLen K) (by rfl) z_len (by decide +kernel) (pa_cons (pv 1) pa_nil)))) (fun _ _ => rfl)) pa_nil)) pe_int))
      (pss_cons (ps_for PassesOwn.never rfl (kiL K (pe_slice (kSlL K) (pe_cl k__law_all_some hr (by decide) (by rfl) (pa_cons (pe_callB (kLen K) (by rfl) z_len (by decide +kernel) (pa_cons (pv 1) pa_nil)) pa_nil)) (po_some pe_int) po_none)) (pg_name (i := 3) sc__law_bounds.nd rfl (by first | exact Or.inl rfl | exact Or.inr rfl)) (pss_cons (ps_set (i := 4) sc__law_bounds.nd rfl (by first | exact Or.inl rfl | exact Or.inr rfl) (pe_cl k__law_due hr (by decide) (by rfl) (pa_cons (pv 0) (pa_cons (pv 1) (pa_cons (pv 3) pa_nil)))))
      (pss_cons (ps_set (i := 5) sc__law_bounds.nd rfl (by first | exact Or.inl rfl | exact Or.inr rfl) (pe_op oSub (pe_op (kMul K) (pe_ix (kIx K) (pe_dget (hu_of hr) (pv 0) (pv 3) (fun _ _ => rfl)) pe_int (fun _ _ => rfl)) (pe_ix (kIx K) (pv 4) pe_int (fun _ _ => rfl))) (pe_op (kMul K) (pe_ix (kIx K) (pv 4) pe_int (fun _ _ => rfl)) (pe_ix (kIx K) (pe_dget (hu_of hr) (pv 0) (pv 3) (fun _ _ => rfl)) pe_int (fun _ _ => rfl)))))
      (pss_cons (ps_if (pt_cmpR oLt (pv 5) pe_int (nomark _)) (pss_one (ps_asg pe_non (pg_sub (pv 2) pe_int set_list))) pss_nil)
      (pss_one (ps_if (pt_cmpR oGt (pv 5) pe_int (nomark _)) (pss_one (ps_asg pe_non (pg_sub (pv 2) pe_int set_list))) pss_nil))))))
      (pss_one (ps_ret (pv 2)))))), fun args m R h => ?_⟩), hm, F.kp, F.binds (ps := ["_law_thing", "_law_shares"]) fun _ _ _ _ _ _ us hl => match us, hl with | [_, _], _ => rfl⟩
  ·
    obtain ⟨_, _, _, rfl, _⟩ := h; rfl
  ·
    obtain ⟨y, ss, t, rfl, hs, hy, hb, q⟩ := h
    have h5 := hs.few
    have h1 := hs.pos
    refine w_seq (w_if (evt_not (evt_B (ev_call (eva_cons ?_)))))
    refine ev_var rfl hy.ne ?_
    walk_at "go"
    refine ⟨y, ss.length, t, rfl, h1, h5, hy, ?_⟩
    cases hp : t.pap ss.length with
    | false =>
      refine ⟨_, rfl, br_t rfl ?_⟩
      refine w_ret (ev_lstD ?_)
      unfold Tg.over Tg.under at q
      rw [hp, if_neg (by decide), if_neg (by decide)] at q
      walk_at "go"
      exact q
    | true =>
      refine ⟨_, rfl, br_f rfl (w_next ?_)⟩
      cases t with
      | dat x => exact nomatch hp
      | dct kds =>
        obtain ⟨p, rfl, hm, hnd, hl, hit⟩ := hy
        have hp : okPap ss.length kds = true := hp
        have hP := pap_at hs hm hnd hp (hb hp)
        have hB := hP.fb
        obtain ⟨o1, o2, o3, o4⟩ := allS_drop ⟨ss.length, by omega⟩
        have o1 : (allS ss.length).drop 1 = someL ss.length := o1
        have e1 : Tg.over ss (.dct kds) = ovL ss (numK kds) (someL ss.length) := by
          unfold Tg.over
          rw [if_pos (show Tg.pap ss.length (.dct kds) = true from hp)]
          rfl
        have e2 : Tg.under ss (.dct kds) = unL ss (numK kds) (someL ss.length) := by
          unfold Tg.under
          rw [if_pos (show Tg.pap ss.length (.dct kds) = true from hp)]
          rfl
        rw [e1, e2] at q
        refine w_seq (w_asg (ev_lstMul ?_))
        refine eva_cons (ev_dget (ev_var rfl (fun h => nomatch h) ⟨p, rfl, ?_⟩))
        refine ev_tupR1t (n := ss.length) (by omega) ?_
        walk_at "go"
        refine ⟨rfl, _, _, _, rfl, Or.inl hP.mem, hP.get (s := List.range ss.length) (kinds_all ss.length), ?_⟩
        refine eva_nil ⟨[frac (numK kds (List.range ss.length))], rfl, by show 1 ≤ 100; decide, ?_⟩
        walk_at "go"
        refine ⟨by decide, fun l hl => ?_⟩
        have hpl : p ≠ l := ne_of_get hm hl
        refine w_seq (w_forLt (nss := (someL ss.length).map kn) ?_ (fun i r' m' => (∃ y3 y4 y5, r' = [.v (.ref p), .d (tupI ss), .v (.ref l), y3, y4, y5]) ∧ m' = put m l (.lst [.d (ovL ss (numK kds) ((someL ss.length).take i)), .d (unL ss (numK kds) ((someL ss.length).take i))])) ⟨⟨_, _, _, rfl⟩, rfl⟩ ?_ ?_)
        · refine ev_slLt ?_
          walk_at "go"
          refine ⟨by omega, _, rfl, ?_⟩
          walk_at "go"
          refine ⟨rfl, ?_⟩
          rw [← List.map_drop, o1]
          exact ⟨rfl, rfl⟩
        · rintro i ns r' m' hi ⟨⟨y3, y4, y5, rfl⟩, rfl⟩
          obtain ⟨s, hsi, rfl⟩ : ∃ s, (someL ss.length)[i]? = some s ∧ ns = kn s := by
            rw [List.getElem?_map] at hi
            cases hx : (someL ss.length)[i]? with
            | none => rw [hx] at hi; cases hi
            | some s => rw [hx] at hi; cases hi; exact ⟨s, rfl, rfl⟩
          obtain ⟨hk, h0⟩ := someL_k (List.mem_of_getElem? hsi)
          have hm2 : put m l (.lst [.d (ovL ss (numK kds) ((someL ss.length).take i)), .d (unL ss (numK kds) ((someL ss.length).take i))]) p = some (.dT (dI (dV kds))) := by rw [put_ne hpl]; exact hm
          have f1 := hB.fr s hk
          have f2 := hB.due hs hk h0
          walk_at "go"
          refine ⟨ss, s, p, _, numK kds, rfl, hs, hk, h0, Or.inl hm2, hB, fun k hks => hP.get (kinds_without hk k), ?_⟩
          refine w_seq (w_asg (ev_op (ev_op (ev_op (ev_dgetV (ns := kn s) rfl (ev_var rfl (fun h => nomatch h) ⟨p, _, _, rfl, Or.inl hm2, hP.get hk, ?_⟩))))))
          walk_at "go"
          refine o2_mulI (f1.1.cmul f2.2 (by decide)) ?_
          refine ev_op (ev_op (ev_var rfl (fun h => nomatch h) (ev_cI (o2_ixF0 ?_))))
          refine ev_op (ev_dgetV (ns := kn s) rfl (ev_var rfl (fun h => nomatch h) ⟨p, _, _, rfl, Or.inl hm2, hP.get hk, ?_⟩))
          refine ev_cI (o2_ixF1 ?_)
          refine o2_mulI (f2.1.cmul f1.2 (by decide)) ?_
          refine o2_sub ?_
          obtain ⟨l1, l2⟩ := lt_away (numK kds s) (dueT ss (numK kds) s)
          rw [take_one hsi, ovL_step, unL_step]
          generalize hz : (numK kds s).num * ((dueT ss (numK kds) s).den : Int) - (dueT ss (numK kds) s).num * ((numK kds s).den : Int) = z at *
          refine w_seq (Wp.imp (N := fun r3 m3 => (∃ y3 y4 : Val, r3 = [.v (.ref p), .d (tupI ss), .v (.ref l), y3, y4, .d (.int z)]) ∧ m3 = put m l (.lst [.d (if numK kds s < dueT ss (numK kds) s then .none else ovL ss (numK kds) ((someL ss.length).take i)), .d (unL ss (numK kds) ((someL ss.length).take i))])) (E := fun _ _ => False) (w_if ?_) ?_ (fun _ _ h => h.elim))
          · walk_at "go"
            by_cases hlt : z < 0
            · refine br_t (decide_eq_true hlt) ?_
              refine w_setM (p := l) ?_
              walk_at "go"
              refine ⟨rfl, ?_⟩
              walk_at "go"
              refine ⟨0, _, rfl, put_same, by show 0 < 2; decide, ?_⟩
              rw [put_put, if_pos (l1.mp hlt)]
              exact ⟨⟨_, _, rfl⟩, rfl⟩
            · refine br_f (decide_eq_false hlt) (w_next ?_)
              rw [if_neg fun h => hlt (l1.mpr h)]
              exact ⟨⟨_, _, rfl⟩, rfl⟩
          · rintro r3 m3 ⟨⟨y3, y4, rfl⟩, rfl⟩
            refine w_if ?_
            walk_at "go"
            by_cases hlt : 0 < z
            · refine br_t (decide_eq_true hlt) ?_
              refine w_setM (p := l) ?_
              walk_at "go"
              refine ⟨rfl, ?_⟩
              walk_at "go"
              refine ⟨1, _, rfl, put_same, by show 1 < 2; decide, ?_⟩
              rw [put_put, if_pos (l2.mp hlt)]
              exact ⟨⟨_, _, _, rfl⟩, rfl⟩
            · refine br_f (decide_eq_false hlt) (w_next ?_)
              rw [if_neg fun h => hlt (l2.mpr h)]
              exact ⟨⟨_, _, _, rfl⟩, rfl⟩
        · rintro r' m' ⟨⟨y3, y4, y5, rfl⟩, rfl⟩
          rw [List.length_map, List.take_length]
          refine w_ret (ev_freezeL (ev_var rfl (fun h => nomatch h) ⟨l, [ovL ss (numK kds) (someL ss.length), unL ss (numK kds) (someL ss.length)], rfl, put_same, ?_⟩))
          rw [del_put hl]
          exact q
abbrev s__law_grown : Stmt := topS 43
theorem sc__law_grown : FnScope ["_law_box_here", "_law_shares", "_law_way", "_law_found", "_law_some", "_law_due_here", "_law_more"] ["_law_box_here", "_law_shares", "_law_way"] (defScope s__law_grown) := ⟨rfl, rfl, rfl, by decide +kernel, rfl, by decide +kernel, by decide +kernel⟩
theorem ok__law_grown {a : Addr} {fd : FuncData} (F : Fun K "_law_grown" "_law_grown" s__law_grown a fd) (hm : mg "_law_grown" = some (.ref a)) (z_len : mg "len" = none) (k__law_all_some : Cl P w K mg base 1 "_law_all_some" f_lawAllSomeT) (k__law_due : Cl P w K mg base 4 "_law_due" f_lawDueD) (k__law_take : Cl P w K mg base 1 "_law_take" f_take) (k__law_plus : Cl P w K mg base 3 "_law_plus" f_plusG) :
    Cl P w K mg base 5 "_law_grown" f_grown := by
  refine ⟨a, fd, ["_law_box_here", "_law_shares", "_law_way"], fn_ok F sc__law_grown (fun args m R h => ?_) (fun cdv A outer s H E hr => ⟨_, (pss_cons (ps_set (i := 3) sc__law_grown.nd rfl (by first | exact Or.inl rfl | exact Or.inr rfl) (pe_disp1 hr (pe_tup pa_nil) (pe_tup (pa_cons pe_int (pa_cons pe_int pa_nil)))))
      (pss_cons (ps_for PassesOwn.never rfl (kiL K (pe_slice (kSlL K) (pe_cl k__law_all_some hr (by decide) (by rfl) (pa_cons (pe_callB (kLen K) (by rfl) z_len (by decide +kernel) (pa_cons (pv 1) pa_nil)) pa_nil)) (po_some pe_int) po_none)) (pg_name (i := 4) sc__law_grown.nd rfl (by first | exact Or.inl rfl | exact Or.inr rfl)) (pss_cons (ps_set (i := 5) sc__law_grown.nd rfl (by first | exact Or.inl rfl | exact Or.inr rfl) (pe_cl k__law_due hr (by decide) (by rfl) (pa_cons (pv 3) (pa_cons (pv 1) (pa_cons (pv 4) pa_nil)))))
      (pss_cons (ps_set (i := 6) sc__law_grown.nd rfl (by first | exact Or.inl rfl | exact Or.inr rfl) (pe_ix (kIx K) (pe_lst (pa_cons (pe_tup (pa_cons pe_int (pa_cons pe_int pa_nil))) (pa_cons (pe_tup (pa_cons pe_int (pa_cons (pe_op (kAdd K) pe_int (pe_cl k__law_take hr (by decide) (by rfl) (pa_cons (pv 0) (pa_cons pe_int pa_nil)))) pa_nil))) (pa_cons (pe_tup (pa_cons (pe_cl k__law_take hr (by decide) (by rfl) (pa_cons (pv 0) (pa_cons pe_int pa_nil))) (pa_cons pe_int pa_nil))) pa_nil)))) (pe_cl k__law_take hr (by decide) (by rfl) (pa_cons (pv 0) (pa_cons pe_int pa_nil))) (fun _ _ => rfl)))
      (pss_cons (ps_dput (hu_of hr) (pv 3) (pv 4) (pv 5) rfl)
      (pss_one (ps_if (PW.pt (pw_or (pt_cmpR (kEq K hr) (pv 2) pe_int (nomark _)) (pw_or1 (PW.pt (pw_and (pt_cmpR (kEq K hr) (pv 2) pe_int (nomark _)) (pw_and1 (pt_cmpR oGt (pe_cl k__law_take hr (by decide) (by rfl) (pa_cons (pv 0) (pa_cons pe_int pa_nil))) pe_int (nomark _)))))))) (pss_one (ps_dput (hu_of hr) (pv 3) (pv 4) (pe_cl k__law_plus hr (by decide) (by rfl) (pa_cons (pv 5) (pa_cons (pv 6) pa_nil))) rfl)) (pss_one (ps_if (pt_cmpR oGe (pe_op (kMul K) (pe_ix (kIx K) (pv 5) pe_int (fun _ _ => rfl)) (pe_ix (kIx K) (pv 6) pe_int (fun _ _ => rfl))) (pe_op (kMul K) (pe_ix (kIx K) (pv 6) pe_int (fun _ _ => rfl)) (pe_ix (kIx K) (pv 5) pe_int (fun _ _ => rfl))) (nomark _)) (pss_one (ps_dput (hu_of hr) (pv 3) (pv 4) (pe_cl k__law_plus hr (by decide) (by rfl) (pa_cons (pv 5) (pa_cons (pe_tup (pa_cons (pe_op oSub pe_int (pe_ix (kIx K) (pv 6) pe_int (fun _ _ => rfl))) (pa_cons (pe_ix (kIx K) (pv 6) pe_int (fun _ _ => rfl)) pa_nil))) pa_nil))) rfl)) pss_nil))))))))
      (pss_one (ps_ret (pv 3))))), fun args m R h => ?_⟩), hm, F.kp, F.binds (ps := ["_law_box_here", "_law_shares", "_law_way"]) fun _ _ _ _ _ _ us hl => match us, hl with | [_, _, _], _ => rfl⟩
  ·
    obtain ⟨_, _, _, rfl, _⟩ := h; rfl
  ·
    obtain ⟨ss, b, w, rfl, hb, hs, h4, hw, q⟩ := h
    have h5 := hs.few
    have h1 := hs.pos
    obtain ⟨o1, o2, o3, o4⟩ := allS_drop ⟨ss.length, by omega⟩
    have o1 : (allS ss.length).drop 1 = someL ss.length := o1
    have o2 : allS ss.length = [] :: someL ss.length := o2
    have hal := someL_len h5
    refine w_seq (w_asg (ev_disp1 fun p hp => ev_tupT ?_))
    walk_at "dl1"
    refine ⟨[], rfl, by decide, _, rfl, ?_⟩
    walk_at "go"
    refine ⟨put_same, ?_⟩
    rw [put_put]
    have hbp : b ≠ p := ne_of_get hb hp
    refine w_seq (w_forLt (nss := (someL ss.length).map kn) ?_ (fun i r' m' => (∃ y4 y5 y6, r' = [.v (.ref b), .d (tupI ss), .d (.int (w : Int)), .v (.ref p), y4, y5, y6]) ∧ ∃ P : List Nat → Rat, P [] = 0 ∧ (∀ s ∈ (someL ss.length).take i, LB ss P s) ∧ m' = put m p (.dT (tabT P ([] :: (someL ss.length).take i)))) ⟨⟨_, _, _, rfl⟩, fun _ => 0, rfl, (fun _ h => nomatch h), rfl⟩ ?_ ?_)
    · refine ev_slLt ?_
      walk_at "go"
      refine ⟨by omega, _, rfl, ?_⟩
      walk_at "go"
      refine ⟨rfl, ?_⟩
      rw [← List.map_drop, o1]
      exact ⟨rfl, rfl⟩
    · rintro i ns r' m' hi ⟨⟨y4, y5, y6, rfl⟩, P, hP0, hPb, rfl⟩
      obtain ⟨s, hsi, rfl⟩ : ∃ s, (someL ss.length)[i]? = some s ∧ ns = kn s := by
        rw [List.getElem?_map] at hi
        cases hx : (someL ss.length)[i]? with
        | none => rw [hx] at hi; cases hi
        | some s => rw [hx] at hi; cases hi; exact ⟨s, rfl, rfl⟩
      have hil := (List.getElem?_eq_some_iff.mp hsi).1
      obtain ⟨hk, h0⟩ := someL_k (List.mem_of_getElem? hsi)
      obtain ⟨ha1, ha2⟩ := someL_ahead ⟨ss.length, by omega⟩ ⟨i, by omega⟩ s hsi
      have ha1 : ∀ k ∈ s, wo s k ∈ [] :: (someL ss.length).take i := ha1
      have ha2 : s ∉ [] :: (someL ss.length).take i := ha2
      have hLB : ∀ u ∈ [] :: (someL ss.length).take i, LB ss P u := fun u hu => by
        rcases List.mem_cons.mp hu with rfl | hu
        · unfold LB
          rw [hP0]
          exact ⟨Rat.le_refl, Rat.le_refl, Nat.le_refl 1⟩
        · exact hPb u hu
      -- the paper so far, nought elsewhere
      have hP1 : FB ss (fun u => if u ∈ [] :: (someL ss.length).take i then P u else 0) := by
        refine GB.fb hs h4 (v := 1000000) (by decide) (LB.gb h4 fun u hu => ?_)
        unfold LB
        by_cases hm : u ∈ [] :: (someL ss.length).take i
        · show QB (if u ∈ [] :: (someL ss.length).take i then P u else 0) _ _
          rw [if_pos hm]; exact hLB u hm
        · show QB (if u ∈ [] :: (someL ss.length).take i then P u else 0) _ _
          rw [if_neg hm]; exact ⟨Rat.le_refl, by exact_mod_cast Nat.zero_le _, Nat.one_le_two_pow⟩
      have hdu : dueT ss (fun u => if u ∈ [] :: (someL ss.length).take i then P u else 0) s = dueT ss P s := by
        unfold dueT
        rw [dueAcc_congr (P' := P) (fun k hks => if_pos (ha1 k hks)) s (fun _ h => h)]
      have hbx : put m p (.dT (tabT P ([] :: (someL ss.length).take i))) b = some .box := by rw [put_ne hbp]; exact hb
      walk_at "go"
      refine ⟨ss, s, p, _, _, rfl, hs, hk, h0, Or.inl put_same, hP1, fun k hks => ?_, ?_⟩
      · rw [show (if (s.filter fun x => !decide (x = k)) ∈ [] :: (someL ss.length).take i then P (s.filter fun x => !decide (x = k)) else 0) = P (wo s k) from if_pos (ha1 k hks)]
        exact getV_tab (ha1 k hks)
      rw [hdu]
      -- more
      refine w_seq (w_asg (ev_op (ev_lstD ?_)))
      walk_at "go"
      refine ⟨hbx, by decide, bt_lit (n := 4) (by decide) (by decide), fun z1 hz0 hz1 => ?_⟩
      walk_at "go"
      refine ⟨hbx, by decide, bt_lit (n := 3) (by decide) (by decide), fun z2 hz2 hz3 => ?_⟩
      walk_at "go"
      refine ⟨hbx, by decide, bt_lit (n := 2) (by decide) (by decide), fun z3 hz4 hz5 => ?_⟩
      obtain ⟨c1, rfl⟩ : ∃ k : Nat, z1 = (k : Int) := ⟨z1.toNat, by omega⟩
      obtain ⟨c2, rfl⟩ : ∃ k : Nat, z2 = (k : Int) := ⟨z2.toNat, by omega⟩
      obtain ⟨mt, mb, hmq, hmat, hmt, hmb0, hmb⟩ : ∃ (mt mb : Nat), MoreQ (mkRat (mt : Int) mb) ∧ atI [PyData.tuple [.int 0, .int 1], .tuple [.int 1, .int (1 + (c1 : Int))], .tuple [.int (c2 : Int), .int 1]] z3 = some (.tuple [.int (mt : Int), .int (mb : Int)]) ∧ mt ≤ 9 ∧ 0 < mb ∧ mb ≤ 9 := by
        have : z3 = 0 ∨ z3 = 1 ∨ z3 = 2 := by omega
        rcases this with rfl | rfl | rfl
        · exact ⟨0, 1, more_zero, rfl, by decide, by decide, by decide⟩
        · refine ⟨1, 1 + c1, more_part (by omega), ?_, by decide, by omega, by omega⟩
          rw [show (((1 + c1 : Nat)) : Int) = 1 + (c1 : Int) by omega]; rfl
        · refine ⟨c2, 1, ?_, rfl, by omega, by decide, by decide⟩
          have := more_int (z := c2) (by omega)
          have e : mkRat ((c2 : Nat) : Int) 1 = (((c2 : Nat) : Int) : Rat) := Rat.mkRat_one _
          rw [e]; exact this
      refine o2_ixL hmat ?_
      obtain ⟨b1, b2, b3⟩ := LB_more hs hk h0 (fun k hks => hLB _ (ha1 k hks)) hmq
      have hsl := hk.len
      have hgl := gB_le (n := s.length) (by omega)
      have hvl := vB_le (n := s.length) (by omega)
      have hfd : FrB (dueT ss P s) 520 := (b1.frB (e := 20) (by show _ < 1048576; omega)).mono (by omega)
      have hbmt : Bt (mt : Int) 8 := bt_lit (n := 8) (by show _ < 256; omega) (by decide)
      have hbmb : Bt (mb : Int) 8 := bt_lit (n := 8) (by show _ < 256; omega) (by decide)
      have hbnt : Bt (0 - (mt : Int)) 8 := by
        have := hbmt.neg
        rw [show -(mt : Int) = 0 - (mt : Int) by omega] at this
        exact this
      -- found[some] = due
      refine w_seq (w_dputV (ns := kn s) rfl ?_)
      walk_at "go"
      refine ⟨p, _, rfl, put_same, by rw [tab_len, List.length_cons, List.length_take]; omega, ?_⟩
      have hnew : ∀ x : Rat, putV (tabT P ([] :: (someL ss.length).take i)) (kI (kn s)) (.d (frac x)) = tabT (updQ P s x) ([] :: (someL ss.length).take (i + 1)) := fun x => by
        have e1 : tabT P ([] :: (someL ss.length).take i) = tabT (updQ P s x) ([] :: (someL ss.length).take i) := tabT_same fun u hu => by
          have hne : ¬ u = s := fun e => ha2 (e ▸ hu)
          unfold updQ
          rw [if_neg hne]
        have e2 : frac x = frac (updQ P s x s) := by unfold updQ; rw [if_pos rfl]
        rw [e1, e2, putV_tab ha2, take_one hsi, List.cons_append]
      rw [put_put, hnew]
      have hnil : ∀ x : Rat, updQ P s x [] = 0 := fun x => by
        unfold updQ
        rw [if_neg fun e => h0 e.symm]; exact hP0
      have hall : ∀ x : Rat, QB x (gB s.length) (vB s.length) → ∀ u ∈ (someL ss.length).take (i + 1), LB ss (updQ P s x) u := fun x hx u hu => by
        unfold LB updQ
        by_cases e : u = s
        · rw [if_pos e, e]; exact hx
        · rw [if_neg e]
          rw [take_one hsi] at hu
          rcases List.mem_append.mp hu with hu | hu
          · exact hPb u hu
          · exact absurd (List.mem_singleton.mp hu) e
      have hmem : s ∈ [] :: (someL ss.length).take (i + 1) := by
        rw [take_one hsi]
        exact List.mem_cons_of_mem _ (List.mem_append_right _ (List.mem_singleton.mpr rfl))
      have hupd : ∀ x y : Rat, putV (tabT (updQ P s x) ([] :: (someL ss.length).take (i + 1))) (kI (kn s)) (.d (frac y)) = tabT (updQ P s y) ([] :: (someL ss.length).take (i + 1)) := fun x y => by
        rw [putV_tabT hmem]
        refine tabT_same fun u _ => ?_
        unfold updQ
        by_cases e : u = s
        · rw [if_pos e, if_pos e]
        · rw [if_neg e, if_neg e, if_neg e]
      have hbx2 : ∀ x : Rat, put m p (.dT (tabT (updQ P s x) ([] :: (someL ss.length).take (i + 1)))) b = some .box := fun x => by rw [put_ne hbp]; exact hb
      refine w_if (EvT.imp (Q := fun c m1 => m1 = put m p (.dT (tabT (updQ P s (dueT ss P s)) ([] :: (someL ss.length).take (i + 1))))) ?_ fun c m1 e => ⟨fun hc => ?_, fun hc => ?_⟩)
      · refine evt_or ?_
        walk_at "go"
        by_cases hw0 : (w : Int) = 0
        · exact br_t (decide_eq_true hw0) rfl
        · refine br_f (decide_eq_false hw0) (evt_and ?_)
          walk_at "go"
          by_cases hw2 : (w : Int) = 2
          · refine br_t (decide_eq_true hw2) ?_
            walk_at "go"
            refine ⟨hbx2 _, by decide, bt_lit (n := 3) (by decide) (by decide), fun z4 _ _ => ?_⟩
            walk_at "go"
            rfl
          · exact br_f (decide_eq_false hw2) rfl
      · subst e
        refine w_dputV (ns := kn s) rfl ?_
        walk_at "go"
        refine ⟨_, _, _, _, rfl, den_pos _, hmb0, hfd.1.mono (by decide), hfd.2.mono (by decide), hbmt.mono (by decide), hbmb.mono (by decide), ?_⟩
        rw [mk_self]
        refine ev_var rfl (fun h => nomatch h) ⟨p, _, rfl, put_same, by rw [tab_len, List.length_cons, List.length_take]; omega, ?_⟩
        rw [put_put, hupd]
        exact ⟨⟨_, _, _, rfl⟩, _, hnil _, hall _ b2, rfl⟩
      · subst e
        refine w_if ?_
        walk_at "go"
        refine o2_ixT (d := .int (mb : Int)) rfl ?_
        refine o2_mulI (hfd.1.cmul hbmb (by decide)) ?_
        walk_at "go"
        refine o2_ixT (d := .int (mt : Int)) rfl ?_
        walk_at "go"
        refine o2_mulI (hbmt.cmul hfd.2 (by decide)) ?_
        walk_at "go"
        by_cases hle : (mt : Int) * ((dueT ss P s).den : Int) ≤ (dueT ss P s).num * (mb : Int)
        · refine br_t (decide_eq_true hle) ?_
          refine w_dputV (ns := kn s) rfl ?_
          walk_at "go"
          refine o2_ixT (d := .int (mt : Int)) rfl ?_
          walk_at "go"
          refine o2_ixT (d := .int (mb : Int)) rfl ?_
          walk_at "go"
          refine ⟨_, _, _, _, rfl, den_pos _, hmb0, hfd.1.mono (by decide), hfd.2.mono (by decide), hbnt.mono (by decide), hbmb.mono (by decide), ?_⟩
          rw [mk_self, show dueT ss P s + mkRat (0 - (mt : Int)) mb = dueT ss P s - mkRat (mt : Int) mb by rw [Int.zero_sub, ← Rat.neg_mkRat, ← Rat.sub_eq_add_neg]]
          refine ev_var rfl (fun h => nomatch h) ⟨p, _, rfl, put_same, by rw [tab_len, List.length_cons, List.length_take]; omega, ?_⟩
          rw [put_put, hupd]
          exact ⟨⟨_, _, _, rfl⟩, _, hnil _, hall _ (b3 (mk_le hmb0 hle)), rfl⟩
        · refine br_f (decide_eq_false hle) (w_next ?_)
          exact ⟨⟨_, _, _, rfl⟩, _, hnil _, hall _ b1, rfl⟩
    · rintro r' m' ⟨⟨y4, y5, y6, rfl⟩, P, hP0, hPb, rfl⟩
      rw [List.length_map, List.take_length] at *
      walk_at "go"
      rw [← o2]
      refine q P p hp hP0 fun s hk => ?_
      have hm : s ∈ [] :: someL ss.length := by rw [← o2]; exact kinds_allS hk
      rcases List.mem_cons.mp hm with rfl | hm
      · unfold LB
        rw [hP0]
        exact ⟨Rat.le_refl, Rat.le_refl, Nat.le_refl 1⟩
      · exact hPb s hm
abbrev s_over_bound : Stmt := topS 24
theorem sc_over_bound : FnScope ["thing", "shares", "one", "due"] ["thing", "shares"] (defScope s_over_bound) := ⟨rfl, rfl, rfl, by decide +kernel, rfl, by decide +kernel, by decide +kernel⟩
theorem ok_over_bound {a : Addr} {fd : FuncData} (F : Fun K "over_bound" "over_bound" s_over_bound a fd) (hm : mg "over_bound" = some (.ref a)) (z_any : mg "any" = none) (z_range : mg "range" = none) (z_len : mg "len" = none) (z_tuple : mg "tuple" = none) (k_need_shares : Cl P w K mg base 3 "need_shares" f_needShares) (k_due_pairs : Cl P w K mg base 5 "due_pairs" f_duePairsD) (k_below : Cl P w K mg base 1 "below" f_below) (k_is_paper : Cl P w K mg base 4 "is_paper" f_isPapG) :
    Cl P w K mg base 6 "over_bound" f_overG := by
  refine ⟨a, fd, ["thing", "shares"], fn_ok F sc_over_bound (fun args m R h => ?_) (fun cdv A outer s H E hr => ⟨_, (pss_cons (ps_expr (pe_cl k_need_shares hr (by decide) (by rfl) (pa_cons (pv 1) pa_nil)))
      (pss_cons (ps_if (PW.pt (pw_or (pt_not (pt_val (pe_cl k_is_paper hr (by decide) (by rfl) (pa_cons (pv 0) (pa_cons (pv 1) pa_nil))))) (pw_or1 (pt_val (pe_callB (kAny K) (by rfl) z_any (by decide +kernel) (pa_cons (pe_lc (own := [("one", 2), ("due", 3)]) rfl sc_over_bound.nd (kiL K (pe_cl k_due_pairs hr (by decide) (by rfl) (pa_cons (pv 0) (pa_cons (pv 1) pa_nil)))) (blkOk_by (own := [("one", 2), ("due", 3)]) (N := ["thing", "shares", "one", "due"]) (sc := defScope s_over_bound) (by decide +kernel)) (fun _ _ _ _ _ => (kgT K (pg_tup (n := 2) rfl (pgs_cons (pg_name (i := 2) sc_over_bound.nd rfl (by first | exact Or.inl rfl | exact Or.inr rfl)) (pgs_cons (pg_name (i := 3) sc_over_bound.nd rfl (by first | exact Or.inl rfl | exact Or.inr rfl)) pgs_nil))))) (fun _ _ _ _ _ => pts_nil) (fun _ _ _ _ _ => (pe_cl k_below hr (by decide) (by rfl) (pa_cons (pv 2) (pa_cons (pv 3) pa_nil))))) pa_nil)))))) (pss_one (ps_ret pe_non)) pss_nil)
      (pss_one (ps_ret (pe_dget (hu_of hr) (pv 0) (pe_tupRg rfl (by rfl) z_tuple (prg_1 (by rfl) z_range (pe_callB (kLen K) (by rfl) z_len (by decide +kernel) (pa_cons (pv 1) pa_nil)))) (fun _ _ => rfl)))))), fun args m R h => ?_⟩), hm, F.kp, F.binds (ps := ["thing", "shares"]) fun _ _ _ _ _ _ us hl => match us, hl with | [_, _], _ => rfl⟩
  ·
    obtain ⟨_, _, _, rfl, _⟩ := h; rfl
  ·
    obtain ⟨y, ss, t, rfl, hs, hy, hb, q⟩ := h
    have h5 := hs.few
    have hal := someL_len h5
    have h1 := hs.pos
    walk_at "go"
    refine ⟨isShares_of hs, ?_⟩
    refine w_seq (w_if (evt_or (evt_not (evt_B (ev_call (eva_cons ?_))))))
    refine ev_var rfl hy.ne ?_
    walk_at "go"
    refine ⟨y, ss, t, rfl, hs, hy, ?_⟩
    cases hp : t.pap ss.length with
    | false =>
      refine ⟨_, rfl, br_t rfl (br_t rfl ?_)⟩
      unfold Tg.over at q
      rw [hp, if_neg (by decide)] at q
      walk_at "go"
      exact q
    | true =>
      refine ⟨_, rfl, br_f rfl ?_⟩
      cases t with
      | dat x => exact nomatch hp
      | dct kds =>
        obtain ⟨p, rfl, hm, hnd, hl, hit⟩ := hy
        have hp : okPap ss.length kds = true := hp
        have hP := pap_at hs hm hnd hp (hb hp)
        have q : R (.d (if ovB ss (numK kds) = true then .none else frac (numK kds (List.range ss.length)))) m := by
          have e : Tg.over ss (.dct kds) = if ovB ss (numK kds) = true then .none else frac (numK kds (List.range ss.length)) := by
            unfold Tg.over
            rw [if_pos (show Tg.pap ss.length (.dct kds) = true from hp)]
            rfl
          rw [e] at q
          exact q
        walk_at "go"
        refine ev_mapL2 (xs := someL ss.length) (f1 := fun s => frac (numK kds s)) (f2 := fun s => frac (dueT ss (numK kds) s)) (by decide) ?_ (by omega) (fun s => .bool (decide (numK kds s < dueT ss (numK kds) s))) (fun s m' hsm hx => ?_) ?_
        · walk_at "go"
          exact ⟨ss, p, kds, rfl, hP, rfl, rfl⟩
        · obtain ⟨k1, k2⟩ := someL_k hsm
          have f1 := hP.fb.fr s k1
          have f2 := hP.fb.due hs k1 k2
          walk_at "go"
          exact ⟨f1.mono (by decide), f2.mono (by decide), rfl, rfl⟩
        rw [show ((someL ss.length).map fun s => PyData.bool (decide (numK kds s < dueT ss (numK kds) s))) = ((someL ss.length).map fun s => decide (numK kds s < dueT ss (numK kds) s)).map PyData.bool by rw [List.map_map]; rfl]
        refine eva_nil (on_any ?_)
        rw [List.any_map]
        walk_at "go"
        cases hv : ovB ss (numK kds) with
        | true =>
          refine br_t hv ?_
          rw [hv, if_pos rfl] at q
          walk_at "go"
          exact q
        | false =>
          refine br_f hv (w_next ?_)
          rw [hv, if_neg (by decide)] at q
          refine w_ret (ev_dget (ev_var rfl (fun h => nomatch h) ⟨p, rfl, ?_⟩))
          refine ev_tupR1t (n := ss.length) (by omega) ?_
          walk_at "go"
          exact ⟨rfl, _, _, _, rfl, Or.inl hP.mem, hP.get (s := List.range ss.length) (kinds_all ss.length), q⟩
abbrev s_under_bound : Stmt := topS 25
theorem sc_under_bound : FnScope ["thing", "shares", "one", "due"] ["thing", "shares"] (defScope s_under_bound) := ⟨rfl, rfl, rfl, by decide +kernel, rfl, by decide +kernel, by decide +kernel⟩
theorem ok_under_bound {a : Addr} {fd : FuncData} (F : Fun K "under_bound" "under_bound" s_under_bound a fd) (hm : mg "under_bound" = some (.ref a)) (z_any : mg "any" = none) (z_range : mg "range" = none) (z_len : mg "len" = none) (z_tuple : mg "tuple" = none) (k_need_shares : Cl P w K mg base 3 "need_shares" f_needShares) (k_due_pairs : Cl P w K mg base 5 "due_pairs" f_duePairsD) (k_below : Cl P w K mg base 1 "below" f_below) (k_is_paper : Cl P w K mg base 4 "is_paper" f_isPapG) :
    Cl P w K mg base 6 "under_bound" f_underG := by
  refine ⟨a, fd, ["thing", "shares"], fn_ok F sc_under_bound (fun args m R h => ?_) (fun cdv A outer s H E hr => ⟨_, (pss_cons (ps_expr (pe_cl k_need_shares hr (by decide) (by rfl) (pa_cons (pv 1) pa_nil)))
      (pss_cons (ps_if (PW.pt (pw_or (pt_not (pt_val (pe_cl k_is_paper hr (by decide) (by rfl) (pa_cons (pv 0) (pa_cons (pv 1) pa_nil))))) (pw_or1 (pt_val (pe_callB (kAny K) (by rfl) z_any (by decide +kernel) (pa_cons (pe_lc (own := [("one", 2), ("due", 3)]) rfl sc_under_bound.nd (kiL K (pe_cl k_due_pairs hr (by decide) (by rfl) (pa_cons (pv 0) (pa_cons (pv 1) pa_nil)))) (blkOk_by (own := [("one", 2), ("due", 3)]) (N := ["thing", "shares", "one", "due"]) (sc := defScope s_under_bound) (by decide +kernel)) (fun _ _ _ _ _ => (kgT K (pg_tup (n := 2) rfl (pgs_cons (pg_name (i := 2) sc_under_bound.nd rfl (by first | exact Or.inl rfl | exact Or.inr rfl)) (pgs_cons (pg_name (i := 3) sc_under_bound.nd rfl (by first | exact Or.inl rfl | exact Or.inr rfl)) pgs_nil))))) (fun _ _ _ _ _ => pts_nil) (fun _ _ _ _ _ => (pe_cl k_below hr (by decide) (by rfl) (pa_cons (pv 3) (pa_cons (pv 2) pa_nil))))) pa_nil)))))) (pss_one (ps_ret pe_non)) pss_nil)
      (pss_one (ps_ret (pe_dget (hu_of hr) (pv 0) (pe_tupRg rfl (by rfl) z_tuple (prg_1 (by rfl) z_range (pe_callB (kLen K) (by rfl) z_len (by decide +kernel) (pa_cons (pv 1) pa_nil)))) (fun _ _ => rfl)))))), fun args m R h => ?_⟩), hm, F.kp, F.binds (ps := ["thing", "shares"]) fun _ _ _ _ _ _ us hl => match us, hl with | [_, _], _ => rfl⟩
  ·
    obtain ⟨_, _, _, rfl, _⟩ := h; rfl
  ·
    obtain ⟨y, ss, t, rfl, hs, hy, hb, q⟩ := h
    have h5 := hs.few
    have hal := someL_len h5
    have h1 := hs.pos
    walk_at "go"
    refine ⟨isShares_of hs, ?_⟩
    refine w_seq (w_if (evt_or (evt_not (evt_B (ev_call (eva_cons ?_))))))
    refine ev_var rfl hy.ne ?_
    walk_at "go"
    refine ⟨y, ss, t, rfl, hs, hy, ?_⟩
    cases hp : t.pap ss.length with
    | false =>
      refine ⟨_, rfl, br_t rfl (br_t rfl ?_)⟩
      unfold Tg.under at q
      rw [hp, if_neg (by decide)] at q
      walk_at "go"
      exact q
    | true =>
      refine ⟨_, rfl, br_f rfl ?_⟩
      cases t with
      | dat x => exact nomatch hp
      | dct kds =>
        obtain ⟨p, rfl, hm, hnd, hl, hit⟩ := hy
        have hp : okPap ss.length kds = true := hp
        have hP := pap_at hs hm hnd hp (hb hp)
        have q : R (.d (if unB ss (numK kds) = true then .none else frac (numK kds (List.range ss.length)))) m := by
          have e : Tg.under ss (.dct kds) = if unB ss (numK kds) = true then .none else frac (numK kds (List.range ss.length)) := by
            unfold Tg.under
            rw [if_pos (show Tg.pap ss.length (.dct kds) = true from hp)]
            rfl
          rw [e] at q
          exact q
        walk_at "go"
        refine ev_mapL2 (xs := someL ss.length) (f1 := fun s => frac (numK kds s)) (f2 := fun s => frac (dueT ss (numK kds) s)) (by decide) ?_ (by omega) (fun s => .bool (decide (dueT ss (numK kds) s < numK kds s))) (fun s m' hsm hx => ?_) ?_
        · walk_at "go"
          exact ⟨ss, p, kds, rfl, hP, rfl, rfl⟩
        · obtain ⟨k1, k2⟩ := someL_k hsm
          have f1 := hP.fb.fr s k1
          have f2 := hP.fb.due hs k1 k2
          walk_at "go"
          exact ⟨f2.mono (by decide), f1.mono (by decide), rfl, rfl⟩
        rw [show ((someL ss.length).map fun s => PyData.bool (decide (dueT ss (numK kds) s < numK kds s))) = ((someL ss.length).map fun s => decide (dueT ss (numK kds) s < numK kds s)).map PyData.bool by rw [List.map_map]; rfl]
        refine eva_nil (on_any ?_)
        rw [List.any_map]
        walk_at "go"
        cases hv : unB ss (numK kds) with
        | true =>
          refine br_t hv ?_
          rw [hv, if_pos rfl] at q
          walk_at "go"
          exact q
        | false =>
          refine br_f hv (w_next ?_)
          rw [hv, if_neg (by decide)] at q
          refine w_ret (ev_dget (ev_var rfl (fun h => nomatch h) ⟨p, rfl, ?_⟩))
          refine ev_tupR1t (n := ss.length) (by omega) ?_
          walk_at "go"
          exact ⟨rfl, _, _, _, rfl, Or.inl hP.mem, hP.get (s := List.range ss.length) (kinds_all ss.length), q⟩
abbrev s_law : Stmt := topS 45
theorem sc_law : FnScope ["_law_script", "_law_k", "_law_box_here", "_law_shares", "_law_odd_here", "_law_papers", "_law_nothing", "_law_swapped", "_law_things", "_law_thing", "_law_as_it_was", "_law_found", "_law_way", "_law_some", "_law_lap"] ["_law_script"] (defScope s_law) := ⟨rfl, rfl, rfl, by decide +kernel, rfl, by decide +kernel, by decide +kernel⟩
theorem ok_law {a : Addr} {fd : FuncData} (F : Fun K "law" "law" s_law a fd) (z_range : mg "range" = none) (z_max : mg "max" = none) (z_min : mg "min" = none) (z_len : mg "len" = none) (z_int : mg "int" = none) (z_dict : mg "dict" = none) (z_repr : mg "repr" = none) (k__law_box : Cl P w K mg base 2 "_law_box" f_box) (k__law_drawn_shares : Cl P w K mg base 2 "_law_drawn_shares" f_drawnShares) (k__law_take : Cl P w K mg base 1 "_law_take" f_take) (k__law_odd : Cl P w K mg base 2 "_law_odd" f_odd) (k__law_grown : Cl P w K mg base 5 "_law_grown" f_grown) (k__law_paper : Cl P w K mg base 4 "_law_paper" f_lawPaper) (k__law_all_some : Cl P w K mg base 1 "_law_all_some" f_lawAllSomeT) (k__law_bent : Cl P w K mg base 2 "_law_bent" f_bent17) (k_under_bound : Cl P w K mg base 6 "under_bound" f_underG) (k_over_bound : Cl P w K mg base 6 "over_bound" f_overG) (k__law_bounds : Cl P w K mg base 5 "_law_bounds" f_lawBounds) (hsy : SysAt base) :
    FnG P w K mg base 7 a fd ["_law_script"] (spD K f_law) := by
  refine fnG_ok F sc_law (fun args m R h => ?_) (fun cdv A outer s H E hg hr => ⟨_, (pss_cons (ps_for PassesOwn.never rfl (pi_range1 (by rfl) z_range (pa_cons (pe_callB (cMax rfl) (by rfl) z_max (by decide +kernel) (pa_cons pe_int (pa_cons (pe_callB (cMin rfl) (by rfl) z_min (by decide +kernel) (pa_cons (pe_callB (kLen K) (by rfl) z_len (by decide +kernel) (pa_cons (pv 0) pa_nil)) (pa_cons pe_int pa_nil))) pa_nil))) pa_nil)) (pg_name (i := 1) sc_law.nd rfl (by first | exact Or.inl rfl | exact Or.inr rfl)) (pss_cons (ps_set (i := 2) sc_law.nd rfl (by first | exact Or.inl rfl | exact Or.inr rfl) (pe_cl k__law_box hr (by decide) (by rfl) (pa_cons (pv 0) (pa_cons (pv 1) pa_nil))))
      (pss_cons (ps_set (i := 3) sc_law.nd rfl (by first | exact Or.inl rfl | exact Or.inr rfl) (pe_cl k__law_drawn_shares hr (by decide) (by rfl) (pa_cons (pv 2) (pa_cons (pe_op (kAdd K) pe_int (pe_callTy cInt (by rfl) z_int (by decide +kernel) (pa_cons (pe_cmpR (kEq K hr) (pe_cl k__law_take hr (by decide) (by rfl) (pa_cons (pv 2) (pa_cons pe_int pa_nil))) pe_int (nomark _)) pa_nil))) (pa_cons pe_int pa_nil)))))
      (pss_cons (ps_set (i := 4) sc_law.nd rfl (by first | exact Or.inl rfl | exact Or.inr rfl) (pe_cl k__law_odd hr (by decide) (by rfl) (pa_cons (pv 2) pa_nil)))
      (pss_cons (ps_set (i := 5) sc_law.nd rfl (by first | exact Or.inl rfl | exact Or.inr rfl) (pe_op (kAdd K) (pe_lc (own := [("_law_way", 12)]) rfl sc_law.nd (pi_range1 (by rfl) z_range (pa_cons pe_int pa_nil)) (blkOk_by (own := [("_law_way", 12)]) (N := ["_law_script", "_law_k", "_law_box_here", "_law_shares", "_law_odd_here", "_law_papers", "_law_nothing", "_law_swapped", "_law_things", "_law_thing", "_law_as_it_was", "_law_found", "_law_way", "_law_some", "_law_lap"]) (sc := defScope s_law) (by decide +kernel)) (fun _ _ _ _ _ => (pg_name (i := 12) sc_law.nd rfl (by first | exact Or.inl rfl | exact Or.inr rfl))) (fun _ _ _ _ _ => pts_nil) (fun _ _ _ _ _ => (pe_cl k__law_grown hr (by decide) (by rfl) (pa_cons (pv 2) (pa_cons (pv 3) (pa_cons (pv 12) pa_nil)))))) (pe_lst (pa_cons (pe_cl k__law_paper hr (by decide) (by rfl) (pa_cons (pv 3) pa_nil)) pa_nil))))
      (pss_cons (ps_set (i := 6) sc_law.nd rfl (by first | exact Or.inl rfl | exact Or.inr rfl) (pe_callTy (kDictP K hr) (by rfl) z_dict (by decide +kernel) (pa_cons (pe_lc (own := [("_law_some", 13)]) rfl sc_law.nd (kiL K (pe_cl k__law_all_some hr (by decide) (by rfl) (pa_cons (pe_callB (kLen K) (by rfl) z_len (by decide +kernel) (pa_cons (pv 3) pa_nil)) pa_nil))) (blkOk_by (own := [("_law_some", 13)]) (N := ["_law_script", "_law_k", "_law_box_here", "_law_shares", "_law_odd_here", "_law_papers", "_law_nothing", "_law_swapped", "_law_things", "_law_thing", "_law_as_it_was", "_law_found", "_law_way", "_law_some", "_law_lap"]) (sc := defScope s_law) (by decide +kernel)) (fun _ _ _ _ _ => (pg_name (i := 13) sc_law.nd rfl (by first | exact Or.inl rfl | exact Or.inr rfl))) (fun _ _ _ _ _ => pts_nil) (fun _ _ _ _ _ => (pe_tup (pa_cons (pv 13) (pa_cons (pe_tup (pa_cons pe_int (pa_cons pe_int pa_nil))) pa_nil))))) pa_nil)))
      (pss_cons (ps_set (i := 7) sc_law.nd rfl (by first | exact Or.inl rfl | exact Or.inr rfl) (pe_callTy (kDictC hr) (by rfl) z_dict (by decide +kernel) (pa_cons (pe_ix (kIx K) (pv 5) pe_int (fun _ _ => rfl)) pa_nil)))
      (pss_cons (ps_dput (hu_of hr) (pv 7) (pe_tup (pa_cons (pe_callB (kLen K) (by rfl) z_len (by decide +kernel) (pa_cons (pv 3) pa_nil)) pa_nil)) (kPop1T K (pe_bm PySem.F.plainAttrs_dict PySem.F.slot_dict_pop PySem.F.type_dict_pop (mt_pop1T (hu_of hr)) (pv 7) (pa_cons (pe_tup (pa_cons pe_int pa_nil)) pa_nil))) rfl)
      (pss_cons (ps_set (i := 8) sc_law.nd rfl (by first | exact Or.inl rfl | exact Or.inr rfl) (pe_op (kAdd K) (pv 5) (pe_lst (pa_cons (pv 6) (pa_cons (pv 7) (pa_cons (pv 4) pa_nil))))))
      (pss_cons (ps_set (i := 8) sc_law.nd rfl (by first | exact Or.inl rfl | exact Or.inr rfl) (pe_op (kAdd K) (pv 8) (pe_lc (own := [("_law_lap", 14)]) rfl sc_law.nd (pi_range1 (by rfl) z_range (pa_cons pe_int pa_nil)) (blkOk_by (own := [("_law_lap", 14)]) (N := ["_law_script", "_law_k", "_law_box_here", "_law_shares", "_law_odd_here", "_law_papers", "_law_nothing", "_law_swapped", "_law_things", "_law_thing", "_law_as_it_was", "_law_found", "_law_way", "_law_some", "_law_lap"]) (sc := defScope s_law) (by decide +kernel)) (fun _ _ _ _ _ => (pg_name (i := 14) sc_law.nd rfl (by first | exact Or.inl rfl | exact Or.inr rfl))) (fun _ _ _ _ _ => pts_nil) (fun _ _ _ _ _ => (pe_cl k__law_bent hr (by decide) (by rfl) (pa_cons (pv 2) (pa_cons (pe_ix (kIx K) (pv 5) (pe_cl k__law_take hr (by decide) (by rfl) (pa_cons (pv 2) (pa_cons pe_int pa_nil))) (fun _ _ => rfl)) (pa_cons (pv 4) pa_nil))))))))
      (pss_one (ps_for PassesOwn.never rfl (kiL K (pv 8)) (pg_name (i := 9) sc_law.nd rfl (by first | exact Or.inl rfl | exact Or.inr rfl)) (pss_cons (ps_set (i := 10) sc_law.nd rfl (by first | exact Or.inl rfl | exact Or.inr rfl) (pe_callB (kReprA K hr hg hsy) (by rfl) z_repr (by decide +kernel) (pa_cons (pv 9) pa_nil)))
      (pss_cons (ps_set (i := 11) sc_law.nd rfl (by first | exact Or.inl rfl | exact Or.inr rfl) (pe_lst (pa_cons (pe_cl k_over_bound hr (by decide) (by rfl) (pa_cons (pv 9) (pa_cons (pv 3) pa_nil))) (pa_cons (pe_cl k_under_bound hr (by decide) (by rfl) (pa_cons (pv 9) (pa_cons (pv 3) pa_nil))) pa_nil))))
      (pss_one (ps_if (PW.pt (pw_or (pt_cmpR (kNe K hr) (pe_callB (kReprA K hr hg hsy) (by rfl) z_repr (by decide +kernel) (pa_cons (pv 11) pa_nil)) (pe_callB (kReprA K hr hg hsy) (by rfl) z_repr (by decide +kernel) (pa_cons (pe_cl k__law_bounds hr (by decide) (by rfl) (pa_cons (pv 9) (pa_cons (pv 3) pa_nil))) pa_nil)) (nomark _)) (pw_or1 (pt_cmpR (kNe K hr) (pe_callB (kReprA K hr hg hsy) (by rfl) z_repr (by decide +kernel) (pa_cons (pv 9) pa_nil)) (pv 10) (nomark _))))) (pss_one (ps_ret pe_bl)) pss_nil))))))))))))))))
      (pss_one (ps_ret pe_bl))), fun args m R h => ?_⟩)
  ·
    obtain ⟨_, rfl, _⟩ := h; rfl
  ·
    obtain ⟨ns, rfl, q⟩ := h
    walk_at "go"
    obtain ⟨n, hn, hn6⟩ : ∃ n : Nat, max (1 : Int) (min (ns.length : Int) 3) = (n : Int) ∧ n ≤ 3 := ⟨(max (1 : Int) (min (ns.length : Int) 3)).toNat, by omega, by omega⟩
    
    refine w_forR1 (n := n) ?_ (by omega) (fun i r' m' => ∃ y1 y2 y3 y4 y5 y6 y7 y8 y9 y10 y11 y12 y13 y14, r' = [.scr ns, y1, y2, y3, y4, y5, y6, y7, y8, y9, y10, y11, y12, y13, y14]) ⟨_, _, _, _, _, _, _, _, _, _, _, _, _, _, rfl⟩ ?_ ?_
    · walk_at "go"
      exact ⟨by rw [hn], rfl⟩
    · rintro i r' m' hi ⟨y1, y2, y3, y4, y5, y6, y7, y8, y9, y10, y11, y12, y13, y14, rfl⟩
      walk_at "go"
      intro b hb
      have hbb := put_same (m := m') (a := b) (o := .box)
      generalize put m' b .box = M at *
      walk_at "go"
      refine ⟨hbb, by decide, bt_lit (n := 3) (by decide) (by decide), fun z hz0 hz1 => ?_⟩
      walk_at "go"
      refine on_intB ?_
      walk_at "go"
      refine ⟨b, _, 9, rfl, hbb, by split <;> decide, by split <;> decide, by decide, by decide, fun ss hs hl => ?_⟩
      have h4 : ss.length ≤ 4 := by
        revert hl
        split <;> intro hl <;> omega
      have h5 := hs.few
      have h1 := hs.pos
      obtain ⟨o1, o2, o3, o4⟩ := allS_drop ⟨ss.length, by omega⟩
      have o2 : allS ss.length = [] :: someL ss.length := o2
      have hal : (allS ss.length).length ≤ 32 := by rw [allS_len]; exact Nat.pow_le_pow_right (by decide) h5
      have hnd : (allS ss.length).Nodup := allS_nodup ⟨ss.length, by omega⟩
      walk_at "go"
      refine ⟨hbb, fun o ho => ?_⟩
      -- the papers
      refine w_seq (w_asg (ev_op ?_))
      refine ev_lcR1Y (n := 3) ?_ (by decide) (fun j acc mm => acc.length = j ∧ Ext M mm ∧ ∀ y ∈ acc, ∃ p P, y = .v (.ref p) ∧ P [] = 0 ∧ (∀ s, Kinds ss.length s → LB ss P s) ∧ mm p = some (.dT (tabT P (allS ss.length)))) ⟨rfl, Ext.refl _, fun _ h => nomatch h⟩ ?_ ?_
      · walk_at "go"
        exact ⟨rfl, rfl⟩
      · rintro j mm D acc hj hmD ⟨hal2, hx, ha⟩
        have hbD : b ≠ D := ne_of_get (hx _ _ hbb) hmD
        walk_at "go"
        refine ⟨ss, b, j, rfl, by rw [put_ne hbD]; exact hx _ _ hbb, hs, h4, by omega, fun P e he hP0 hP => ?_⟩
        have hDe : D ≠ e := ne_of_get (m := put mm D (.lst acc)) put_same he
        have he0 : mm e = none := by rw [put_ne hDe.symm] at he; exact he
        refine ⟨put mm e (.dT (tabT P (allS ss.length))), by rw [put_ne hDe]; exact hmD, put_comm hDe, by rw [List.length_append, hal2]; rfl, fun a u h => put_less he0 _ _ (hx _ _ h), fun y hy => ?_⟩
        rcases List.mem_append.mp hy with hy | hy
        · obtain ⟨p, P2, g1, g2, g3, g4⟩ := ha y hy
          exact ⟨p, P2, g1, g2, g3, put_less he0 _ _ g4⟩
        · exact ⟨e, P, List.mem_singleton.mp hy, hP0, hP, put_same⟩
      rintro acc mm hal2 ⟨_, hx, ha⟩
      refine ev_lstV (eva_cons (ev_call ?_))
      walk_at "go"
      refine ⟨hs, fun e1 he1 => ?_⟩
      have hdone : doneL (allS ss.length) (allS ss.length).length = allS ss.length := by
        unfold doneL
        rw [List.take_length]
        exact o2.symm
      rw [hdone]
      refine eva_nil ⟨by show 1 ≤ 100000; decide, ?_⟩
      refine o2_addV (by rw [hal2]; show 3 + 1 ≤ 100000; decide) ?_
      have hTB : ∀ s, Kinds ss.length s → LB ss (timeT ss) s := fun s hk => time_LB hs s.length s rfl hk
      have hbx1 : put mm e1 (.dT (tabT (timeT ss) (allS ss.length))) b = some .box := put_less he1 _ _ (hx _ _ hbb)
      have hP1 : ∀ y ∈ acc ++ [Val.v (.ref e1)], ∃ p P, y = .v (.ref p) ∧ P [] = 0 ∧ (∀ s, Kinds ss.length s → LB ss P s) ∧ put mm e1 (.dT (tabT (timeT ss) (allS ss.length))) p = some (.dT (tabT P (allS ss.length))) := fun y hy => by
        rcases List.mem_append.mp hy with hy | hy
        · obtain ⟨p, P2, g1, g2, g3, g4⟩ := ha y hy
          exact ⟨p, P2, g1, g2, g3, put_less he1 _ _ g4⟩
        · exact ⟨e1, timeT ss, List.mem_singleton.mp hy, rfl, hTB, put_same⟩
      have h3 : (acc ++ [Val.v (.ref e1)])[3]? = some (.v (.ref e1)) := by
        rw [List.getElem?_append_right (by omega), hal2]; rfl
      have hlP : (acc ++ [Val.v (.ref e1)]).length = 4 := by rw [List.length_append, hal2]; rfl
      have hme1 := put_same (m := mm) (a := e1) (o := .dT (tabT (timeT ss) (allS ss.length)))
      generalize acc ++ [Val.v (.ref e1)] = pl at *
      generalize put mm e1 (.dT (tabT (timeT ss) (allS ss.length))) = M1 at *
      -- nothing
      refine w_seq (w_asg (ev_callB (eva_cons (ev_lcLtW (nss := (allS ss.length).map kn) ?_ (by rw [List.length_map]; omega) (fun j acc => acc = (((allS ss.length).map kn).take j).map fun k => Val.p k (frac 0)) rfl (fun j k m5 acc hj hx hw => ?_) fun D acc hD hw => ?_))))
      · walk_at "go"
        exact ⟨by omega, rfl, rfl⟩
      · refine ev_tupP (ev_var rfl (fun h => nomatch h) ⟨_, rfl, ?_⟩)
        walk_at "go"
        exact ⟨rfl, by rw [hw, take_one hj, List.map_append]; rfl⟩
      rw [List.take_length] at hw
      have hw : acc = ((allS ss.length).map fun s => (kn s, frac 0)).map fun kd => Val.p kd.1 kd.2 := by
        rw [hw, List.map_map, List.map_map]; rfl
      subst hw
      refine eva_nil (on_dictP (kds := (allS ss.length).map fun s => (kn s, frac 0)) put_same ?_ fun e2 he2 => ?_)
      · rw [List.map_map]
        exact hnd.map _ fun x y ne e => ne (kn_inj e)
      have hkt : (((allS ss.length).map fun s => (kn s, frac 0)).map fun kd => (kI kd.1, Val.d kd.2)) = tabT nilP (allS ss.length) := by
        unfold tabT
        rw [List.map_map]
        rfl
      rw [hkt]
      have hx12 : Ext M1 (put (put M1 D (.lst (((allS ss.length).map fun s => (kn s, frac 0)).map fun kd => Val.p kd.1 kd.2))) e2 (.dT (tabT nilP (allS ss.length)))) := fun a u h => put_less he2 _ _ (put_less hD _ _ h)
      have hme2 : (put (put M1 D (.lst (((allS ss.length).map fun s => (kn s, frac 0)).map fun kd => Val.p kd.1 kd.2))) e2 (.dT (tabT nilP (allS ss.length)))) e2 = some (.dT (tabT nilP (allS ss.length))) := put_same
      generalize put (put M1 D (.lst (((allS ss.length).map fun s => (kn s, frac 0)).map fun kd => Val.p kd.1 kd.2))) e2 (.dT (tabT nilP (allS ss.length))) = M2 at *
      -- swapped
      have hmD : M2 e1 = some (.dT (dI (tabQ (timeT ss) (allS ss.length)))) := by rw [← tabT_dI]; exact hx12 _ _ hme1
      have hhash : ((tabQ (timeT ss) (allS ss.length)).map fun e => hI e.1).Nodup := by
        unfold tabQ
        rw [List.map_map]
        exact hI_all ⟨ss.length, by omega⟩
      refine w_seq (w_asg (ev_callB (eva_cons (ev_op (ev_var rfl (fun h => nomatch h) (ev_cI (o2_ixV (i := 3) h3 (eva_nil (on_dictC hmD hhash fun e3 he3 => ?_)))))))))
      rw [← tabT_dI]
      have h0in : [0] ∈ allS ss.length := by
        rw [o2]
        exact List.mem_cons_of_mem _ (zero_in ⟨ss.length, by omega⟩ h1)
      have hsub : ∀ u ∈ (allS ss.length).filter (fun u => !decide (u = [0])), u ∈ allS ss.length := fun u hu => (List.mem_filter.mp hu).1
      have hfl : (tabT (timeT ss) (allS ss.length)).filter (fun e => !decide (e.1 = kI [0])) = tabT (timeT ss) ((allS ss.length).filter fun u => !decide (u = [0])) := by
        unfold tabT
        rw [List.filter_map]
        refine congrArg _ (List.filter_congr fun u _ => ?_)
        show (!decide (kI (kn u) = kI (kn [0]))) = !decide (u = [0])
        rw [show decide (kI (kn u) = kI (kn [0])) = decide (u = [0]) from decide_eq_decide.mpr ⟨fun h => kn_inj (kI_inj h), fun h => by rw [h]⟩]
      obtain ⟨s1, s2, s3, s4⟩ := gd_more (c := ss.length) (x := frac (timeT ss [0])) hs h4 hTB hsub (hnd.filter _) (Nat.le_refl _) (by omega) (frac_ItX (n := 1) (by decide) (hTB [0] (allS_kinds h0in))).1
      refine w_seq (w_dput (ev_pop1T (ev_var rfl (fun h => nomatch h) ⟨e3, rfl, ⟨_, put_same⟩, ev_tupT (eva_cons (ev_cI (eva_nil ⟨[0], rfl, by show 1 ≤ 100000; decide, _, [0], _, rfl, put_same, getV_tab (s := [0]) h0in, ?_⟩)))⟩)))
      rw [put_put, hfl]
      refine ev_var rfl (fun h => nomatch h) ⟨e3, rfl, ev_tupT ?_⟩
      walk_at "go"
      refine ⟨_, _, rfl, put_same, by rw [tab_len]; exact Nat.lt_of_le_of_lt (List.length_filter_le ..) (by omega), ?_⟩
      rw [put_put, tabX_T, show kI [(ss.length : Int)] = kI (kn [ss.length]) from rfl, putV_tabX_new s4]
      have hx23 : ∀ o, Ext M2 (put M2 e3 o) := fun o => put_less he3
      have hme3 := put_same (m := M2) (a := e3) (o := .dT (dI (dV (tabX (fun u => if u = [ss.length] then frac (timeT ss [0]) else frac (timeT ss u)) (((allS ss.length).filter fun u => !decide (u = [0])) ++ [[ss.length]])))))
      have hx23 := hx23 (.dT (dI (dV (tabX (fun u => if u = [ss.length] then frac (timeT ss [0]) else frac (timeT ss u)) (((allS ss.length).filter fun u => !decide (u = [0])) ++ [[ss.length]])))))
      generalize put M2 e3 (.dT (dI (dV (tabX (fun u => if u = [ss.length] then frac (timeT ss [0]) else frac (timeT ss u)) (((allS ss.length).filter fun u => !decide (u = [0])) ++ [[ss.length]]))))) = M3 at *
      have hx13 : Ext M1 M3 := fun a u h => hx23 _ _ (hx12 _ _ h)
      have hbx3 := hx13 _ _ hbx1
      -- the things
      walk_at "go"
      refine ev_lstV ?_
      walk_at "go"
      refine ⟨by show 3 ≤ 100000; decide, ?_⟩
      refine o2_addV (by rw [hlP]; show 4 + 3 ≤ 100000; decide) ?_
      have plain : ∀ (P : List Nat → Rat) (p : Addr), (∀ s, Kinds ss.length s → LB ss P s) → M3 p = some (.dT (tabT P (allS ss.length))) → ∃ t : Tg, t.At M3 (.v (.ref p)) ∧ Gd ss t := fun P p hP hp => by
        have hin : ∀ u ∈ allS ss.length, u ∈ allS ss.length := fun _ h => h
        have hfun : (fun u => if u = [] then frac (P []) else frac (P u)) = fun u => frac (P u) := by
          funext u
          by_cases e : u = []
          · rw [if_pos e, e]
          · rw [if_neg e]
        obtain ⟨g1, g2⟩ := gd_bent (o := .none) hs h4 hP hin hnd (allS_nil _) none_odd (x := frac (P [])) (Or.inr rfl)
        rw [hfun] at g1
        refine ⟨_, at_tabX (by rw [← tabX_T]; exact hp) hnd (by omega) fun u hu => ⟨?_, szKey h5 hin u hu⟩, g1⟩
        have := g2 u hu
        rw [show (if u = [] then frac (P []) else frac (P u)) = frac (P u) from congrFun hfun u] at this
        exact this
      have hthings : ∀ y ∈ pl ++ [Val.v (.ref e2), .v (.ref e3), .d o], ∃ t : Tg, t.At M3 y ∧ Gd ss t := fun y hy => by
        rcases List.mem_append.mp hy with hy | hy
        · obtain ⟨p, P, rfl, g2, g3, g4⟩ := hP1 y hy
          exact plain P p g3 (hx13 _ _ g4)
        · simp only [List.mem_cons, List.not_mem_nil, or_false] at hy
          rcases hy with rfl | rfl | rfl
          · refine plain nilP e2 (fun s hk => ?_) (hx23 _ _ hme2)
            exact ⟨Rat.le_refl, (show (0 : Rat) ≤ ((vB s.length : Nat) : Rat) from Rat.natCast_nonneg), Nat.one_le_two_pow⟩
          · refine ⟨_, at_tabX hme3 s3 ?_ s2, s1⟩
            rw [List.length_append, List.length_singleton]
            have := List.length_filter_le (fun u => !decide (u = [0])) (allS ss.length)
            omega
          · exact ⟨.dat o, ⟨rfl, fun kvs e => odd_dict o ho kvs e⟩, gd_dat ((oki_odd ho).sh.toA (by decide) (by decide))⟩
      have hlT : (pl ++ [Val.v (.ref e2), .v (.ref e3), .d o]).length = 7 := by rw [List.length_append, hlP]; rfl
      generalize pl ++ [Val.v (.ref e2), .v (.ref e3), .d o] = tl at *
      refine w_seq (w_asg (ev_op (ev_var rfl (fun h => nomatch h) ?_)))
      refine ev_lcR1Y (n := 4) ?_ (by decide) (fun j acc mm => acc.length = j ∧ Ext M3 mm ∧ ∀ y ∈ acc, ∃ t : Tg, t.At mm y ∧ Gd ss t) ⟨rfl, Ext.refl _, fun _ h => nomatch h⟩ ?_ ?_
      · walk_at "go"
        exact ⟨rfl, rfl⟩
      · rintro j m5 D2 acc2 hj hmD2 ⟨hal3, hx5, ha5⟩
        have hbD : b ≠ D2 := ne_of_get (hx5 _ _ hbx3) hmD2
        have hbx5 : put m5 D2 (.lst acc2) b = some .box := by rw [put_ne hbD]; exact hx5 _ _ hbx3
        walk_at "go"
        refine ⟨hbx5, by decide, bt_lit (n := 3) (by decide) (by decide), fun z4 hz4 hz5 => ?_⟩
        obtain ⟨zi, rfl⟩ : ∃ k : Nat, z4 = (k : Int) := ⟨z4.toNat, by omega⟩
        have hzl : zi < pl.length := by omega
        refine o2_ixV (i := zi) (List.getElem?_eq_getElem hzl) ?_
        obtain ⟨p, P, e, g2, g3, g4⟩ := hP1 _ (List.getElem_mem hzl)
        rw [e]
        have hm5 : m5 p = some (.dT (tabT P (allS ss.length))) := hx5 _ _ (hx13 _ _ g4)
        have hpD : p ≠ D2 := ne_of_get hm5 hmD2
        walk_at "go"
        refine ⟨ss, b, p, P, o, rfl, hbx5, hs, h4, g2, g3, by rw [put_ne hpD]; exact hm5, ho, fun y t m6 hx6 hat hgd => ?_⟩
        have hD6 : m6 D2 = some (.lst acc2) := hx6 _ _ put_same
        refine ⟨del m6 D2, if_pos rfl, (put_del hD6).symm, by rw [List.length_append, hal3]; rfl, fun a u h => ?_, fun y2 hy2 => ?_⟩
        · have h5a := hx5 _ _ h
          have hne : a ≠ D2 := ne_of_get h5a hmD2
          exact (if_neg hne).trans (hx6 _ _ (by rw [put_ne hne]; exact h5a))
        · have back : ∀ {y3 : Val} {t3 : Tg}, t3.At m6 y3 → y3 ≠ .v (.ref D2) → t3.At (del m6 D2) y3 := fun {y3 t3} h hne => by
            cases t3 with
            | dat x => exact h
            | dct kds =>
              obtain ⟨p3, rfl, e3, e4⟩ := h
              exact ⟨p3, rfl, (if_neg fun e => hne (by rw [e])).trans e3, e4⟩
          rcases List.mem_append.mp hy2 with hy2 | hy2
          · obtain ⟨t3, k1, k2⟩ := ha5 y2 hy2
            have hne : y2 ≠ .v (.ref D2) := fun e => by
              subst e
              cases t3 with
              | dat x => exact nomatch k1.1
              | dct kds =>
                obtain ⟨p3, e2, e3, _⟩ := k1
                cases e2
                rw [hmD2] at e3; cases e3
            have k3 : t3.At m6 y2 := by
              cases t3 with
              | dat x => exact k1
              | dct kds =>
                obtain ⟨p3, rfl, e3, e4⟩ := k1
                exact ⟨p3, rfl, hx6 _ _ (by rw [put_ne fun e => hne (by rw [e])]; exact e3), e4⟩
            exact ⟨t3, back k3 hne, k2⟩
          · rw [List.mem_singleton.mp hy2]
            refine ⟨t, back hat fun e => ?_, hgd⟩
            subst e
            cases t with
            | dat x => exact nomatch hat.1
            | dct kds =>
              obtain ⟨p3, e2, e3, _⟩ := hat
              cases e2
              rw [hD6] at e3; cases e3
      rintro acc2 m6 hal3 ⟨_, hx6, ha6⟩
      refine o2_addV (by rw [hal3, hlT]; decide) ?_
      have hall : ∀ y ∈ tl ++ acc2, ∃ t : Tg, t.At m6 y ∧ Gd ss t := fun y hy => by
        rcases List.mem_append.mp hy with hy | hy
        · obtain ⟨t, k1, k2⟩ := hthings y hy
          exact ⟨t, k1.less hx6, k2⟩
        · exact ha6 y hy
      generalize tl ++ acc2 = al at *
      refine w_forV (rs := al) (ev_var rfl (fun h => nomatch h) ⟨rfl, rfl⟩) (fun j r2 m2 => m2 = m6 ∧ ∃ y1 y2 y4 y5 y6 y7 y9 y10 y11 y12 y13 y14, r2 = [.scr ns, y1, y2, .d (tupI ss), y4, y5, y6, y7, vL K al, y9, y10, y11, y12, y13, y14]) ⟨rfl, _, _, _, _, _, _, _, _, _, _, _, _, rfl⟩ ?_ ?_
      · rintro j y r2 m2 hj ⟨rfl, y1, y2, y4, y5, y6, y7, y9, y10, y11, y12, y13, y14, rfl⟩
        obtain ⟨t, hat, hgd⟩ := hall y (List.mem_of_getElem? hj)
        have hsh := over_sh hs hgd.b
        refine w_seq (w_asg (ev_callB (eva_cons (ev_var rfl hat.ne (eva_nil (on_showTh hat hgd.sh ?_))))))
        refine w_seq (w_asg (ev_lstD (eva_cons (ev_call (eva_cons (ev_var rfl hat.ne ?_))))))
        walk_at "go"
        refine ⟨y, ss, t, rfl, hs, hat, hgd.b, ?_⟩
        refine eva_cons (ev_call (eva_cons (ev_var rfl hat.ne ?_)))
        walk_at "go"
        refine ⟨y, ss, t, rfl, hs, hat, hgd.b, ?_⟩
        refine eva_nil ⟨[t.over ss, t.under ss], rfl, by show 2 ≤ 100000; decide, ?_⟩
        refine w_if (evt_or ?_)
        walk_at "go"
        refine on_showN hsh ?_
        refine ev_callB (eva_cons (ev_call (eva_cons (ev_var rfl hat.ne ?_))))
        walk_at "go"
        refine ⟨y, ss, t, rfl, hs, hat, hgd.b, ?_⟩
        refine eva_nil (on_showN hsh ?_)
        walk_at "go"
        refine br_f (by simp) ?_
        refine evt_test (ev_op (ev_callB (eva_cons (ev_var rfl hat.ne (eva_nil (on_showTh hat hgd.sh ?_))))))
        walk_at "go"
        refine br_f (by simp) (w_next ?_)
        exact ⟨rfl, _, _, _, _, _, _, _, _, _, _, _, _, rfl⟩
      · rintro r2 m2 ⟨rfl, y1, y2, y4, y5, y6, y7, y9, y10, y11, y12, y13, y14, rfl⟩
        exact ⟨_, _, _, _, _, _, _, _, _, _, _, _, _, _, rfl⟩
    · rintro r' m' ⟨y1, y2, y3, y4, y5, y6, y7, y8, y9, y10, y11, y12, y13, y14, rfl⟩
      walk_at "go"
      exact q _
end
theorem law_ends : ∀ ns : List Int, ns.length ≤ 63 → (∀ z ∈ ns, Builtin.Int.intBits z ≤ 1048576) → f_law [.scr ns] (fun _ => none) fun y _ => y = .d (.bool true) := fun ns _ _ => ⟨ns, rfl, fun _ => rfl⟩
section
variable {P : Program} {w : World} {K : PySem.W.Frag} {mg : Str → Option Value}
theorem all_mk {h : Heap} {fa : Addr} (X : K.In h) (G : h.Ns mainGlobals mg) (hfa : mg "law" = some (.ref fa))
    {od1 an1 : Option Addr} {sl1 : Array (Option Value)} {f1 : Addr} {oc1 kV1 dc1 pm1 cd1 ct1 : Value}
    (a1 : PySem.W.nsIn K mainGlobals "is_whole" = some (some (.ref f1))) (l1 : K.lookup f1 = some ⟨oc1, od1, .func (PySem.W.fnOf "is_whole" "is_whole" (defArgs s_is_whole) (defBody s_is_whole) (defScope s_is_whole) .none kV1 dc1 pm1 an1 cd1 ct1), sl1⟩) (c1 : PySem.W.codeIn K cd1 "is_whole" = true) (k1 : PySem.W.keepIn K (.ref f1) = true)
    {od2 an2 : Option Addr} {sl2 : Array (Option Value)} {f2 : Addr} {oc2 kV2 dc2 pm2 cd2 ct2 : Value}
    (a2 : PySem.W.nsIn K mainGlobals "greatest_common" = some (some (.ref f2))) (l2 : K.lookup f2 = some ⟨oc2, od2, .func (PySem.W.fnOf "greatest_common" "greatest_common" (defArgs s_greatest_common) (defBody s_greatest_common) (defScope s_greatest_common) .none kV2 dc2 pm2 an2 cd2 ct2), sl2⟩) (c2 : PySem.W.codeIn K cd2 "greatest_common" = true) (k2 : PySem.W.keepIn K (.ref f2) = true)
    {od3 an3 : Option Addr} {sl3 : Array (Option Value)} {f3 : Addr} {oc3 kV3 dc3 pm3 cd3 ct3 : Value}
    (a3 : PySem.W.nsIn K mainGlobals "below" = some (some (.ref f3))) (l3 : K.lookup f3 = some ⟨oc3, od3, .func (PySem.W.fnOf "below" "below" (defArgs s_below) (defBody s_below) (defScope s_below) .none kV3 dc3 pm3 an3 cd3 ct3), sl3⟩) (c3 : PySem.W.codeIn K cd3 "below" = true) (k3 : PySem.W.keepIn K (.ref f3) = true)
    {od4 an4 : Option Addr} {sl4 : Array (Option Value)} {f4 : Addr} {oc4 kV4 dc4 pm4 cd4 ct4 : Value}
    (a4 : PySem.W.nsIn K mainGlobals "sum_part" = some (some (.ref f4))) (l4 : K.lookup f4 = some ⟨oc4, od4, .func (PySem.W.fnOf "sum_part" "sum_part" (defArgs s_sum_part) (defBody s_sum_part) (defScope s_sum_part) .none kV4 dc4 pm4 an4 cd4 ct4), sl4⟩) (c4 : PySem.W.codeIn K cd4 "sum_part" = true) (k4 : PySem.W.keepIn K (.ref f4) = true)
    {od5 an5 : Option Addr} {sl5 : Array (Option Value)} {f5 : Addr} {oc5 kV5 dc5 pm5 cd5 ct5 : Value}
    (a5 : PySem.W.nsIn K mainGlobals "all_some" = some (some (.ref f5))) (l5 : K.lookup f5 = some ⟨oc5, od5, .func (PySem.W.fnOf "all_some" "all_some" (defArgs s_all_some) (defBody s_all_some) (defScope s_all_some) .none kV5 dc5 pm5 an5 cd5 ct5), sl5⟩) (c5 : PySem.W.codeIn K cd5 "all_some" = true) (k5 : PySem.W.keepIn K (.ref f5) = true)
    {od6 an6 : Option Addr} {sl6 : Array (Option Value)} {f6 : Addr} {oc6 kV6 dc6 pm6 cd6 ct6 : Value}
    (a6 : PySem.W.nsIn K mainGlobals "_law_cell" = some (some (.ref f6))) (l6 : K.lookup f6 = some ⟨oc6, od6, .func (PySem.W.fnOf "_law_cell" "_law_cell" (defArgs s__law_cell) (defBody s__law_cell) (defScope s__law_cell) .none kV6 dc6 pm6 an6 cd6 ct6), sl6⟩) (c6 : PySem.W.codeIn K cd6 "_law_cell" = true) (k6 : PySem.W.keepIn K (.ref f6) = true)
    {od7 an7 : Option Addr} {sl7 : Array (Option Value)} {f7 : Addr} {oc7 kV7 dc7 pm7 cd7 ct7 : Value}
    (a7 : PySem.W.nsIn K mainGlobals "_law_mix" = some (some (.ref f7))) (l7 : K.lookup f7 = some ⟨oc7, od7, .func (PySem.W.fnOf "_law_mix" "_law_mix" (defArgs s__law_mix) (defBody s__law_mix) (defScope s__law_mix) .none kV7 dc7 pm7 an7 cd7 ct7), sl7⟩) (c7 : PySem.W.codeIn K cd7 "_law_mix" = true) (k7 : PySem.W.keepIn K (.ref f7) = true)
    {od8 an8 : Option Addr} {sl8 : Array (Option Value)} {f8 : Addr} {oc8 kV8 dc8 pm8 cd8 ct8 : Value}
    (a8 : PySem.W.nsIn K mainGlobals "_law_take" = some (some (.ref f8))) (l8 : K.lookup f8 = some ⟨oc8, od8, .func (PySem.W.fnOf "_law_take" "_law_take" (defArgs s__law_take) (defBody s__law_take) (defScope s__law_take) .none kV8 dc8 pm8 an8 cd8 ct8), sl8⟩) (c8 : PySem.W.codeIn K cd8 "_law_take" = true) (k8 : PySem.W.keepIn K (.ref f8) = true)
    {od9 an9 : Option Addr} {sl9 : Array (Option Value)} {f9 : Addr} {oc9 kV9 dc9 pm9 cd9 ct9 : Value}
    (a9 : PySem.W.nsIn K mainGlobals "_law_whole" = some (some (.ref f9))) (l9 : K.lookup f9 = some ⟨oc9, od9, .func (PySem.W.fnOf "_law_whole" "_law_whole" (defArgs s__law_whole) (defBody s__law_whole) (defScope s__law_whole) .none kV9 dc9 pm9 an9 cd9 ct9), sl9⟩) (c9 : PySem.W.codeIn K cd9 "_law_whole" = true) (k9 : PySem.W.keepIn K (.ref f9) = true)
    {od10 an10 : Option Addr} {sl10 : Array (Option Value)} {f10 : Addr} {oc10 kV10 dc10 pm10 cd10 ct10 : Value}
    (a10 : PySem.W.nsIn K mainGlobals "_law_common" = some (some (.ref f10))) (l10 : K.lookup f10 = some ⟨oc10, od10, .func (PySem.W.fnOf "_law_common" "_law_common" (defArgs s__law_common) (defBody s__law_common) (defScope s__law_common) .none kV10 dc10 pm10 an10 cd10 ct10), sl10⟩) (c10 : PySem.W.codeIn K cd10 "_law_common" = true) (k10 : PySem.W.keepIn K (.ref f10) = true)
    {od11 an11 : Option Addr} {sl11 : Array (Option Value)} {f11 : Addr} {oc11 kV11 dc11 pm11 cd11 ct11 : Value}
    (a11 : PySem.W.nsIn K mainGlobals "_law_all_some" = some (some (.ref f11))) (l11 : K.lookup f11 = some ⟨oc11, od11, .func (PySem.W.fnOf "_law_all_some" "_law_all_some" (defArgs s__law_all_some) (defBody s__law_all_some) (defScope s__law_all_some) .none kV11 dc11 pm11 an11 cd11 ct11), sl11⟩) (c11 : PySem.W.codeIn K cd11 "_law_all_some" = true) (k11 : PySem.W.keepIn K (.ref f11) = true)
    {od12 an12 : Option Addr} {sl12 : Array (Option Value)} {f12 : Addr} {oc12 kV12 dc12 pm12 cd12 ct12 : Value}
    (a12 : PySem.W.nsIn K mainGlobals "made" = some (some (.ref f12))) (l12 : K.lookup f12 = some ⟨oc12, od12, .func (PySem.W.fnOf "made" "made" (defArgs s_made) (defBody s_made) (defScope s_made) .none kV12 dc12 pm12 an12 cd12 ct12), sl12⟩) (c12 : PySem.W.codeIn K cd12 "made" = true) (k12 : PySem.W.keepIn K (.ref f12) = true)
    {od13 an13 : Option Addr} {sl13 : Array (Option Value)} {f13 : Addr} {oc13 kV13 dc13 pm13 cd13 ct13 : Value}
    (a13 : PySem.W.nsIn K mainGlobals "is_shares" = some (some (.ref f13))) (l13 : K.lookup f13 = some ⟨oc13, od13, .func (PySem.W.fnOf "is_shares" "is_shares" (defArgs s_is_shares) (defBody s_is_shares) (defScope s_is_shares) .none kV13 dc13 pm13 an13 cd13 ct13), sl13⟩) (c13 : PySem.W.codeIn K cd13 "is_shares" = true) (k13 : PySem.W.keepIn K (.ref f13) = true)
    {od14 an14 : Option Addr} {sl14 : Array (Option Value)} {f14 : Addr} {oc14 kV14 dc14 pm14 cd14 ct14 : Value}
    (a14 : PySem.W.nsIn K mainGlobals "are_kinds" = some (some (.ref f14))) (l14 : K.lookup f14 = some ⟨oc14, od14, .func (PySem.W.fnOf "are_kinds" "are_kinds" (defArgs s_are_kinds) (defBody s_are_kinds) (defScope s_are_kinds) .none kV14 dc14 pm14 an14 cd14 ct14), sl14⟩) (c14 : PySem.W.codeIn K cd14 "are_kinds" = true) (k14 : PySem.W.keepIn K (.ref f14) = true)
    {od15 an15 : Option Addr} {sl15 : Array (Option Value)} {f15 : Addr} {oc15 kV15 dc15 pm15 cd15 ct15 : Value}
    (a15 : PySem.W.nsIn K mainGlobals "_law_box" = some (some (.ref f15))) (l15 : K.lookup f15 = some ⟨oc15, od15, .func (PySem.W.fnOf "_law_box" "_law_box" (defArgs s__law_box) (defBody s__law_box) (defScope s__law_box) .none kV15 dc15 pm15 an15 cd15 ct15), sl15⟩) (c15 : PySem.W.codeIn K cd15 "_law_box" = true) (k15 : PySem.W.keepIn K (.ref f15) = true)
    {od16 an16 : Option Addr} {sl16 : Array (Option Value)} {f16 : Addr} {oc16 kV16 dc16 pm16 cd16 ct16 : Value}
    (a16 : PySem.W.nsIn K mainGlobals "_law_drawn_shares" = some (some (.ref f16))) (l16 : K.lookup f16 = some ⟨oc16, od16, .func (PySem.W.fnOf "_law_drawn_shares" "_law_drawn_shares" (defArgs s__law_drawn_shares) (defBody s__law_drawn_shares) (defScope s__law_drawn_shares) .none kV16 dc16 pm16 an16 cd16 ct16), sl16⟩) (c16 : PySem.W.codeIn K cd16 "_law_drawn_shares" = true) (k16 : PySem.W.keepIn K (.ref f16) = true)
    {od17 an17 : Option Addr} {sl17 : Array (Option Value)} {f17 : Addr} {oc17 kV17 dc17 pm17 cd17 ct17 : Value}
    (a17 : PySem.W.nsIn K mainGlobals "_law_made" = some (some (.ref f17))) (l17 : K.lookup f17 = some ⟨oc17, od17, .func (PySem.W.fnOf "_law_made" "_law_made" (defArgs s__law_made) (defBody s__law_made) (defScope s__law_made) .none kV17 dc17 pm17 an17 cd17 ct17), sl17⟩) (c17 : PySem.W.codeIn K cd17 "_law_made" = true) (k17 : PySem.W.keepIn K (.ref f17) = true)
    {od18 an18 : Option Addr} {sl18 : Array (Option Value)} {f18 : Addr} {oc18 kV18 dc18 pm18 cd18 ct18 : Value}
    (a18 : PySem.W.nsIn K mainGlobals "_law_odd" = some (some (.ref f18))) (l18 : K.lookup f18 = some ⟨oc18, od18, .func (PySem.W.fnOf "_law_odd" "_law_odd" (defArgs s__law_odd) (defBody s__law_odd) (defScope s__law_odd) .none kV18 dc18 pm18 an18 cd18 ct18), sl18⟩) (c18 : PySem.W.codeIn K cd18 "_law_odd" = true) (k18 : PySem.W.keepIn K (.ref f18) = true)
    {od19 an19 : Option Addr} {sl19 : Array (Option Value)} {f19 : Addr} {oc19 kV19 dc19 pm19 cd19 ct19 : Value}
    (a19 : PySem.W.nsIn K mainGlobals "_law_is_fraction" = some (some (.ref f19))) (l19 : K.lookup f19 = some ⟨oc19, od19, .func (PySem.W.fnOf "_law_is_fraction" "_law_is_fraction" (defArgs s__law_is_fraction) (defBody s__law_is_fraction) (defScope s__law_is_fraction) .none kV19 dc19 pm19 an19 cd19 ct19), sl19⟩) (c19 : PySem.W.codeIn K cd19 "_law_is_fraction" = true) (k19 : PySem.W.keepIn K (.ref f19) = true)
    {od20 an20 : Option Addr} {sl20 : Array (Option Value)} {f20 : Addr} {oc20 kV20 dc20 pm20 cd20 ct20 : Value}
    (a20 : PySem.W.nsIn K mainGlobals "_law_bent" = some (some (.ref f20))) (l20 : K.lookup f20 = some ⟨oc20, od20, .func (PySem.W.fnOf "_law_bent" "_law_bent" (defArgs s__law_bent) (defBody s__law_bent) (defScope s__law_bent) .none kV20 dc20 pm20 an20 cd20 ct20), sl20⟩) (c20 : PySem.W.codeIn K cd20 "_law_bent" = true) (k20 : PySem.W.keepIn K (.ref f20) = true)
    {od21 an21 : Option Addr} {sl21 : Array (Option Value)} {f21 : Addr} {oc21 kV21 dc21 pm21 cd21 ct21 : Value}
    (a21 : PySem.W.nsIn K mainGlobals "is_fraction" = some (some (.ref f21))) (l21 : K.lookup f21 = some ⟨oc21, od21, .func (PySem.W.fnOf "is_fraction" "is_fraction" (defArgs s_is_fraction) (defBody s_is_fraction) (defScope s_is_fraction) .none kV21 dc21 pm21 an21 cd21 ct21), sl21⟩) (c21 : PySem.W.codeIn K cd21 "is_fraction" = true) (k21 : PySem.W.keepIn K (.ref f21) = true)
    {od22 an22 : Option Addr} {sl22 : Array (Option Value)} {f22 : Addr} {oc22 kV22 dc22 pm22 cd22 ct22 : Value}
    (a22 : PySem.W.nsIn K mainGlobals "sum_of" = some (some (.ref f22))) (l22 : K.lookup f22 = some ⟨oc22, od22, .func (PySem.W.fnOf "sum_of" "sum_of" (defArgs s_sum_of) (defBody s_sum_of) (defScope s_sum_of) .none kV22 dc22 pm22 an22 cd22 ct22), sl22⟩) (c22 : PySem.W.codeIn K cd22 "sum_of" = true) (k22 : PySem.W.keepIn K (.ref f22) = true)
    {od23 an23 : Option Addr} {sl23 : Array (Option Value)} {f23 : Addr} {oc23 kV23 dc23 pm23 cd23 ct23 : Value}
    (a23 : PySem.W.nsIn K mainGlobals "times_of" = some (some (.ref f23))) (l23 : K.lookup f23 = some ⟨oc23, od23, .func (PySem.W.fnOf "times_of" "times_of" (defArgs s_times_of) (defBody s_times_of) (defScope s_times_of) .none kV23 dc23 pm23 an23 cd23 ct23), sl23⟩) (c23 : PySem.W.codeIn K cd23 "times_of" = true) (k23 : PySem.W.keepIn K (.ref f23) = true)
    {od24 an24 : Option Addr} {sl24 : Array (Option Value)} {f24 : Addr} {oc24 kV24 dc24 pm24 cd24 ct24 : Value}
    (a24 : PySem.W.nsIn K mainGlobals "need_shares" = some (some (.ref f24))) (l24 : K.lookup f24 = some ⟨oc24, od24, .func (PySem.W.fnOf "need_shares" "need_shares" (defArgs s_need_shares) (defBody s_need_shares) (defScope s_need_shares) .none kV24 dc24 pm24 an24 cd24 ct24), sl24⟩) (c24 : PySem.W.codeIn K cd24 "need_shares" = true) (k24 : PySem.W.keepIn K (.ref f24) = true)
    {od25 an25 : Option Addr} {sl25 : Array (Option Value)} {f25 : Addr} {oc25 kV25 dc25 pm25 cd25 ct25 : Value}
    (a25 : PySem.W.nsIn K mainGlobals "_law_plus" = some (some (.ref f25))) (l25 : K.lookup f25 = some ⟨oc25, od25, .func (PySem.W.fnOf "_law_plus" "_law_plus" (defArgs s__law_plus) (defBody s__law_plus) (defScope s__law_plus) .none kV25 dc25 pm25 an25 cd25 ct25), sl25⟩) (c25 : PySem.W.codeIn K cd25 "_law_plus" = true) (k25 : PySem.W.keepIn K (.ref f25) = true)
    {od26 an26 : Option Addr} {sl26 : Array (Option Value)} {f26 : Addr} {oc26 kV26 dc26 pm26 cd26 ct26 : Value}
    (a26 : PySem.W.nsIn K mainGlobals "_law_is_paper" = some (some (.ref f26))) (l26 : K.lookup f26 = some ⟨oc26, od26, .func (PySem.W.fnOf "_law_is_paper" "_law_is_paper" (defArgs s__law_is_paper) (defBody s__law_is_paper) (defScope s__law_is_paper) .none kV26 dc26 pm26 an26 cd26 ct26), sl26⟩) (c26 : PySem.W.codeIn K cd26 "_law_is_paper" = true) (k26 : PySem.W.keepIn K (.ref f26) = true)
    {od27 an27 : Option Addr} {sl27 : Array (Option Value)} {f27 : Addr} {oc27 kV27 dc27 pm27 cd27 ct27 : Value}
    (a27 : PySem.W.nsIn K mainGlobals "due_number" = some (some (.ref f27))) (l27 : K.lookup f27 = some ⟨oc27, od27, .func (PySem.W.fnOf "due_number" "due_number" (defArgs s_due_number) (defBody s_due_number) (defScope s_due_number) .none kV27 dc27 pm27 an27 cd27 ct27), sl27⟩) (c27 : PySem.W.codeIn K cd27 "due_number" = true) (k27 : PySem.W.keepIn K (.ref f27) = true)
    {od28 an28 : Option Addr} {sl28 : Array (Option Value)} {f28 : Addr} {oc28 kV28 dc28 pm28 cd28 ct28 : Value}
    (a28 : PySem.W.nsIn K mainGlobals "is_paper" = some (some (.ref f28))) (l28 : K.lookup f28 = some ⟨oc28, od28, .func (PySem.W.fnOf "is_paper" "is_paper" (defArgs s_is_paper) (defBody s_is_paper) (defScope s_is_paper) .none kV28 dc28 pm28 an28 cd28 ct28), sl28⟩) (c28 : PySem.W.codeIn K cd28 "is_paper" = true) (k28 : PySem.W.keepIn K (.ref f28) = true)
    {od29 an29 : Option Addr} {sl29 : Array (Option Value)} {f29 : Addr} {oc29 kV29 dc29 pm29 cd29 ct29 : Value}
    (a29 : PySem.W.nsIn K mainGlobals "_law_paper" = some (some (.ref f29))) (l29 : K.lookup f29 = some ⟨oc29, od29, .func (PySem.W.fnOf "_law_paper" "_law_paper" (defArgs s__law_paper) (defBody s__law_paper) (defScope s__law_paper) .none kV29 dc29 pm29 an29 cd29 ct29), sl29⟩) (c29 : PySem.W.codeIn K cd29 "_law_paper" = true) (k29 : PySem.W.keepIn K (.ref f29) = true)
    {od30 an30 : Option Addr} {sl30 : Array (Option Value)} {f30 : Addr} {oc30 kV30 dc30 pm30 cd30 ct30 : Value}
    (a30 : PySem.W.nsIn K mainGlobals "_law_due" = some (some (.ref f30))) (l30 : K.lookup f30 = some ⟨oc30, od30, .func (PySem.W.fnOf "_law_due" "_law_due" (defArgs s__law_due) (defBody s__law_due) (defScope s__law_due) .none kV30 dc30 pm30 an30 cd30 ct30), sl30⟩) (c30 : PySem.W.codeIn K cd30 "_law_due" = true) (k30 : PySem.W.keepIn K (.ref f30) = true)
    {od31 an31 : Option Addr} {sl31 : Array (Option Value)} {f31 : Addr} {oc31 kV31 dc31 pm31 cd31 ct31 : Value}
    (a31 : PySem.W.nsIn K mainGlobals "due_pairs" = some (some (.ref f31))) (l31 : K.lookup f31 = some ⟨oc31, od31, .func (PySem.W.fnOf "due_pairs" "due_pairs" (defArgs s_due_pairs) (defBody s_due_pairs) (defScope s_due_pairs) .none kV31 dc31 pm31 an31 cd31 ct31), sl31⟩) (c31 : PySem.W.codeIn K cd31 "due_pairs" = true) (k31 : PySem.W.keepIn K (.ref f31) = true)
    {od32 an32 : Option Addr} {sl32 : Array (Option Value)} {f32 : Addr} {oc32 kV32 dc32 pm32 cd32 ct32 : Value}
    (a32 : PySem.W.nsIn K mainGlobals "_law_bounds" = some (some (.ref f32))) (l32 : K.lookup f32 = some ⟨oc32, od32, .func (PySem.W.fnOf "_law_bounds" "_law_bounds" (defArgs s__law_bounds) (defBody s__law_bounds) (defScope s__law_bounds) .none kV32 dc32 pm32 an32 cd32 ct32), sl32⟩) (c32 : PySem.W.codeIn K cd32 "_law_bounds" = true) (k32 : PySem.W.keepIn K (.ref f32) = true)
    {od33 an33 : Option Addr} {sl33 : Array (Option Value)} {f33 : Addr} {oc33 kV33 dc33 pm33 cd33 ct33 : Value}
    (a33 : PySem.W.nsIn K mainGlobals "_law_grown" = some (some (.ref f33))) (l33 : K.lookup f33 = some ⟨oc33, od33, .func (PySem.W.fnOf "_law_grown" "_law_grown" (defArgs s__law_grown) (defBody s__law_grown) (defScope s__law_grown) .none kV33 dc33 pm33 an33 cd33 ct33), sl33⟩) (c33 : PySem.W.codeIn K cd33 "_law_grown" = true) (k33 : PySem.W.keepIn K (.ref f33) = true)
    {od34 an34 : Option Addr} {sl34 : Array (Option Value)} {f34 : Addr} {oc34 kV34 dc34 pm34 cd34 ct34 : Value}
    (a34 : PySem.W.nsIn K mainGlobals "over_bound" = some (some (.ref f34))) (l34 : K.lookup f34 = some ⟨oc34, od34, .func (PySem.W.fnOf "over_bound" "over_bound" (defArgs s_over_bound) (defBody s_over_bound) (defScope s_over_bound) .none kV34 dc34 pm34 an34 cd34 ct34), sl34⟩) (c34 : PySem.W.codeIn K cd34 "over_bound" = true) (k34 : PySem.W.keepIn K (.ref f34) = true)
    {od35 an35 : Option Addr} {sl35 : Array (Option Value)} {f35 : Addr} {oc35 kV35 dc35 pm35 cd35 ct35 : Value}
    (a35 : PySem.W.nsIn K mainGlobals "under_bound" = some (some (.ref f35))) (l35 : K.lookup f35 = some ⟨oc35, od35, .func (PySem.W.fnOf "under_bound" "under_bound" (defArgs s_under_bound) (defBody s_under_bound) (defScope s_under_bound) .none kV35 dc35 pm35 an35 cd35 ct35), sl35⟩) (c35 : PySem.W.codeIn K cd35 "under_bound" = true) (k35 : PySem.W.keepIn K (.ref f35) = true)
    {od36 an36 : Option Addr} {sl36 : Array (Option Value)} {f36 : Addr} {oc36 kV36 dc36 pm36 cd36 ct36 : Value}
    (a36 : PySem.W.nsIn K mainGlobals "law" = some (some (.ref f36))) (l36 : K.lookup f36 = some ⟨oc36, od36, .func (PySem.W.fnOf "law" "law" (defArgs s_law) (defBody s_law) (defScope s_law) .none kV36 dc36 pm36 an36 cd36 ct36), sl36⟩) (c36 : PySem.W.codeIn K cd36 "law" = true) (k36 : PySem.W.keepIn K (.ref f36) = true)
    (z_abs : PySem.W.nsIn K mainGlobals "abs" = some none)
    (z_all : PySem.W.nsIn K mainGlobals "all" = some none)
    (z_any : PySem.W.nsIn K mainGlobals "any" = some none)
    (z_bool : PySem.W.nsIn K mainGlobals "bool" = some none)
    (z_dict : PySem.W.nsIn K mainGlobals "dict" = some none)
    (z_divmod : PySem.W.nsIn K mainGlobals "divmod" = some none)
    (z_int : PySem.W.nsIn K mainGlobals "int" = some none)
    (z_isinstance : PySem.W.nsIn K mainGlobals "isinstance" = some none)
    (z_len : PySem.W.nsIn K mainGlobals "len" = some none)
    (z_list : PySem.W.nsIn K mainGlobals "list" = some none)
    (z_max : PySem.W.nsIn K mainGlobals "max" = some none)
    (z_min : PySem.W.nsIn K mainGlobals "min" = some none)
    (z_range : PySem.W.nsIn K mainGlobals "range" = some none)
    (z_repr : PySem.W.nsIn K mainGlobals "repr" = some none)
    (z_sorted : PySem.W.nsIn K mainGlobals "sorted" = some none)
    (z_sum : PySem.W.nsIn K mainGlobals "sum" = some none)
    (z_tuple : PySem.W.nsIn K mainGlobals "tuple" = some none)
    {t_MOST_KINDS : Tok} (g_MOST_KINDS : PySem.W.nsIn K mainGlobals "MOST_KINDS" = some (some (.int 5 t_MOST_KINDS)))
    {t_MOST_SHARE : Tok} (g_MOST_SHARE : PySem.W.nsIn K mainGlobals "MOST_SHARE" = some (some (.int 9 t_MOST_SHARE)))
    {p_NOUGHT : Addr} {e_NOUGHT : Option Addr} {q_NOUGHT : Array (Option Value)} {u_NOUGHT w_NOUGHT : Tok} {n_NOUGHT : Nat} (g_NOUGHT : PySem.W.nsIn K mainGlobals "NOUGHT" = some (some (.ref p_NOUGHT))) (o_NOUGHT : K.lookup p_NOUGHT = some ⟨.type "tuple", e_NOUGHT, .seq #[.int 0 u_NOUGHT, .int 1 w_NOUGHT] n_NOUGHT, q_NOUGHT⟩)
    : ∃ fd : FuncData, (∀ (s : Shared) (v : Value), BindsTo s fd ⟨[v], []⟩ [("_law_script", v)]) ∧ ∀ base : Heap, K.In base → base.Ns mainGlobals mg → SysAt base → FnG P w K mg base 7 fa fd ["_law_script"] (spD K f_law) := by
  have e := hfa.symm.trans (PySem.W.mg_of X G a36)
  cases e
  have y_abs := PySem.W.mg_none_of X G z_abs
  have y_all := PySem.W.mg_none_of X G z_all
  have y_any := PySem.W.mg_none_of X G z_any
  have y_bool := PySem.W.mg_none_of X G z_bool
  have y_dict := PySem.W.mg_none_of X G z_dict
  have y_divmod := PySem.W.mg_none_of X G z_divmod
  have y_int := PySem.W.mg_none_of X G z_int
  have y_isinstance := PySem.W.mg_none_of X G z_isinstance
  have y_len := PySem.W.mg_none_of X G z_len
  have y_list := PySem.W.mg_none_of X G z_list
  have y_max := PySem.W.mg_none_of X G z_max
  have y_min := PySem.W.mg_none_of X G z_min
  have y_range := PySem.W.mg_none_of X G z_range
  have y_repr := PySem.W.mg_none_of X G z_repr
  have y_sorted := PySem.W.mg_none_of X G z_sorted
  have y_sum := PySem.W.mg_none_of X G z_sum
  have y_tuple := PySem.W.mg_none_of X G z_tuple
  have x_MOST_KINDS : ∃ t, mg "MOST_KINDS" = some (.int 5 t) := ⟨_, PySem.W.mg_of X G g_MOST_KINDS⟩
  have x_MOST_SHARE : ∃ t, mg "MOST_SHARE" = some (.int 9 t) := ⟨_, PySem.W.mg_of X G g_MOST_SHARE⟩
  have x_NOUGHT : ∃ a, mg "NOUGHT" = some (.ref a) ∧ ∀ G, Rp K G (.tuple [.int 0, .int 1]) (.ref a) := ⟨_, PySem.W.mg_of X G g_NOUGHT, fun G => rp_tuple.mpr ⟨_, [V.int 0, V.int 1], rfl, Or.inr ⟨_, _, _, o_NOUGHT, rfl, rfl, (by show 2 ≤ sizeLine; decide), .cons ⟨_, rfl⟩ (.cons ⟨_, rfl⟩ .nil)⟩, rpa_ints [0, 1]⟩⟩
  have F1 := fun_mk (st := s_is_whole) l1 c1 k1
  have F2 := fun_mk (st := s_greatest_common) l2 c2 k2
  have F3 := fun_mk (st := s_below) l3 c3 k3
  have F4 := fun_mk (st := s_sum_part) l4 c4 k4
  have F5 := fun_mk (st := s_all_some) l5 c5 k5
  have F6 := fun_mk (st := s__law_cell) l6 c6 k6
  have F7 := fun_mk (st := s__law_mix) l7 c7 k7
  have F8 := fun_mk (st := s__law_take) l8 c8 k8
  have F9 := fun_mk (st := s__law_whole) l9 c9 k9
  have F10 := fun_mk (st := s__law_common) l10 c10 k10
  have F11 := fun_mk (st := s__law_all_some) l11 c11 k11
  have F12 := fun_mk (st := s_made) l12 c12 k12
  have F13 := fun_mk (st := s_is_shares) l13 c13 k13
  have F14 := fun_mk (st := s_are_kinds) l14 c14 k14
  have F15 := fun_mk (st := s__law_box) l15 c15 k15
  have F16 := fun_mk (st := s__law_drawn_shares) l16 c16 k16
  have F17 := fun_mk (st := s__law_made) l17 c17 k17
  have F18 := fun_mk (st := s__law_odd) l18 c18 k18
  have F19 := fun_mk (st := s__law_is_fraction) l19 c19 k19
  have F20 := fun_mk (st := s__law_bent) l20 c20 k20
  have F21 := fun_mk (st := s_is_fraction) l21 c21 k21
  have F22 := fun_mk (st := s_sum_of) l22 c22 k22
  have F23 := fun_mk (st := s_times_of) l23 c23 k23
  have F24 := fun_mk (st := s_need_shares) l24 c24 k24
  have F25 := fun_mk (st := s__law_plus) l25 c25 k25
  have F26 := fun_mk (st := s__law_is_paper) l26 c26 k26
  have F27 := fun_mk (st := s_due_number) l27 c27 k27
  have F28 := fun_mk (st := s_is_paper) l28 c28 k28
  have F29 := fun_mk (st := s__law_paper) l29 c29 k29
  have F30 := fun_mk (st := s__law_due) l30 c30 k30
  have F31 := fun_mk (st := s_due_pairs) l31 c31 k31
  have F32 := fun_mk (st := s__law_bounds) l32 c32 k32
  have F33 := fun_mk (st := s__law_grown) l33 c33 k33
  have F34 := fun_mk (st := s_over_bound) l34 c34 k34
  have F35 := fun_mk (st := s_under_bound) l35 c35 k35
  have F36 := fun_mk (st := s_law) l36 c36 k36
  refine ⟨PySem.W.fnOf "law" "law" (defArgs s_law) (defBody s_law) (defScope s_law) .none kV36 dc36 pm36 an36 cd36 ct36, fun s v => .of_eq rfl, fun base _ _ hsy => ?_⟩
  have C1 : Cl P w K mg base 1 "is_whole" f_isWhole := ok_is_whole (P := P) (w := w) (base := base) F1 (PySem.W.mg_of X G a1) y_isinstance y_bool y_int
  have C2 : Cl P w K mg base 1 "greatest_common" f_gcd := ok_greatest_common (P := P) (w := w) (base := base) F2 (PySem.W.mg_of X G a2) 
  have C3 : Cl P w K mg base 1 "below" f_below := ok_below (P := P) (w := w) (base := base) F3 (PySem.W.mg_of X G a3) 
  have C4 : Cl P w K mg base 1 "sum_part" f_sumPart := ok_sum_part (P := P) (w := w) (base := base) F4 (PySem.W.mg_of X G a4) y_sum
  have C5 : Cl P w K mg base 1 "all_some" f_allSome := ok_all_some (P := P) (w := w) (base := base) F5 (PySem.W.mg_of X G a5) 
  have C6 : Cl P w K mg base 1 "_law_cell" f_cell := ok__law_cell (P := P) (w := w) (base := base) F6 (PySem.W.mg_of X G a6) y_len
  have C7 : Cl P w K mg base 1 "_law_mix" f_mix := ok__law_mix (P := P) (w := w) (base := base) F7 (PySem.W.mg_of X G a7) 
  have C8 : Cl P w K mg base 1 "_law_take" f_take := ok__law_take (P := P) (w := w) (base := base) F8 (PySem.W.mg_of X G a8) y_divmod
  have C9 : Cl P w K mg base 1 "_law_whole" f_isWhole := ok__law_whole (P := P) (w := w) (base := base) F9 (PySem.W.mg_of X G a9) y_isinstance y_bool y_int
  have C10 : Cl P w K mg base 1 "_law_common" f_gcd := ok__law_common (P := P) (w := w) (base := base) F10 (PySem.W.mg_of X G a10) 
  have C11 : Cl P w K mg base 1 "_law_all_some" f_lawAllSomeT := ok__law_all_some (P := P) (w := w) (base := base) F11 (PySem.W.mg_of X G a11) y_range
  have C12 : Cl P w K mg base 2 "made" f_made := ok_made (P := P) (w := w) (base := base) F12 (PySem.W.mg_of X G a12) y_abs C2
  have C13 : Cl P w K mg base 2 "is_shares" f_isShares := ok_is_shares (P := P) (w := w) (base := base) F13 (PySem.W.mg_of X G a13) y_len y_isinstance y_tuple y_all x_MOST_KINDS x_MOST_SHARE C1
  have C14 : Cl P w K mg base 2 "are_kinds" f_areKinds := ok_are_kinds (P := P) (w := w) (base := base) F14 (PySem.W.mg_of X G a14) y_all y_isinstance y_tuple y_range y_len C1
  have C15 : Cl P w K mg base 2 "_law_box" f_box := ok__law_box (P := P) (w := w) (base := base) F15 (PySem.W.mg_of X G a15) y_abs y_range C6 C7
  have C16 : Cl P w K mg base 2 "_law_drawn_shares" f_drawnShares := ok__law_drawn_shares (P := P) (w := w) (base := base) F16 (PySem.W.mg_of X G a16) y_tuple y_range C8
  have C17 : Cl P w K mg base 2 "_law_made" f_made := ok__law_made (P := P) (w := w) (base := base) F17 (PySem.W.mg_of X G a17) y_abs C10
  have C18 : Cl P w K mg base 2 "_law_odd" f_odd := ok__law_odd (P := P) (w := w) (base := base) F18 (PySem.W.mg_of X G a18) C8
  have C19 : Cl P w K mg base 2 "_law_is_fraction" f_isFrac := ok__law_is_fraction (P := P) (w := w) (base := base) F19 (PySem.W.mg_of X G a19) y_len y_isinstance y_tuple y_abs C9 C10
  have C20 : Cl P w K mg base 2 "_law_bent" f_bent17 := ok__law_bent (P := P) (w := w) (base := base) F20 (PySem.W.mg_of X G a20) y_sorted y_len y_dict y_list C8
  have C21 : Cl P w K mg base 3 "is_fraction" f_isFrac := ok_is_fraction (P := P) (w := w) (base := base) F21 (PySem.W.mg_of X G a21) y_len y_isinstance y_tuple C1 C12
  have C22 : Cl P w K mg base 3 "sum_of" f_sumOf := ok_sum_of (P := P) (w := w) (base := base) F22 (PySem.W.mg_of X G a22) C12
  have C23 : Cl P w K mg base 3 "times_of" f_timesOf := ok_times_of (P := P) (w := w) (base := base) F23 (PySem.W.mg_of X G a23) C12
  have C24 : Cl P w K mg base 3 "need_shares" f_needShares := ok_need_shares (P := P) (w := w) (base := base) F24 (PySem.W.mg_of X G a24) C13
  have C25 : Cl P w K mg base 3 "_law_plus" f_plusG := ok__law_plus (P := P) (w := w) (base := base) F25 (PySem.W.mg_of X G a25) C17
  have C26 : Cl P w K mg base 3 "_law_is_paper" f_lawIsPap := ok__law_is_paper (P := P) (w := w) (base := base) F26 (PySem.W.mg_of X G a26) y_len y_isinstance y_dict y_all y_tuple C11 C9 C19
  have C27 : Cl P w K mg base 4 "due_number" f_dueF := ok_due_number (P := P) (w := w) (base := base) F27 (PySem.W.mg_of X G a27) y_sum y_tuple C22 C23 C4
  have C28 : Cl P w K mg base 4 "is_paper" f_isPapG := ok_is_paper (P := P) (w := w) (base := base) F28 (PySem.W.mg_of X G a28) y_range y_len y_list y_isinstance y_dict x_NOUGHT C5 C14 C21
  have C29 : Cl P w K mg base 4 "_law_paper" f_lawPaper := ok__law_paper (P := P) (w := w) (base := base) F29 (PySem.W.mg_of X G a29) y_len y_sum y_tuple C11 C25 C17
  have C30 : Cl P w K mg base 4 "_law_due" f_lawDueD := ok__law_due (P := P) (w := w) (base := base) F30 (PySem.W.mg_of X G a30) y_sum y_tuple C25 C17
  have C31 : Cl P w K mg base 5 "due_pairs" f_duePairsD := ok_due_pairs (P := P) (w := w) (base := base) F31 (PySem.W.mg_of X G a31) y_range y_len y_list C5 C27
  have C32 : Cl P w K mg base 5 "_law_bounds" f_lawBounds := ok__law_bounds (P := P) (w := w) (base := base) F32 (PySem.W.mg_of X G a32) y_len y_range y_tuple C26 C11 C30
  have C33 : Cl P w K mg base 5 "_law_grown" f_grown := ok__law_grown (P := P) (w := w) (base := base) F33 (PySem.W.mg_of X G a33) y_len C11 C30 C8 C25
  have C34 : Cl P w K mg base 6 "over_bound" f_overG := ok_over_bound (P := P) (w := w) (base := base) F34 (PySem.W.mg_of X G a34) y_any y_range y_len y_tuple C24 C31 C3 C28
  have C35 : Cl P w K mg base 6 "under_bound" f_underG := ok_under_bound (P := P) (w := w) (base := base) F35 (PySem.W.mg_of X G a35) y_any y_range y_len y_tuple C24 C31 C3 C28
  exact ok_law F36 y_range y_max y_min y_len y_int y_dict y_repr C15 C16 C8 C18 C33 C29 C11 C20 C35 C34 C32 hsy
end
end Law
open PySem PySem.W PyProof.Rows
set_option maxRecDepth 100000 in
set_option maxHeartbeats 0 in
theorem PySem.Challenge.cw_kindsgathered_k17_bounds_by_papers_holds : PySem.Challenge.rw_kindsgathered_k17_bounds_by_papers.Holds := by
  w_on; o_law; k_head; (case hw => w_witness2)
  k_fill
  refine DL.walkS (l := PySem.Challenge.rw_kindsgathered_k17_bounds_by_papers) (n := 63) (k := 7) (x := "_law_script") (sp := DL.f_law) rfl (by decide) (by decide +kernel) rfl ⟨rfl, by decide, by decide⟩ (fun w h Y => PySem.W.kIn_of Y) ?F Law.law_ends
  case F =>
    intro w mg fa h KX G hmg
    refine' Law.all_mk KX G hmg ?a1 ?l1 ?c1 ?k1 ?a2 ?l2 ?c2 ?k2 ?a3 ?l3 ?c3 ?k3 ?a4 ?l4 ?c4 ?k4 ?a5 ?l5 ?c5 ?k5 ?a6 ?l6 ?c6 ?k6 ?a7 ?l7 ?c7 ?k7 ?a8 ?l8 ?c8 ?k8 ?a9 ?l9 ?c9 ?k9 ?a10 ?l10 ?c10 ?k10 ?a11 ?l11 ?c11 ?k11 ?a12 ?l12 ?c12 ?k12 ?a13 ?l13 ?c13 ?k13 ?a14 ?l14 ?c14 ?k14 ?a15 ?l15 ?c15 ?k15 ?a16 ?l16 ?c16 ?k16 ?a17 ?l17 ?c17 ?k17 ?a18 ?l18 ?c18 ?k18 ?a19 ?l19 ?c19 ?k19 ?a20 ?l20 ?c20 ?k20 ?a21 ?l21 ?c21 ?k21 ?a22 ?l22 ?c22 ?k22 ?a23 ?l23 ?c23 ?k23 ?a24 ?l24 ?c24 ?k24 ?a25 ?l25 ?c25 ?k25 ?a26 ?l26 ?c26 ?k26 ?a27 ?l27 ?c27 ?k27 ?a28 ?l28 ?c28 ?k28 ?a29 ?l29 ?c29 ?k29 ?a30 ?l30 ?c30 ?k30 ?a31 ?l31 ?c31 ?k31 ?a32 ?l32 ?c32 ?k32 ?a33 ?l33 ?c33 ?k33 ?a34 ?l34 ?c34 ?k34 ?a35 ?l35 ?c35 ?k35 ?a36 ?l36 ?c36 ?k36 ?z_abs ?z_all ?z_any ?z_bool ?z_dict ?z_divmod ?z_int ?z_isinstance ?z_len ?z_list ?z_max ?z_min ?z_range ?z_repr ?z_sorted ?z_sum ?z_tuple ?g_MOST_KINDS ?g_MOST_SHARE ?g_NOUGHT ?o_NOUGHT
    (case a1 => k_is)
    (case l1 => k_is)
    (case c1 => k_is)
    (case k1 => k_is)
    (case a2 => k_is)
    (case l2 => k_is)
    (case c2 => k_is)
    (case k2 => k_is)
    (case a3 => k_is)
    (case l3 => k_is)
    (case c3 => k_is)
    (case k3 => k_is)
    (case a4 => k_is)
    (case l4 => k_is)
    (case c4 => k_is)
    (case k4 => k_is)
    (case a5 => k_is)
    (case l5 => k_is)
    (case c5 => k_is)
    (case k5 => k_is)
    (case a6 => k_is)
    (case l6 => k_is)
    (case c6 => k_is)
    (case k6 => k_is)
    (case a7 => k_is)
    (case l7 => k_is)
    (case c7 => k_is)
    (case k7 => k_is)
    (case a8 => k_is)
    (case l8 => k_is)
    (case c8 => k_is)
    (case k8 => k_is)
    (case a9 => k_is)
    (case l9 => k_is)
    (case c9 => k_is)
    (case k9 => k_is)
    (case a10 => k_is)
    (case l10 => k_is)
    (case c10 => k_is)
    (case k10 => k_is)
    (case a11 => k_is)
    (case l11 => k_is)
    (case c11 => k_is)
    (case k11 => k_is)
    (case a12 => k_is)
    (case l12 => k_is)
    (case c12 => k_is)
    (case k12 => k_is)
    (case a13 => k_is)
    (case l13 => k_is)
    (case c13 => k_is)
    (case k13 => k_is)
    (case a14 => k_is)
    (case l14 => k_is)
    (case c14 => k_is)
    (case k14 => k_is)
    (case a15 => k_is)
    (case l15 => k_is)
    (case c15 => k_is)
    (case k15 => k_is)
    (case a16 => k_is)
    (case l16 => k_is)
    (case c16 => k_is)
    (case k16 => k_is)
    (case a17 => k_is)
    (case l17 => k_is)
    (case c17 => k_is)
    (case k17 => k_is)
    (case a18 => k_is)
    (case l18 => k_is)
    (case c18 => k_is)
    (case k18 => k_is)
    (case a19 => k_is)
    (case l19 => k_is)
    (case c19 => k_is)
    (case k19 => k_is)
    (case a20 => k_is)
    (case l20 => k_is)
    (case c20 => k_is)
    (case k20 => k_is)
    (case a21 => k_is)
    (case l21 => k_is)
    (case c21 => k_is)
    (case k21 => k_is)
    (case a22 => k_is)
    (case l22 => k_is)
    (case c22 => k_is)
    (case k22 => k_is)
    (case a23 => k_is)
    (case l23 => k_is)
    (case c23 => k_is)
    (case k23 => k_is)
    (case a24 => k_is)
    (case l24 => k_is)
    (case c24 => k_is)
    (case k24 => k_is)
    (case a25 => k_is)
    (case l25 => k_is)
    (case c25 => k_is)
    (case k25 => k_is)
    (case a26 => k_is)
    (case l26 => k_is)
    (case c26 => k_is)
    (case k26 => k_is)
    (case a27 => k_is)
    (case l27 => k_is)
    (case c27 => k_is)
    (case k27 => k_is)
    (case a28 => k_is)
    (case l28 => k_is)
    (case c28 => k_is)
    (case k28 => k_is)
    (case a29 => k_is)
    (case l29 => k_is)
    (case c29 => k_is)
    (case k29 => k_is)
    (case a30 => k_is)
    (case l30 => k_is)
    (case c30 => k_is)
    (case k30 => k_is)
    (case a31 => k_is)
    (case l31 => k_is)
    (case c31 => k_is)
    (case k31 => k_is)
    (case a32 => k_is)
    (case l32 => k_is)
    (case c32 => k_is)
    (case k32 => k_is)
    (case a33 => k_is)
    (case l33 => k_is)
    (case c33 => k_is)
    (case k33 => k_is)
    (case a34 => k_is)
    (case l34 => k_is)
    (case c34 => k_is)
    (case k34 => k_is)
    (case a35 => k_is)
    (case l35 => k_is)
    (case c35 => k_is)
    (case k35 => k_is)
    (case a36 => k_is)
    (case l36 => k_is)
    (case c36 => k_is)
    (case k36 => k_is)
    (case z_abs => k_is)
    (case z_all => k_is)
    (case z_any => k_is)
    (case z_bool => k_is)
    (case z_dict => k_is)
    (case z_divmod => k_is)
    (case z_int => k_is)
    (case z_isinstance => k_is)
    (case z_len => k_is)
    (case z_list => k_is)
    (case z_max => k_is)
    (case z_min => k_is)
    (case z_range => k_is)
    (case z_repr => k_is)
    (case z_sorted => k_is)
    (case z_sum => k_is)
    (case z_tuple => k_is)
    (case g_MOST_KINDS => k_is)
    (case g_MOST_SHARE => k_is)
    (case g_NOUGHT => k_is)
    (case o_NOUGHT => k_is)
