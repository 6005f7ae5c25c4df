import PyProof.Rows.All
import Wide.All
import OpenK.AllK
import Wide.FinOn
import HandS.ForMost
import HandS.ForExc
import HandS.IsInst
import HandS.Wide
import HandS.TupAny
import HandS.TupMul
import HandS.Conv
import HandS.Deep
import PyProof.ReprRoads
import PyProof.SumWalkG
import PyProof.WalksMore
import HandS.EndBits
import PyProof.ReprLen
import HandS.TupLe
import HandS.Text
import HandS.StrSplit
import HandS.Iter
import HandS.Walk
import HandS.TryOnly
import KE.SortKeyHeap
import HandS.SortKw
import KE.KDictDisplayH
import HandS.SortInts
import HandS.Zip
import KE.GoesMore
import KE.KDictWalk
import HandS.Dict
import KE.KDictPairs
import KE.KDictCopyH
import HandS.Style
import HandS.HotCalls
import HandS.ExcIs
import HandS.ExcCtx
import HandS.Strs
import HandS.TupLen
import KE.SortData
import HandS.DictTup
import PyProof.StrLawsRepr
import KE.KDictKeyed
import HandS.CallLocal
import PyProof.ReprReads
import PyProof.ReprText
import PyProof.Rows.ReprOcc
import HandS.WordsDict
import KE.KRevSl
import HandS.SetFor
import HandS.Flow
import HandS.ExcInit
import HandS.ClsMeth
import HandS.ExcField
import PySem.Challenge.RW_kindsgathered_k05_what_is_refused_first
set_option Elab.async false
set_option linter.all false
set_option maxRecDepth 100000
set_option maxHeartbeats 4000000
namespace DL
open PySem L2
/-! data behind values -/
def keyD : Key → PyData
  | .inl i => .int i
  | .inr x => .str x
mutual
def Rp (K : PySem.W.Frag) (G : Hp) : PyData → V → Prop
  | .none, v => v = .non
  | .bool b, v => v = .bl b
  | .int i, v => v = .int i
  | .str s, v => v = .str s
  | .list ds, v => ∃ a xs, v = .ref a ∧ Rd G a (.lst xs) ∧ RpAll K G ds xs
  | .tuple ds, v => ∃ a xs, v = .ref a ∧ SqT K G a xs ∧ RpAll K G ds xs
  | .dict kvs, v => ∃ a, v = .ref a ∧ ((∃ es, G a = some (.dT es) ∧ RpT K G kvs es) ∨ (∃ es, G a = some (.dK es) ∧ RpK K G kvs es))
def RpAll (K : PySem.W.Frag) (G : Hp) : List PyData → List V → Prop
  | [], xs => xs = []
  | d :: ds, xs => ∃ x r, xs = x :: r ∧ Rp K G d x ∧ RpAll K G ds r
def RpT (K : PySem.W.Frag) (G : Hp) : List (PyData × PyData) → List (List Key × V) → Prop
  | [], es => es = []
  | (k, d) :: r, es => ∃ ks v t, es = (ks, v) :: t ∧ k = .tuple (ks.map keyD) ∧ Rp K G d v ∧ RpT K G r t
def RpK (K : PySem.W.Frag) (G : Hp) : List (PyData × PyData) → List (Key × V) → Prop
  | [], es => es = []
  | (k, d) :: r, es => ∃ ks v t, es = (ks, v) :: t ∧ k = keyD ks ∧ Rp K G d v ∧ RpK K G r t
end
def Le (G G' : Hp) : Prop := ∀ a o, G a = some o → G' a = some o
theorem Le.refl (G : Hp) : Le G G := fun _ _ h => h
theorem Le.trans {G G1 G2 : Hp} (a : Le G G1) (b : Le G1 G2) : Le G G2 := fun x o h => b x o (a x o h)
theorem Le.new {G : Hp} {p : Addr} {o : HO} (h : G p = none) : Le G (upd G p o) := fun a u e => by
  rw [upd_ne (ne_of_none e h)]; exact e
theorem Le.rd {G G' : Hp} {a : Addr} {u : HO} (e : Le G G') (h : Rd G a u) : Rd G' a u := by
  rcases h with h | ⟨o, h⟩
  · exact Or.inl (e a _ h)
  · exact Or.inr ⟨o, e a _ h⟩
theorem Le.sqL {K : PySem.W.Frag} {G G' : Hp} {a : Addr} {xs : List V} (e : Le G G') (h : SqL K G a xs) : SqL K G' a xs := by
  rcases h with h | h
  · exact Or.inl (e.rd h)
  · exact Or.inr h
theorem Le.sqT {K : PySem.W.Frag} {G G' : Hp} {a : Addr} {xs : List V} (e : Le G G') (h : SqT K G a xs) : SqT K G' a xs := by
  rcases h with h | h
  · exact Or.inl (e.rd h)
  · exact Or.inr h
mutual
theorem Rp.mono {K : PySem.W.Frag} {G G' : Hp} (e : Le G G') : ∀ (d : PyData) (v : V), Rp K G d v → Rp K G' d v
  | .none, v, h => by rw [Rp] at h ⊢; exact h
  | .bool b, v, h => by rw [Rp] at h ⊢; exact h
  | .int i, v, h => by rw [Rp] at h ⊢; exact h
  | .str s, v, h => by rw [Rp] at h ⊢; exact h
  | .list ds, v, h => by
    rw [Rp] at h ⊢
    obtain ⟨a, xs, h1, h2, h3⟩ := h
    exact ⟨a, xs, h1, e.rd h2, RpAll.mono e ds xs h3⟩
  | .tuple ds, v, h => by
    rw [Rp] at h ⊢
    obtain ⟨a, xs, h1, h2, h3⟩ := h
    exact ⟨a, xs, h1, e.sqT h2, RpAll.mono e ds xs h3⟩
  | .dict kvs, v, h => by
    rw [Rp] at h ⊢
    obtain ⟨a, h1, h2⟩ := h
    refine ⟨a, h1, ?_⟩
    rcases h2 with ⟨es, h3, h4⟩ | ⟨es, h3, h4⟩
    · exact Or.inl ⟨es, e _ _ h3, RpT.mono e kvs es h4⟩
    · exact Or.inr ⟨es, e _ _ h3, RpK.mono e kvs es h4⟩
theorem RpAll.mono {K : PySem.W.Frag} {G G' : Hp} (e : Le G G') : ∀ (ds : List PyData) (xs : List V), RpAll K G ds xs → RpAll K G' ds xs
  | [], xs, h => by rw [RpAll] at h ⊢; exact h
  | d :: ds, xs, h => by
    rw [RpAll] at h ⊢
    obtain ⟨x, r, h1, h2, h3⟩ := h
    exact ⟨x, r, h1, Rp.mono e d x h2, RpAll.mono e ds r h3⟩
theorem RpT.mono {K : PySem.W.Frag} {G G' : Hp} (e : Le G G') : ∀ (kvs : List (PyData × PyData)) (es : List (List Key × V)), RpT K G kvs es → RpT K G' kvs es
  | [], es, h => by rw [RpT] at h ⊢; exact h
  | (k, d) :: r, es, h => by
    rw [RpT] at h ⊢
    obtain ⟨ks, v, t, h1, h2, h3, h4⟩ := h
    exact ⟨ks, v, t, h1, h2, Rp.mono e d v h3, RpT.mono e r t h4⟩
theorem RpK.mono {K : PySem.W.Frag} {G G' : Hp} (e : Le G G') : ∀ (kvs : List (PyData × PyData)) (es : List (Key × V)), RpK K G kvs es → RpK K G' kvs es
  | [], es, h => by rw [RpK] at h ⊢; exact h
  | (k, d) :: r, es, h => by
    rw [RpK] at h ⊢
    obtain ⟨ks, v, t, h1, h2, h3, h4⟩ := h
    exact ⟨ks, v, t, h1, h2, Rp.mono e d v h3, RpK.mono e r t h4⟩
end
section
variable {K : PySem.W.Frag} {G : Hp} {v : V}
theorem rp_none : Rp K G .none v ↔ v = .non := by rw [Rp]
theorem rp_bool {b : Bool} : Rp K G (.bool b) v ↔ v = .bl b := by rw [Rp]
theorem rp_int {i : Int} : Rp K G (.int i) v ↔ v = .int i := by rw [Rp]
theorem rp_str {s : Str} : Rp K G (.str s) v ↔ v = .str s := by rw [Rp]
theorem rp_list {ds : List PyData} : Rp K G (.list ds) v ↔ ∃ a xs, v = .ref a ∧ Rd G a (.lst xs) ∧ RpAll K G ds xs := by rw [Rp]
theorem rp_tuple {ds : List PyData} : Rp K G (.tuple ds) v ↔ ∃ a xs, v = .ref a ∧ SqT K G a xs ∧ RpAll K G ds xs := by rw [Rp]
theorem rpa_nil {xs : List V} : RpAll K G [] xs ↔ xs = [] := by rw [RpAll]
theorem rpa_cons {d : PyData} {ds : List PyData} {xs : List V} : RpAll K G (d :: ds) xs ↔ ∃ x r, xs = x :: r ∧ Rp K G d x ∧ RpAll K G ds r := by rw [RpAll]
end
theorem RpAll.length {K : PySem.W.Frag} {G : Hp} : ∀ {ds : List PyData} {xs : List V}, RpAll K G ds xs → xs.length = ds.length
  | [], xs, h => by rw [RpAll] at h; rw [h]; rfl
  | d :: ds, xs, h => by
    rw [RpAll] at h
    obtain ⟨x, r, h1, _, h3⟩ := h
    rw [h1, List.length_cons, List.length_cons, RpAll.length h3]
theorem RpAll.get {K : PySem.W.Frag} {G : Hp} : ∀ {ds : List PyData} {xs : List V} {i : Nat} {x : V}, RpAll K G ds xs → xs[i]? = some x → ∃ d, ds[i]? = some d ∧ Rp K G d x
  | [], xs, i, x, h, e => by rw [RpAll] at h; subst h; simp at e
  | d :: ds, xs, 0, x, h, e => by
    rw [RpAll] at h
    obtain ⟨y, r, h1, h2, _⟩ := h
    subst h1
    simp at e
    subst e
    exact ⟨d, rfl, h2⟩
  | d :: ds, xs, i + 1, x, h, e => by
    rw [RpAll] at h
    obtain ⟨y, r, h1, _, h3⟩ := h
    subst h1
    obtain ⟨z, h4, h5⟩ := RpAll.get (i := i) (x := x) h3 (by simpa using e)
    exact ⟨z, by simpa using h4, h5⟩
theorem RpAll.at {K : PySem.W.Frag} {G : Hp} : ∀ {ds : List PyData} {xs : List V} {i : Nat} {d : PyData}, RpAll K G ds xs → ds[i]? = some d → ∃ x, xs[i]? = some x ∧ Rp K G d x
  | [], xs, i, d, h, e => by simp at e
  | d0 :: ds, xs, 0, d, h, e => by
    rw [RpAll] at h
    obtain ⟨y, r, h1, h2, _⟩ := h
    subst h1
    simp at e
    subst e
    exact ⟨y, rfl, h2⟩
  | d0 :: ds, xs, i + 1, d, h, e => by
    rw [RpAll] at h
    obtain ⟨y, r, h1, _, h3⟩ := h
    subst h1
    obtain ⟨z, h4, h5⟩ := RpAll.at (i := i) (d := d) h3 (by simpa using e)
    exact ⟨z, by simpa using h4, h5⟩
theorem RpAll.append {K : PySem.W.Frag} {G : Hp} : ∀ {ds es : List PyData} {xs ys : List V}, RpAll K G ds xs → RpAll K G es ys → RpAll K G (ds ++ es) (xs ++ ys)
  | [], es, xs, ys, h, g => by rw [RpAll] at h; subst h; exact g
  | d :: ds, es, xs, ys, h, g => by
    rw [RpAll] at h
    obtain ⟨y, r, h1, h2, h3⟩ := h
    subst h1
    rw [List.cons_append, List.cons_append, RpAll]
    exact ⟨y, r ++ ys, rfl, h2, RpAll.append h3 g⟩
theorem RpAll.ints {K : PySem.W.Frag} {G : Hp} : ∀ {ns : List Int} {xs : List V}, RpAll K G (ns.map PyData.int) xs → xs = ns.map V.int
  | [], xs, h => by rw [List.map_nil, RpAll] at h; rw [h]; rfl
  | n :: ns, xs, h => by
    rw [List.map_cons, RpAll] at h
    obtain ⟨y, r, h1, h2, h3⟩ := h
    rw [Rp] at h2
    rw [h1, h2, RpAll.ints h3]; rfl
theorem RpAll.bools {K : PySem.W.Frag} {G : Hp} : ∀ {ns : List Bool} {xs : List V}, RpAll K G (ns.map PyData.bool) xs → xs = ns.map V.bl
  | [], xs, h => by rw [List.map_nil, RpAll] at h; rw [h]; rfl
  | n :: ns, xs, h => by
    rw [List.map_cons, RpAll] at h
    obtain ⟨y, r, h1, h2, h3⟩ := h
    rw [Rp] at h2
    rw [h1, h2, RpAll.bools h3]; rfl
theorem rpa_ints {K : PySem.W.Frag} {G : Hp} : ∀ (ns : List Int), RpAll K G (ns.map PyData.int) (ns.map V.int)
  | [] => by rw [List.map_nil, RpAll]; rfl
  | n :: ns => by
    rw [List.map_cons, List.map_cons, RpAll]
    exact ⟨_, _, rfl, by rw [Rp], rpa_ints ns⟩
/-! values at this level -/
inductive Val where
  | d (x : PyData)
  | v (w : V)
  | scr (ns : List Int)
  | any
  /-- a tuple of ints, made by the code itself -/
  | t (ns : List Int)
  /-- a list of such tuples, that stays as it is -/
  | lt (nss : List (List Int))
  /-- a pair of such a tuple and data -/
  | p (ns : List Int) (x : PyData)
  /-- a tuple of ints without attributes of its own -/
  | f (ns : List Int)
  /-- any other thing that stays as it is, by what is true of it -/
  | g (P : Hp → V → Prop)
def TAll (G : Hp) : List (List Int) → List V → Prop
  | [], xs => xs = []
  | ns :: r, xs => ∃ b t, xs = .ref b :: t ∧ G b = some (.tup (ns.map V.int)) ∧ TAll G r t
theorem TAll.mono {G G' : Hp} (e : Le G G') : ∀ {nss : List (List Int)} {xs : List V}, TAll G nss xs → TAll G' nss xs
  | [], xs, h => h
  | ns :: r, xs, h => by
    obtain ⟨b, t, h1, h2, h3⟩ := h
    exact ⟨b, t, h1, e _ _ h2, TAll.mono e h3⟩
theorem TAll.all {K : PySem.W.Frag} {G : Hp} : ∀ {nss : List (List Int)} {xs : List V}, TAll G nss xs → RpAll K G (nss.map fun ns => .tuple (ns.map PyData.int)) xs
  | [], xs, h => by rw [List.map_nil, RpAll]; exact h
  | ns :: r, xs, h => by
    obtain ⟨b, t, h1, h2, h3⟩ := h
    rw [List.map_cons, RpAll]
    exact ⟨_, t, h1, rp_tuple.mpr ⟨b, _, rfl, SqT.of h2, rpa_ints ns⟩, TAll.all h3⟩
inductive VR (K : PySem.W.Frag) (G : Hp) : Val → V → Prop
  | d {x : PyData} {v : V} (h : Rp K G x v) : VR K G (.d x) v
  | v {w : V} : VR K G (.v w) w
  | scr {ns : List Int} {a : Addr} (h : SqL K G a (ns.map V.int)) : VR K G (.scr ns) (.ref a)
  | any {v : V} : VR K G .any v
  | t {ns : List Int} {a : Addr} (h : G a = some (.tup (ns.map V.int))) : VR K G (.t ns) (.ref a)
  | lt {nss : List (List Int)} {a : Addr} {xs : List V} (h : Rd G a (.lst xs)) (h2 : TAll G nss xs) : VR K G (.lt nss) (.ref a)
  | p {ns : List Int} {x : PyData} {a b : Addr} {w : V} (h : G a = some (.tup [.ref b, w])) (h2 : G b = some (.tup (ns.map V.int))) (h3 : Rp K G x w) : VR K G (.p ns x) (.ref a)
  | f {ns : List Int} {a : Addr} {o : Obj} (h : G a = some (.frz o (.tup (ns.map V.int)))) (h1 : o.cls = .type "tuple") (h2 : o.dict = none) : VR K G (.f ns) (.ref a)
  | g {P : Hp → V → Prop} {v : V} (h : P G v) (h1 : ∀ G G', Le G G' → P G v → P G' v) : VR K G (.g P) v
theorem VR.mono {K : PySem.W.Frag} {G G' : Hp} (e : Le G G') {r : Val} {v : V} (h : VR K G r v) : VR K G' r v := by
  cases h with
  | d h => exact .d (Rp.mono e _ v h)
  | v => exact .v
  | scr h => exact .scr (e.sqL h)
  | any => exact .any
  | t h => exact .t (e _ _ h)
  | lt h h2 => exact .lt (e.rd h) (h2.mono e)
  | p h h2 h3 => exact .p (e _ _ h) (e _ _ h2) (Rp.mono e _ _ h3)
  | f h h1 h2 => exact .f (e _ _ h) h1 h2
  | g h h1 => exact .g (h1 _ _ e h) h1
theorem VR.rp {K : PySem.W.Frag} {G : Hp} {x : PyData} {v : V} (h : VR K G (.d x) v) : Rp K G x v := by
  cases h with
  | d h => exact h
theorem VR.eq {K : PySem.W.Frag} {G : Hp} {w v : V} (h : VR K G (.v w) v) : v = w := by
  cases h with
  | v => rfl
def VRs (K : PySem.W.Frag) (G : Hp) : List Val → List V → Prop
  | [], xs => xs = []
  | r :: rs, xs => ∃ x t, xs = x :: t ∧ VR K G r x ∧ VRs K G rs t
theorem VRs.mono {K : PySem.W.Frag} {G G' : Hp} (e : Le G G') : ∀ {rs : List Val} {xs : List V}, VRs K G rs xs → VRs K G' rs xs
  | [], xs, h => h
  | r :: rs, xs, h => by
    obtain ⟨x, t, h1, h2, h3⟩ := h
    exact ⟨x, t, h1, h2.mono e, VRs.mono e h3⟩
theorem VRs.length {K : PySem.W.Frag} {G : Hp} : ∀ {rs : List Val} {xs : List V}, VRs K G rs xs → xs.length = rs.length
  | [], xs, h => by
    have h : xs = [] := h
    rw [h]; rfl
  | r :: rs, xs, h => by
    obtain ⟨x, t, h1, _, h3⟩ := h
    rw [h1, List.length_cons, List.length_cons, VRs.length h3]
theorem VRs.ofAll {K : PySem.W.Frag} {G : Hp} : ∀ {ds : List PyData} {xs : List V}, RpAll K G ds xs → VRs K G (ds.map Val.d) xs
  | [], xs, h => by rw [RpAll] at h; exact h
  | d :: ds, xs, h => by
    rw [RpAll] at h
    obtain ⟨x, r, h1, h2, h3⟩ := h
    exact ⟨x, r, h1, .d h2, VRs.ofAll h3⟩
theorem VRs.toAll {K : PySem.W.Frag} {G : Hp} : ∀ {ds : List PyData} {xs : List V}, VRs K G (ds.map Val.d) xs → RpAll K G ds xs
  | [], xs, h => by rw [RpAll]; exact h
  | d :: ds, xs, h => by
    obtain ⟨x, r, h1, h2, h3⟩ := h
    rw [RpAll]
    exact ⟨x, r, h1, h2.rp, VRs.toAll h3⟩
theorem VRs.append {K : PySem.W.Frag} {G : Hp} : ∀ {rs ss : List Val} {xs ys : List V}, VRs K G rs xs → VRs K G ss ys → VRs K G (rs ++ ss) (xs ++ ys)
  | [], ss, xs, ys, h, g => by
    have h : xs = [] := h
    subst h; exact g
  | r :: rs, ss, xs, ys, h, g => by
    obtain ⟨x, t, h1, h2, h3⟩ := h
    subst h1
    exact ⟨x, t ++ ys, rfl, h2, VRs.append h3 g⟩
/-! slots -/
def Sl (K : PySem.W.Frag) (G : Hp) : List Val → St → Prop
  | [], s => s = []
  | r :: rs, s => ∃ x t, s = x :: t ∧ (r = .any ∨ ∃ v, x = some v ∧ VR K G r v) ∧ Sl K G rs t
theorem Sl.mono {K : PySem.W.Frag} {G G' : Hp} (e : Le G G') : ∀ {rs : List Val} {s : St}, Sl K G rs s → Sl K G' rs s
  | [], s, h => h
  | r :: rs, s, h => by
    obtain ⟨x, t, h1, h2, h3⟩ := h
    refine ⟨x, t, h1, ?_, Sl.mono e h3⟩
    rcases h2 with h2 | ⟨v, h2, h4⟩
    · exact Or.inl h2
    · exact Or.inr ⟨v, h2, h4.mono e⟩
theorem Sl.get {K : PySem.W.Frag} {G : Hp} : ∀ {rs : List Val} {s : St} {i : Nat} {r : Val}, Sl K G rs s → rs[i]? = some r → r ≠ .any → ∃ v, s[i]? = some (some v) ∧ VR K G r v
  | [], s, i, r, h, e, _ => by simp at e
  | r0 :: rs, s, 0, r, h, e, n => by
    obtain ⟨x, t, h1, h2, h3⟩ := h
    subst h1
    have e : r0 = r := by simpa using e
    subst e
    rcases h2 with h2 | ⟨v, h2, h4⟩
    · exact absurd h2 n
    · exact ⟨v, by rw [h2]; rfl, h4⟩
  | r0 :: rs, s, i + 1, r, h, e, n => by
    obtain ⟨x, t, h1, h2, h3⟩ := h
    subst h1
    obtain ⟨v, h5, h6⟩ := Sl.get (i := i) (r := r) h3 (by simpa using e) n
    exact ⟨v, by simpa using h5, h6⟩
theorem Sl.set {K : PySem.W.Frag} {G : Hp} {r : Val} {v : V} (hv : VR K G r v) : ∀ {rs : List Val} {s : St} (i : Nat), Sl K G rs s → Sl K G (rs.set i r) (s.set i (some v))
  | [], s, i, h => by
    have h : s = [] := h
    subst h; exact rfl
  | r0 :: rs, s, 0, h => by
    obtain ⟨x, t, h1, h2, h3⟩ := h
    subst h1
    exact ⟨some v, t, rfl, Or.inr ⟨v, rfl, hv⟩, h3⟩
  | r0 :: rs, s, i + 1, h => by
    obtain ⟨x, t, h1, h2, h3⟩ := h
    subst h1
    exact ⟨x, t.set i (some v), rfl, h2, Sl.set hv i h3⟩
theorem Sl.forget {K : PySem.W.Frag} {G : Hp} : ∀ {rs : List Val} {s : St} (i : Nat), Sl K G rs s → Sl K G (rs.set i .any) (s.set i none)
  | [], s, i, h => by
    have h : s = [] := h
    subst h; exact rfl
  | r0 :: rs, s, 0, h => by
    obtain ⟨x, t, h1, h2, h3⟩ := h
    subst h1
    exact ⟨none, t, rfl, Or.inl rfl, h3⟩
  | r0 :: rs, s, i + 1, h => by
    obtain ⟨x, t, h1, h2, h3⟩ := h
    subst h1
    exact ⟨x, t.set i none, rfl, h2, Sl.forget i h3⟩
theorem Sl.length {K : PySem.W.Frag} {G : Hp} : ∀ {rs : List Val} {s : St}, Sl K G rs s → s.length = rs.length
  | [], s, h => by
    have h : s = [] := h
    rw [h]; rfl
  | r :: rs, s, h => by
    obtain ⟨x, t, h1, _, h3⟩ := h
    rw [h1, List.length_cons, List.length_cons, Sl.length h3]
theorem Sl.anys {K : PySem.W.Frag} {G : Hp} : ∀ (n : Nat), Sl K G (List.replicate n .any) (List.replicate n none)
  | 0 => rfl
  | n + 1 => ⟨none, List.replicate n none, rfl, Or.inl rfl, Sl.anys n⟩
theorem Sl.start {K : PySem.W.Frag} {G : Hp} : ∀ {rs : List Val} {vs : List V} (n : Nat), VRs K G rs vs → Sl K G (rs ++ List.replicate n .any) (vs.map some ++ List.replicate n none)
  | [], vs, n, h => by
    have h : vs = [] := h
    subst h; exact Sl.anys n
  | r :: rs, vs, n, h => by
    obtain ⟨x, t, h1, h2, h3⟩ := h
    subst h1
    exact ⟨some x, _, rfl, Or.inr ⟨x, rfl, h2⟩, Sl.start n h3⟩
/-! what may change -/
inductive MO where
  | lst (rs : List Val)
  | dT (kvs : List (List Key × Val))
  | dK (kvs : List (Key × Val))
  /-- a dict that is being walked -/
  | lk (od : Obj) (es : List (List Key × V)) (kvs : List (List Key × Val))
  /-- a list of one whole number -/
  | box
  /-- any other thing, by what is true of it -/
  | g (P : Hp → Hp → Addr → Prop)
abbrev Mm := Addr → Option MO
def put (m : Mm) (a : Addr) (o : MO) : Mm := fun b => if b = a then some o else m b
def del (m : Mm) (a : Addr) : Mm := fun b => if b = a then none else m b
theorem put_same {m : Mm} {a : Addr} {o : MO} : put m a o a = some o := by unfold put; rw [if_pos rfl]
theorem put_ne {m : Mm} {a b : Addr} {o : MO} (h : b ≠ a) : put m a o b = m b := by unfold put; rw [if_neg h]
theorem put_put {m : Mm} {a : Addr} {o u : MO} : put (put m a o) a u = put m a u := by
  funext b; unfold put; split <;> rfl
theorem put_comm {m : Mm} {a b : Addr} {o u : MO} (h : a ≠ b) : put (put m a o) b u = put (put m b u) a o := by
  funext c; unfold put
  by_cases h1 : c = b
  · rw [if_pos h1]
    by_cases h2 : c = a
    · exact absurd (h2.symm.trans h1) h
    · rw [if_neg h2, if_pos h1]
  · rw [if_neg h1]
    by_cases h2 : c = a
    · rw [if_pos h2, if_pos h2]
    · rw [if_neg h2, if_neg h2, if_neg h1]
theorem ne_of_get {m : Mm} {a b : Addr} {o : MO} (h : m a = some o) (g : m b = none) : a ≠ b := fun e => by
  rw [e, g] at h; cases h
def KVs (K : PySem.W.Frag) (G : Hp) {α : Type} : List (α × Val) → List (α × V) → Prop
  | [], es => es = []
  | (k, r) :: t, es => ∃ v u, es = (k, v) :: u ∧ VR K G r v ∧ KVs K G t u
theorem KVs.mono {K : PySem.W.Frag} {G G' : Hp} {α : Type} (e : Le G G') : ∀ {kvs : List (α × Val)} {es : List (α × V)}, KVs K G kvs es → KVs K G' kvs es
  | [], es, h => h
  | (k, r) :: t, es, h => by
    obtain ⟨v, u, h1, h2, h3⟩ := h
    exact ⟨v, u, h1, h2.mono e, KVs.mono e h3⟩
def MR (K : PySem.W.Frag) (G H : Hp) (a : Addr) : MO → Prop
  | .lst rs => ∃ xs, H a = some (.lst xs) ∧ VRs K G rs xs
  | .dT kvs => ∃ es, H a = some (.dT es) ∧ KVs K G kvs es
  | .dK kvs => ∃ es, H a = some (.dK es) ∧ KVs K G kvs es
  | .lk od es kvs => H a = some (.frz od (.dT es)) ∧ KVs K G kvs es
  | .box => ∃ n : Int, H a = some (.lst [.int n])
  | .g P => P G H a ∧ (∀ G G' H H' : Hp, Le G G' → H' a = H a → P G H a → P G' H' a) ∧ (∃ u, H a = some u) ∧ ∀ xs, H a ≠ some (.tup xs)
theorem MR.some {K : PySem.W.Frag} {G H : Hp} {a : Addr} {o : MO} (h : MR K G H a o) : ∃ u, H a = some u := by
  cases o with
  | lst rs => obtain ⟨xs, h, _⟩ := h; exact ⟨_, h⟩
  | dT kvs => obtain ⟨xs, h, _⟩ := h; exact ⟨_, h⟩
  | dK kvs => obtain ⟨xs, h, _⟩ := h; exact ⟨_, h⟩
  | lk od es kvs => exact ⟨_, h.1⟩
  | box => obtain ⟨n, h⟩ := h; exact ⟨_, h⟩
  | g P => exact h.2.2.1
theorem MR.mono {K : PySem.W.Frag} {G G' H H' : Hp} {a : Addr} {o : MO} (e : Le G G') (hh : H' a = H a) (h : MR K G H a o) : MR K G' H' a o := by
  cases o with
  | lst rs => obtain ⟨xs, h, g⟩ := h; exact ⟨xs, hh.trans h, g.mono e⟩
  | dT kvs => obtain ⟨xs, h, g⟩ := h; exact ⟨xs, hh.trans h, g.mono e⟩
  | dK kvs => obtain ⟨xs, h, g⟩ := h; exact ⟨xs, hh.trans h, g.mono e⟩
  | lk od es kvs => exact ⟨hh.trans h.1, h.2.mono e⟩
  | box => obtain ⟨n, h⟩ := h; exact ⟨n, hh.trans h⟩
  | g P => obtain ⟨h1, h2, h3, h4⟩ := h; exact ⟨h2 _ _ _ _ e hh h1, h2, by rw [hh]; exact h3, by rw [hh]; exact h4⟩
structure Sta (K : PySem.W.Frag) (m : Mm) (H G : Hp) : Prop where
  sub : ∀ a o, G a = some o → H a = some o
  mem : ∀ a o, m a = some o → MR K G H a o
  dis : ∀ a o, m a = some o → G a = none
section
variable {K : PySem.W.Frag} {m : Mm} {H G : Hp} {p : Addr} {o : HO}
theorem Sta.free (S : Sta K m H G) (h : H p = none) : G p = none := by
  cases e : G p with
  | none => rfl
  | some u => rw [S.sub p u e] at h; cases h
theorem Sta.freeM (S : Sta K m H G) (h : H p = none) : m p = none := by
  cases e : m p with
  | none => rfl
  | some u =>
    obtain ⟨x, hx⟩ := (S.mem p u e).some
    rw [hx] at h; cases h
/-- a new thing that stays as it is -/
theorem Sta.fix (S : Sta K m H G) (h : H p = none) : Sta K m (upd H p o) (upd G p o) := by
  have hg := S.free h
  have hm := S.freeM h
  refine ⟨fun a u e => ?_, fun a u e => ?_, fun a u e => ?_⟩
  · by_cases ha : a = p
    · subst ha; rw [upd_same] at e ⊢; exact e
    · rw [upd_ne ha] at e ⊢; exact S.sub a u e
  · have ha : a ≠ p := ne_of_get e hm
    exact (S.mem a u e).mono (Le.new hg) (upd_ne ha)
  · have ha : a ≠ p := ne_of_get e hm
    rw [upd_ne ha]; exact S.dis a u e
/-- a new thing that may change -/
theorem Sta.new {u : MO} (S : Sta K m H G) (h : H p = none) (hu : MR K G (upd H p o) p u) : Sta K (put m p u) (upd H p o) G := by
  have hg := S.free h
  refine ⟨fun a w e => ?_, fun a w e => ?_, fun a w e => ?_⟩
  · rw [upd_ne (ne_of_none e hg)]; exact S.sub a w e
  · by_cases ha : a = p
    · subst ha; rw [put_same] at e; cases e; exact hu
    · rw [put_ne ha] at e
      exact (S.mem a w e).mono (Le.refl G) (upd_ne ha)
  · by_cases ha : a = p
    · subst ha; exact hg
    · rw [put_ne ha] at e; exact S.dis a w e
/-- a thing changed -/
theorem Sta.chg {u w : MO} (S : Sta K m H G) (h : m p = some w) (hu : MR K G (upd H p o) p u) : Sta K (put m p u) (upd H p o) G := by
  have hg := S.dis p w h
  refine ⟨fun a w e => ?_, fun a w e => ?_, fun a w e => ?_⟩
  · rw [upd_ne (ne_of_none e hg)]; exact S.sub a w e
  · by_cases ha : a = p
    · subst ha; rw [put_same] at e; cases e; exact hu
    · rw [put_ne ha] at e
      exact (S.mem a w e).mono (Le.refl G) (upd_ne ha)
  · by_cases ha : a = p
    · subst ha; exact hg
    · rw [put_ne ha] at e; exact S.dis a w e
/-- from now on it stays as it is -/
theorem Sta.freeze {u : MO} (S : Sta K m H G) (h : m p = some u) (ho : H p = some o) : Sta K (del m p) H (upd G p o) := by
  have hg := S.dis p u h
  refine ⟨fun a w e => ?_, fun a w e => ?_, fun a w e => ?_⟩
  · by_cases ha : a = p
    · subst ha; rw [upd_same] at e; cases e; exact ho
    · rw [upd_ne ha] at e; exact S.sub a w e
  · by_cases ha : a = p
    · subst ha; unfold del at e; rw [if_pos rfl] at e; cases e
    · unfold del at e; rw [if_neg ha] at e
      exact (S.mem a w e).mono (Le.new hg) rfl
  · by_cases ha : a = p
    · subst ha; unfold del at e; rw [if_pos rfl] at e; cases e
    · unfold del at e; rw [if_neg ha] at e
      rw [upd_ne ha]; exact S.dis a w e
/-- less told of what may change -/
theorem Sta.less {m' : Mm} (S : Sta K m H G) (h : ∀ a o, m' a = some o → m a = some o) : Sta K m' H G :=
  ⟨S.sub, fun a o e => S.mem a o (h a o e), fun a o e => S.dis a o (h a o e)⟩
theorem Sta.sqL {a : Addr} {xs : List V} (S : Sta K m H G) (h : SqL K G a xs) : SqL K H a xs := Le.sqL S.sub h
theorem Sta.sqT {a : Addr} {xs : List V} (S : Sta K m H G) (h : SqT K G a xs) : SqT K H a xs := Le.sqT S.sub h
end
/-! what code does, at this level -/
def Ev (K : PySem.W.Frag) (t : TE) (r : List Val) (m : Mm) (Q : Val → Mm → Prop) : Prop :=
  ∀ σ H G, Sta K m H G → Sl K G r σ → ∀ R : VK, (∀ v H' G' x m', Q x m' → Sta K m' H' G' → Le G G' → VR K G' x v → R v H') → t σ H R
def EvT (K : PySem.W.Frag) (t : TT) (r : List Val) (m : Mm) (Q : Bool → Mm → Prop) : Prop :=
  ∀ σ H G, Sta K m H G → Sl K G r σ → ∀ R : Bool → Hp → Prop, (∀ H' G' b m', Q b m' → Sta K m' H' G' → Le G G' → R b H') → t σ H R
def EvA (K : PySem.W.Frag) (t : TA) (r : List Val) (m : Mm) (Q : List Val → Mm → Prop) : Prop :=
  ∀ σ H G, Sta K m H G → Sl K G r σ → ∀ R : List V → Hp → Prop, (∀ vs H' G' xs m', Q xs m' → Sta K m' H' G' → Le G G' → VRs K G' xs vs → R vs H') → t σ H R
def Op2 (K : PySem.W.Frag) (f : R2) (x y : Val) (m : Mm) (Q : Val → Mm → Prop) : Prop :=
  ∀ H G v w, Sta K m H G → VR K G x v → VR K G y w → ∀ R : VK, (∀ v H' G' x m', Q x m' → Sta K m' H' G' → Le G G' → VR K G' x v → R v H') → f v w H R
def Op1 (K : PySem.W.Frag) (f : V → Hp → VK → Prop) (x : Val) (m : Mm) (Q : Val → Mm → Prop) : Prop :=
  ∀ H G v, Sta K m H G → VR K G x v → ∀ R : VK, (∀ v H' G' x m', Q x m' → Sta K m' H' G' → Le G G' → VR K G' x v → R v H') → f v H R
def OpN (K : PySem.W.Frag) (f : List V → Hp → VK → Prop) (xs : List Val) (m : Mm) (Q : Val → Mm → Prop) : Prop :=
  ∀ H G vs, Sta K m H G → VRs K G xs vs → ∀ R : VK, (∀ v H' G' x m', Q x m' → Sta K m' H' G' → Le G G' → VR K G' x v → R v H') → f vs H R
def Wp (K : PySem.W.Frag) (t : TS) (r : List Val) (m : Mm) (N : List Val → Mm → Prop) (E : Val → Mm → Prop) : Prop :=
  ∀ σ H G (D : Ends), Sta K m H G → Sl K G r σ → (∀ σ' H' G' r' m', N r' m' → Sta K m' H' G' → Le G G' → Sl K G' r' σ' → D.nx σ' H') →
    (∀ v H' G' x m', E x m' → Sta K m' H' G' → Le G G' → VR K G' x v → D.rt v H') → t D σ H
section
variable {K : PySem.W.Frag} {r : List Val} {m : Mm} {Q : Val → Mm → Prop} {ta tb tc te : TE} {tt tu : TT}
theorem Ev.imp {Q' : Val → Mm → Prop} (h : Ev K te r m Q) (i : ∀ x m', Q x m' → Q' x m') : Ev K te r m Q' := fun σ H G S L R q =>
  h σ H G S L R fun v H' G' x m' hq => q v H' G' x m' (i x m' hq)
theorem EvT.imp {Q Q' : Bool → Mm → Prop} (h : EvT K tt r m Q) (i : ∀ x m', Q x m' → Q' x m') : EvT K tt r m Q' := fun σ H G S L R q =>
  h σ H G S L R fun H' G' x m' hq => q H' G' x m' (i x m' hq)
theorem EvA.imp {t : TA} {Q Q' : List Val → Mm → Prop} (h : EvA K t r m Q) (i : ∀ x m', Q x m' → Q' x m') : EvA K t r m Q' := fun σ H G S L R q =>
  h σ H G S L R fun v H' G' x m' hq => q v H' G' x m' (i x m' hq)
theorem ev_var {i : Nat} {x : Val} (h : r[i]? = some x) (n : x ≠ .any) (q : Q x m) : Ev K (tVar i) r m Q := fun σ H G S L R k => by
  obtain ⟨v, h1, h2⟩ := L.get h n
  exact ⟨v, h1, k v H G x m q S (Le.refl G) h2⟩
theorem ev_cI {i : Int} (q : Q (.d (.int i)) m) : Ev K (tC (.int i)) r m Q := fun σ H G S L R k => k _ H G _ m q S (Le.refl G) (.d (rp_int.mpr rfl))
theorem ev_cB {i : Bool} (q : Q (.d (.bool i)) m) : Ev K (tC (.bl i)) r m Q := fun σ H G S L R k => k _ H G _ m q S (Le.refl G) (.d (rp_bool.mpr rfl))
theorem ev_cS {i : Str} (q : Q (.d (.str i)) m) : Ev K (tC (.str i)) r m Q := fun σ H G S L R k => k _ H G _ m q S (Le.refl G) (.d (rp_str.mpr rfl))
theorem ev_cN (q : Q (.d .none) m) : Ev K (tC .non) r m Q := fun σ H G S L R k => k _ H G _ m q S (Le.refl G) (.d (rp_none.mpr rfl))
theorem ev_cV {v : V} (q : Q (.v v) m) : Ev K (tC v) r m Q := fun σ H G S L R k => k _ H G _ m q S (Le.refl G) .v
/-- a constant of the module that is data -/
theorem ev_cG {v : V} {x : PyData} (hv : ∀ G, Rp K G x v) (q : Q (.d x) m) : Ev K (tC v) r m Q := fun σ H G S L R k => k _ H G _ m q S (Le.refl G) (.d (hv G))
theorem ev_op {f : R2} (h : Ev K ta r m fun x m1 => Ev K tb r m1 fun y m2 => Op2 K f x y m2 Q) : Ev K (tOp f ta tb) r m Q := fun σ H G S L R k =>
  h σ H G S L _ fun v H1 G1 x m1 h1 S1 e1 r1 => h1 σ H1 G1 S1 (L.mono e1) _ fun w H2 G2 y m2 h2 S2 e2 r2 =>
    h2 H2 G2 v w S2 (r1.mono e2) r2 R fun v' H3 G3 z m3 h3 S3 e3 r3 => k v' H3 G3 z m3 h3 S3 (e1.trans (e2.trans e3)) r3
theorem ev_un {f : V → Hp → VK → Prop} (h : Ev K ta r m fun x m1 => Op1 K f x m1 Q) : Ev K (tUn f ta) r m Q := fun σ H G S L R k =>
  h σ H G S L _ fun v H1 G1 x m1 h1 S1 e1 r1 => h1 H1 G1 v S1 r1 R fun v' H3 G3 z m3 h3 S3 e3 r3 => k v' H3 G3 z m3 h3 S3 (e1.trans e3) r3
theorem eva_nil {Q : List Val → Mm → Prop} (q : Q [] m) : EvA K tNil r m Q := fun σ H G S L R k => k [] H G [] m q S (Le.refl G) rfl
theorem eva_cons {tr : TA} {Q : List Val → Mm → Prop} (h : Ev K ta r m fun x m1 => EvA K tr r m1 fun xs m2 => Q (x :: xs) m2) : EvA K (tCons ta tr) r m Q := fun σ H G S L R k =>
  h σ H G S L _ fun v H1 G1 x m1 h1 S1 e1 r1 => h1 σ H1 G1 S1 (L.mono e1) _ fun vs H2 G2 xs m2 h2 S2 e2 r2 =>
    k (v :: vs) H2 G2 (x :: xs) m2 h2 S2 (e1.trans e2) ⟨v, vs, rfl, r1.mono e2, r2⟩
theorem ev_callB {f : List V → Hp → VK → Prop} {t : TA} (h : EvA K t r m fun xs m1 => OpN K f xs m1 Q) : Ev K (tCB f t) r m Q := fun σ H G S L R k =>
  h σ H G S L _ fun vs H1 G1 xs m1 h1 S1 e1 r1 => h1 H1 G1 vs S1 r1 R fun v' H3 G3 z m3 h3 S3 e3 r3 => k v' H3 G3 z m3 h3 S3 (e1.trans e3) r3
theorem ev_if (h : EvT K tt r m fun b m1 => (b = true → Ev K ta r m1 Q) ∧ (b = false → Ev K tb r m1 Q)) : Ev K (tIf tt ta tb) r m Q := fun σ H G S L R k =>
  h σ H G S L _ fun H1 G1 b m1 h1 S1 e1 => by
    cases b with
    | true =>
      show ta σ H1 R
      exact h1.1 rfl σ H1 G1 S1 (L.mono e1) R fun v' H3 G3 z m3 h3 S3 e3 r3 => k v' H3 G3 z m3 h3 S3 (e1.trans e3) r3
    | false =>
      show tb σ H1 R
      exact h1.2 rfl σ H1 G1 S1 (L.mono e1) R fun v' H3 G3 z m3 h3 S3 e3 r3 => k v' H3 G3 z m3 h3 S3 (e1.trans e3) r3
theorem evt_test {Q : Bool → Mm → Prop} (h : Ev K te r m fun x m1 => ∃ b, x = .d (.bool b) ∧ Q b m1) : EvT K (tTest te) r m Q := fun σ H G S L R k =>
  h σ H G S L _ fun v H1 G1 x m1 ⟨b, hx, hb⟩ S1 e1 r1 => by
    subst hx
    exact ⟨b, rp_bool.mp r1.rp, k H1 G1 b m1 hb S1 e1⟩
theorem evt_B {Q : Bool → Mm → Prop} (h : Ev K te r m fun x m1 => ∃ b, x = .d (.bool b) ∧ Q b m1) : EvT K (tB te) r m Q := fun σ H G S L R k =>
  h σ H G S L _ fun v H1 G1 x m1 ⟨b, hx, hb⟩ S1 e1 r1 => by
    subst hx
    exact ⟨b, rp_bool.mp r1.rp, k H1 G1 b m1 hb S1 e1⟩
theorem evt_and {Q : Bool → Mm → Prop} (h : EvT K tt r m fun b m1 => (b = true → EvT K tu r m1 Q) ∧ (b = false → Q false m1)) : EvT K (tAnd tt tu) r m Q := fun σ H G S L R k =>
  h σ H G S L _ fun H1 G1 b m1 h1 S1 e1 => by
    cases b with
    | true =>
      show tu σ H1 R
      exact h1.1 rfl σ H1 G1 S1 (L.mono e1) R fun H3 G3 z m3 h3 S3 e3 => k H3 G3 z m3 h3 S3 (e1.trans e3)
    | false =>
      show R false H1
      exact k H1 G1 false m1 (h1.2 rfl) S1 e1
theorem evt_or {Q : Bool → Mm → Prop} (h : EvT K tt r m fun b m1 => (b = true → Q true m1) ∧ (b = false → EvT K tu r m1 Q)) : EvT K (tOr tt tu) r m Q := fun σ H G S L R k =>
  h σ H G S L _ fun H1 G1 b m1 h1 S1 e1 => by
    cases b with
    | false =>
      show tu σ H1 R
      exact h1.2 rfl σ H1 G1 S1 (L.mono e1) R fun H3 G3 z m3 h3 S3 e3 => k H3 G3 z m3 h3 S3 (e1.trans e3)
    | true =>
      show R true H1
      exact k H1 G1 true m1 (h1.1 rfl) S1 e1
theorem evt_not {Q : Bool → Mm → Prop} (h : EvT K tt r m fun b m1 => Q (!b) m1) : EvT K (tNot tt) r m Q := fun σ H G S L R k =>
  h σ H G S L _ fun H1 G1 b m1 h1 S1 e1 => k H1 G1 (!b) m1 h1 S1 e1
theorem ev_and (h : Ev K ta r m fun x m1 => ∃ b, x = .d (.bool b) ∧ (b = true → Ev K tb r m1 Q) ∧ (b = false → Q (.d (.bool false)) m1)) : Ev K (tAndV ta tb) r m Q := fun σ H G S L R k =>
  h σ H G S L _ fun v H1 G1 x m1 ⟨b, hx, h1, h2⟩ S1 e1 r1 => by
    subst hx
    refine ⟨b, rp_bool.mp r1.rp, ?_⟩
    cases b with
    | true =>
      show tb σ H1 R
      exact h1 rfl σ H1 G1 S1 (L.mono e1) R fun v' H3 G3 z m3 h3 S3 e3 r3 => k v' H3 G3 z m3 h3 S3 (e1.trans e3) r3
    | false =>
      show R (.bl false) H1
      exact k _ H1 G1 _ m1 (h2 rfl) S1 e1 (.d (rp_bool.mpr rfl))
theorem ev_or (h : Ev K ta r m fun x m1 => ∃ b, x = .d (.bool b) ∧ (b = true → Q (.d (.bool true)) m1) ∧ (b = false → Ev K tb r m1 Q)) : Ev K (tOrV ta tb) r m Q := fun σ H G S L R k =>
  h σ H G S L _ fun v H1 G1 x m1 ⟨b, hx, h1, h2⟩ S1 e1 r1 => by
    subst hx
    refine ⟨b, rp_bool.mp r1.rp, ?_⟩
    cases b with
    | false =>
      show tb σ H1 R
      exact h2 rfl σ H1 G1 S1 (L.mono e1) R fun v' H3 G3 z m3 h3 S3 e3 r3 => k v' H3 G3 z m3 h3 S3 (e1.trans e3) r3
    | true =>
      show R (.bl true) H1
      exact k _ H1 G1 _ m1 (h1 rfl) S1 e1 (.d (rp_bool.mpr rfl))
theorem ev_not (h : Ev K ta r m fun x m1 => ∃ b, x = .d (.bool b) ∧ Q (.d (.bool (!b))) m1) : Ev K (tNotV ta) r m Q := fun σ H G S L R k =>
  h σ H G S L _ fun v H1 G1 x m1 ⟨b, hx, h1⟩ S1 e1 r1 => by
    subst hx
    exact ⟨b, rp_bool.mp r1.rp, k _ H1 G1 _ m1 h1 S1 e1 (.d (rp_bool.mpr rfl))⟩
theorem ev_chain {f g : R2} (h : Ev K ta r m fun x m1 => Ev K tb r m1 fun y m2 => Op2 K f x y m2 fun z m3 => ∃ b, z = .d (.bool b) ∧ (b = true → Ev K tc r m3 fun w m4 => Op2 K g y w m4 Q) ∧ (b = false → Q (.d (.bool false)) m3)) :
    Ev K (tChain f g ta tb tc) r m Q := fun σ H G S L R k =>
  h σ H G S L _ fun v H1 G1 x m1 h1 S1 e1 r1 => h1 σ H1 G1 S1 (L.mono e1) _ fun w H2 G2 y m2 h2 S2 e2 r2 =>
    h2 H2 G2 v w S2 (r1.mono e2) r2 _ fun v' H3 G3 z m3 ⟨b, hz, h3, h4⟩ S3 e3 r3 => by
      subst hz
      refine ⟨b, rp_bool.mp r3.rp, ?_⟩
      cases b with
      | true =>
        show tc σ H3 _
        exact h3 rfl σ H3 G3 S3 (L.mono (e1.trans (e2.trans e3))) _ fun u H4 G4 q m4 h5 S4 e4 r4 =>
          h5 H4 G4 w u S4 (r2.mono (e3.trans e4)) r4 R fun v5 H5 G5 z5 m5 q5 S5 e5 r5 => k v5 H5 G5 z5 m5 q5 S5 (e1.trans (e2.trans (e3.trans (e4.trans e5)))) r5
      | false =>
        show R (.bl false) H3
        exact k _ H3 G3 _ m3 (h4 rfl) S3 (e1.trans (e2.trans e3)) (.d (rp_bool.mpr rfl))
/-- a tuple -/
theorem ev_tup {t : TA} (h : EvA K t r m fun xs m1 => ∃ ds : List PyData, xs = ds.map Val.d ∧ ds.length ≤ 100000 ∧ Q (.d (.tuple ds)) m1) : Ev K (tTup t) r m Q := fun σ H G S L R k =>
  h σ H G S L _ fun vs H1 G1 xs m1 ⟨ds, hx, hl, q⟩ S1 e1 r1 => by
    subst hx
    have hA := r1.toAll
    refine ⟨by rw [hA.length]; exact Nat.le_trans hl (by decide), fun p hp => ?_⟩
    have hg := S1.free hp
    exact k (.ref p) _ (upd G1 p (.tup vs)) _ m1 q (S1.fix hp) (e1.trans (Le.new hg)) (.d <| rp_tuple.mpr ⟨p, vs, rfl, SqT.of upd_same, RpAll.mono (Le.new hg) ds vs hA⟩)
/-- a list that stays as it is -/
theorem ev_lstD {t : TA} (h : EvA K t r m fun xs m1 => ∃ ds : List PyData, xs = ds.map Val.d ∧ ds.length ≤ 100000 ∧ Q (.d (.list ds)) m1) : Ev K (tLst t) r m Q := fun σ H G S L R k =>
  h σ H G S L _ fun vs H1 G1 xs m1 ⟨ds, hx, hl, q⟩ S1 e1 r1 => by
    subst hx
    have hA := r1.toAll
    refine ⟨by rw [hA.length]; exact Nat.le_trans hl (by decide), fun p hp => ?_⟩
    have hg := S1.free hp
    exact k (.ref p) _ (upd G1 p (.lst vs)) _ m1 q (S1.fix hp) (e1.trans (Le.new hg)) (.d <| rp_list.mpr ⟨p, vs, rfl, Rd.of upd_same, RpAll.mono (Le.new hg) ds vs hA⟩)
/-! statements -/
variable {N : List Val → Mm → Prop} {E : Val → Mm → Prop} {t u : TS}
theorem Wp.imp {N' : List Val → Mm → Prop} {E' : Val → Mm → Prop} (h : Wp K t r m N E) (i : ∀ x m', N x m' → N' x m') (j : ∀ x m', E x m' → E' x m') : Wp K t r m N' E' := fun σ H G D S L a b =>
  h σ H G D S L (fun σ' H' G' r' m' hq => a σ' H' G' r' m' (i _ _ hq)) (fun v H' G' x m' hq => b v H' G' x m' (j _ _ hq))
theorem w_next (q : N r m) : Wp K tNext r m N E := fun σ H G D S L a b => a σ H G r m q S (Le.refl G) L
theorem w_seq (h : Wp K t r m (fun r1 m1 => Wp K u r1 m1 N E) E) : Wp K (tSeq t u) r m N E := fun σ H G D S L a b =>
  h σ H G { D with nx := u D } S L (fun σ1 H1 G1 r1 m1 h1 S1 e1 L1 => h1 σ1 H1 G1 D S1 L1 (fun σ2 H2 G2 r2 m2 n2 S2 e2 L2 => a σ2 H2 G2 r2 m2 n2 S2 (e1.trans e2) L2)
    (fun v H2 G2 x m2 n2 S2 e2 L2 => b v H2 G2 x m2 n2 S2 (e1.trans e2) L2)) b
theorem w_asg {i : Nat} (h : Ev K te r m fun x m1 => N (r.set i x) m1) : Wp K (tAsg te (gName i)) r m N E := fun σ H G D S L a b =>
  h σ H G S L _ fun v H1 G1 x m1 q S1 e1 r1 => a (σ.set i (some v)) H1 G1 (r.set i x) m1 q S1 e1 ((L.mono e1).set r1 i)
theorem w_drop (h : Ev K te r m fun _ m1 => N r m1) : Wp K (tDrop te) r m N E := fun σ H G D S L a b =>
  h σ H G S L _ fun v H1 G1 x m1 q S1 e1 r1 => a σ H1 G1 r m1 q S1 e1 (L.mono e1)
theorem w_ret (h : Ev K te r m E) : Wp K (tRet te) r m N E := fun σ H G D S L a b => h σ H G S L _ b
theorem w_if (h : EvT K tt r m fun c m1 => (c = true → Wp K t r m1 N E) ∧ (c = false → Wp K u r m1 N E)) : Wp K (tIfS tt t u) r m N E := fun σ H G D S L a b =>
  h σ H G S L _ fun H1 G1 c m1 h1 S1 e1 => by
    cases c with
    | true =>
      show t D σ H1
      exact h1.1 rfl σ H1 G1 D S1 (L.mono e1) (fun σ2 H2 G2 r2 m2 n2 S2 e2 L2 => a σ2 H2 G2 r2 m2 n2 S2 (e1.trans e2) L2) (fun v H2 G2 x m2 n2 S2 e2 L2 => b v H2 G2 x m2 n2 S2 (e1.trans e2) L2)
    | false =>
      show u D σ H1
      exact h1.2 rfl σ H1 G1 D S1 (L.mono e1) (fun σ2 H2 G2 r2 m2 n2 S2 e2 L2 => a σ2 H2 G2 r2 m2 n2 S2 (e1.trans e2) L2) (fun v H2 G2 x m2 n2 S2 e2 L2 => b v H2 G2 x m2 n2 S2 (e1.trans e2) L2)
/-- a, b = .. of one tuple -/
theorem w_asg2 {i j : Nat} (h : Ev K te r m fun x m1 => ∃ d1 d2, x = .d (.tuple [d1, d2]) ∧ N ((r.set i (.d d1)).set j (.d d2)) m1) : Wp K (tAsg te (gTup K 2 (gCons (gName i) (gCons (gName j) gNil)))) r m N E := fun σ H G D S L a b =>
  h σ H G S L _ fun v H1 G1 x m1 ⟨d1, d2, hx, q⟩ S1 e1 r1 => by
    subst hx
    obtain ⟨p, xs, hv, hs, hA⟩ := rp_tuple.mp r1.rp
    have hl := hA.length
    obtain ⟨x1, t1, rfl, a1, hA⟩ := rpa_cons.mp hA
    obtain ⟨x2, t2, rfl, a2, hA⟩ := rpa_cons.mp hA
    obtain rfl := rpa_nil.mp hA
    refine ⟨p, _, hv, S1.sqT hs, rfl, x1, [x2], rfl, x2, [], rfl, rfl, ?_⟩
    exact a _ H1 G1 _ m1 q S1 e1 (((L.mono e1).set (r := .d d1) (.d a1) i).set (r := .d d2) (.d a2) j)
/-- a, b = e, f -/
theorem w_par {i j : Nat} {ta : TA} (h : EvA K ta r m fun xs m1 => ∃ x y, xs = [x, y] ∧ N ((r.set i x).set j y) m1) : Wp K (tPar i j ta) r m N E := fun σ H G D S L a b =>
  h σ H G S L _ fun vs H1 G1 xs m1 ⟨x, y, hx, q⟩ S1 e1 r1 => by
    subst hx
    obtain ⟨v1, t1, rfl, a1, t2⟩ := r1
    obtain ⟨v2, t2, rfl, a2, t3⟩ := t2
    have t3 : t2 = [] := t3
    subst t3
    exact ⟨v1, v2, rfl, a _ H1 G1 _ m1 q S1 e1 (((L.mono e1).set a1 i).set a2 j)⟩
theorem w_while {tt : TT} (W : Nat → List Val → Mm → Prop) (n0 : Nat) (h0 : W n0 r m)
    (hs : ∀ n r' m', W n r' m' → EvT K tt r' m' fun c m1 => (c = true → Wp K t r' m1 (fun r2 m2 => ∃ n', n' < n ∧ W n' r2 m2) E) ∧ (c = false → N r' m1)) : Wp K (tWhile tt t) r m N E := fun σ H G D S L a b => by
  refine ⟨fun n σ' H' => ∃ G' r' m', W n r' m' ∧ Sta K m' H' G' ∧ Le G G' ∧ Sl K G' r' σ', ⟨n0, G, r, m, h0, S, Le.refl G, L⟩, ?_⟩
  rintro n σ1 H1 ⟨G1, r1, m1, hw, S1, e1, L1⟩
  refine hs n r1 m1 hw σ1 H1 G1 S1 L1 _ fun H2 G2 c m2 h2 S2 e2 => ?_
  cases c with
  | true =>
    refine ⟨fun σ' H' => ∃ n', n' < n ∧ ∃ G' r' m', W n' r' m' ∧ Sta K m' H' G' ∧ Le G G' ∧ Sl K G' r' σ', fun σ' H' h => h, ?_⟩
    exact h2.1 rfl σ1 H2 G2 _ S2 (L1.mono e2) (fun σ3 H3 G3 r3 m3 ⟨n', hn, hw'⟩ S3 e3 L3 => ⟨n', hn, G3, r3, m3, hw', S3, e1.trans (e2.trans e3), L3⟩)
      (fun v H3 G3 x m3 n3 S3 e3 L3 => b v H3 G3 x m3 n3 S3 (e1.trans (e2.trans e3)) L3)
  | false => exact a σ1 H2 G2 r1 m2 (h2.2 rfl) S2 (e1.trans e2) (L1.mono e2)
theorem w_forTA {tl : TE} {j : Nat} (P : List PyData → Prop) (h : Ev K tl r m fun x m1 => m1 = m ∧ ∃ ds, x = .d (.tuple ds) ∧ P ds) (W : List PyData → Nat → List Val → Mm → Prop) (h0 : ∀ ds, P ds → W ds 0 r m)
    (hs : ∀ (ds : List PyData) (i : Nat) (d : PyData) r' m', P ds → ds[i]? = some d → W ds i r' m' → Wp K t (r'.set j (.d d)) m' (W ds (i + 1)) E) (hd : ∀ (ds : List PyData) r' m', P ds → W ds ds.length r' m' → N r' m') : Wp K (tFor (iTup K tl) (gName j) t) r m N E := fun σ H G D S L a b =>
  h σ H G S L _ fun v H1 G1 x m1 ⟨hm, ds, hx, hP⟩ S1 e1 r1 => by
    subst hx hm
    obtain ⟨p, xs, hv, hs1, hA⟩ := rp_tuple.mp r1.rp
    refine ⟨p, hv, ⟨xs, S1.sqT hs1⟩, for_tup (xs := xs) (fun i σ' H' => ∃ G' r' m', W ds i r' m' ∧ Sta K m' H' G' ∧ Le G1 G' ∧ Sl K G' r' σ') ⟨G1, r, _, h0 ds hP, S1, Le.refl G1, L.mono e1⟩ ?_ ?_ ?_⟩
    · rintro i σ' H' hi ⟨G', r', m', _, S', e', _⟩
      exact S'.sqT (e'.sqT hs1)
    · rintro i y σ' H' hy ⟨G', r', m', hw, S', e', L'⟩
      obtain ⟨d, hd1, hd2⟩ := hA.get hy
      refine hs ds i d r' m' hP hd1 hw (σ'.set j (some y)) H' G' _ S' (L'.set (r := .d d) (.d (Rp.mono e' d y hd2)) j) (fun σ3 H3 G3 r3 m3 h3 S3 e3 L3 => ⟨G3, r3, m3, h3, S3, e'.trans e3, L3⟩) (fun v H3 G3 x m3 n3 S3 e3 L3 => b v H3 G3 x m3 n3 S3 (e1.trans (e'.trans e3)) L3)
    · rintro σ' H' ⟨G', r', m', hw, S', e', L'⟩
      rw [hA.length] at hw
      exact a σ' H' G' r' m' (hd ds r' m' hP hw) S' (e1.trans e') L'
theorem w_forT {tl : TE} {j : Nat} {ds : List PyData} (h : Ev K tl r m fun x m1 => x = .d (.tuple ds) ∧ m1 = m) (W : Nat → List Val → Mm → Prop) (h0 : W 0 r m)
    (hs : ∀ (i : Nat) (d : PyData) r' m', ds[i]? = some d → W i r' m' → Wp K t (r'.set j (.d d)) m' (W (i + 1)) E) (hd : ∀ r' m', W ds.length r' m' → N r' m') : Wp K (tFor (iTup K tl) (gName j) t) r m N E :=
  w_forTA (fun l => l = ds) (h.imp fun x m' e => ⟨e.2, ds, e.1, rfl⟩) (fun _ => W) (fun _ _ => h0) (fun l i d r' m' e hd hw => hs i d r' m' (by rw [← e]; exact hd) hw) (fun l r' m' e hw => hd r' m' (by rw [← e]; exact hw))
theorem w_forLA {tl : TE} {j : Nat} (P : List PyData → Prop) (h : Ev K tl r m fun x m1 => m1 = m ∧ ∃ ds, x = .d (.list ds) ∧ P ds) (W : List PyData → Nat → List Val → Mm → Prop) (h0 : ∀ ds, P ds → W ds 0 r m)
    (hs : ∀ (ds : List PyData) (i : Nat) (d : PyData) r' m', P ds → ds[i]? = some d → W ds i r' m' → Wp K t (r'.set j (.d d)) m' (W ds (i + 1)) E) (hd : ∀ (ds : List PyData) r' m', P ds → W ds ds.length r' m' → N r' m') : Wp K (tFor (iList K tl) (gName j) t) r m N E := fun σ H G D S L a b =>
  h σ H G S L _ fun v H1 G1 x m1 ⟨hm, ds, hx, hP⟩ S1 e1 r1 => by
    subst hx hm
    obtain ⟨p, xs, hv, hs1, hA⟩ := rp_list.mp r1.rp
    have hs1 : SqL K G1 p xs := Or.inl hs1
    refine ⟨p, hv, ⟨xs, S1.sqL hs1⟩, for_list (xs := xs) (fun i σ' H' => ∃ G' r' m', W ds i r' m' ∧ Sta K m' H' G' ∧ Le G1 G' ∧ Sl K G' r' σ') ⟨G1, r, _, h0 ds hP, S1, Le.refl G1, L.mono e1⟩ ?_ ?_ ?_⟩
    · rintro i σ' H' hi ⟨G', r', m', _, S', e', _⟩
      exact S'.sqL (e'.sqL hs1)
    · rintro i y σ' H' hy ⟨G', r', m', hw, S', e', L'⟩
      obtain ⟨d, hd1, hd2⟩ := hA.get hy
      refine hs ds i d r' m' hP hd1 hw (σ'.set j (some y)) H' G' _ S' (L'.set (r := .d d) (.d (Rp.mono e' d y hd2)) j) (fun σ3 H3 G3 r3 m3 h3 S3 e3 L3 => ⟨G3, r3, m3, h3, S3, e'.trans e3, L3⟩) (fun v H3 G3 x m3 n3 S3 e3 L3 => b v H3 G3 x m3 n3 S3 (e1.trans (e'.trans e3)) L3)
    · rintro σ' H' ⟨G', r', m', hw, S', e', L'⟩
      rw [hA.length] at hw
      exact a σ' H' G' r' m' (hd ds r' m' hP hw) S' (e1.trans e') L'
theorem w_forL {tl : TE} {j : Nat} {ds : List PyData} (h : Ev K tl r m fun x m1 => x = .d (.list ds) ∧ m1 = m) (W : Nat → List Val → Mm → Prop) (h0 : W 0 r m)
    (hs : ∀ (i : Nat) (d : PyData) r' m', ds[i]? = some d → W i r' m' → Wp K t (r'.set j (.d d)) m' (W (i + 1)) E) (hd : ∀ r' m', W ds.length r' m' → N r' m') : Wp K (tFor (iList K tl) (gName j) t) r m N E :=
  w_forLA (fun l => l = ds) (h.imp fun x m' e => ⟨e.2, ds, e.1, rfl⟩) (fun _ => W) (fun _ _ => h0) (fun l i d r' m' e hd hw => hs i d r' m' (by rw [← e]; exact hd) hw) (fun l r' m' e hw => hd r' m' (by rw [← e]; exact hw))
theorem w_forR1 {ta : TA} {j : Nat} {n : Nat} (h : EvA K ta r m fun xs m1 => xs = [.d (.int (n : Int))] ∧ m1 = m) (hn : n ≤ 100000) (W : Nat → List Val → Mm → Prop) (h0 : W 0 r m)
    (hs : ∀ (i : Nat) r' m', i < n → W i r' m' → Wp K t (r'.set j (.d (.int (i : Int)))) m' (W (i + 1)) E) (hd : ∀ r' m', W n r' m' → N r' m') : Wp K (tFor (iRng1 ta) (gName j) t) r m N E := fun σ H G D S L a b =>
  h σ H G S L _ fun vs H1 G1 xs m1 ⟨hx, hm⟩ S1 e1 r1 => by
    subst hx hm
    obtain ⟨v1, t1, rfl, a1, t2⟩ := r1
    have t2 : t1 = [] := t2
    subst t2
    have a1 : v1 = .int (n : Int) := rp_int.mp a1.rp
    subst a1
    have en : ((n : Int)).toNat = n := by omega
    refine ⟨(n : Int), rfl, by omega, by omega, ?_⟩
    rw [en]
    refine for_range (lo := 0) (n := n) (fun i σ' H' => ∃ G' r' m', W i r' m' ∧ Sta K m' H' G' ∧ Le G1 G' ∧ Sl K G' r' σ') ⟨G1, r, _, h0, S1, Le.refl G1, L.mono e1⟩ ?_ ?_
    · rintro i σ' H' hi ⟨G', r', m', hw, S', e', L'⟩
      rw [Int.zero_add]
      refine hs i r' m' hi hw (σ'.set j (some (.int (i : Int)))) H' G' _ S' (L'.set (r := .d (.int (i : Int))) (.d (rp_int.mpr rfl)) j) (fun σ3 H3 G3 r3 m3 h3 S3 e3 L3 => ⟨G3, r3, m3, h3, S3, e'.trans e3, L3⟩) (fun v H3 G3 x m3 n3 S3 e3 L3 => b v H3 G3 x m3 n3 S3 (e1.trans (e'.trans e3)) L3)
    · rintro σ' H' ⟨G', r', m', hw, S', e', L'⟩
      exact a σ' H' G' r' m' (hd r' m' hw) S' (e1.trans e') L'
theorem w_forR2 {ta : TA} {j : Nat} {lo n : Nat} (h : EvA K ta r m fun xs m1 => xs = [.d (.int (lo : Int)), .d (.int ((lo + n : Nat) : Int))] ∧ m1 = m) (hn : lo + n ≤ 100000) (W : Nat → List Val → Mm → Prop) (h0 : W 0 r m)
    (hs : ∀ (i : Nat) r' m', i < n → W i r' m' → Wp K t (r'.set j (.d (.int ((lo + i : Nat) : Int)))) m' (W (i + 1)) E) (hd : ∀ r' m', W n r' m' → N r' m') : Wp K (tFor (iRng2 ta) (gName j) t) r m N E := fun σ H G D S L a b =>
  h σ H G S L _ fun vs H1 G1 xs m1 ⟨hx, hm⟩ S1 e1 r1 => by
    subst hx hm
    obtain ⟨v1, t1, rfl, a1, t2⟩ := r1
    obtain ⟨v2, t3, rfl, a2, t2⟩ := t2
    have t2 : t3 = [] := t2
    subst t2
    have a1 : v1 = .int (lo : Int) := rp_int.mp a1.rp
    have a2 : v2 = .int ((lo + n : Nat) : Int) := rp_int.mp a2.rp
    subst a1 a2
    have en : (((lo + n : Nat) : Int) - (lo : Int)).toNat = n := by omega
    refine ⟨(lo : Int), ((lo + n : Nat) : Int), rfl, ⟨by omega, by omega, by omega, by omega⟩, ?_⟩
    rw [en]
    refine for_range (lo := (lo : Int)) (n := n) (fun i σ' H' => ∃ G' r' m', W i r' m' ∧ Sta K m' H' G' ∧ Le G1 G' ∧ Sl K G' r' σ') ⟨G1, r, _, h0, S1, Le.refl G1, L.mono e1⟩ ?_ ?_
    · rintro i σ' H' hi ⟨G', r', m', hw, S', e', L'⟩
      rw [show (lo : Int) + (i : Int) = ((lo + i : Nat) : Int) from (Int.natCast_add lo i).symm]
      refine hs i r' m' hi hw _ H' G' _ S' (L'.set (r := .d (.int ((lo + i : Nat) : Int))) (.d (rp_int.mpr rfl)) j) (fun σ3 H3 G3 r3 m3 h3 S3 e3 L3 => ⟨G3, r3, m3, h3, S3, e'.trans e3, L3⟩) (fun v H3 G3 x m3 n3 S3 e3 L3 => b v H3 G3 x m3 n3 S3 (e1.trans (e'.trans e3)) L3)
    · rintro σ' H' ⟨G', r', m', hw, S', e', L'⟩
      exact a σ' H' G' r' m' (hd r' m' hw) S' (e1.trans e') L'
end
/-! what a def does, at this level -/
abbrev FSp := List Val → Mm → (Val → Mm → Prop) → Prop
def spD (K : PySem.W.Frag) (f : FSp) : Sp := fun vs H Q _ => ∃ m G args R, Sta K m H G ∧ VRs K G args vs ∧ f args m R ∧ ∀ v H' G' x m', R x m' → Sta K m' H' G' → Le G G' → VR K G' x v → Q v H'
theorem ev_call {K : PySem.W.Frag} {f : FSp} {t : TA} {E : XK} {r : List Val} {m : Mm} {Q : Val → Mm → Prop} (h : EvA K t r m fun xs m1 => f xs m1 Q) : Ev K (tCall (spD K f) [] E t) r m Q := fun σ H G S L R k =>
  h σ H G S L _ fun vs H1 G1 xs m1 h1 S1 e1 r1 => by
    rw [List.append_nil]
    exact ⟨m1, G1, xs, Q, S1, r1, h1, fun v' H3 G3 z m3 h3 S3 e3 r3 => k v' H3 G3 z m3 h3 S3 (e1.trans e3) r3⟩
section
variable {P : Program} {w : World} {K : PySem.W.Frag} {mg : Str → Option Value} {base : Heap}
theorem fn_ok {x qual : Str} {st : Stmt} {f : Addr} {fd : FuncData} {N ps : List Str} {k : Nat} {sp : FSp} (F : Fun K x qual st f fd) (S : FnScope N ps (defScope st)) (hl : ∀ args m R, sp args m R → args.length = ps.length)
    (hb : ∀ (cdv : Value) (A : Around) (outer : List Env) (s : Shared) (H : Hp) (E : XK), Room k (A.deeper (PyProof.Rows.envOfC qual (defScope st) s.heap.objs.size f cdv)) →
      ∃ t, PSs (cxOf CX0 P w K mg base N qual (defScope st) f cdv A outer s H E).nox (defBody st) t ∧
        ∀ args m R, sp args m R → Wp K t (args ++ List.replicate (N.length - args.length) .any) m (fun _ m' => R (.d .none) m') R) : FnOk P w K mg base CX0 (k + 1) f fd ps (spD K sp) := by
  refine F.ok S (fun vs H Q E h => ?_) (fun cdv A outer s H vs Q E hr h => ?_)
  · obtain ⟨m, G, args, R, S1, r1, h1, _⟩ := h
    rw [r1.length]; exact hl args m R h1
  · obtain ⟨m, G, args, R, S1, r1, h1, k1⟩ := h
    obtain ⟨t, ht, hw⟩ := hb cdv A outer s H E hr
    refine ⟨t, ht, ?_⟩
    refine hw args m R h1 _ H G _ S1 ?_ (fun σ' H' G' r' m' hn S' e' L' => ?_) (fun v H' G' x m' hn S' e' L' => k1 v H' G' x m' hn S' e' L')
    · unfold L2.start
      rw [r1.length]
      exact Sl.start _ r1
    · exact k1 .non H' G' (.d .none) m' hn S' e' (.d (rp_none.mpr rfl))
end
end DL
namespace DL
open PySem L2
/-! rules of the layer below, joined -/
section
variable {X : Cx}
/-- list + list, as they may be read -/
def rCatR : R2 := fun x y H Q => ∃ l b xs zs, x = .ref l ∧ y = .ref b ∧ Rd H l (.lst xs) ∧ Rd H b (.lst zs) ∧ xs.length + zs.length ≤ sizeLine ∧ ∀ p, H p = none → Q (.ref p) (upd H p (.lst (xs ++ zs)))
theorem rd_list {pins : List (Addr × Obj)} {σ : L2.St} {H : Hp} {s : Shared} {l : Addr} {xs : List V} (I : Inv X pins σ H s) (h : Rd H l (.lst xs)) :
    xs.length ≤ sizeLine ∧ ∃ (its : List Value) (n : Nat), Vals xs its ∧ xs.length = its.length ∧ s.heap.get? l = some { cls := .type "list", data := .seq its.toArray n } := by
  obtain ⟨z, its, n, r, e⟩ := h.ok I.hok
  exact ⟨z, its, n, r, r.length, e⟩
theorem op_catR : OpR X (binaryOp .Add) rCatR := by
  intro pins s σ H x y v u Q I rx ry h
  obtain ⟨l, b, xs, zs, rfl, rfl, hH, hB, hz, q⟩ := h
  cases rx
  cases ry
  obtain ⟨z1, its1, n1, r1, hl1, e1⟩ := rd_list I hH
  obtain ⟨z2, its2, n2, r2, hl2, e2⟩ := rd_list I hB
  refine PySem.P.add_list e1 e2 ?_ (by rw [List.size_toArray, List.size_toArray, ← hl1, ← hl2]; exact hz)
  have ea : its1.toArray ++ its2.toArray = (its1 ++ its2).toArray := by simp
  rw [ea]
  exact ⟨.ref _, _, I.lnew (t' := s.toks) (r1.append r2) (by rw [List.length_append]; exact hz), rfl, q _ I.fresh⟩
def rAddI : R2 := rI0 fun i j => .int (i + j)
def rAddS : R2 := fun x y H Q => ∃ i j, x = .str i ∧ y = .str j ∧ i.length + j.length ≤ sizeLine ∧ Q (.str (i ++ j)) H
def rAdd (K : PySem.W.Frag) : R2 := fun x y H Q => rAddI x y H Q ∨ (rCatA K x y H Q ∨ (rCatR x y H Q ∨ rAddS x y H Q))
theorem oAdd : OpR X (binaryOp .Add) (rAdd X.K) := (op_add).or (op_catA.or (op_catR.or op_add_str))
def rSub : R2 := rI0 fun i j => .int (i - j)
theorem oSub : OpR X (binaryOp .Sub) rSub := op_sub
def rMulI : R2 := rI CMulW fun i j => .int (i * j)
def rFdv : R2 := rI CDivW fun i j => .int (i / j)
theorem oFdv : OpR X (binaryOp .FloorDiv) rFdv := op_fdivW
def rMod : R2 := rI (fun _ j => 0 < j) fun i j => .int (i % j)
theorem oMod : OpR X (binaryOp .Mod) rMod := op_mod
def rPow : R2 := rI CPow fun i j => .int (i ^ j.toNat)
theorem oPow : OpR X (binaryOp .Pow) rPow := op_pow
def rLt : R2 := rI0 fun i j => .bl (decide (i < j))
def rLe : R2 := rI0 fun i j => .bl (decide (i ≤ j))
def rGt : R2 := rI0 fun i j => .bl (decide (j < i))
def rGe : R2 := rI0 fun i j => .bl (decide (j ≤ i))
theorem oLt : OpR X (compareOp .Lt) rLt := op_lt
theorem oLe : OpR X (compareOp .LtE) rLe := op_le
theorem oGt : OpR X (compareOp .Gt) rGt := op_gt
theorem oGe : OpR X (compareOp .GtE) rGe := op_ge
def rEqA (K : PySem.W.Frag) : R2 := fun x y H Q => rEq x y H Q ∨ rEqD K x y H Q
def rNeA (K : PySem.W.Frag) : R2 := fun x y H Q => rNe x y H Q ∨ rNeD K x y H Q
theorem oEq {k : Nat} (hr : Room k X.A) : OpR X (compareOp .Eq) (rEqA X.K) := op_eq.or (op_eqD hr.units)
theorem oNe {k : Nat} (hr : Room k X.A) : OpR X (compareOp .NotEq) (rNeA X.K) := op_ne.or (op_neD hr.units)
def rNeg : V → Hp → VK → Prop := rU fun i => .int (-i)
theorem oNeg : UnR X (unaryOp .USub) rNeg := un_neg
/-! a tuple so many times: once it is the same one -/
theorem mul_tuple1 {l : Addr} {items : Array Value} {n : Nat} {dd : Option Addr} {sl : Array (Option Value)} {u : Tok} :
    Meets (Builtin.«tuple.__mul__» ⟨[.ref l, .int 1 u], []⟩) (fun _ R s => s.heap.get? l = some { cls := .type "tuple", dict := dd, data := .seq items n, slots := sl } ∧ R (.ok (.ret (Value.ref l))) s) :=
  .of_wp fun prog w A R s h => by
    obtain ⟨hp, g, d, tk, os⟩ := s
    obtain ⟨hl, h⟩ := h
    have f1 := AutoSeq1.idx_int
    wp_walk using wpAny_loadPart' hl
    repeat (first
      | (refine wpAny_ite_false (by decide) ?_; wp_walk using wpAny_loadPart' hl)
      | (refine wpAny_ite_true (by simp) ?_; wp_walk using wpAny_loadPart' hl))
    exact ⟨_, rfl, h⟩
def rRepT1 (K : PySem.W.Frag) : R2 := fun x y H Q => ∃ l xs, x = .ref l ∧ y = .int 1 ∧ SqT K H l xs ∧ Q (.ref l) H
theorem op_repT1 : OpR X (binaryOp .Mult) (rRepT1 X.K) := by
  intro pins s σ H x y v u Q I rx ry h
  obtain ⟨l, xs, rfl, rfl, hT, q⟩ := h
  cases rx
  obtain ⟨t, rfl⟩ := ry
  obtain ⟨its, r, ⟨⟨cls, dd, data, sl⟩, ho, hc, n, hd⟩, hs⟩ := I.tuple hT
  simp only at hc hd
  subst hc hd
  refine wpAny_binaryOp_repeat_ref (T := "tuple") (U := "int") (by decide) ⟨_, ho, rfl⟩ (fun s' => typeIs_int s' 1 t) noFill_tuple_mul PySem.F.fills_int_mul PySem.F.slot_int_rmul repeat_tuple PySem.F.slot_int_index.lookup
    (call_meets PySem.F.slot_int_rmul (typeIs_int s 1 t) PySem.F.entry_int_rmul (PySem.F.args_int_rmul_2 _ _) (int_rmul_tuple 1 t l its.toArray n dd sl)
      ⟨ho, rfl, ⟨_, ho, rfl⟩, call_meets PySem.F.slot_tuple_mul ⟨_, ho, rfl⟩ PySem.F.entry_tuple_mul (PySem.F.args_tuple_mul_2 _ _) mul_tuple1 ⟨ho, ?_⟩⟩)
  exact ⟨.ref l, H, I, rfl, q⟩
def rMul (K : PySem.W.Frag) : R2 := fun x y H Q => rMulI x y H Q ∨ (rRepT K x y H Q ∨ (rRepT1 K x y H Q ∨ rRep x y H Q))
theorem oMul : OpR X (binaryOp .Mult) (rMul X.K) := op_mulW.or (op_repT.or (op_repT1.or op_rep))
/-! sum of a tuple -/
def rSumT (K : PySem.W.Frag) : List V → Hp → VK → Prop := fun vs H Q => ∃ (a : Addr) (ns : List Int), vs = [V.ref a] ∧ SqT K H a (ns.map V.int) ∧ Q (.int ns.sum) H
theorem presum_take (ns : List Int) : ∀ k, preSum (fun i => ns.getD i 0) k = (ns.take k).sum
  | 0 => by simp [preSum]
  | k + 1 => by
    have ih := presum_take ns k
    by_cases h : k < ns.length
    · rw [List.take_succ_eq_append_getElem h, List.sum_append]
      simp only [preSum, ih, List.sum_cons, List.sum_nil, Int.add_zero]
      rw [List.getD_eq_getElem?_getD, List.getElem?_eq_getElem h]; rfl
    · rw [List.take_of_length_le (by omega)] at ih ⊢
      simp only [preSum, ih]
      rw [List.getD_eq_getElem?_getD, List.getElem?_eq_none (by omega)]; simp
theorem cr_sumT (hc : X.calm = true) : CallR X (.builtin "sum") (rSumT X.K) := by
  intro pins s σ H vs us Q I r h
  obtain ⟨a, ns, rfl, hs, q⟩ := h
  obtain ⟨its, rv, ht, _⟩ := I.tuple hs
  rw [Vals.ref1 r]
  have hlt : a < s.heap.objs.size := ht.lt
  refine call_sum_walkG (wpAny_pyIter_tuple ht ?_)
  refine ⟨s.heap.objs.size, [s.heap.objs.size, a], [s.heap.objs.size], its.toArray.size, _, _, fun i => ns.getD i 0, rfl, Walks.tuple (A := X.A.in1) (I.ok.hd hc) s.heap.objs.size a (Nat.ne_of_lt hlt) its.toArray, ⟨⟨_, Heap.get?_push_size _ rfl, rfl, rfl⟩, ?_⟩, ?_, ?_, ?_⟩
  · obtain ⟨o, h1, h2⟩ := ht
    exact ⟨o, Heap.get?_push_of_some _ h1, h2⟩
  · intro b hb
    have hsz : (s.heap.push { cls := .type "tuple_iterator", data := .fields #[.ref a, .int 0 0] }).objs.size = s.heap.objs.size + 1 := Heap.size_push ..
    show b < (s.heap.push { cls := .type "tuple_iterator", data := .fields #[.ref a, .int 0 0] }).objs.size
    rw [hsz]
    rcases List.mem_cons.mp hb with e | e
    · rw [e]; exact Nat.lt_succ_self _
    · rw [List.mem_singleton.mp e]; exact Nat.lt_succ_of_lt hlt
  · intro i v hv
    have hv : its[i]? = some v := by simpa using hv
    have hlen := rv.length
    have hil : i < its.length := (List.getElem?_eq_some_iff.mp hv).1
    rw [List.length_map] at hlen
    have hx : (ns.map V.int)[i]? = some (.int (ns.getD i 0)) := by
      rw [List.getElem?_map, List.getD_eq_getElem?_getD, List.getElem?_eq_getElem (by omega)]; rfl
    obtain ⟨u, h1, h2⟩ := rv.get hx
    rw [hv] at h1
    cases h1
    exact h2
  · intro h' tk t' hk
    have hlen := rv.length
    rw [List.length_map] at hlen
    have e : preSum (fun i => ns.getD i 0) its.toArray.size = ns.sum := by
      rw [presum_take, List.size_toArray, List.take_of_length_le (by omega)]
    rw [e]
    refine ⟨.int ns.sum, H, I.kept (fun b o e => hk b o (fun hb => ?_) (Heap.get?_push_of_some _ e)), ⟨_, rfl⟩, q⟩
    have hb : b = s.heap.objs.size := by simpa using hb
    subst hb
    exact absurd (Heap.lt_size e) (Nat.lt_irrefl _)
def rSumA (K : PySem.W.Frag) : List V → Hp → VK → Prop := fun vs H Q => rSum K vs H Q ∨ rSumT K vs H Q
theorem cSum (hc : X.calm = true) : CallR X (.builtin "sum") (rSumA X.K) := (cr_sum hc).or (cr_sumT hc)
theorem cAll (hc : X.calm = true) : CallR X (.builtin "all") (rAll X.K) := cr_all hc
theorem cAny (hc : X.calm = true) : CallR X (.builtin "any") (rAny X.K) := cr_any hc
def rAbs : List V → Hp → VK → Prop := fun xs H Q => ∃ i, xs = [.int i] ∧ Q (.int (if i < 0 then -i else i)) H
theorem cAbs : CallR X (.builtin "abs") rAbs := call_abs
def rMax2 : List V → Hp → VK → Prop := fun xs H Q => ∃ i j, xs = [.int i, .int j] ∧ Q (.int (if j > i then j else i)) H
def rMin2 : List V → Hp → VK → Prop := fun xs H Q => ∃ i j, xs = [.int i, .int j] ∧ Q (.int (if j < i then j else i)) H
theorem cMax (hc : X.calm = true) : CallR X (.builtin "max") rMax2 := call_max2 hc
theorem cMin (hc : X.calm = true) : CallR X (.builtin "min") rMin2 := call_min2 hc
def rLenQ (K : PySem.W.Frag) : List V → Hp → VK → Prop := fun xs H Q => ∃ p ys, xs = [.ref p] ∧ (SqL K H p ys ∨ SqT K H p ys) ∧ Q (.int ys.length) H
def rLenS : List V → Hp → VK → Prop := fun xs H Q => ∃ z, xs = [.str z] ∧ z.length ≤ sizeLine ∧ Q (.int z.length) H
def rLen (K : PySem.W.Frag) : List V → Hp → VK → Prop := fun vs H Q => rLenQ K vs H Q ∨ rLenS vs H Q
theorem cLen : CallR X (.builtin "len") (rLen X.K) := call_len_seq.or call_len_str
def rTupO (K : PySem.W.Frag) : List V → Hp → VK → Prop := fun xs H Q => ∃ p ys, xs = [.ref p] ∧ ((SqL K H p ys ∧ ∀ l, H l = none → Q (.ref l) (upd H l (.tup ys))) ∨ (SqT K H p ys ∧ Q (.ref p) H))
theorem cTup : CallR X (.type "tuple") (rTupO X.K) := call_tuple_of
def rLstO (K : PySem.W.Frag) : List V → Hp → VK → Prop := fun xs H Q => ∃ p ys, xs = [.ref p] ∧ (SqL K H p ys ∨ SqT K H p ys) ∧ ∀ l, H l = none → Q (.ref l) (upd H l (.lst ys))
theorem cIsi : CallR X (.builtin "isinstance") (rIsi X.K) := call_isi
def rDivmod : List V → Hp → VK → Prop := fun xs H Q => ∃ i j, xs = [.int i, .int j] ∧ CDivW i j ∧ ∀ p, H p = none → Q (.ref p) (upd H p (.tup [.int (i / j), .int (i % j)]))
theorem cDivmod : CallR X (.builtin "divmod") rDivmod := by
  intro pins s σ H xs us Q I r h
  obtain ⟨i, j, rfl, ⟨h1, h2⟩, q⟩ := h
  obtain ⟨u, w', rfl, ⟨t, rfl⟩, ⟨t', rfl⟩⟩ := vals2 r
  refine PyProof.Rows.divmod_int (by omega) ?_ (.inl (PyProof.noPylong_of_log2 h2))
  rw [Int.fdiv_eq_ediv_of_nonneg i (by omega), Int.fmod_eq_emod_of_nonneg i (by omega)]
  have hn : H s.heap.objs.size = none := I.hok.fresh (Nat.le_refl _)
  refine ⟨.ref s.heap.objs.size, _, ?_, rfl, q _ hn⟩
  refine I.laid (fun b o e => Heap.get?_push_of_some _ e) (Nat.le_refl _) ⟨by rw [sizeLine_eq]; show 2 ≤ 16777216; decide, [.int (i / j) s.toks, .int (i % j) (s.toks + 1)], .cons ⟨_, rfl⟩ (.cons ⟨_, rfl⟩ .nil), ?_⟩
  exact ⟨_, Heap.get?_push_size s.heap rfl, rfl, 0, rfl⟩
/-! repr of data -/
mutual
theorem rp_dp {K : PySem.W.Frag} {G : Hp} : ∀ (d : PyData) (v : V), d.hasDict = false → Rp K G d v → Dp K G v d
  | .none, v, _, h => by rw [rp_none.mp h]; exact .non
  | .bool b, v, _, h => by rw [rp_bool.mp h]; exact .bl b
  | .int i, v, _, h => by rw [rp_int.mp h]; exact .int i
  | .str s, v, _, h => by rw [rp_str.mp h]; exact .str s
  | .list ds, v, n, h => by
    obtain ⟨a, xs, rfl, h2, h3⟩ := rp_list.mp h
    exact .lst (Or.inl h2) (rp_dpAll ds xs (by simpa [PyData.hasDict] using n) h3)
  | .tuple ds, v, n, h => by
    obtain ⟨a, xs, rfl, h2, h3⟩ := rp_tuple.mp h
    exact .tup h2 (rp_dpAll ds xs (by simpa [PyData.hasDict] using n) h3)
  | .dict kvs, v, n, h => by simp [PyData.hasDict] at n
theorem rp_dpAll {K : PySem.W.Frag} {G : Hp} : ∀ (ds : List PyData) (xs : List V), PyData.hasDictAll ds = false → RpAll K G ds xs → DpAll K G xs ds
  | [], xs, _, h => by rw [rpa_nil.mp h]; exact .nil
  | d :: ds, xs, n, h => by
    obtain ⟨x, r, rfl, h2, h3⟩ := rpa_cons.mp h
    have n : d.hasDict = false ∧ PyData.hasDictAll ds = false := by simpa [PyData.hasDictAll] using n
    exact .cons (rp_dp d x n.1 h2) (rp_dpAll ds r n.2 h3)
end
end
end DL
namespace DL
open PySem L2
section
variable {K : PySem.W.Frag} {m : Mm} {Q : Val → Mm → Prop}
/-! operators upon ints -/
theorem int_of {G : Hp} {i : Int} {v : V} (h : VR K G (.d (.int i)) v) : v = .int i := rp_int.mp h.rp
theorem bool_of {G : Hp} {i : Bool} {v : V} (h : VR K G (.d (.bool i)) v) : v = .bl i := rp_bool.mp h.rp
theorem str_of {G : Hp} {i : Str} {v : V} (h : VR K G (.d (.str i)) v) : v = .str i := rp_str.mp h.rp
theorem vr_int {G : Hp} {i : Int} : VR K G (.d (.int i)) (.int i) := .d (rp_int.mpr rfl)
theorem vr_bool {G : Hp} {i : Bool} : VR K G (.d (.bool i)) (.bl i) := .d (rp_bool.mpr rfl)
theorem o2_I0 {g : Int → Int → Int} {i j : Int} (q : Q (.d (.int (g i j))) m) : Op2 K (rI0 fun i j => .int (g i j)) (.d (.int i)) (.d (.int j)) m Q := fun H G v w S a b R k => by
  rw [int_of a, int_of b]
  exact ⟨i, j, rfl, rfl, k _ H G _ m q S (Le.refl G) vr_int⟩
theorem o2_B0 {g : Int → Int → Bool} {i j : Int} (q : Q (.d (.bool (g i j))) m) : Op2 K (rI0 fun i j => .bl (g i j)) (.d (.int i)) (.d (.int j)) m Q := fun H G v w S a b R k => by
  rw [int_of a, int_of b]
  exact ⟨i, j, rfl, rfl, k _ H G _ m q S (Le.refl G) vr_bool⟩
theorem o2_I {C : Int → Int → Prop} {g : Int → Int → Int} {i j : Int} (c : C i j) (q : Q (.d (.int (g i j))) m) : Op2 K (rI C fun i j => .int (g i j)) (.d (.int i)) (.d (.int j)) m Q := fun H G v w S a b R k => by
  rw [int_of a, int_of b]
  exact ⟨i, j, rfl, rfl, c, k _ H G _ m q S (Le.refl G) vr_int⟩
theorem o2_addI {i j : Int} (q : Q (.d (.int (i + j))) m) : Op2 K (rAdd K) (.d (.int i)) (.d (.int j)) m Q := fun H G v w S a b R k => Or.inl (o2_I0 (g := fun i j => i + j) q H G v w S a b R k)
theorem o2_sub {i j : Int} (q : Q (.d (.int (i - j))) m) : Op2 K rSub (.d (.int i)) (.d (.int j)) m Q := o2_I0 (g := fun i j => i - j) q
theorem o2_mulI {i j : Int} (c : CMulW i j) (q : Q (.d (.int (i * j))) m) : Op2 K (rMul K) (.d (.int i)) (.d (.int j)) m Q := fun H G v w S a b R k => Or.inl (o2_I (C := CMulW) (g := fun i j => i * j) c q H G v w S a b R k)
theorem o2_fdv {i j : Int} (c : CDivW i j) (q : Q (.d (.int (i / j))) m) : Op2 K rFdv (.d (.int i)) (.d (.int j)) m Q := o2_I (C := CDivW) (g := fun i j => i / j) c q
theorem o2_mod {i j : Int} (c : 0 < j) (q : Q (.d (.int (i % j))) m) : Op2 K rMod (.d (.int i)) (.d (.int j)) m Q := o2_I (C := fun _ j => 0 < j) (g := fun i j => i % j) c q
theorem o2_lt {i j : Int} (q : Q (.d (.bool (decide (i < j)))) m) : Op2 K rLt (.d (.int i)) (.d (.int j)) m Q := o2_B0 (g := fun i j => decide (i < j)) q
theorem o2_le {i j : Int} (q : Q (.d (.bool (decide (i ≤ j)))) m) : Op2 K rLe (.d (.int i)) (.d (.int j)) m Q := o2_B0 (g := fun i j => decide (i ≤ j)) q
theorem o2_gt {i j : Int} (q : Q (.d (.bool (decide (j < i)))) m) : Op2 K rGt (.d (.int i)) (.d (.int j)) m Q := o2_B0 (g := fun i j => decide (j < i)) q
theorem o2_ge {i j : Int} (q : Q (.d (.bool (decide (j ≤ i)))) m) : Op2 K rGe (.d (.int i)) (.d (.int j)) m Q := o2_B0 (g := fun i j => decide (j ≤ i)) q
theorem o1_neg {i : Int} (q : Q (.d (.int (-i))) m) : Op1 K rNeg (.d (.int i)) m Q := fun H G v S a R k => by
  rw [int_of a]
  exact ⟨i, rfl, k _ H G _ m q S (Le.refl G) vr_int⟩
/-! == of data -/
theorem dp_of {H G : Hp} {x : PyData} {v : V} (S : Sta K m H G) (h : SeqAt.shaped x = true) (a : VR K G (.d x) v) : Dp K H v x := by
  have h : (x.canLay0 && decide (x.depth ≤ 64)) = true := h
  rw [Bool.and_eq_true] at h
  exact rp_dp x v (PyData.hasDict_of_canLay x h.1) (Rp.mono S.sub x v a.rp)
theorem o2_eq {x y : PyData} (hx : SeqAt.shaped x = true) (hy : SeqAt.shaped y = true) (q : Q (.d (.bool (PyData.eqv x y))) m) : Op2 K (rEqA K) (.d x) (.d y) m Q := fun H G v w S a b R k =>
  Or.inr ⟨x, y, dp_of S hx a, dp_of S hy b, hx, hy, k _ H G _ m q S (Le.refl G) vr_bool⟩
theorem o2_ne {x y : PyData} (hx : SeqAt.shaped x = true) (hy : SeqAt.shaped y = true) (q : Q (.d (.bool (!PyData.eqv x y))) m) : Op2 K (rNeA K) (.d x) (.d y) m Q := fun H G v w S a b R k =>
  Or.inr ⟨x, y, dp_of S hx a, dp_of S hy b, hx, hy, k _ H G _ m q S (Le.refl G) vr_bool⟩
theorem shaped_int (i : Int) : SeqAt.shaped (.int i) = true := by simp [SeqAt.shaped, PyData.canLay0, PyData.depth]
theorem eqv_int (i j : Int) : PyData.eqv (.int i) (.int j) = decide (i = j) := by
  simp only [PyData.eqv]; exact Bool.beq_eq_decide_eq i j
theorem o2_eqI {i j : Int} (q : Q (.d (.bool (decide (i = j)))) m) : Op2 K (rEqA K) (.d (.int i)) (.d (.int j)) m Q := o2_eq (shaped_int i) (shaped_int j) (by rw [eqv_int]; exact q)
theorem o2_neI {i j : Int} (q : Q (.d (.bool (!decide (i = j)))) m) : Op2 K (rNeA K) (.d (.int i)) (.d (.int j)) m Q := o2_ne (shaped_int i) (shaped_int j) (by rw [eqv_int]; exact q)
/-! texts -/
theorem o2_eqS {x y : Str} (q : Q (.d (.bool (decide (x = y)))) m) : Op2 K (rEqA K) (.d (.str x)) (.d (.str y)) m Q := fun H G v w S a b R k => by
  rw [str_of a, str_of b]
  refine Or.inl ⟨rfl, ?_⟩
  rw [dec_str, Bool.beq_eq_decide_eq]
  exact k _ H G _ m q S (Le.refl G) vr_bool
theorem o2_neS {x y : Str} (q : Q (.d (.bool (!decide (x = y)))) m) : Op2 K (rNeA K) (.d (.str x)) (.d (.str y)) m Q := fun H G v w S a b R k => by
  rw [str_of a, str_of b]
  refine Or.inl ⟨rfl, ?_⟩
  rw [dec_str, Bool.beq_eq_decide_eq]
  exact k _ H G _ m q S (Le.refl G) vr_bool
/-! items -/
theorem atI_nth {α : Type} (xs : List α) (i : Nat) : atI xs (i : Int) = xs[i]? := by
  unfold atI ixN
  rw [if_pos (Int.natCast_nonneg i)]
  by_cases h : i < xs.length
  · rw [if_pos (by omega), show ((i : Int)).toNat = i by omega]; rfl
  · rw [if_neg (by omega), List.getElem?_eq_none (by omega)]; rfl
theorem RpAll.atI {G : Hp} {ds : List PyData} {xs : List V} {i : Int} {d : PyData} (h : RpAll K G ds xs) (e : L2.atI ds i = some d) : ∃ x, L2.atI xs i = some x ∧ Rp K G d x := by
  unfold L2.atI at e ⊢
  rw [h.length]
  cases hj : ixN ds.length i with
  | none => rw [hj] at e; cases e
  | some j =>
    rw [hj] at e
    exact h.at e
theorem VRs.atI {G : Hp} : ∀ {rs : List Val} {xs : List V} {i : Nat} {r : Val}, VRs K G rs xs → rs[i]? = some r → ∃ x, xs[i]? = some x ∧ VR K G r x
  | [], xs, i, r, h, e => by simp at e
  | r0 :: rs, xs, 0, r, h, e => by
    obtain ⟨y, t, h1, h2, _⟩ := h
    subst h1
    have e : r0 = r := by simpa using e
    subst e
    exact ⟨y, rfl, h2⟩
  | r0 :: rs, xs, i + 1, r, h, e => by
    obtain ⟨y, t, h1, _, h3⟩ := h
    subst h1
    obtain ⟨z, h4, h5⟩ := VRs.atI (i := i) (r := r) h3 (by simpa using e)
    exact ⟨z, by simpa using h4, h5⟩
theorem o2_ixT {ds : List PyData} {i : Int} {d : PyData} (h : atI ds i = some d) (q : Q (.d d) m) : Op2 K (rIx K) (.d (.tuple ds)) (.d (.int i)) m Q := fun H G v w S a b R k => by
  rw [int_of b]
  obtain ⟨p, xs, hv, h2, h3⟩ := rp_tuple.mp a.rp
  obtain ⟨x, h4, h5⟩ := h3.atI h
  exact Or.inr (Or.inl ⟨p, xs, i, x, hv, rfl, S.sqT h2, h4, k _ H G _ m q S (Le.refl G) (.d h5)⟩)
theorem o2_ixL {ds : List PyData} {i : Int} {d : PyData} (h : atI ds i = some d) (q : Q (.d d) m) : Op2 K (rIx K) (.d (.list ds)) (.d (.int i)) m Q := fun H G v w S a b R k => by
  rw [int_of b]
  obtain ⟨p, xs, hv, h2, h3⟩ := rp_list.mp a.rp
  obtain ⟨x, h4, h5⟩ := h3.atI h
  exact Or.inl ⟨p, xs, i, x, hv, rfl, Or.inl (Le.rd S.sub h2), h4, k _ H G _ m q S (Le.refl G) (.d h5)⟩
theorem o2_ixB {p : Addr} (hm : m p = some .box) (q : ∀ n : Int, Q (.d (.int n)) m) : Op2 K (rIx K) (.v (.ref p)) (.d (.int 0)) m Q := fun H G v w S a b R k => by
  rw [int_of b]
  obtain ⟨n, h2⟩ := S.mem p _ hm
  exact Or.inl ⟨p, [.int n], 0, .int n, a.eq, rfl, Or.inl (Or.inl h2), rfl, k _ H G _ m (q n) S (Le.refl G) vr_int⟩
theorem o2_ixS {ns : List Int} {i : Nat} {n : Int} (h : ns[i]? = some n) (q : Q (.d (.int n)) m) : Op2 K (rIx K) (.scr ns) (.d (.int (i : Int))) m Q := fun H G v w S a b R k => by
  rw [int_of b]
  cases a with
  | scr h2 =>
    exact Or.inl ⟨_, _, i, .int n, rfl, rfl, S.sqL h2, by rw [atI_nth, List.getElem?_map, h]; rfl, k _ H G _ m q S (Le.refl G) vr_int⟩
/-! built-ins -/
theorem vrs1 {G : Hp} {x : Val} {vs : List V} (h : VRs K G [x] vs) : ∃ v, vs = [v] ∧ VR K G x v := by
  obtain ⟨v, t, h1, h2, h3⟩ := h
  have h3 : t = [] := h3
  exact ⟨v, by rw [h1, h3], h2⟩
theorem vrs2 {G : Hp} {x y : Val} {vs : List V} (h : VRs K G [x, y] vs) : ∃ v w, vs = [v, w] ∧ VR K G x v ∧ VR K G y w := by
  obtain ⟨v, t, h1, h2, h3⟩ := h
  obtain ⟨w, h4, h5⟩ := vrs1 h3
  exact ⟨v, w, by rw [h1, h4], h2, h5⟩
theorem on_abs {i : Int} (q : Q (.d (.int (i.natAbs : Int))) m) : OpN K rAbs [.d (.int i)] m Q := fun H G vs S a R k => by
  obtain ⟨v, rfl, h⟩ := vrs1 a
  rw [int_of h]
  refine ⟨i, rfl, ?_⟩
  have e : (if i < 0 then -i else i) = (i.natAbs : Int) := by split <;> omega
  rw [e]
  exact k _ H G _ m q S (Le.refl G) vr_int
theorem on_max {i j : Int} (q : Q (.d (.int (max i j))) m) : OpN K rMax2 [.d (.int i), .d (.int j)] m Q := fun H G vs S a R k => by
  obtain ⟨v, w, rfl, h1, h2⟩ := vrs2 a
  rw [int_of h1, int_of h2]
  refine ⟨i, j, rfl, ?_⟩
  have e : (if j > i then j else i) = max i j := by split <;> omega
  rw [e]
  exact k _ H G _ m q S (Le.refl G) vr_int
theorem on_min {i j : Int} (q : Q (.d (.int (min i j))) m) : OpN K rMin2 [.d (.int i), .d (.int j)] m Q := fun H G vs S a R k => by
  obtain ⟨v, w, rfl, h1, h2⟩ := vrs2 a
  rw [int_of h1, int_of h2]
  refine ⟨i, j, rfl, ?_⟩
  have e : (if j < i then j else i) = min i j := by split <;> omega
  rw [e]
  exact k _ H G _ m q S (Le.refl G) vr_int
theorem on_lenT {ds : List PyData} (q : Q (.d (.int (ds.length : Int))) m) : OpN K (rLen K) [.d (.tuple ds)] m Q := fun H G vs S a R k => by
  obtain ⟨v, rfl, h⟩ := vrs1 a
  obtain ⟨p, xs, hv, h2, h3⟩ := rp_tuple.mp h.rp
  refine Or.inl ⟨p, xs, by rw [hv], Or.inr (S.sqT h2), ?_⟩
  rw [h3.length]
  exact k _ H G _ m q S (Le.refl G) vr_int
theorem on_lenL {ds : List PyData} (q : Q (.d (.int (ds.length : Int))) m) : OpN K (rLen K) [.d (.list ds)] m Q := fun H G vs S a R k => by
  obtain ⟨v, rfl, h⟩ := vrs1 a
  obtain ⟨p, xs, hv, h2, h3⟩ := rp_list.mp h.rp
  refine Or.inl ⟨p, xs, by rw [hv], Or.inl (Or.inl (Le.rd S.sub h2)), ?_⟩
  rw [h3.length]
  exact k _ H G _ m q S (Le.refl G) vr_int
theorem on_lenS {ns : List Int} (q : Q (.d (.int (ns.length : Int))) m) : OpN K (rLen K) [.scr ns] m Q := fun H G vs S a R k => by
  obtain ⟨v, rfl, h⟩ := vrs1 a
  cases h with
  | scr h2 =>
    refine Or.inl ⟨_, _, rfl, Or.inl (S.sqL h2), ?_⟩
    rw [List.length_map]
    exact k _ H G _ m q S (Le.refl G) vr_int
theorem on_sumL {ns : List Int} (q : Q (.d (.int ns.sum)) m) : OpN K (rSumA K) [.d (.list (ns.map PyData.int))] m Q := fun H G vs S a R k => by
  obtain ⟨v, rfl, h⟩ := vrs1 a
  obtain ⟨p, xs, hv, h2, h3⟩ := rp_list.mp h.rp
  rw [h3.ints] at h2
  exact Or.inl ⟨p, ns, by rw [hv], Or.inl (Le.rd S.sub h2), k _ H G _ m q S (Le.refl G) vr_int⟩
theorem on_sumT {ns : List Int} (q : Q (.d (.int ns.sum)) m) : OpN K (rSumA K) [.d (.tuple (ns.map PyData.int))] m Q := fun H G vs S a R k => by
  obtain ⟨v, rfl, h⟩ := vrs1 a
  obtain ⟨p, xs, hv, h2, h3⟩ := rp_tuple.mp h.rp
  rw [h3.ints] at h2
  exact Or.inr ⟨p, ns, by rw [hv], S.sqT h2, k _ H G _ m q S (Le.refl G) vr_int⟩
theorem on_all {bs : List Bool} (q : Q (.d (.bool (bs.all id))) m) : OpN K (rAll K) [.d (.list (bs.map PyData.bool))] m Q := fun H G vs S a R k => by
  obtain ⟨v, rfl, h⟩ := vrs1 a
  obtain ⟨p, xs, hv, h2, h3⟩ := rp_list.mp h.rp
  rw [h3.bools] at h2
  exact ⟨p, bs, by rw [hv], Or.inl (Le.rd S.sub h2), k _ H G _ m q S (Le.refl G) vr_bool⟩
theorem on_any {bs : List Bool} (q : Q (.d (.bool (bs.any id))) m) : OpN K (rAny K) [.d (.list (bs.map PyData.bool))] m Q := fun H G vs S a R k => by
  obtain ⟨v, rfl, h⟩ := vrs1 a
  obtain ⟨p, xs, hv, h2, h3⟩ := rp_list.mp h.rp
  rw [h3.bools] at h2
  exact ⟨p, bs, by rw [hv], Or.inl (Le.rd S.sub h2), k _ H G _ m q S (Le.refl G) vr_bool⟩
theorem on_tupL {ds : List PyData} (q : Q (.d (.tuple ds)) m) : OpN K (rTupO K) [.d (.list ds)] m Q := fun H G vs S a R k => by
  obtain ⟨v, rfl, h⟩ := vrs1 a
  obtain ⟨p, xs, hv, h2, h3⟩ := rp_list.mp h.rp
  refine ⟨p, xs, by rw [hv], Or.inl ⟨Or.inl (Le.rd S.sub h2), fun l hl => ?_⟩⟩
  have hg := S.free hl
  exact k _ _ (upd G l (.tup xs)) _ m q (S.fix hl) (Le.new hg) (.d (rp_tuple.mpr ⟨l, xs, rfl, SqT.of upd_same, RpAll.mono (Le.new hg) ds xs h3⟩))
theorem on_tupT {ds : List PyData} (q : Q (.d (.tuple ds)) m) : OpN K (rTupO K) [.d (.tuple ds)] m Q := fun H G vs S a R k => by
  obtain ⟨v, rfl, h⟩ := vrs1 a
  obtain ⟨p, xs, hv, h2, h3⟩ := rp_tuple.mp h.rp
  exact ⟨p, xs, by rw [hv], Or.inr ⟨S.sqT h2, by rw [← hv]; exact k _ H G _ m q S (Le.refl G) h⟩⟩
theorem on_lstT {ds : List PyData} (q : Q (.d (.list ds)) m) : OpN K (rLstO K) [.d (.tuple ds)] m Q := fun H G vs S a R k => by
  obtain ⟨v, rfl, h⟩ := vrs1 a
  obtain ⟨p, xs, hv, h2, h3⟩ := rp_tuple.mp h.rp
  refine ⟨p, xs, by rw [hv], Or.inr (S.sqT h2), fun l hl => ?_⟩
  have hg := S.free hl
  exact k _ _ (upd G l (.lst xs)) _ m q (S.fix hl) (Le.new hg) (.d (rp_list.mpr ⟨l, xs, rfl, Rd.of upd_same, RpAll.mono (Le.new hg) ds xs h3⟩))
theorem on_divmod {i j : Int} (c : CDivW i j) (q : Q (.d (.tuple [.int (i / j), .int (i % j)])) m) : OpN K rDivmod [.d (.int i), .d (.int j)] m Q := fun H G vs S a R k => by
  obtain ⟨v, w, rfl, h1, h2⟩ := vrs2 a
  rw [int_of h1, int_of h2]
  refine ⟨i, j, rfl, c, fun p hp => ?_⟩
  have hg := S.free hp
  exact k _ _ (upd G p (.tup [.int (i / j), .int (i % j)])) _ m q (S.fix hp) (Le.new hg) (.d (rp_tuple.mpr ⟨p, _, rfl, SqT.of upd_same, rpa_ints [i / j, i % j]⟩))
/-! isinstance -/
def tyN : PyData → String
  | .none => "NoneType" | .bool _ => "bool" | .int _ => "int" | .str _ => "str" | .list _ => "list" | .tuple _ => "tuple" | .dict _ => "dict"
theorem ty_of {H G : Hp} {x : PyData} {v : V} (S : Sta K m H G) (a : Rp K G x v) : TyX K H v (.type (tyN x)) := by
  cases x with
  | none => rw [rp_none.mp a]; exact .base .non
  | bool b => rw [rp_bool.mp a]; exact .base (.bl b)
  | int b => rw [rp_int.mp a]; exact .base (.int b)
  | str b => rw [rp_str.mp a]; exact .base (.str b)
  | list ds =>
    obtain ⟨p, xs, rfl, h2, _⟩ := rp_list.mp a
    rcases Le.rd S.sub h2 with h | ⟨o, h⟩
    · exact .base (.lst h)
    · exact .base (.frz h)
  | tuple ds =>
    obtain ⟨p, xs, rfl, h2, _⟩ := rp_tuple.mp a
    rcases S.sqT h2 with (h | ⟨o, h⟩) | ⟨o, its, n, h, hc, _⟩
    · exact .base (.tup h)
    · exact .fTuple h
    · exact .kTuple h hc
  | dict kvs =>
    rw [Rp] at a
    obtain ⟨p, rfl, ⟨es, h, _⟩ | ⟨es, h, _⟩⟩ := a
    · exact .base (.dT (S.sub _ _ h))
    · exact .base (.dK (S.sub _ _ h))
theorem on_isi {x : PyData} {T : String} {b : Bool} (hb : kitB (tyN x) T = some b) (q : Q (.d (.bool b)) m) : OpN K (rIsi K) [.d x, .v (.ty T)] m Q := fun H G vs S a R k => by
  obtain ⟨v, w, rfl, h1, h2⟩ := vrs2 a
  rw [h2.eq]
  exact ⟨v, .ty T, _, _, b, rfl, .ty T, ty_of S h1.rp, kit_ty hb, k _ H G _ m q S (Le.refl G) vr_bool⟩
def isTup : PyData → Bool | .tuple _ => true | _ => false
def isIntB : PyData → Bool | .int _ => true | .bool _ => true | _ => false
def isBoo : PyData → Bool | .bool _ => true | _ => false
def isStrD : PyData → Bool | .str _ => true | _ => false
def isLst : PyData → Bool | .list _ => true | _ => false
def isDct : PyData → Bool | .dict _ => true | _ => false
theorem on_isiTup {x : PyData} (q : Q (.d (.bool (isTup x))) m) : OpN K (rIsi K) [.d x, .v (.ty "tuple")] m Q := on_isi (by cases x <;> (simp only [tyN, isTup, isIntB, isBoo, isStrD, isLst, isDct]; decide +kernel)) q
theorem on_isiInt {x : PyData} (q : Q (.d (.bool (isIntB x))) m) : OpN K (rIsi K) [.d x, .v (.ty "int")] m Q := on_isi (by cases x <;> (simp only [tyN, isTup, isIntB, isBoo, isStrD, isLst, isDct]; decide +kernel)) q
theorem on_isiBool {x : PyData} (q : Q (.d (.bool (isBoo x))) m) : OpN K (rIsi K) [.d x, .v (.ty "bool")] m Q := on_isi (by cases x <;> (simp only [tyN, isTup, isIntB, isBoo, isStrD, isLst, isDct]; decide +kernel)) q
theorem on_isiStr {x : PyData} (q : Q (.d (.bool (isStrD x))) m) : OpN K (rIsi K) [.d x, .v (.ty "str")] m Q := on_isi (by cases x <;> (simp only [tyN, isTup, isIntB, isBoo, isStrD, isLst, isDct]; decide +kernel)) q
theorem on_isiList {x : PyData} (q : Q (.d (.bool (isLst x))) m) : OpN K (rIsi K) [.d x, .v (.ty "list")] m Q := on_isi (by cases x <;> (simp only [tyN, isTup, isIntB, isBoo, isStrD, isLst, isDct]; decide +kernel)) q
theorem on_isiDict {x : PyData} (q : Q (.d (.bool (isDct x))) m) : OpN K (rIsi K) [.d x, .v (.ty "dict")] m Q := on_isi (by cases x <;> (simp only [tyN, isTup, isIntB, isBoo, isStrD, isLst, isDct]; decide +kernel)) q
/-! repr -/
/-! + of tuples and lists, * -/
theorem nil_of_all {G : Hp} {ds : List PyData} (h : RpAll K G ds []) : ds = [] := by
  cases ds with
  | nil => rfl
  | cons d r =>
    obtain ⟨x, t, h1, _⟩ := rpa_cons.mp h
    cases h1
theorem o2_addL {ds es : List PyData} (hz : ds.length + es.length ≤ 100000) (q : Q (.d (.list (ds ++ es))) m) : Op2 K (rAdd K) (.d (.list ds)) (.d (.list es)) m Q := fun H G v w S a b R k => by
  obtain ⟨p, xs, rfl, h2, h3⟩ := rp_list.mp a.rp
  obtain ⟨p', ys, rfl, h4, h5⟩ := rp_list.mp b.rp
  refine Or.inr (Or.inr (Or.inl ⟨p, p', xs, ys, rfl, rfl, Le.rd S.sub h2, Le.rd S.sub h4, ?_, fun l hl => ?_⟩))
  · rw [h3.length, h5.length]; exact Nat.le_trans hz (by decide)
  · have hg := S.free hl
    exact k _ _ (upd G l (.lst (xs ++ ys))) _ m q (S.fix hl) (Le.new hg) (.d (rp_list.mpr ⟨l, _, rfl, Rd.of upd_same, RpAll.mono (Le.new hg) _ _ (h3.append h5)⟩))
theorem RpAll.rep {G : Hp} {ds : List PyData} {xs : List V} (h : RpAll K G ds xs) : ∀ n : Nat, RpAll K G (List.replicate n ds).flatten (List.replicate n xs).flatten
  | 0 => rpa_nil.mpr rfl
  | n + 1 => by
    rw [List.replicate_succ, List.replicate_succ, List.flatten_cons, List.flatten_cons]
    exact h.append (RpAll.rep h n)
theorem o2_mulT {ds : List PyData} {n : Nat} (h0 : ds ≠ []) (h1 : 1 ≤ n) (h2 : n ≤ 1000) (h3 : ds.length ≤ 1000) (q : Q (.d (.tuple (List.replicate n ds).flatten)) m) : Op2 K (rMul K) (.d (.tuple ds)) (.d (.int (n : Int))) m Q := fun H G v w S a b R k => by
  rw [int_of b]
  obtain ⟨p, xs, rfl, g2, g3⟩ := rp_tuple.mp a.rp
  by_cases e : n = 1
  · subst e
    have e : (List.replicate 1 ds).flatten = ds := by simp
    rw [e] at q
    exact Or.inr (Or.inr (Or.inl ⟨p, xs, rfl, rfl, S.sqT g2, k _ H G _ m q S (Le.refl G) a⟩))
  · refine Or.inr (Or.inl ⟨p, (n : Int), xs, rfl, rfl, S.sqT g2, fun e => ?_, by omega, by omega, by rw [g3.length]; exact h3, fun l hl => ?_⟩)
    · subst e; exact h0 (nil_of_all g3)
    · have hg := S.free hl
      have en : ((n : Int)).toNat = n := by omega
      rw [en]
      exact k _ _ (upd G l _) _ m q (S.fix hl) (Le.new hg) (.d (rp_tuple.mpr ⟨l, _, rfl, SqT.of upd_same, RpAll.mono (Le.new hg) _ _ (g3.rep n)⟩))
end
/-! list(range), tuple(range) -/
section
variable {K : PySem.W.Frag} {r : List Val} {m : Mm} {Q : Val → Mm → Prop} {ta tb tc te : TE} {tt : TT}
/-! comprehensions -/
def Ext (m m' : Mm) : Prop := ∀ a o, m a = some o → m' a = some o
/-- one turn's end: the list so far stands at D -/
def LcW (K : PySem.W.Frag) (m : Mm) (G : Hp) (D : Addr) (W : Nat → List PyData → Prop) (i : Nat) (H' : Hp) : Prop :=
  ∃ G' acc, W i acc ∧ acc.length ≤ i ∧ Sta K (put m D (.lst (acc.map Val.d))) H' G' ∧ Le G G'
theorem lc_turn {G : Hp} {D : Addr} {W : Nat → List PyData → Prop} {i : Nat} {σ : L2.St} {H' : Hp} {r' : List Val} (hm : m D = none) (hi : i < 100000) (L : ∀ G', Le G G' → Sl K G' r' σ)
    (hs : ∀ m' acc, Ext m m' → W i acc → EvT K tt r' m' fun b m2 => m2 = m' ∧ (b = true → Ev K te r' m' fun x m3 => m3 = m' ∧ ∃ y, x = .d y ∧ W (i + 1) (acc ++ [y])) ∧ (b = false → W (i + 1) acc))
    (h : LcW K m G D W i H') : tt σ H' fun b H3 => if b = true then te σ H3 fun y H4 => ∃ acc, H4 D = some (.lst acc) ∧ acc.length < sizeLine ∧ LcW K m G D W (i + 1) (upd H4 D (.lst (acc ++ [y]))) else LcW K m G D W (i + 1) H3 := by
  obtain ⟨G', acc, hw, hl, S, e⟩ := h
  have hx : Ext m (put m D (.lst (acc.map Val.d))) := fun a o ha => by
    rw [put_ne (ne_of_get ha hm)]; exact ha
  refine hs _ acc hx hw σ H' G' S (L G' e) _ fun H3 G3 b m3 ⟨e3, h1, h2⟩ S3 l3 => ?_
  subst e3
  cases b with
  | true =>
    show te σ H3 _
    refine h1 rfl σ H3 G3 S3 (L G3 (e.trans l3)) _ fun v H4 G4 x m4 ⟨e4, y, hy, hw'⟩ S4 l4 r4 => ?_
    subst e4 hy
    obtain ⟨xs, g1, g2⟩ := S4.mem D _ put_same
    have hlen := g2.length
    rw [List.length_map] at hlen
    refine ⟨xs, g1, Nat.lt_of_lt_of_le (show xs.length < 100000 by omega) (by decide), G4, acc ++ [y], hw', by rw [List.length_append]; show acc.length + 1 ≤ i + 1; omega, ?_, e.trans (l3.trans l4)⟩
    have S5 := S4.chg (u := .lst ((acc ++ [y]).map Val.d)) (o := .lst (xs ++ [v])) put_same ⟨_, upd_same, by
      rw [List.map_append]
      exact g2.append ⟨v, [], rfl, r4, rfl⟩⟩
    rw [put_put] at S5
    exact S5
  | false =>
    show LcW K m G D W (i + 1) H3
    exact ⟨G3, acc, h2 rfl, by omega, S3, e.trans l3⟩
theorem wipe1 (σ : L2.St) (j : Nat) (x : V) : wipe ((wipe σ [j]).set j (some x)) [j] = wipe σ [j] := by
  show ((σ.set j none).set j (some x)).set j none = σ.set j none
  rw [List.set_set, List.set_set]
theorem sl_in {G : Hp} {σ : L2.St} {j : Nat} {d : PyData} {x : V} (L : Sl K G r σ) {G' : Hp} (e : Le G G') (h : Rp K G' d x) : Sl K G' (r.set j (.d d)) ((wipe σ [j]).set j (some x)) := by
  have := (L.mono e).set (r := .d d) (.d h) j
  show Sl K G' (r.set j (.d d)) ((σ.set j none).set j (some x))
  rw [List.set_set]
  exact this
theorem lc_end {G : Hp} {D : Addr} {W : Nat → List PyData → Prop} {n : Nat} {H' : Hp} {R : VK} (hm : m D = none) (h : LcW K m G D W n H') (hd : ∀ acc, W n acc → Q (.d (.list acc)) m)
    (k : ∀ v H' G' x m', Q x m' → Sta K m' H' G' → Le G G' → VR K G' x v → R v H') : R (.ref D) H' := by
  obtain ⟨G', acc, hw, hl, S, e⟩ := h
  obtain ⟨xs, g1, g2⟩ := S.mem D _ put_same
  have hg := S.dis D _ put_same
  have S2 := S.freeze put_same g1
  have e2 : del (put m D (.lst (acc.map Val.d))) D = m := by
    funext b
    unfold del put
    by_cases hb : b = D
    · rw [if_pos hb, hb, hm]
    · rw [if_neg hb, if_neg hb]
  rw [e2] at S2
  exact k _ H' _ _ m (hd acc hw) S2 (e.trans (Le.new hg)) (.d (rp_list.mpr ⟨D, xs, rfl, Rd.of upd_same, RpAll.mono (Le.new hg) acc xs g2.toAll⟩))
theorem lc_start {H G : Hp} {D : Addr} {W : Nat → List PyData → Prop} (S : Sta K m H G) (hD : H D = none) (h0 : W 0 []) : LcW K m G D W 0 (upd H D (.lst [])) :=
  ⟨G, [], h0, Nat.le_refl _, S.new hD ⟨[], upd_same, rfl⟩, Le.refl G⟩
theorem ev_lcT {tl : TE} {j : Nat} {ds : List PyData} (h : Ev K tl r m fun x m1 => x = .d (.tuple ds) ∧ m1 = m) (hn : ds.length ≤ 100000) (W : Nat → List PyData → Prop) (h0 : W 0 [])
    (hs : ∀ i d m' acc, ds[i]? = some d → Ext m m' → W i acc → EvT K tt (r.set j (.d d)) m' fun b m2 => m2 = m' ∧ (b = true → Ev K te (r.set j (.d d)) m' fun x m3 => m3 = m' ∧ ∃ y, x = .d y ∧ W (i + 1) (acc ++ [y])) ∧ (b = false → W (i + 1) acc))
    (hd : ∀ acc, W ds.length acc → Q (.d (.list acc)) m) : Ev K (tLc (iTup K tl) (gName j) tt te [j]) r m Q := fun σ H G S L R k =>
  h σ H G S L _ fun v H1 G1 x m1 ⟨hx, hm⟩ S1 e1 r1 => by
    subst hx hm
    obtain ⟨p, xs, hv, hs1, hA⟩ := rp_tuple.mp r1.rp
    refine ⟨p, hv, ⟨xs, S1.sqT hs1⟩, fun D hD => ?_⟩
    have hmD := S1.freeM hD
    refine lc_tup (xs := xs) (LcW K m1 G1 D W) (lc_start S1 hD h0) ?_ ?_ ?_
    · rintro i H' hi ⟨G', acc, _, _, S', e'⟩
      exact S'.sqT (e'.sqT hs1)
    · intro i y H' hy hP
      obtain ⟨d, hd1, hd2⟩ := hA.get hy
      have hi : i < 100000 := by
        have := (List.getElem?_eq_some_iff.mp hy).1
        rw [hA.length] at this
        omega
      exact ⟨wipe1 σ j y, lc_turn hmD hi (fun G' e' => sl_in (L.mono e1) e' (Rp.mono e' d y hd2)) (fun m' acc hx hw => hs i d m' acc hd1 hx hw) hP⟩
    · intro H' hP
      rw [hA.length] at hP
      exact lc_end hmD hP hd fun v H' G' x m' q S' e' r' => k v H' G' x m' q S' (e1.trans e') r'
theorem ev_lcL {tl : TE} {j : Nat} {ds : List PyData} (h : Ev K tl r m fun x m1 => x = .d (.list ds) ∧ m1 = m) (hn : ds.length ≤ 100000) (W : Nat → List PyData → Prop) (h0 : W 0 [])
    (hs : ∀ i d m' acc, ds[i]? = some d → Ext m m' → W i acc → EvT K tt (r.set j (.d d)) m' fun b m2 => m2 = m' ∧ (b = true → Ev K te (r.set j (.d d)) m' fun x m3 => m3 = m' ∧ ∃ y, x = .d y ∧ W (i + 1) (acc ++ [y])) ∧ (b = false → W (i + 1) acc))
    (hd : ∀ acc, W ds.length acc → Q (.d (.list acc)) m) : Ev K (tLc (iList K tl) (gName j) tt te [j]) r m Q := fun σ H G S L R k =>
  h σ H G S L _ fun v H1 G1 x m1 ⟨hx, hm⟩ S1 e1 r1 => by
    subst hx hm
    obtain ⟨p, xs, hv, hs1, hA⟩ := rp_list.mp r1.rp
    have hs1 : SqL K G1 p xs := Or.inl hs1
    refine ⟨p, hv, ⟨xs, S1.sqL hs1⟩, fun D hD => ?_⟩
    have hmD := S1.freeM hD
    refine lc_list (xs := xs) (LcW K m1 G1 D W) (lc_start S1 hD h0) ?_ ?_ ?_
    · rintro i H' hi ⟨G', acc, _, _, S', e'⟩
      exact S'.sqL (e'.sqL hs1)
    · intro i y H' hy hP
      obtain ⟨d, hd1, hd2⟩ := hA.get hy
      have hi : i < 100000 := by
        have := (List.getElem?_eq_some_iff.mp hy).1
        rw [hA.length] at this
        omega
      exact ⟨wipe1 σ j y, lc_turn hmD hi (fun G' e' => sl_in (L.mono e1) e' (Rp.mono e' d y hd2)) (fun m' acc hx hw => hs i d m' acc hd1 hx hw) hP⟩
    · intro H' hP
      rw [hA.length] at hP
      exact lc_end hmD hP hd fun v H' G' x m' q S' e' r' => k v H' G' x m' q S' (e1.trans e') r'
theorem ev_lcR1 {ta : TA} {j : Nat} {n : Nat} (h : EvA K ta r m fun xs m1 => xs = [.d (.int (n : Int))] ∧ m1 = m) (hn : n ≤ 100000) (W : Nat → List PyData → Prop) (h0 : W 0 [])
    (hs : ∀ (i : Nat) m' acc, i < n → Ext m m' → W i acc → EvT K tt (r.set j (.d (.int (i : Int)))) m' fun b m2 => m2 = m' ∧ (b = true → Ev K te (r.set j (.d (.int (i : Int)))) m' fun x m3 => m3 = m' ∧ ∃ y, x = .d y ∧ W (i + 1) (acc ++ [y])) ∧ (b = false → W (i + 1) acc))
    (hd : ∀ acc, W n acc → Q (.d (.list acc)) m) : Ev K (tLc (iRng1 ta) (gName j) tt te [j]) r m Q := fun σ H G S L R k =>
  h σ H G S L _ fun vs H1 G1 xs m1 ⟨hx, hm⟩ S1 e1 r1 => by
    subst hx hm
    obtain ⟨v1, rfl, a1⟩ := vrs1 r1
    have a1 := int_of a1
    subst a1
    have en : ((n : Int)).toNat = n := by omega
    refine ⟨(n : Int), rfl, by omega, by omega, ?_⟩
    rw [en]
    intro D hD
    have hmD := S1.freeM hD
    refine lc_range (lo := 0) (n := n) (LcW K m1 G1 D W) (lc_start S1 hD h0) ?_ ?_
    · intro i H' hi hP
      rw [Int.zero_add]
      exact ⟨wipe1 σ j _, lc_turn hmD (by omega) (fun G' e' => sl_in (L.mono e1) e' (rp_int.mpr rfl)) (fun m' acc hx hw => hs i m' acc hi hx hw) hP⟩
    · intro H' hP
      exact lc_end hmD hP hd fun v H' G' x m' q S' e' r' => k v H' G' x m' q S' (e1.trans e') r'
theorem ev_lcR2 {ta : TA} {j : Nat} {lo n : Nat} (h : EvA K ta r m fun xs m1 => xs = [.d (.int (lo : Int)), .d (.int ((lo + n : Nat) : Int))] ∧ m1 = m) (hn : lo + n ≤ 100000) (W : Nat → List PyData → Prop) (h0 : W 0 [])
    (hs : ∀ (i : Nat) m' acc, i < n → Ext m m' → W i acc → EvT K tt (r.set j (.d (.int ((lo + i : Nat) : Int)))) m' fun b m2 => m2 = m' ∧ (b = true → Ev K te (r.set j (.d (.int ((lo + i : Nat) : Int)))) m' fun x m3 => m3 = m' ∧ ∃ y, x = .d y ∧ W (i + 1) (acc ++ [y])) ∧ (b = false → W (i + 1) acc))
    (hd : ∀ acc, W n acc → Q (.d (.list acc)) m) : Ev K (tLc (iRng2 ta) (gName j) tt te [j]) r m Q := fun σ H G S L R k =>
  h σ H G S L _ fun vs H1 G1 xs m1 ⟨hx, hm⟩ S1 e1 r1 => by
    subst hx hm
    obtain ⟨v1, v2, rfl, a1, a2⟩ := vrs2 r1
    have a1 := int_of a1
    have a2 := int_of a2
    subst a1 a2
    have en : (((lo + n : Nat) : Int) - (lo : Int)).toNat = n := by omega
    refine ⟨(lo : Int), ((lo + n : Nat) : Int), rfl, ⟨by omega, by omega, by omega, by omega⟩, ?_⟩
    rw [en]
    intro D hD
    have hmD := S1.freeM hD
    refine lc_range (lo := (lo : Int)) (n := n) (LcW K m1 G1 D W) (lc_start S1 hD h0) ?_ ?_
    · intro i H' hi hP
      rw [show (lo : Int) + (i : Int) = ((lo + i : Nat) : Int) from (Int.natCast_add lo i).symm]
      exact ⟨wipe1 σ j _, lc_turn hmD (by omega) (fun G' e' => sl_in (L.mono e1) e' (rp_int.mpr rfl)) (fun m' acc hx hw => hs i m' acc hi hx hw) hP⟩
    · intro H' hP
      exact lc_end hmD hP hd fun v H' G' x m' q S' e' r' => k v H' G' x m' q S' (e1.trans e') r'
theorem ev_cTy {T : String} (q : Q (.v (.ty T)) m) : Ev K (tC (.ty T)) r m Q := ev_cV q
theorem evt_yes {Q : Bool → Mm → Prop} (q : Q true m) : EvT K tYes r m Q := fun σ H G S L R k => k H G true m q S (Le.refl G)
/-! a[i] = e -/
variable {N : List Val → Mm → Prop} {E : Val → Mm → Prop}
theorem w_setB {to ti : TE} {p : Addr} (h : Ev K te r m fun x m1 => ∃ n : Int, x = .d (.int n) ∧ Ev K to r m1 fun y m2 => y = .v (.ref p) ∧ Ev K ti r m2 fun z m3 => z = .d (.int 0) ∧ m3 p = some .box ∧ N r m3) :
    Wp K (tAsg te (gSub to ti rSetL)) r m N E := fun σ H G D S L a b =>
  h σ H G S L _ fun v H1 G1 x m1 ⟨n, hx, h1⟩ S1 e1 r1 => h1 σ H1 G1 S1 (L.mono e1) _ fun w H2 G2 y m2 ⟨hy, h2⟩ S2 e2 r2 => h2 σ H2 G2 S2 (L.mono (e1.trans e2)) _ fun u H3 G3 z m3 ⟨hz, hb, q⟩ S3 e3 r3 => by
    subst hx hy hz
    have a1 := int_of r1
    have a2 := r2.eq
    have a3 := int_of r3
    subst a1 a2 a3
    obtain ⟨n0, g1⟩ := S3.mem p _ hb
    refine ⟨p, [.int n0], 0, 0, rfl, rfl, g1, rfl, ?_⟩
    have S4 := S3.chg (u := .box) (o := .lst [.int n]) hb ⟨n, upd_same⟩
    have e4 : put m3 p .box = m3 := by
      funext c
      unfold put
      by_cases hc : c = p
      · rw [if_pos hc, hc, hb]
      · rw [if_neg hc]
    rw [e4] at S4
    exact a σ _ G3 r m3 q S4 (e1.trans (e2.trans e3)) (L.mono (e1.trans (e2.trans e3)))
/-- a box made -/
theorem ev_lstB {t : TA} (h : EvA K t r m fun xs m1 => ∃ n : Int, xs = [.d (.int n)] ∧ ∀ p, m1 p = none → Q (.v (.ref p)) (put m1 p .box)) : Ev K (tLst t) r m Q := fun σ H G S L R k =>
  h σ H G S L _ fun vs H1 G1 xs m1 ⟨n, hx, q⟩ S1 e1 r1 => by
    subst hx
    obtain ⟨v1, rfl, a1⟩ := vrs1 r1
    have a1 := int_of a1
    subst a1
    refine ⟨by rw [sizeLine_eq]; show 1 ≤ 16777216; decide, fun p hp => ?_⟩
    exact k (.ref p) _ G1 _ _ (q p (S1.freeM hp)) (S1.new hp ⟨n, upd_same⟩) e1 .v
/-! what grew is data from now on -/
theorem o2_pow {i j : Int} (c : CPow i j) (q : Q (.d (.int (i ^ j.toNat))) m) : Op2 K rPow (.d (.int i)) (.d (.int j)) m Q := o2_I (C := CPow) (g := fun i j => i ^ j.toNat) c q
end
end DL
namespace DL
open PySem L2
/-- a def of the text that keeps a word of this level -/
structure Cl (P : Program) (w : World) (K : PySem.W.Frag) (mg : Str → Option Value) (base : Heap) (k : Nat) (x : Str) (sp : FSp) : Prop where
  ex : ∃ f fd ps, FnOk P w K mg base CX0 k f fd ps (spD K sp) ∧ mg x = some (.ref f) ∧ PySem.W.keepIn K (.ref f) = true ∧ Binds K fd ps []
section
variable {X : Cx} {k j n0 : Nat} {x : Str} {sp : FSp} {e : Expr} {es : List Expr} {t : TA} {p pos : Pos} {P : Program} {w : World} {K : PySem.W.Frag} {mg : Str → Option Value} {base : Heap}
theorem pe_cl (c : Cl P w K mg base k x sp) (hr : Room j X.A) (hk : k ≤ j) (hg : Gl X x) (ha : PA X (e :: es) t) (hP : X.prog = P := by rfl) (hw : X.w = w := by rfl) (hK : X.K = K := by rfl) (hmg : X.mg = mg := by rfl) (hbs : X.base = base := by rfl)
    (hdb : (x == ("__debug__" : Str)) = false := by decide)
    (he : starEach (e :: es) X.env = (false, eval e X.env) :: starEach es X.env := by rfl) (hpl : (backTo pos (starEach es X.env)).any (·.1) = false := by rfl) :
    PE X (.Call (.Name x p) (e :: es) [] pos) (tCall (spD K sp) [] E0 t) := by
  subst hP hw hK hmg hbs
  obtain ⟨f, fd, ps, F, hm, hkp, hb⟩ := c.ex
  exact pe_call F (hr.mono hk) hg hm hkp hb .nil pass0 ha hdb he hpl
theorem pe_gi {i : Int} (h : ∃ t, mg x = some (.int i t)) (hg : Gl X x) (hmg : X.mg = mg := by rfl) (hd : (x == ("__debug__" : Str)) = false := by decide) : PE X (.Name x pos) (tC (.int i)) := by
  subst hmg
  obtain ⟨t, h⟩ := h
  exact pe_glob hg h ⟨_, rfl⟩ hd
/-! the joined rules, the written part by name -/
theorem kAdd (K : PySem.W.Frag) (h : X.K = K := by rfl) : OpR X (binaryOp .Add) (rAdd K) := h ▸ oAdd
theorem kMul (K : PySem.W.Frag) (h : X.K = K := by rfl) : OpR X (binaryOp .Mult) (rMul K) := h ▸ oMul
theorem kEq (K : PySem.W.Frag) (hr : Room j X.A) (h : X.K = K := by rfl) : OpR X (compareOp .Eq) (rEqA K) := h ▸ oEq hr
theorem kNe (K : PySem.W.Frag) (hr : Room j X.A) (h : X.K = K := by rfl) : OpR X (compareOp .NotEq) (rNeA K) := h ▸ oNe hr
theorem kIx (K : PySem.W.Frag) (h : X.K = K := by rfl) : IxR X (rIx K) := h ▸ ix_seq
theorem kLen (K : PySem.W.Frag) (h : X.K = K := by rfl) : CallR X (.builtin "len") (rLen K) := h ▸ cLen
theorem kSum (K : PySem.W.Frag) (hc : X.calm = true := by rfl) (h : X.K = K := by rfl) : CallR X (.builtin "sum") (rSumA K) := h ▸ cSum hc
theorem kAll (K : PySem.W.Frag) (hc : X.calm = true := by rfl) (h : X.K = K := by rfl) : CallR X (.builtin "all") (rAll K) := h ▸ cAll hc
theorem kAny (K : PySem.W.Frag) (hc : X.calm = true := by rfl) (h : X.K = K := by rfl) : CallR X (.builtin "any") (rAny K) := h ▸ cAny hc
theorem kTup (K : PySem.W.Frag) (h : X.K = K := by rfl) : CallR X (.type "tuple") (rTupO K) := h ▸ cTup
theorem kIsi (K : PySem.W.Frag) (h : X.K = K := by rfl) : CallR X (.builtin "isinstance") (rIsi K) := h ▸ cIsi
theorem kSlT (K : PySem.W.Frag) (h : X.K = K := by rfl) : SlR X (rSlA K) := h ▸ sl_tupA
theorem kgT (K : PySem.W.Frag) {tg : Expr} {t : TGs} (hp : PG X tg (gTup X.K n0 t)) (h : X.K = K := by rfl) : PG X tg (gTup K n0 t) := h ▸ hp
theorem kiT (K : PySem.W.Frag) {tg l : Expr} {tl : TE} (hl : PE X l tl) (h : X.K = K := by rfl) : PI X tg l (iTup K tl) := h ▸ pi_tup hl
theorem kiL (K : PySem.W.Frag) {tg l : Expr} {tl : TE} (hl : PE X l tl) (h : X.K = K := by rfl) : PI X tg l (iList K tl) := h ▸ pi_list hl
end
/-! defs that want to know that nothing is being shown around them -/
structure FnG (P : Program) (w : World) (K : PySem.W.Frag) (mg : Str → Option Value) (base : Heap) (k : Nat) (f : Addr) (fd : FuncData) (ps : List Str) (sp : Sp) : Prop where
  len : ∀ vs H Q E, sp vs H Q E → vs.length = ps.length
  run : ∀ (A : Around) (outer : List Env) (s : Shared) (H : Hp) (args : Args) (us : List Value) (vs : List V) (Q : VK) (E : XK), A.guards = some [] → Room k A →
    Env0 P w K mg base A outer s H → BindsTo s fd args (ps.zip us) → Vals vs us → sp vs H Q E → codeAny (model P w) A (.call (.ref f) args) (CR CX0 outer P w H s Q E) s
section
variable {P : Program} {w : World} {K : PySem.W.Frag} {mg : Str → Option Value} {base : Heap}
theorem deeper_guards (A : Around) (env : Env) : (A.deeper env).guards = A.guards := by
  first
    | rfl
    | simp [Around.deeper]
theorem fnG_of {x qual : Str} {st : Stmt} {f : Addr} {fd : FuncData} {N ps : List Str} {k : Nat} {sp : Sp} (F : Fun K x qual st f fd) (S : FnScope N ps (defScope st)) (len : ∀ vs H Q E, sp vs H Q E → vs.length = ps.length)
    (hbody : ∀ (cdv : Value) (A : Around) (outer : List Env) (s : Shared) (H : Hp) (vs : List V) (Q : VK) (E : XK), (A.deeper (PyProof.Rows.envOfC qual (defScope st) s.heap.objs.size f cdv)).guards = some [] →
      Room k (A.deeper (PyProof.Rows.envOfC qual (defScope st) s.heap.objs.size f cdv)) → sp vs H Q E →
      ∃ t, PSs (cxOf CX0 P w K mg base N qual (defScope st) f cdv A outer s H E).nox (defBody st) t ∧ t { nx := fun _ H' => Q .non H', rt := Q } (L2.start N vs) H) : FnG P w K mg base (k + 1) f fd ps sp := by
  obtain ⟨oc, od, kV, doc, pm, an, cdv, ct, osl, rfl, lk, hcd⟩ := F.ex
  refine ⟨len, fun A outer s H args us vs Q E hgd hr e0 hb r hsp => ?_⟩
  have hl := len _ _ _ _ hsp
  have KX : K.In s.heap := e0.mod.kin.keeps fun b o e => (e0.bs b o e).1
  have lim : s.heap.NoLimit := e0.mod.nolimit.keeps fun b o e => (e0.bs b o e).1
  refine codeAny_call_function hr.depth (KX _ _ lk) rfl S.co S.gen rfl (PySem.W.codeRec_of KX hcd) (hb _ _ _ _ ?_)
  refine wpAny_newFunctionEnv_cells S.kind (fun y hy => ?_) fun env he s1 z => ?_
  · obtain ⟨n, v⟩ := y
    rcases S.par n (List.of_mem_zip hy).1 with q | q
    · exact Or.inl q
    · exact Or.inr ⟨q, PySem.W.cellsFrom_some _ _ _ (.inl q)⟩
  subst he
  refine ⟨lim.keeps z.toInCall.keep, codeAny_func ?_⟩
  obtain ⟨t, ht, hq⟩ := hbody cdv A outer s H vs Q E ((deeper_guards A _).trans hgd) (hr.deeper _) hsp
  have ht := ht.nox
  have I : Inv (cxOf CX0 P w K mg base N qual (defScope st) f cdv A outer s H E) [] (L2.start N vs) H s1 := inv_start S hr.hd e0 hl r z
  refine wpAny_mono (ht.run [] s1 (L2.start N vs) H _ I hq) (fun fl s' hs => ?_) fun e s' hs => hs
  cases fl with
  | ret u =>
    obtain ⟨v, σ', H', J, rv, q⟩ := hs
    exact ⟨v, H', J.os, J.bare, J.base, J.hok, rv, q⟩
  | next =>
    obtain ⟨σ', H', J, q⟩ := hs
    exact ⟨.non, H', J.os, J.bare, J.base, J.hok, rfl, q⟩
  | brk =>
    obtain ⟨_, _, _, q⟩ := hs
    exact q.elim
  | cont =>
    obtain ⟨_, _, _, q⟩ := hs
    exact q.elim
theorem fnG_ok {x qual : Str} {st : Stmt} {f : Addr} {fd : FuncData} {N ps : List Str} {k : Nat} {sp : FSp} (F : Fun K x qual st f fd) (S : FnScope N ps (defScope st)) (hl : ∀ args m R, sp args m R → args.length = ps.length)
    (hb : ∀ (cdv : Value) (A : Around) (outer : List Env) (s : Shared) (H : Hp) (E : XK), (A.deeper (PyProof.Rows.envOfC qual (defScope st) s.heap.objs.size f cdv)).guards = some [] →
      Room k (A.deeper (PyProof.Rows.envOfC qual (defScope st) s.heap.objs.size f cdv)) →
      ∃ t, PSs (cxOf CX0 P w K mg base N qual (defScope st) f cdv A outer s H E).nox (defBody st) t ∧
        ∀ args m R, sp args m R → Wp K t (args ++ List.replicate (N.length - args.length) .any) m (fun _ m' => R (.d .none) m') R) : FnG P w K mg base (k + 1) f fd ps (spD K sp) := by
  refine fnG_of F S (fun vs H Q E h => ?_) (fun cdv A outer s H vs Q E hg hr h => ?_)
  · obtain ⟨m, G, args, R, S1, r1, h1, _⟩ := h
    rw [r1.length]; exact hl args m R h1
  · obtain ⟨m, G, args, R, S1, r1, h1, k1⟩ := h
    obtain ⟨t, ht, hw⟩ := hb cdv A outer s H E hg hr
    refine ⟨t, ht, ?_⟩
    refine hw args m R h1 _ H G _ S1 ?_ (fun σ' H' G' r' m' hn S' e' L' => ?_) (fun v H' G' x m' hn S' e' L' => k1 v H' G' x m' hn S' e' L')
    · unfold L2.start
      rw [r1.length]
      exact Sl.start _ r1
    · exact k1 .non H' G' (.d .none) m' hn S' e' (.d (rp_none.mpr rfl))
end
end DL
namespace DL
open PySem L2
section
variable {P : Program} {w : World} {K : PySem.W.Frag} {mg mb : Str → Option Value} {k : Nat} {fa a : Addr} {fd : FuncData} {x : Str} {sp : FSp} {s1 : Shared} {vs : List Value} {ns : List Int}
/-- what the law's def is asked at the heap behind the top: the script alone is known -/
theorem law_core (KX : K.In s1.heap) (hns : s1.heap.Ns mainGlobals mg) (hb : s1.heap.Ns builtinsNs mb) (hbb : ∀ x : Str, x ≠ "__name__" → mb x = bootBuiltins x) (hlim : s1.heap.NoLimit) (hgs : s1.gens = #[])
    (ha : s1.heap.get? a = some { cls := .type "list", data := .seq vs.toArray }) (hr : Room k callerA)
    (F : ∀ base : Heap, K.In base → base.Ns mainGlobals mg → FnG P w K mg base k fa fd [x] (spD K sp)) (hbind : ∀ (s : Shared) (u : Value), BindsTo s fd ⟨[u], []⟩ [(x, u)])
    (hsp : sp [.scr ns] (fun _ => none) fun y _ => y = .d (.bool true))
    (H : Hp) (hO : Only H) (hS : SqL K H a (ns.map V.int)) (hok : HOk P w H s1.heap) (hA : ∀ b, H b ≠ none → b = a) (hK : H a ≠ none → K.lookup a = none) :
    codeAny (model P w) callerA (.call (.ref fa) ⟨[.ref a], []⟩) (fun r s' => r = .ok (.ret (.bool true)) ∧ OldK s1.heap s'.heap ∧ s'.os = s1.os ∧ PyProof.Rows.AllBare s'.gens) s1 := by
  have baseOf : ∀ {b : Addr} {o : Obj}, s1.heap.get? b = some o → H b = none → (hidT s1.heap H).get? b = some o := hidT_get
  have free : ∀ {b : Addr} {o : Obj} {es : Array DictEntry} {ep : Nat}, s1.heap.get? b = some o → o.data = .dict es ep → H b = none := fun {b o es ep} e d => by
    cases q : H b with
    | none => rfl
    | some u =>
      obtain rfl : b = a := hA b fun z => by rw [q] at z; cases z
      rw [ha] at e
      cases e
      exact absurd d fun z => nomatch z
  have nsK : ∀ {b : Addr} {m : Str → Option Value}, s1.heap.Ns b m → (hidT s1.heap H).Ns b m := fun ⟨o, es, ep, e, d, z⟩ => ⟨o, es, ep, baseOf e (free e d), d, z⟩
  have kB : K.In (hidT s1.heap H) := fun b o e => baseOf (KX b o e) (by
    cases q : H b with
    | none => rfl
    | some u =>
      obtain rfl : b = a := hA b fun z => by rw [q] at z; cases z
      rw [hK fun z => by rw [q] at z; cases z] at e
      cases e)
  have e0 : Env0 P w K mg (hidT s1.heap H) callerA [] s1 H := by
    refine ⟨rfl, ⟨kB, nsK hns, ⟨mb, nsK hb, hbb⟩, ?_⟩, fun b o e => of_hidT e, Nat.le_of_eq (hidT_size _ _), trivial, fun b z => ?_, hok, .of_eq hgs⟩
    · obtain ⟨mc, z1, z2⟩ := hlim
      exact ⟨mc, nsK z1, z2⟩
    · exact nomatch (show b ∈ ([] : List Addr) from z)
  have hs : spD K sp [.ref a] H (fun v _ => v = .bl true) fun _ _ _ => False := by
    refine ⟨fun _ => none, H, [.scr ns], fun y _ => y = .d (.bool true), ⟨fun _ _ e => e, (fun _ _ e => nomatch e), (fun _ _ e => nomatch e)⟩, ⟨_, [], rfl, .scr hS, rfl⟩, hsp, ?_⟩
    intro v H' G' y m' hy _ _ hv
    subst hy
    exact rp_bool.mp hv.rp
  refine codeAny_mono ((F _ kB (nsK hns)).run callerA [] s1 H ⟨[.ref a], []⟩ [.ref a] [.ref a] _ _ rfl hr e0 (hbind s1 (.ref a)) (.cons rfl .nil) hs) fun r s' h => ?_
  cases r with
  | error e => exact False.elim h
  | ok fl =>
    cases fl with
    | next => exact False.elim h
    | brk => exact False.elim h
    | cont => exact False.elim h
    | ret u =>
      obtain ⟨v, H', os, bare, un, hok', rv, q⟩ := h
      have q : v = .bl true := q
      subst q
      obtain rfl : u = Value.bool true := rv
      refine ⟨rfl, OldK.of_keep fun b o e => ?_, os, bare⟩
      cases q : H b with
      | none => exact un.keep b o e q (fun z => nomatch (show b ∈ ([] : List Addr) from z)) (fun z => nomatch z)
      | some y =>
        rcases hO b with z | ⟨ob, xs, z⟩
        · rw [q] at z; cases z
        · obtain ⟨e1, _⟩ := hok b _ z
          obtain ⟨e2, _⟩ := hok' b _ (un.frzs b ob _ z)
          rw [e] at e1
          cases e1
          exact e2
theorem law_run (KX : K.In s1.heap) (hns : s1.heap.Ns mainGlobals mg) (hb : s1.heap.Ns builtinsNs mb) (hbb : ∀ x : Str, x ≠ "__name__" → mb x = bootBuiltins x) (hlim : s1.heap.NoLimit) (hgs : s1.gens = #[])
    (ha : s1.heap.get? a = some { cls := .type "list", data := .seq vs.toArray }) (hi : PyProof.Rows.IntsAre vs ns) (hl : ns.length ≤ sizeLine) (hr : Room k callerA)
    (F : ∀ base : Heap, K.In base → base.Ns mainGlobals mg → FnG P w K mg base k fa fd [x] (spD K sp)) (hbind : ∀ (s : Shared) (u : Value), BindsTo s fd ⟨[u], []⟩ [(x, u)])
    (hsp : sp [.scr ns] (fun _ => none) fun y _ => y = .d (.bool true)) :
    codeAny (model P w) callerA (.call (.ref fa) ⟨[.ref a], []⟩) (fun r s' => r = .ok (.ret (.bool true)) ∧ OldK s1.heap s'.heap ∧ s'.os = s1.os ∧ PyProof.Rows.AllBare s'.gens) s1 := by
  have rv := vals_ints hi
  have hlen := hi.length
  cases hk : K.lookup a with
  | some o =>
    have e := KX a o hk
    rw [ha] at e
    cases e
    refine law_core KX hns hb hbb hlim hgs ha hr F hbind hsp (fun _ => none) (fun _ => Or.inl rfl) (Or.inr ⟨_, vs.toArray, _, hk, rfl, rfl, rfl, ?_, ?_⟩) (fun b u z => nomatch (show (none : Option HO) = some u from z)) (fun b z => absurd rfl z) fun z => absurd rfl z
    · rw [List.size_toArray, hlen]; exact hl
    · simpa using rv
  | none =>
    refine law_core KX hns hb hbb hlim hgs ha hr F hbind hsp (fun b => if b = a then some (.frz { cls := .type "list", data := .seq vs.toArray } (.lst (ns.map V.int))) else none) (fun b => ?_) (Or.inl (Or.inr ⟨{ cls := .type "list", data := .seq vs.toArray }, if_pos rfl⟩)) (fun b u z => ?_) (fun b z => ?_) fun _ => hk
    · by_cases h : b = a
      · exact Or.inr ⟨_, _, if_pos h⟩
      · exact Or.inl (if_neg h)
    · by_cases h : b = a
      · have z := (if_pos h).symm.trans z
        cases z
        subst h
        exact ⟨ha, by rw [List.length_map]; exact hl, vs, _, rv, ha⟩
      · exact nomatch (if_neg h).symm.trans z
    · by_cases h : b = a
      · exact h
      · exact absurd (if_neg h) z
end
/-- from the law's def to the row -/
theorem walkG {l : PySem.W.OpenLaw} {n k : Nat} {q : Program} {loose : List Str} {XP : (Str → Option Value) → Heap → Prop} {YP : World → Heap → Prop} {d : DefRec} {K : Params → PySem.W.Frag} {sp : FSp} {x : Str}
    (hn : l.most = some n) (hn2 : n ≤ sizeLine) (hdf : d.params.defaults = []) (hr : Room k callerA) (hY : ∀ (w : World) (h : Heap), YP w h → (K w.params).In h)
    (F : ∀ (w : World) (mg : Str → Option Value) (fa : Addr) (h : Heap), (K w.params).In h → h.Ns mainGlobals mg → mg d.name = some (.ref fa) →
      ∃ fd : FuncData, (∀ (s : Shared) (u : Value), BindsTo s fd ⟨[u], []⟩ [(x, u)]) ∧
        ∀ base : Heap, (K w.params).In base → base.Ns mainGlobals mg → FnG l.prog w (K w.params) mg base k fa fd [x] (spD (K w.params) sp))
    (hsp : ∀ ns : List Int, ns.length ≤ n → (∀ z ∈ ns, Builtin.Int.intBits z ≤ 1048576) → sp [.scr ns] (fun _ => none) fun y _ => y = .d (.bool true)) :
    PySem.W.WalkO q loose XP YP l.row.toRowW d [] (fun f vs => PySem.call f vs) := by
  refine Att.attach_callB hn hdf fun w s0 s1 mg mb fa o pm cd doc a vs ns G Y ho hd hcd hmg hobj hints hlen hbits hg => ?_
  have KX := hY w _ Y
  obtain ⟨fd, hb, hF⟩ := F w mg fa _ KX G.T.g hmg
  exact law_run KX G.T.g G.T.b G.T.builtins G.T.nolimit hg hobj hints (Nat.le_trans hlen hn2) hr hF hb (hsp ns hlen hbits)
end DL
namespace DL
open PySem L2
/-! bits -/
def Bt (i : Int) (k : Nat) : Prop := i.natAbs < 2 ^ k
theorem Bt.mono {i : Int} {a b : Nat} (h : Bt i a) (hb : a ≤ b) : Bt i b := Nat.lt_of_lt_of_le h (Nat.pow_le_pow_right (by decide) hb)
theorem Bt.mul {i j : Int} {a b : Nat} (h : Bt i a) (g : Bt j b) : Bt (i * j) (a + b) := wide_lt h g
theorem Bt.add {i j : Int} {a b c : Nat} (h : Bt i a) (g : Bt j b) (h1 : a ≤ c) (h2 : b ≤ c) : Bt (i + j) (c + 1) := by
  have h := h.mono h1
  have g := g.mono h2
  unfold Bt at *
  rw [Nat.pow_succ]
  have : (i + j).natAbs ≤ i.natAbs + j.natAbs := Int.natAbs_add_le i j
  omega
theorem Bt.le {i j : Int} {a : Nat} (h : Bt j a) (hi : i.natAbs ≤ j.natAbs) : Bt i a := Nat.lt_of_le_of_lt hi h
theorem Bt.cmul {i j : Int} {a b : Nat} (h : Bt i a) (g : Bt j b) (c : a + b + 2 ≤ 1000000) : CMulW i j := wide_mul (h.mono (Nat.le_succ a)) (g.mono (Nat.le_succ b)) (Nat.succ_pos a) (Nat.succ_pos b) (by omega)
theorem Bt.cdiv {i j : Int} {b : Nat} (g : Bt j b) (h0 : 0 < j) (c : b < 9000) : CDivW i j := wide_div h0 (g.mono (Nat.le_succ b)) (Nat.succ_pos b) (by omega)
theorem cdiv_small {i j : Int} (h0 : 0 < j) (h : j < 1073741824) : CDivW i j := wide_div (b := 30) h0 (by
  have e : (2 : Nat) ^ 30 = 1073741824 := by decide
  rw [e]; omega) (by decide) (by decide)
theorem cmul_small {i j : Int} (h0 : i.natAbs < 18446744073709551616) (h : j.natAbs < 18446744073709551616) : CMulW i j := by
  have e : (2 : Nat) ^ 64 = 18446744073709551616 := by decide
  exact wide_mul (a := 64) (b := 64) (by rw [e]; exact h0) (by rw [e]; exact h) (by decide) (by decide) (by decide)
/-! fractions -/
def frac (q : Rat) : PyData := .tuple [.int q.num, .int (q.den : Int)]
theorem frac_mk (t : Int) (b : Nat) (hb : b ≠ 0) : frac (mkRat t b) = .tuple [.int (t / (Nat.gcd b t.natAbs : Nat)), .int ((b / Nat.gcd b t.natAbs : Nat) : Int)] := by
  unfold frac
  rw [Rat.num_mkRat, Rat.den_mkRat, if_neg hb, if_neg hb]
theorem shaped_frac (q : Rat) : SeqAt.shaped (frac q) = true := by simp [SeqAt.shaped, frac, PyData.canLay0, PyData.canLayAll0, PyData.depth, PyData.depthAll]
/-! ints of bounded size are shown -/
/-! what may be shown: how deep, how long -/
structure Sh (d : PyData) (k n : Nat) : Prop where
  nd : d.hasDict = false
  dp : d.depth ≤ k
  sh : d.showable = true
  ln : d.shown.length ≤ n
theorem Sh.mono {d : PyData} {k n k' n' : Nat} (h : Sh d k n) (h1 : k ≤ k') (h2 : n ≤ n') : Sh d k' n' := ⟨h.nd, Nat.le_trans h.dp h1, h.sh, Nat.le_trans h.ln h2⟩
/-- a fraction of small enough parts -/
def FrB (q : Rat) (a : Nat) : Prop := Bt q.num a ∧ Bt (q.den : Int) a
end DL
namespace DL
open PySem L2
theorem br_t {c : Bool} {A B : Prop} (h : c = true) (a : A) : (c = true → A) ∧ (c = false → B) := ⟨fun _ => a, fun g => by rw [h] at g; cases g⟩
theorem br_f {c : Bool} {A B : Prop} (h : c = false) (b : B) : (c = true → A) ∧ (c = false → B) := ⟨(fun g => by rw [h] at g; cases g), (fun _ => b)⟩
theorem take_one {α : Type} {ds : List α} {i : Nat} {d : α} (h : ds[i]? = some d) : ds.take (i + 1) = ds.take i ++ [d] := by
  rw [List.take_succ, h]; rfl
theorem range_one (i : Nat) : List.range (i + 1) = List.range i ++ [i] := List.range_succ
section
variable {K : PySem.W.Frag} {r : List Val} {m : Mm} {Q : Val → Mm → Prop} {te tl : TE} {tt : TT} {j : Nat} {ds : List PyData}
theorem ev_mapT (h : Ev K tl r m fun x m1 => x = .d (.tuple ds) ∧ m1 = m) (hn : ds.length ≤ 100000) (f : PyData → PyData)
    (hs : ∀ (i : Nat) (d : PyData) m', ds[i]? = some d → Ext m m' → Ev K te (r.set j (.d d)) m' fun x m3 => x = .d (f d) ∧ m3 = m') (q : Q (.d (.list (ds.map f))) m) : Ev K (tLc (iTup K tl) (gName j) tYes te [j]) r m Q :=
  ev_lcT h hn (fun i acc => acc = (ds.take i).map f) (by simp) (fun i d m' acc hd hx hw => evt_yes ⟨rfl, fun _ => (hs i d m' hd hx).imp fun x m3 e => ⟨e.2, f d, e.1, by rw [hw, take_one hd, List.map_append]; rfl⟩, (fun g => nomatch g)⟩)
    (fun acc hw => by rw [hw, List.take_length]; exact q)
theorem ev_mapR1 {ta : TA} {n : Nat} (h : EvA K ta r m fun xs m1 => xs = [.d (.int (n : Int))] ∧ m1 = m) (hn : n ≤ 100000) (f : Nat → PyData)
    (hs : ∀ i m', i < n → Ext m m' → Ev K te (r.set j (.d (.int (i : Int)))) m' fun x m3 => x = .d (f i) ∧ m3 = m') (q : Q (.d (.list ((List.range n).map f))) m) : Ev K (tLc (iRng1 ta) (gName j) tYes te [j]) r m Q :=
  ev_lcR1 h hn (fun i acc => acc = (List.range i).map f) (by simp) (fun i m' acc hi hx hw => evt_yes ⟨rfl, fun _ => (hs i m' hi hx).imp fun x m3 e => ⟨e.2, f i, e.1, by rw [hw, range_one, List.map_append]; rfl⟩, (fun g => nomatch g)⟩)
    (fun acc hw => by rw [hw]; exact q)
theorem ev_mapR2 {ta : TA} {lo n : Nat} (h : EvA K ta r m fun xs m1 => xs = [.d (.int (lo : Int)), .d (.int ((lo + n : Nat) : Int))] ∧ m1 = m) (hn : lo + n ≤ 100000) (f : Nat → PyData)
    (hs : ∀ i m', i < n → Ext m m' → Ev K te (r.set j (.d (.int ((lo + i : Nat) : Int)))) m' fun x m3 => x = .d (f i) ∧ m3 = m') (q : Q (.d (.list ((List.range n).map f))) m) : Ev K (tLc (iRng2 ta) (gName j) tYes te [j]) r m Q :=
  ev_lcR2 h hn (fun i acc => acc = (List.range i).map f) (by simp) (fun i m' acc hi hx hw => evt_yes ⟨rfl, fun _ => (hs i m' hi hx).imp fun x m3 e => ⟨e.2, f i, e.1, by rw [hw, range_one, List.map_append]; rfl⟩, (fun g => nomatch g)⟩)
    (fun acc hw => by rw [hw]; exact q)
/-- a range that is none -/
theorem ev_lcR2' {ta : TA} (h : EvA K ta r m fun xs m1 => xs = [.d (.int 1), .d (.int 0)] ∧ m1 = m) (q : Q (.d (.list [])) m) : Ev K (tLc (iRng2 ta) (gName j) tt te [j]) r m Q := fun σ H G S L R k =>
  h σ H G S L _ fun vs H1 G1 xs m1 ⟨hx, hm⟩ S1 e1 r1 => by
    subst hx hm
    obtain ⟨v1, v2, rfl, a1, a2⟩ := vrs2 r1
    have a1 := int_of a1
    have a2 := int_of a2
    subst a1 a2
    refine ⟨1, 0, rfl, ⟨by omega, by omega, by omega, by omega⟩, fun D hD => ?_⟩
    have hmD := S1.freeM hD
    refine lc_range (lo := 1) (n := 0) (LcW K m1 G1 D (fun _ acc => acc = [])) (lc_start S1 hD rfl) (fun i H' hi => absurd hi (Nat.not_lt_zero i)) fun H' hP => ?_
    exact lc_end hmD hP (fun acc hw => by rw [hw]; exact q) fun v H' G' x m' q S' e' r' => k v H' G' x m' q S' (e1.trans e') r'
/-- drawn items: each may be any that P allows -/
theorem ev_anyR1 {ta : TA} {n : Nat} (h : EvA K ta r m fun xs m1 => xs = [.d (.int (n : Int))] ∧ m1 = m) (hn : n ≤ 100000) (P : Nat → PyData → Prop)
    (hs : ∀ i m', i < n → Ext m m' → Ev K te (r.set j (.d (.int (i : Int)))) m' fun x m3 => (∃ y, x = .d y ∧ P i y) ∧ m3 = m') (q : ∀ ds : List PyData, ds.length = n → (∀ (i : Nat) (d : PyData), ds[i]? = some d → P i d) → Q (.d (.list ds)) m) : Ev K (tLc (iRng1 ta) (gName j) tYes te [j]) r m Q :=
  ev_lcR1 h hn (fun i acc => acc.length = i ∧ ∀ (k : Nat) (d : PyData), acc[k]? = some d → P k d) ⟨rfl, fun k d hk => by simp at hk⟩ (fun i m' acc hi hx hw => evt_yes ⟨rfl, fun _ => (hs i m' hi hx).imp fun x m3 e => ⟨e.2, by
      obtain ⟨y, hy, hp⟩ := e.1
      refine ⟨y, hy, by rw [List.length_append, hw.1]; rfl, fun k d hk => ?_⟩
      by_cases hki : k < i
      · rw [List.getElem?_append_left (by omega)] at hk
        exact hw.2 k d hk
      · have e2 : k = i := by
          have := (List.getElem?_eq_some_iff.mp hk).1
          rw [List.length_append, hw.1] at this
          simp at this
          omega
        subst e2
        rw [List.getElem?_append_right (by omega), hw.1] at hk
        simp at hk
        subst hk
        exact hp⟩, (fun g => nomatch g)⟩)
    (fun acc hw => q acc hw.1 hw.2)
end
end DL
namespace DL
open PySem L2
def f_gcd : FSp := fun args m R => ∃ a b : Nat, args = [.d (.int (a : Int)), .d (.int (b : Int))] ∧ R (.d (.int ((Nat.gcd a b : Nat) : Int))) m
def f_made : FSp := fun args m R => ∃ (t : Int) (b : Nat), args = [.d (.int t), .d (.int (b : Int))] ∧ 0 < b ∧ Bt (b : Int) 8000 ∧ R (.d (frac (mkRat t b))) m
def isInt : PyData → Bool
  | .int _ => true
  | _ => false
def f_isWhole : FSp := fun args m R => ∃ x, args = [.d x] ∧ R (.d (.bool (isInt x))) m
def okS : PyData → Bool
  | .int i => decide (1 ≤ i) && decide (i ≤ 9)
  | _ => false
def isShares : PyData → Bool
  | .tuple ds => decide (1 ≤ ds.length) && (decide (ds.length ≤ 5) && ds.all okS)
  | _ => false
structure Shares (ss : List Int) : Prop where
  pos : 1 ≤ ss.length
  few : ss.length ≤ 5
  each : ∀ s ∈ ss, 1 ≤ s ∧ s ≤ 9
def tupI (ns : List Int) : PyData := .tuple (ns.map PyData.int)
def tupN (ks : List Nat) : PyData := .tuple ((ks.map fun (k : Nat) => (k : Int)).map PyData.int)
theorem isShares_of {ss : List Int} (h : Shares ss) : isShares (tupI ss) = true := by
  unfold isShares tupI
  dsimp only
  rw [List.length_map, decide_eq_true h.pos, decide_eq_true h.few, Bool.true_and, Bool.true_and, List.all_eq_true]
  intro d hd
  obtain ⟨i, hi, rfl⟩ := List.mem_map.mp hd
  obtain ⟨a, b⟩ := h.each i hi
  show (decide (1 ≤ i) && decide (i ≤ 9)) = true
  rw [decide_eq_true a, decide_eq_true b]; rfl
theorem int_shape {d : PyData} (h : isInt d = true) : ∃ i, d = .int i := by
  cases d with
  | int i => exact ⟨i, rfl⟩
  | _ => cases h
theorem tup_shape {d : PyData} (h : isTup d = true) : ∃ ds, d = .tuple ds := by
  cases d with
  | tuple i => exact ⟨i, rfl⟩
  | _ => cases h
def f_isShares : FSp := fun args m R => ∃ x, args = [.d x] ∧ R (.d (.bool (isShares x))) m
def f_needShares : FSp := fun args m R => ∃ x, args = [.d x] ∧ isShares x = true ∧ R (.d .none) m
def okK (n : Int) : PyData → Bool
  | .int i => decide (0 ≤ i) && decide (i < n)
  | _ => false
def intOf : PyData → Int
  | .int i => i
  | _ => 0
def rising (ds : List PyData) : Bool := (List.range (ds.length - 1)).all fun i => decide (intOf (ds.getD i .none) < intOf (ds.getD (i + 1) .none))
def areKinds (x : PyData) (n : Int) : Bool := match x with
  | .tuple ds => ds.all (okK n) && rising ds
  | _ => false
def shortD : PyData → Prop
  | .tuple ds => ds.length ≤ 90000
  | _ => True
def f_areKinds : FSp := fun args m R => ∃ x n, args = [.d x, .d (.int n)] ∧ shortD x ∧ R (.d (.bool (areKinds x n))) m
def sumP (ss : List Int) (ks : List Nat) : Int := (ks.map fun k => ss.getD k 0).sum
theorem tupI_at {ss : List Int} {k : Nat} (h : k < ss.length) : atI (ss.map PyData.int) (k : Int) = some (.int (ss.getD k 0)) := by
  rw [atI_nth, List.getElem?_map, List.getD_eq_getElem?_getD, List.getElem?_eq_getElem h]; rfl
theorem shares_sum {ss : List Int} (h : Shares ss) : 1 ≤ ss.sum ∧ ss.sum ≤ 45 := by
  obtain ⟨h1, h2, h3⟩ := h
  match ss, h1, h2 with
  | [a], _, _ => have := h3 a (by simp); simp; omega
  | [a, b], _, _ => have := h3 a (by simp); have := h3 b (by simp); simp; omega
  | [a, b, c], _, _ => have := h3 a (by simp); have := h3 b (by simp); have := h3 c (by simp); simp; omega
  | [a, b, c, d], _, _ => have := h3 a (by simp); have := h3 b (by simp); have := h3 c (by simp); have := h3 d (by simp); simp; omega
  | [a, b, c, d, e], _, _ => have := h3 a (by simp); have := h3 b (by simp); have := h3 c (by simp); have := h3 d (by simp); have := h3 e (by simp); simp; omega
/-- some kinds of so many -/
structure Kinds (n : Nat) (ks : List Nat) : Prop where
  up : ks.Pairwise (· < ·)
  lt : ∀ k ∈ ks, k < n
theorem Kinds.len {n : Nat} {ks : List Nat} (h : Kinds n ks) : ks.length ≤ n := by
  have h1 : ks.Sublist (List.range n) := by
    have : ∀ (ks : List Nat) (m : Nat), ks.Pairwise (· < ·) → (∀ k ∈ ks, m ≤ k ∧ k < n) → ks.Sublist ((List.range n).drop m) := by
      intro ks
      induction ks with
      | nil => intro m _ _; exact List.nil_sublist _
      | cons k t ih =>
        intro m hp hl
        have hk := hl k (by simp)
        have hkn : k < (List.range n).length := by rw [List.length_range]; exact hk.2
        have hd : (List.range n).drop k = k :: (List.range n).drop (k + 1) := by
          rw [List.drop_eq_getElem_cons hkn, List.getElem_range]
        have h1 : (k :: t).Sublist ((List.range n).drop k) := by
          rw [hd]
          refine (ih (k + 1) (List.pairwise_cons.mp hp).2 fun x hx => ⟨?_, (hl x (by simp [hx])).2⟩).cons_cons k
          exact (List.pairwise_cons.mp hp).1 x hx
        refine h1.trans ?_
        have e : (List.range n).drop k = ((List.range n).drop m).drop (k - m) := by rw [List.drop_drop]; congr 1; omega
        rw [e]
        exact List.drop_sublist _ _
    exact this ks 0 h.up fun k hk => ⟨Nat.zero_le _, h.lt k hk⟩
  have := h1.length_le
  rw [List.length_range] at this
  exact this
theorem areKinds_of {n : Nat} {ks : List Nat} (h : Kinds n ks) : areKinds (tupN ks) (n : Int) = true := by
  show (((ks.map fun (k : Nat) => (k : Int)).map PyData.int).all (okK n) && rising ((ks.map fun (k : Nat) => (k : Int)).map PyData.int)) = true
  rw [Bool.and_eq_true]
  constructor
  · rw [List.all_eq_true]
    intro d hd
    rw [List.map_map] at hd
    obtain ⟨k, hk, rfl⟩ := List.mem_map.mp hd
    have := h.lt k hk
    show (decide ((0 : Int) ≤ (k : Int)) && decide ((k : Int) < (n : Int))) = true
    rw [decide_eq_true (by omega), decide_eq_true (by omega)]; rfl
  · unfold rising
    rw [List.all_eq_true]
    intro i hi
    rw [List.mem_range, List.length_map, List.length_map] at hi
    apply decide_eq_true
    have g : ∀ j, j < ks.length → intOf (((ks.map fun (k : Nat) => (k : Int)).map PyData.int).getD j .none) = (ks.getD j 0 : Nat) := by
      intro j hj
      rw [List.getD_eq_getElem?_getD, List.getElem?_map, List.getElem?_map, List.getD_eq_getElem?_getD, List.getElem?_eq_getElem hj]; rfl
    rw [g i (by omega), g (i + 1) (by omega)]
    have := List.pairwise_iff_getElem.mp h.up i (i + 1) (by omega) (by omega) (by omega)
    rw [List.getD_eq_getElem?_getD, List.getD_eq_getElem?_getD, List.getElem?_eq_getElem (by omega), List.getElem?_eq_getElem (by omega)]
    simp only [Option.getD_some]
    omega
theorem sumP_nonneg {ss : List Int} (h : Shares ss) : ∀ ks : List Nat, 0 ≤ sumP ss ks
  | [] => Int.le_refl 0
  | k :: t => by
    have ih := sumP_nonneg h t
    have e : sumP ss (k :: t) = ss.getD k 0 + sumP ss t := rfl
    have : 0 ≤ ss.getD k 0 := by
      rw [List.getD_eq_getElem?_getD]
      cases hk : ss[k]? with
      | none => decide
      | some s => have := h.each s (List.mem_of_getElem? hk); simp; omega
    omega
theorem getD_bounds {ss : List Int} (h : Shares ss) (k : Nat) : 0 ≤ ss.getD k 0 ∧ ss.getD k 0 ≤ 9 := by
  rw [List.getD_eq_getElem?_getD]
  cases hk : ss[k]? with
  | none => exact ⟨by decide, by decide⟩
  | some s => have := h.each s (List.mem_of_getElem? hk); simp; omega
theorem sumP_le9 {ss : List Int} (h : Shares ss) : ∀ ks : List Nat, sumP ss ks ≤ 9 * (ks.length : Int)
  | [] => Int.le_refl 0
  | k :: t => by
    have ih := sumP_le9 h t
    have e : sumP ss (k :: t) = ss.getD k 0 + sumP ss t := rfl
    have := getD_bounds h k
    rw [List.length_cons]
    omega
theorem sumP_le {ss : List Int} (h : Shares ss) {ks : List Nat} (hk : Kinds ss.length ks) : sumP ss ks ≤ 45 := by
  have := sumP_le9 h ks
  have := hk.len
  have := h.few
  omega
theorem frB_mk {t : Int} {b a : Nat} (h1 : Bt t a) (h2 : Bt (b : Int) a) (h0 : 0 < b) : FrB (mkRat t b) a := by
  refine ⟨?_, ?_⟩
  · rw [Rat.num_mkRat, if_neg (by omega)]
    refine h1.le ?_
    rw [Int.natAbs_ediv_of_dvd (Int.ofNat_dvd_left.mpr (Nat.gcd_dvd_right b t.natAbs)), Int.natAbs_natCast]
    exact Nat.div_le_self _ _
  · rw [Rat.den_mkRat, if_neg (by omega)]
    exact h2.le (by simp only [Int.natAbs_natCast]; exact Nat.div_le_self _ _)
theorem on_lenI {K : PySem.W.Frag} {m : Mm} {Q : Val → Mm → Prop} {ss : List Int} (q : Q (.d (.int (ss.length : Int))) m) : OpN K (rLen K) [.d (tupI ss)] m Q := on_lenT (by rw [List.length_map]; exact q)
theorem on_lenN {K : PySem.W.Frag} {m : Mm} {Q : Val → Mm → Prop} {ks : List Nat} (q : Q (.d (.int (ks.length : Int))) m) : OpN K (rLen K) [.d (tupN ks)] m Q := on_lenT (by rw [List.length_map, List.length_map]; exact q)
theorem on_sumI {K : PySem.W.Frag} {m : Mm} {Q : Val → Mm → Prop} {ss : List Int} (q : Q (.d (.int ss.sum)) m) : OpN K (rSumA K) [.d (tupI ss)] m Q := on_sumT q
/-! fractions reckoned -/
theorem o2_ixF0 {K : PySem.W.Frag} {m : Mm} {Q : Val → Mm → Prop} {q : Rat} (h : Q (.d (.int q.num)) m) : Op2 K (rIx K) (.d (frac q)) (.d (.int 0)) m Q := o2_ixT (d := .int q.num) rfl h
theorem o2_ixF1 {K : PySem.W.Frag} {m : Mm} {Q : Val → Mm → Prop} {q : Rat} (h : Q (.d (.int (q.den : Int))) m) : Op2 K (rIx K) (.d (frac q)) (.d (.int 1)) m Q := o2_ixT (d := .int (q.den : Int)) rfl h
def f_sumOf : FSp := fun args m R => ∃ p q : Rat, args = [.d (frac p), .d (frac q)] ∧ FrB p 3900 ∧ FrB q 3900 ∧ R (.d (frac (p + q))) m
def f_timesOf : FSp := fun args m R => ∃ p q : Rat, args = [.d (frac p), .d (frac q)] ∧ FrB p 3900 ∧ FrB q 3900 ∧ R (.d (frac (p * q))) m
theorem FrB.mono {q : Rat} {a b : Nat} (h : FrB q a) (hb : a ≤ b) : FrB q b := ⟨h.1.mono hb, h.2.mono hb⟩
theorem den_pos (q : Rat) : 0 < q.den := Nat.pos_of_ne_zero q.den_nz
theorem FrB.add {p q : Rat} {a b c : Nat} (h : FrB p a) (g : FrB q b) (hc : a + b + 1 ≤ c) : FrB (p + q) c := by
  rw [Rat.add_def']
  refine frB_mk (((h.1.mul g.2).add (g.1.mul h.2) (c := a + b) (Nat.le_refl _) (by omega)).mono hc) (Bt.mono (a := a + b) ?_ (by omega)) (Nat.mul_pos (den_pos p) (den_pos q))
  rw [Int.natCast_mul]
  exact h.2.mul g.2
theorem FrB.mul {p q : Rat} {a b c : Nat} (h : FrB p a) (g : FrB q b) (hc : a + b ≤ c) : FrB (p * q) c := by
  rw [Rat.mul_def']
  refine frB_mk ((h.1.mul g.1).mono hc) (Bt.mono (a := a + b) ?_ hc) (Nat.mul_pos (den_pos p) (den_pos q))
  rw [Int.natCast_mul]
  exact h.2.mul g.2
/-- whether a thing is a fraction -/
def isFrac : PyData → Bool
  | .tuple [.int t, .int b] => decide (1 ≤ b) && decide (Nat.gcd b.toNat t.natAbs = 1)
  | _ => false
def szFrac : PyData → Prop
  | .tuple [.int _, .int b] => Bt b 8000
  | _ => True
def f_isFrac : FSp := fun args m R => ∃ x, args = [.d x] ∧ szFrac x ∧ R (.d (.bool (isFrac x))) m
theorem eqv_frac2 (t : Int) (b : Nat) (hb : 0 < b) : PyData.eqv (frac (mkRat t b)) (.tuple [.int t, .int (b : Int)]) = decide (Nat.gcd b t.natAbs = 1) := by
  rw [frac_mk t b (by omega)]
  simp only [PyData.eqv, PyData.eqvAll, Bool.and_true]
  by_cases h : Nat.gcd b t.natAbs = 1
  · rw [decide_eq_true h]
    simp [h]
  · rw [decide_eq_false h]
    have hg : 0 < Nat.gcd b t.natAbs := Nat.gcd_pos_of_pos_left _ hb
    have hlt : b / Nat.gcd b t.natAbs < b := Nat.div_lt_self hb (by omega)
    have e : ((((b / Nat.gcd b t.natAbs : Nat) : Int)) == (b : Int)) = false := beq_eq_false_iff_ne.mpr (by omega)
    rw [e, Bool.and_false]
/-! a law's own helpers -/
theorem bt_lit {i : Int} {n a : Nat} (h : i.natAbs < 2 ^ n) (ha : n ≤ a) : Bt i a := Bt.mono (show Bt i n from h) ha
def f_cell : FSp := fun args m R => ∃ (ns : List Int) (k : Nat), args = [.scr ns, .d (.int (k : Int))] ∧ ∀ z : Int, R (.d (.int z)) m
def f_mix : FSp := fun args m R => ∃ (c : Int) (k : Nat), args = [.d (.int c), .d (.int (k : Int))] ∧ k ≤ 1000 ∧ ∀ z : Int, 0 ≤ z → z < 1073741824 → R (.d (.int z)) m
def f_box : FSp := fun args m R => ∃ (ns : List Int) (k : Nat), args = [.scr ns, .d (.int (k : Int))] ∧ ∀ p, m p = none → R (.v (.ref p)) (put m p .box)
def f_take : FSp := fun args m R => ∃ (p : Addr) (k : Int), args = [.v (.ref p), .d (.int k)] ∧ m p = some .box ∧ 0 < k ∧ Bt k 8000 ∧ ∀ z : Int, 0 ≤ z → z < k → R (.d (.int z)) m
def f_drawnShares : FSp := fun args m R => ∃ (p : Addr) (a b : Int), args = [.v (.ref p), .d (.int a), .d (.int b)] ∧ m p = some .box ∧ 1 ≤ a ∧ a ≤ 5 ∧ 2 ≤ b ∧ b ≤ 9 ∧ ∀ ss : List Int, Shares ss → (ss.length : Int) ≤ a → R (.d (tupI ss)) m
def f_law : FSp := fun args m R => ∃ ns : List Int, args = [.scr ns] ∧ ∀ m', R (.d (.bool true)) m'
end DL
namespace DL
open PySem L2
section
variable {K : PySem.W.Frag} {r : List Val} {m : Mm} {Q : Val → Mm → Prop} {ta tb tc te : TE} {tt : TT}
/-! a list that may change, so many times -/
theorem VRs.rep {G : Hp} {rs : List Val} {xs : List V} (h : VRs K G rs xs) : ∀ n : Nat, VRs K G (List.replicate n rs).flatten (List.replicate n xs).flatten
  | 0 => rfl
  | n + 1 => by
    rw [List.replicate_succ, List.replicate_succ, List.flatten_cons, List.flatten_cons]
    exact h.append (VRs.rep h n)
/-! parts -/
def EvO (K : PySem.W.Frag) (t : TO) (r : List Val) (m : Mm) (Q : Option Int → Mm → Prop) : Prop :=
  ∀ σ H G, Sta K m H G → Sl K G r σ → ∀ R : Option Int → Hp → Prop, (∀ H' G' x m', Q x m' → Sta K m' H' G' → Le G G' → R x H') → t σ H R
theorem evo_none {Q : Option Int → Mm → Prop} (q : Q none m) : EvO K tNoPart r m Q := fun σ H G S L R k => k H G none m q S (Le.refl G)
theorem evo_some {Q : Option Int → Mm → Prop} (h : Ev K te r m fun x m1 => ∃ i : Int, x = .d (.int i) ∧ Q (some i) m1) : EvO K (tPart te) r m Q := fun σ H G S L R k =>
  h σ H G S L _ fun v H1 G1 x m1 ⟨i, hx, q⟩ S1 e1 r1 => by
    subst hx
    exact ⟨i, int_of r1, k H1 G1 _ m1 q S1 e1⟩
def cutD (ds : List PyData) (lo hi : Option Int) : List PyData := (ds.drop (HT.sIx ds.length 0 lo)).take (HT.sIx ds.length ds.length hi - HT.sIx ds.length 0 lo)
theorem RpAll.drop {G : Hp} : ∀ {ds : List PyData} {xs : List V} (n : Nat), RpAll K G ds xs → RpAll K G (ds.drop n) (xs.drop n)
  | ds, xs, 0, h => h
  | [], xs, n + 1, h => by rw [rpa_nil.mp h]; exact rpa_nil.mpr rfl
  | d :: ds, xs, n + 1, h => by
    obtain ⟨x, r, rfl, h2, h3⟩ := rpa_cons.mp h
    exact RpAll.drop n h3
theorem RpAll.take {G : Hp} : ∀ {ds : List PyData} {xs : List V} (n : Nat), RpAll K G ds xs → RpAll K G (ds.take n) (xs.take n)
  | ds, xs, 0, h => rpa_nil.mpr rfl
  | [], xs, n + 1, h => by rw [rpa_nil.mp h]; exact rpa_nil.mpr rfl
  | d :: ds, xs, n + 1, h => by
    obtain ⟨x, r, rfl, h2, h3⟩ := rpa_cons.mp h
    exact rpa_cons.mpr ⟨x, r.take n, rfl, h2, RpAll.take n h3⟩
theorem RpAll.cut {G : Hp} {ds : List PyData} {xs : List V} (h : RpAll K G ds xs) (lo hi : Option Int) : RpAll K G (cutD ds lo hi) (cutV xs lo hi) := by
  unfold cutD cutV
  rw [h.length]
  exact RpAll.take _ (RpAll.drop _ h)
theorem ev_slL {tl th : TO} (h : Ev K te r m fun x m1 => ∃ ds, x = .d (.list ds) ∧ EvO K tl r m1 fun lo m2 => EvO K th r m2 fun hi m3 => Q (.d (.list (cutD ds lo hi))) m3) : Ev K (tSl (rSlL K) te tl th) r m Q := fun σ H G S L R k =>
  h σ H G S L _ fun v H1 G1 x m1 ⟨ds, hx, h1⟩ S1 e1 r1 => h1 σ H1 G1 S1 (L.mono e1) _ fun H2 G2 lo m2 h2 S2 e2 => h2 σ H2 G2 S2 (L.mono (e1.trans e2)) _ fun H3 G3 hi m3 q S3 e3 => by
    subst hx
    obtain ⟨p, xs, hv, g1, g2⟩ := rp_list.mp (Rp.mono (e2.trans e3) _ _ r1.rp)
    refine ⟨p, xs, hv, Or.inl (Le.rd S3.sub g1), fun l hl => ?_⟩
    have hg := S3.free hl
    exact k _ _ (upd G3 l _) _ m3 q (S3.fix hl) (e1.trans (e2.trans (e3.trans (Le.new hg)))) (.d (rp_list.mpr ⟨l, _, rfl, Rd.of upd_same, RpAll.mono (Le.new hg) _ _ (g2.cut lo hi)⟩))
theorem cut_whole {α : Type} (ds : List α) {a b : Nat} (h : a = 0 ∧ b = ds.length) : (ds.drop a).take (b - a) = ds := by
  rw [h.1, h.2, List.drop_zero, Nat.sub_zero, List.take_length]
theorem ev_slT {tl th : TO} (h : Ev K te r m fun x m1 => ∃ ds, x = .d (.tuple ds) ∧ EvO K tl r m1 fun lo m2 => EvO K th r m2 fun hi m3 => Q (.d (.tuple (cutD ds lo hi))) m3) : Ev K (tSl (rSlA K) te tl th) r m Q := fun σ H G S L R k =>
  h σ H G S L _ fun v H1 G1 x m1 ⟨ds, hx, h1⟩ S1 e1 r1 => h1 σ H1 G1 S1 (L.mono e1) _ fun H2 G2 lo m2 h2 S2 e2 => h2 σ H2 G2 S2 (L.mono (e1.trans e2)) _ fun H3 G3 hi m3 q S3 e3 => by
    subst hx
    obtain ⟨p, xs, hv, g1, g2⟩ := rp_tuple.mp (Rp.mono (e2.trans e3) _ _ r1.rp)
    refine ⟨p, xs, hv, S3.sqT g1, fun hw => ?_, fun _ l hl => ?_⟩
    · rw [g2.length] at hw
      have e : cutD ds lo hi = ds := cut_whole ds hw
      have q : Q (.d (.tuple (cutD ds lo hi))) m3 := q
      rw [e] at q
      exact k _ H3 G3 _ m3 q S3 (e1.trans (e2.trans e3)) (.d (rp_tuple.mpr ⟨p, xs, rfl, g1, g2⟩))
    · have hg := S3.free hl
      exact k _ _ (upd G3 l _) _ m3 q (S3.fix hl) (e1.trans (e2.trans (e3.trans (Le.new hg)))) (.d (rp_tuple.mpr ⟨l, _, rfl, SqT.of upd_same, RpAll.mono (Le.new hg) _ _ (g2.cut lo hi)⟩))
/-! truth, and what is the very same -/
def rIsBl : R2 := fun x y H Q => ∃ a b, x = .bl a ∧ y = .bl b ∧ Q (.bl (decide (a = b))) H
def rIsNotBl : R2 := fun x y H Q => ∃ a b, x = .bl a ∧ y = .bl b ∧ Q (.bl (!decide (a = b))) H
theorem o2_isB {a b : Bool} (q : Q (.d (.bool (decide (a = b)))) m) : Op2 K rIsBl (.d (.bool a)) (.d (.bool b)) m Q := fun H G v w S x y R k => by
  rw [bool_of x, bool_of y]
  exact ⟨a, b, rfl, rfl, k _ H G _ m q S (Le.refl G) vr_bool⟩
theorem o2_isNotB {a b : Bool} (q : Q (.d (.bool (!decide (a = b)))) m) : Op2 K rIsNotBl (.d (.bool a)) (.d (.bool b)) m Q := fun H G v w S x y R k => by
  rw [bool_of x, bool_of y]
  exact ⟨a, b, rfl, rfl, k _ H G _ m q S (Le.refl G) vr_bool⟩
/-! in -/
theorem oInS {X : Cx} (K : PySem.W.Frag) (h : X.K = K := by rfl) : OpR X (compareOp .In) (rIn K false) := h ▸ op_in_seq
theorem inV_ints (i : Int) (ns : List Int) : inV (.int i) (ns.map V.int) = decide (i ∈ ns) := by
  unfold inV
  rw [List.any_map]
  induction ns with
  | nil => rfl
  | cons n ns ih =>
    rw [List.any_cons, ih]
    by_cases h : i = n
    · subst h; simp [eqV]
    · have h2 : ¬ n = i := fun e => h e.symm
      simp [eqV, h, h2]
theorem flat_ints (ns : List Int) : (ns.map V.int).all flatV = true := by
  rw [List.all_map, List.all_eq_true]; intro x _; rfl
theorem o2_inI {i : Int} {ns : List Int} {neg : Bool} (q : Q (.d (.bool (if neg then !decide (i ∈ ns) else decide (i ∈ ns)))) m) : Op2 K (rIn K neg) (.d (.int i)) (.d (.tuple (ns.map PyData.int))) m Q := fun H G v w S x y R k => by
  rw [int_of x]
  obtain ⟨p, xs, rfl, g1, g2⟩ := rp_tuple.mp y.rp
  rw [g2.ints] at g1
  refine ⟨p, _, rfl, Or.inr (S.sqT g1), rfl, flat_ints ns, ?_⟩
  rw [inV_ints]
  exact k _ H G _ m q S (Le.refl G) vr_bool
theorem mem_natI {k : Nat} {ks : List Nat} : ((k : Int) ∈ ks.map fun (k : Nat) => (k : Int)) ↔ k ∈ ks := by
  constructor
  · intro h
    obtain ⟨j, h1, h2⟩ := List.mem_map.mp h
    have : j = k := by omega
    rw [← this]; exact h1
  · intro h
    exact List.mem_map.mpr ⟨k, h, rfl⟩
theorem o2_inN {i : Nat} {ks : List Nat} (q : Q (.d (.bool (decide (i ∈ ks)))) m) : Op2 K (rIn K false) (.d (.int (i : Int))) (.d (tupN ks)) m Q := o2_inI (neg := false) (by
  have e : decide ((i : Int) ∈ ks.map fun (k : Nat) => (k : Int)) = decide (i ∈ ks) := decide_eq_decide.mpr mem_natI
  show Q (.d (.bool (decide ((i : Int) ∈ ks.map fun (k : Nat) => (k : Int))))) m
  rw [e]; exact q)
theorem o2_notInN {i : Nat} {ks : List Nat} (q : Q (.d (.bool (!decide (i ∈ ks)))) m) : Op2 K (rIn K true) (.d (.int (i : Int))) (.d (tupN ks)) m Q := o2_inI (neg := true) (by
  have e : decide ((i : Int) ∈ ks.map fun (k : Nat) => (k : Int)) = decide (i ∈ ks) := decide_eq_decide.mpr mem_natI
  show Q (.d (.bool (!decide ((i : Int) ∈ ks.map fun (k : Nat) => (k : Int))))) m
  rw [e]; exact q)
/-! xs[i] = e -/
variable {N : List Val → Mm → Prop} {E : Val → Mm → Prop} {t : TS}
theorem VRs.set {G : Hp} {y : Val} {v : V} (hv : VR K G y v) : ∀ {rs : List Val} {xs : List V} (i : Nat), VRs K G rs xs → VRs K G (rs.set i y) (xs.set i v)
  | [], xs, i, h => by
    have h : xs = [] := h
    subst h; exact rfl
  | r :: rs, xs, 0, h => by
    obtain ⟨x, t, rfl, h1, h2⟩ := h
    exact ⟨v, t, rfl, hv, h2⟩
  | r :: rs, xs, i + 1, h => by
    obtain ⟨x, t, rfl, h1, h2⟩ := h
    exact ⟨x, t.set i v, rfl, h1, VRs.set hv i h2⟩
end
/-! lists of one kind of thing -/
theorem map_at {α : Type} {f : α → PyData} {xs : List α} {i : Nat} {d : PyData} (h : (xs.map f)[i]? = some d) : ∃ x, xs[i]? = some x ∧ d = f x := by
  rw [List.getElem?_map] at h
  cases hx : xs[i]? with
  | none => rw [hx] at h; cases h
  | some x => rw [hx] at h; cases h; exact ⟨x, rfl, rfl⟩
section
variable {K : PySem.W.Frag} {r : List Val} {m : Mm} {Q : Val → Mm → Prop} {te tl : TE} {tt : TT} {j : Nat} {α : Type} {xs : List α} {f : α → PyData} {N : List Val → Mm → Prop} {E : Val → Mm → Prop} {t : TS}
theorem ev_mapLf (h : Ev K tl r m fun x m1 => x = .d (.list (xs.map f)) ∧ m1 = m) (hn : xs.length ≤ 100000) (g : α → PyData)
    (hs : ∀ (x : α) m', x ∈ xs → Ext m m' → Ev K te (r.set j (.d (f x))) m' fun y m3 => y = .d (g x) ∧ m3 = m') (q : Q (.d (.list (xs.map g))) m) : Ev K (tLc (iList K tl) (gName j) tYes te [j]) r m Q :=
  ev_lcL h (by rw [List.length_map]; exact hn) (fun i acc => acc = (xs.take i).map g) (by simp) (fun i d m' acc hd hx hw => by
    obtain ⟨x, h1, rfl⟩ := map_at hd
    exact evt_yes ⟨rfl, fun _ => (hs x m' (List.mem_of_getElem? h1) hx).imp fun y m3 e => ⟨e.2, g x, e.1, by rw [hw, take_one h1, List.map_append]; rfl⟩, (fun g => nomatch g)⟩)
    (fun acc hw => by rw [hw, List.length_map, List.take_length]; exact q)
theorem ev_mapTf (h : Ev K tl r m fun x m1 => x = .d (.tuple (xs.map f)) ∧ m1 = m) (hn : xs.length ≤ 100000) (g : α → PyData)
    (hs : ∀ (x : α) m', x ∈ xs → Ext m m' → Ev K te (r.set j (.d (f x))) m' fun y m3 => y = .d (g x) ∧ m3 = m') (q : Q (.d (.list (xs.map g))) m) : Ev K (tLc (iTup K tl) (gName j) tYes te [j]) r m Q :=
  ev_lcT h (by rw [List.length_map]; exact hn) (fun i acc => acc = (xs.take i).map g) (by simp) (fun i d m' acc hd hx hw => by
    obtain ⟨x, h1, rfl⟩ := map_at hd
    exact evt_yes ⟨rfl, fun _ => (hs x m' (List.mem_of_getElem? h1) hx).imp fun y m3 e => ⟨e.2, g x, e.1, by rw [hw, take_one h1, List.map_append]; rfl⟩, (fun g => nomatch g)⟩)
    (fun acc hw => by rw [hw, List.length_map, List.take_length]; exact q)
theorem ev_filR1 {ta : TA} {n : Nat} (h : EvA K ta r m fun xs m1 => xs = [.d (.int (n : Int))] ∧ m1 = m) (hn : n ≤ 100000) (p : Nat → Bool) (g : Nat → PyData)
    (ht : ∀ (i : Nat) m', i < n → Ext m m' → EvT K tt (r.set j (.d (.int (i : Int)))) m' fun b m3 => b = p i ∧ m3 = m')
    (hs : ∀ (i : Nat) m', i < n → Ext m m' → p i = true → Ev K te (r.set j (.d (.int (i : Int)))) m' fun y m3 => y = .d (g i) ∧ m3 = m') (q : Q (.d (.list (((List.range n).filter p).map g))) m) : Ev K (tLc (iRng1 ta) (gName j) tt te [j]) r m Q :=
  ev_lcR1 h hn (fun i acc => acc = ((List.range i).filter p).map g) (by simp) (fun i m' acc hi hx hw => (ht i m' hi hx).imp fun b m2 e => ⟨e.2, fun hb => (hs i m' hi hx (e.1.symm.trans hb)).imp fun y m3 e2 => ⟨e2.2, g i, e2.1, by
      rw [hw, range_one, List.filter_append, List.map_append, List.filter_cons, if_pos (e.1.symm.trans hb)]; rfl⟩, fun hb => by
      rw [hw, range_one, List.filter_append, List.map_append, List.filter_cons, if_neg (by rw [← e.1, hb]; decide)]; simp⟩)
    (fun acc hw => by rw [hw]; exact q)
theorem w_forLf (h : Ev K tl r m fun x m1 => x = .d (.list (xs.map f)) ∧ m1 = m) (W : Nat → List Val → Mm → Prop) (h0 : W 0 r m)
    (hs : ∀ (i : Nat) (x : α) r' m', xs[i]? = some x → W i r' m' → Wp K t (r'.set j (.d (f x))) m' (W (i + 1)) E) (hd : ∀ r' m', W xs.length r' m' → N r' m') : Wp K (tFor (iList K tl) (gName j) t) r m N E :=
  w_forL h W h0 (fun i d r' m' hd hw => by
    obtain ⟨x, h1, rfl⟩ := map_at hd
    exact hs i x r' m' h1 hw) (fun r' m' hw => hd r' m' (by rw [List.length_map] at hw; exact hw))
theorem w_forTf (h : Ev K tl r m fun x m1 => x = .d (.tuple (xs.map f)) ∧ m1 = m) (W : Nat → List Val → Mm → Prop) (h0 : W 0 r m)
    (hs : ∀ (i : Nat) (x : α) r' m', xs[i]? = some x → W i r' m' → Wp K t (r'.set j (.d (f x))) m' (W (i + 1)) E) (hd : ∀ r' m', W xs.length r' m' → N r' m') : Wp K (tFor (iTup K tl) (gName j) t) r m N E :=
  w_forT h W h0 (fun i d r' m' hd hw => by
    obtain ⟨x, h1, rfl⟩ := map_at hd
    exact hs i x r' m' h1 hw) (fun r' m' hw => hd r' m' (by rw [List.length_map] at hw; exact hw))
end
abbrev intN (k : Nat) : PyData := .int (k : Int)
/-! less told of what may change -/
section
variable {K : PySem.W.Frag} {r : List Val} {m : Mm} {Q : Val → Mm → Prop} {te tb : TE} {N : List Val → Mm → Prop} {E : Val → Mm → Prop} {t : TS} {ta : TA}
theorem ev_forget (h : Ev K te r m fun x m1 => ∃ m2, (∀ a o, m2 a = some o → m1 a = some o) ∧ Q x m2) : Ev K te r m Q := fun σ H G S L R k =>
  h σ H G S L R fun v H1 G1 x m1 ⟨m2, hl, q⟩ S1 e1 r1 => k v H1 G1 x m2 q (S1.less hl) e1 r1
theorem put_less {l : Addr} {o : MO} (h : m l = none) : ∀ a u, m a = some u → put m l o a = some u := fun a u e => by
  rw [put_ne (ne_of_get e h)]; exact e
/-- [e, ..] * n: a list that may change -/
theorem ev_lstMul (h : EvA K ta r m fun xs m1 => ∃ ds : List PyData, xs = ds.map Val.d ∧ ds.length ≤ 100 ∧ Ev K tb r m1 fun y m2 => ∃ n : Nat, y = .d (.int (n : Int)) ∧ n ≤ 1000 ∧ ∀ l, m2 l = none → Q (.v (.ref l)) (put m2 l (.lst ((List.replicate n ds).flatten.map Val.d)))) : Ev K (tOp (rMul K) (tLst ta) tb) r m Q := fun σ H G S L R k =>
  h σ H G S L _ fun vs H1 G1 xs m1 ⟨ds, hx, hl, h1⟩ S1 e1 r1 => by
    subst hx
    have hA := r1.toAll
    refine ⟨by rw [hA.length]; exact Nat.le_trans hl (by decide), fun p hp => ?_⟩
    have hg := S1.free hp
    refine h1 σ _ (upd G1 p (.lst vs)) (S1.fix hp) (L.mono (e1.trans (Le.new hg))) _ fun w H2 G2 y m2 ⟨n, hy, hn, q⟩ S2 e2 r2 => ?_
    subst hy
    have r2 := int_of r2
    subst r2
    have en : ((n : Int)).toNat = n := by omega
    refine Or.inr (Or.inr (Or.inr ⟨p, (n : Int), vs, rfl, rfl, S2.sub _ _ (e2 _ _ upd_same), by omega, by omega, ?_, fun l hl => ?_⟩))
    · rw [en, hA.length]
      exact Nat.le_trans (Nat.mul_le_mul hl hn) (by decide)
    · rw [en]
      have hB : RpAll K G2 ds vs := RpAll.mono ((Le.new hg).trans e2) ds vs hA
      exact k _ _ G2 _ _ (q l (S2.freeM hl)) (S2.new hl ⟨_, upd_same, VRs.ofAll (hB.rep n)⟩) (e1.trans ((Le.new hg).trans e2)) .v
end
end DL
namespace DL
open PySem L2
def f_needNumber : FSp := fun args m R => ∃ i lo hi : Int, args = [.d (.int i), .d (.int lo), .d (.int hi)] ∧ lo ≤ i ∧ i ≤ hi ∧ R (.d .none) m
def f_raised : FSp := fun args m R => ∃ (b : Int) (n : Nat), args = [.d (.int b), .d (.int (n : Int))] ∧ n ≤ 100 ∧ Bt b 60 ∧ R (.d (.int (b ^ n))) m
theorem Bt.pow {b : Int} {a : Nat} (h : Bt b a) : ∀ n : Nat, Bt (b ^ n) (a * n + 1)
  | 0 => by rw [Int.pow_zero]; exact bt_lit (n := 1) (by decide) (by omega)
  | n + 1 => by
    rw [Int.pow_succ]
    exact ((h.pow n).mul h).mono (by rw [Nat.mul_succ]; omega)
/-- all some of so many -/
def allS : Nat → List (List Nat)
  | 0 => [[]]
  | n + 1 => allS n ++ (allS n).map fun s => s ++ [n]
theorem allS_len : ∀ n, (allS n).length = 2 ^ n
  | 0 => rfl
  | n + 1 => by rw [allS, List.length_append, List.length_map, allS_len n, Nat.pow_succ]; omega
theorem allS_mem : ∀ n, ∀ s ∈ allS n, s.length ≤ n ∧ ∀ k ∈ s, k < n
  | 0, s, h => by
    have : s = [] := by simpa [allS] using h
    subst this
    exact ⟨Nat.le_refl _, fun k hk => nomatch hk⟩
  | n + 1, s, h => by
    rw [allS] at h
    rcases List.mem_append.mp h with h | h
    · obtain ⟨a, b⟩ := allS_mem n s h
      exact ⟨by omega, fun k hk => by have := b k hk; omega⟩
    · obtain ⟨t, ht, rfl⟩ := List.mem_map.mp h
      obtain ⟨a, b⟩ := allS_mem n t ht
      refine ⟨by rw [List.length_append]; show t.length + 1 ≤ n + 1; omega, fun k hk => ?_⟩
      rcases List.mem_append.mp hk with hk | hk
      · have := b k hk; omega
      · rw [List.mem_singleton.mp hk]; omega
/-! rows by turns -/
end DL
namespace DL
open PySem L2
section
variable {K : PySem.W.Frag} {r : List Val} {m : Mm} {Q : Val → Mm → Prop} {ta tb tc te to tl : TE} {tt : TT} {N : List Val → Mm → Prop} {E : Val → Mm → Prop} {t : TS}
/-! texts cut and joined -/
def rJoin (K : PySem.W.Frag) : V → List V → Hp → VK → Prop := fun x xs H Q => ∃ a p, ∃ ys : List Str, x = .str a ∧ xs = [.ref p] ∧ (SqL K H p (ys.map V.str) ∨ SqT K H p (ys.map V.str)) ∧ (ys.map (·.length)).sum + ys.length * a.length ≤ 16777216 ∧ Q (.str (Txt.join a ys)) H
theorem kJoin {X : Cx} (K : PySem.W.Frag) {e : Expr} {to te : TE} (hp : PE X e (tM1 (rJoin X.K) to te)) (h : X.K = K := by rfl) : PE X e (tM1 (rJoin K) to te) := h ▸ hp
/-! str(i), int(x) -/
def rStrI : List V → Hp → VK → Prop := fun xs H Q => ∃ i : Int, xs = [.int i] ∧ i.natAbs.log2 < 1920 ∧ Q (.str (toString i)) H
theorem cStr {X : Cx} : CallR X (.type "str") rStrI := call_str_int
end
/-! shares as a text -/
end DL
namespace DL
open PySem L2
theorem Kinds.sub {n : Nat} {ks : List Nat} (h : Kinds n ks) : ks.Sublist (List.range n) := by
  have : ∀ (ks : List Nat) (m : Nat), ks.Pairwise (· < ·) → (∀ k ∈ ks, m ≤ k ∧ k < n) → ks.Sublist ((List.range n).drop m) := by
    intro ks
    induction ks with
    | nil => intro m _ _; exact List.nil_sublist _
    | cons k t ih =>
      intro m hp hl
      have hk := hl k (by simp)
      have hkn : k < (List.range n).length := by rw [List.length_range]; exact hk.2
      have hd : (List.range n).drop k = k :: (List.range n).drop (k + 1) := by
        rw [List.drop_eq_getElem_cons hkn, List.getElem_range]
      have h1 : (k :: t).Sublist ((List.range n).drop k) := by
        rw [hd]
        refine (ih (k + 1) (List.pairwise_cons.mp hp).2 fun x hx => ⟨?_, (hl x (by simp [hx])).2⟩).cons_cons k
        exact (List.pairwise_cons.mp hp).1 x hx
      refine h1.trans ?_
      have e : (List.range n).drop k = ((List.range n).drop m).drop (k - m) := by rw [List.drop_drop]; congr 1; omega
      rw [e]
      exact List.drop_sublist _ _
  exact this ks 0 h.up fun k hk => ⟨Nat.zero_le _, h.lt k hk⟩
theorem sumP_cons (ss : List Int) (k : Nat) (ks : List Nat) : sumP ss (k :: ks) = ss.getD k 0 + sumP ss ks := rfl
theorem sumP_range (ss : List Int) : sumP ss (List.range ss.length) = ss.sum := by
  unfold sumP
  congr 1
  refine List.ext_getElem (by simp) fun i h1 h2 => ?_
  rw [List.getElem_map, List.getElem_range, List.getD_eq_getElem?_getD, List.getElem?_eq_getElem h2]; rfl
theorem nat_ne {t : Nat} (ht : 0 < t) : ((t : Nat) : Rat) ≠ 0 := by
  intro e
  have e2 : (((t : Nat) : Int) : Rat) = ((0 : Int) : Rat) := by rw [Rat.intCast_natCast]; exact e
  have e3 : ((t : Nat) : Int) = 0 := Rat.intCast_inj.mp e2
  omega
theorem eqv_data {d : PyData} (h : SeqAt.shaped d = true) : PyData.eqv d d = true := by
  have h : (d.canLay0 && decide (d.depth ≤ 64)) = true := h
  rw [Bool.and_eq_true] at h
  exact SeqAt.eqv_refl d h.1
theorem frac_unit {d : Nat} (h : 0 < d) : frac (mkRat 1 d) = .tuple [.int 1, .int (d : Int)] := by
  rw [frac_mk 1 d (by omega)]
  simp
section
variable {K : PySem.W.Frag} {r : List Val} {m : Mm} {Q : Val → Mm → Prop} {te : TE} {N : List Val → Mm → Prop} {E : Val → Mm → Prop}
/-- != of what is the same -/
theorem o2_neSame {d : PyData} (h : SeqAt.shaped d = true) (q : Q (.d (.bool false)) m) : Op2 K (rNeA K) (.d d) (.d d) m Q := o2_ne h h (by rw [eqv_data h]; exact q)
end
end DL
namespace DL
open PySem L2
instance (i : Int) (k : Nat) : Decidable (Bt i k) := by unfold Bt; infer_instance
instance (q : Rat) (a : Nat) : Decidable (FrB q a) := by unfold FrB; infer_instance
end DL
namespace DL
open PySem L2 PySem.W
end DL
namespace DL
open PySem L2
/-! a display of one pair, its key a tuple -/
section
variable {prog : Program} {w : World} {A : Around} {E : Value → Shared → Prop} {s : Shared}
theorem wpAny_Dict_one {κ : Type} [DecidableEq κ] {knd : HeapKind prog w κ} {env : Env} {k v : Expr} {pos : Pos} {Q : Value → Shared → Prop} (hu : knd.room A)
    (h : wpAny (model prog w) A (evalPairs (pairTrees [some k] [v] env pos)) (fun vs s₁ => ∃ ps, CarriesH knd s₁.heap vs ps ∧ s₁.heap.DictOfH knd s.heap.objs.size [] ∧
      ∀ h' tk, h'.DictOfH knd s.heap.objs.size (storedAllH [] ps) → Heap.SameBut s.heap.objs.size s₁.heap h' → Q (.ref s.heap.objs.size) { s₁ with heap := h', toks := tk }) E
      { s with heap := s.heap.push { cls := .type "dict", data := .dict #[] } }) :
    wpAny (model prog w) A (eval (.Dict [some k] [v] pos) env) Q E s := by
  have hn := pairTrees_length [some k] [v] env pos rfl rfl
  rw [arm_eval_Dict, zip_pairTrees [some k] [v] env pos rfl rfl, dictDisplay_pairs _ (fun e => by rw [e] at hn; cases hn) (by rw [hn]; show 1 < 17; decide)]
  exact wpAny_bind (wpAny_standAt (wpAny_bind (wpAny_subDictH (knd := knd) (Q := fun d s' => wpAny (model prog w) A (pure (Value.ref d)) Q E s') hu (by rw [hn]; show 1 ≤ 15; decide)
    (wpAny_mono h (fun vs s₁ h₁ => by obtain ⟨ps, hc, hm, hq⟩ := h₁; exact ⟨ps, hc, hm, fun h' tk a b => wpAny_pure (hq h' tk a b)⟩) fun _ _ e => e))))
end
def tDisp1 (tk tv : TE) : TE := fun σ H Q => ∀ p, H p = none → tk σ (upd H p (.dT [])) fun x H1 => tv σ H1 fun y H2 => ∃ (b : Addr) (k : List Key), x = .ref b ∧ H2 b = some (.tup (k.map kV)) ∧ H2 p = some (.dT []) ∧ Q (.ref p) (upd H2 p (.dT [(k, y)]))
theorem pe_disp1 {X : Cx} {pos : Pos} {k v : Expr} {tk tv : TE} {j : Nat} (hr : Room j X.A) (hk : PE X k tk) (hv : PE X v tv) : PE X (.Dict [some k] [v] pos) (tDisp1 tk tv) := by
  refine ⟨fun pins s σ H Q I q => ?_⟩
  have hn := I.hok.fresh (Nat.le_refl s.heap.objs.size)
  have hun := hr.un
  have I1 := I.laid (a := s.heap.objs.size) (o := .dT []) (h' := s.heap.push { cls := .type "dict", data := .dict #[] }) (t' := s.toks) (fun _ _ q => Heap.get?_push_of_some _ q) (Nat.le_refl _) (dt_empty s.heap I.big)
  refine wpAny_Dict_one (knd := tupleKind (mixKind X.prog X.w)) (show X.A.units < cLine by omega) ?_
  refine pairTrees_cons_walk (thn (hk.run pins _ σ _ _ I1 (q _ hn)) fun u s1 ⟨x, H1, I2, rx, q1⟩ => thn (hv.run pins s1 σ H1 _ I2 q1) fun u2 s2 ⟨y, H2, I3, ry, q2⟩ => pairTrees_nil_walk ?_)
  obtain ⟨b, ks, rfl, hb, hp, q3⟩ := q2
  cases rx
  obtain ⟨z, hd, xs, rel, dd⟩ := dt_of I3.hok hp
  cases rel
  refine ⟨[(ks, b, u2)], ⟨rfl, rfl, key_of I3.hok hb, trivial⟩, dd, fun h' tk dd' hs => ⟨.ref s.heap.objs.size, _, ?_, rfl, q3⟩⟩
  obtain ⟨qo, es, ep, hq, h2, h3, h4, _, h5⟩ := dd'
  refine d_write (t' := tk) I3 (by rw [hp]; exact True.intro) hs ⟨qo, hq⟩ ⟨by show 1 ≤ sizeLine; decide, hd, _, ?_, qo, es, ep, hq, h2, h3, h4, h5⟩
  refine .cons ⟨rfl, ?_, ry⟩ .nil
  have hne : b ≠ s.heap.objs.size := fun e => by rw [e, hp] at hb; cases hb
  show upd H2 s.heap.objs.size (.dT [(ks, y)]) b = _
  rw [upd_ne hne]
  exact hb
/-! dicts at the level of data -/
def getV {κ : Type} [DecidableEq κ] (kvs : List (κ × Val)) (k : κ) : Option Val := (kvs.find? fun kv => decide (kv.1 = k)).map (·.2)
def putV {κ : Type} [DecidableEq κ] (kvs : List (κ × Val)) (k : κ) (v : Val) : List (κ × Val) :=
  if (kvs.any fun kv => decide (kv.1 = k)) then kvs.map (fun kv => if kv.1 = k then (kv.1, v) else kv) else kvs ++ [(k, v)]
section
variable {K : PySem.W.Frag} {G : Hp} {κ : Type} [DecidableEq κ]
theorem KVs.len : ∀ {kvs : List (κ × Val)} {es : List (κ × V)}, KVs K G kvs es → es.length = kvs.length
  | [], es, h => by
    have h : es = [] := h
    rw [h]; rfl
  | (k, r) :: t, es, h => by
    obtain ⟨v, u, rfl, _, h3⟩ := h
    rw [List.length_cons, List.length_cons, KVs.len h3]
theorem KVs.get (k : κ) : ∀ {kvs : List (κ × Val)} {es : List (κ × V)}, KVs K G kvs es → (∀ r, getV kvs k = some r → ∃ v, valV es k = some v ∧ VR K G r v) ∧ (getV kvs k = none → valV es k = none)
  | [], es, h => by
    have h : es = [] := h
    subst h
    exact ⟨(fun r e => nomatch e), fun _ => rfl⟩
  | (j, x) :: t, es, h => by
    obtain ⟨v, u, rfl, h2, h3⟩ := h
    obtain ⟨ih1, ih2⟩ := KVs.get k h3
    by_cases e : j = k
    · have e1 : getV ((j, x) :: t) k = some x := by simp [getV, List.find?_cons, e]
      rw [e1, valV_pos (p := (j, v)) e]
      exact ⟨fun r hr => ⟨v, rfl, by cases hr; exact h2⟩, fun z => nomatch z⟩
    · have e1 : getV ((j, x) :: t) k = getV t k := by simp [getV, List.find?_cons, e]
      rw [e1, valV_neg (p := (j, v)) e]
      exact ⟨ih1, ih2⟩
theorem KVs.any (k : κ) : ∀ {kvs : List (κ × Val)} {es : List (κ × V)}, KVs K G kvs es → (es.any fun kv => decide (kv.1 = k)) = (kvs.any fun kv => decide (kv.1 = k))
  | [], es, h => by
    have h : es = [] := h
    subst h; rfl
  | (j, x) :: t, es, h => by
    obtain ⟨v, u, rfl, h2, h3⟩ := h
    rw [List.any_cons, List.any_cons, KVs.any k h3]
theorem KVs.repl (k : κ) {y : Val} {v : V} (hv : VR K G y v) : ∀ {kvs : List (κ × Val)} {es : List (κ × V)}, KVs K G kvs es → KVs K G (kvs.map fun kv => if kv.1 = k then (kv.1, y) else kv) (es.map fun kv => if kv.1 = k then (kv.1, v) else kv)
  | [], es, h => by
    have h : es = [] := h
    subst h; exact rfl
  | (j, x) :: t, es, h => by
    obtain ⟨w, u, rfl, h2, h3⟩ := h
    rw [List.map_cons, List.map_cons]
    by_cases e : j = k
    · simp only [e, if_true]
      exact ⟨v, _, rfl, hv, by simpa [e] using KVs.repl k hv h3⟩
    · simp only [e, if_false]
      exact ⟨w, _, rfl, h2, by simpa [e] using KVs.repl k hv h3⟩
theorem KVs.snoc (k : κ) {y : Val} {v : V} (hv : VR K G y v) : ∀ {kvs : List (κ × Val)} {es : List (κ × V)}, KVs K G kvs es → KVs K G (kvs ++ [(k, y)]) (es ++ [(k, v)])
  | [], es, h => by
    have h : es = [] := h
    subst h; exact ⟨v, [], rfl, hv, rfl⟩
  | (j, x) :: t, es, h => by
    obtain ⟨w, u, rfl, h2, h3⟩ := h
    exact ⟨w, u ++ [(k, v)], rfl, h2, KVs.snoc k hv h3⟩
theorem KVs.put (k : κ) {y : Val} {v : V} {kvs : List (κ × Val)} {es : List (κ × V)} (h : KVs K G kvs es) (hv : VR K G y v) : KVs K G (putV kvs k y) (putK es k v) := by
  unfold putV putK
  rw [h.any k]
  split
  · exact h.repl k hv
  · exact h.snoc k hv
theorem putV_new {kvs : List (κ × Val)} {k : κ} (y : Val) (h : ∀ p ∈ kvs, p.1 ≠ k) : putV kvs k y = kvs ++ [(k, y)] := by
  unfold putV
  rw [if_neg]
  intro e
  obtain ⟨p, h1, h2⟩ := List.any_eq_true.mp e
  exact h p h1 (of_decide_eq_true h2)
end
/-- a key of whole numbers -/
def kI (ns : List Int) : List Key := ns.map Sum.inl
theorem kI_kV (ns : List Int) : (kI ns).map kV = ns.map V.int := by
  unfold kI
  rw [List.map_map]; rfl
theorem kI_inj {a b : List Int} (h : kI a = kI b) : a = b := List.map_inj_right (fun _ _ e => Sum.inl.inj e) |>.mp h
section
variable {K : PySem.W.Frag} {r : List Val} {m : Mm} {Q : Val → Mm → Prop} {ta tb tc te td ty tv tx : TE} {tt : TT} {N : List Val → Mm → Prop} {E : Val → Mm → Prop} {t : TS}
/-- the dict at p, as it may be read -/
def Dat (m : Mm) (p : Addr) (kvs : List (List Key × Val)) : Prop := m p = some (.dT kvs) ∨ ∃ od es, m p = some (.lk od es kvs)
theorem Dat.rd {p : Addr} {kvs : List (List Key × Val)} {H G : Hp} (h : Dat m p kvs) (S : Sta K m H G) : ∃ es, Rd H p (.dT es) ∧ KVs K G kvs es := by
  rcases h with h | ⟨od, es, h⟩
  · obtain ⟨es, h1, h2⟩ := S.mem p _ h
    exact ⟨es, Or.inl h1, h2⟩
  · obtain ⟨h1, h2⟩ := S.mem p _ h
    exact ⟨es, Or.inr ⟨od, h1⟩, h2⟩
theorem t_of {G : Hp} {ns : List Int} {v : V} (h : VR K G (.t ns) v) : ∃ b, v = .ref b ∧ G b = some (.tup ((kI ns).map kV)) := by
  cases h with
  | t h => exact ⟨_, rfl, by rw [kI_kV]; exact h⟩
theorem t_d {G : Hp} {ns : List Int} {v : V} (h : VR K G (.t ns) v) : VR K G (.d (tupI ns)) v := by
  cases h with
  | t h => exact .d (rp_tuple.mpr ⟨_, _, rfl, SqT.of h, rpa_ints ns⟩)
theorem ev_t2d (h : Ev K te r m fun x m1 => ∃ ns, x = .t ns ∧ Q (.d (tupI ns)) m1) : Ev K te r m Q := fun σ H G S L R k =>
  h σ H G S L R fun v H1 G1 x m1 ⟨ns, hx, q⟩ S1 e1 r1 => by
    subst hx
    exact k v H1 G1 _ m1 q S1 e1 (t_d r1)
theorem ev_varT {i : Nat} {ns : List Int} (h : r[i]? = some (.t ns)) (q : Q (.d (tupI ns)) m) : Ev K (tVar i) r m Q := ev_t2d (ev_var h (fun z => nomatch z) ⟨ns, rfl, q⟩)
theorem ev_varTN {i : Nat} {ks : List Nat} (h : r[i]? = some (.t (ks.map fun (k : Nat) => (k : Int)))) (q : Q (.d (tupN ks)) m) : Ev K (tVar i) r m Q := ev_varT h q
theorem ev_dget (h : Ev K td r m fun x m1 => ∃ p, x = .v (.ref p) ∧ Ev K ty r m1 fun y m2 => ∃ ns kvs z, y = .t ns ∧ Dat m2 p kvs ∧ getV kvs (kI ns) = some z ∧ Q z m2) : Ev K (tDGet td ty) r m Q := fun σ H G S L R k =>
  h σ H G S L _ fun v H1 G1 x m1 ⟨p, hx, h1⟩ S1 e1 r1 => h1 σ H1 G1 S1 (L.mono e1) _ fun w H2 G2 y m2 ⟨ns, kvs, z, hy, hd, hg, q⟩ S2 e2 r2 => by
    subst hx hy
    have r1 := r1.eq
    subst r1
    obtain ⟨b, rfl, hb⟩ := t_of r2
    obtain ⟨es, g1, g2⟩ := hd.rd S2
    obtain ⟨u, hu, ru⟩ := (g2.get (kI ns)).1 z hg
    exact ⟨p, u, rfl, Or.inr ⟨es, kI ns, b, g1, rfl, S2.sub _ _ hb, hu.symm⟩, k u H2 G2 z m2 q S2 (e1.trans e2) ru⟩
theorem ev_dnotin (h : Ev K ty r m fun y m1 => ∃ ns, y = .t ns ∧ Ev K td r m1 fun x m2 => ∃ p kvs, x = .v (.ref p) ∧ Dat m2 p kvs ∧ Q (.d (.bool (!(getV kvs (kI ns)).isSome))) m2) : Ev K (tDNotIn ty td) r m Q := fun σ H G S L R k =>
  h σ H G S L _ fun v H1 G1 x m1 ⟨ns, hx, h1⟩ S1 e1 r1 => h1 σ H1 G1 S1 (L.mono e1) _ fun w H2 G2 y m2 ⟨p, kvs, hy, hd, q⟩ S2 e2 r2 => by
    subst hx hy
    have r2 := r2.eq
    subst r2
    obtain ⟨b, rfl, hb⟩ := t_of r1
    obtain ⟨es, g1, g2⟩ := hd.rd S2
    have e : (valV es (kI ns)).isSome = (getV kvs (kI ns)).isSome := by
      cases hg : getV kvs (kI ns) with
      | none => rw [(g2.get (kI ns)).2 hg]; rfl
      | some z => obtain ⟨u, hu, _⟩ := (g2.get (kI ns)).1 z hg; rw [hu]; rfl
    refine ⟨p, valV es (kI ns), rfl, Or.inr ⟨es, kI ns, b, g1, rfl, S2.sub _ _ (e2 _ _ hb), rfl⟩, ?_⟩
    rw [e]
    exact k _ H2 G2 _ m2 q S2 (e1.trans e2) vr_bool
theorem dat_isD {p : Addr} {kvs : List (List Key × Val)} {H G : Hp} (h : Dat m p kvs) (S : Sta K m H G) : IsD H p := by
  obtain ⟨es, h1, _⟩ := h.rd S
  exact Or.inr ⟨es, h1⟩
/-- d.get(k, e) -/
theorem ev_dget2 (h : Ev K td r m fun x m1 => ∃ p kvs, x = .v (.ref p) ∧ Dat m1 p kvs ∧ Ev K ty r m1 fun y m2 => ∃ ns, y = .t ns ∧ Ev K tx r m2 fun z m3 => ∃ kvs', Dat m3 p kvs' ∧ Q ((getV kvs' (kI ns)).getD z) m3) : Ev K (tDGet2 td ty tx) r m Q := fun σ H G S L R k =>
  h σ H G S L _ fun v H1 G1 x m1 ⟨p, kvs, hx, hd1, h1⟩ S1 e1 r1 => by
    subst hx
    have r1 := r1.eq
    subst r1
    refine ⟨p, rfl, dat_isD hd1 S1, ?_⟩
    refine h1 σ H1 G1 S1 (L.mono e1) _ fun w H2 G2 y m2 ⟨ns, hy, h2⟩ S2 e2 r2 => h2 σ H2 G2 S2 (L.mono (e1.trans e2)) _ fun u H3 G3 z m3 ⟨kvs', hd, q⟩ S3 e3 r3 => ?_
    subst hy
    obtain ⟨b, rfl, hb⟩ := t_of r2
    obtain ⟨es, g1, g2⟩ := hd.rd S3
    refine ⟨valV es (kI ns), Or.inr ⟨es, kI ns, b, g1, rfl, S3.sub _ _ (e3 _ _ hb), rfl⟩, ?_⟩
    have e0 := e1.trans (e2.trans e3)
    cases hg : getV kvs' (kI ns) with
    | none =>
      rw [hg] at q
      rw [(g2.get (kI ns)).2 hg]
      exact k _ H3 G3 _ m3 q S3 e0 r3
    | some y =>
      rw [hg] at q
      obtain ⟨u', hu, ru⟩ := (g2.get (kI ns)).1 y hg
      rw [hu]
      exact k _ H3 G3 _ m3 q S3 e0 ru
theorem ev_dnew (q : ∀ p, m p = none → Q (.v (.ref p)) (put m p (.dT []))) : Ev K tDNewT r m Q := fun σ H G S L R k p hp =>
  k (.ref p) _ G _ _ (q p (S.freeM hp)) (S.new hp ⟨[], upd_same, rfl⟩) (Le.refl G) .v
/-- {k: e} -/
theorem ev_disp1 (h : ∀ p, m p = none → Ev K ta r (put m p (.dT [])) fun x m1 => ∃ ns, x = .t ns ∧ Ev K tv r m1 fun y m2 => m2 p = some (.dT []) ∧ Q (.v (.ref p)) (put m2 p (.dT [(kI ns, y)]))) : Ev K (tDisp1 ta tv) r m Q := fun σ H G S L R k p hp =>
  h p (S.freeM hp) σ _ G (S.new hp ⟨[], upd_same, rfl⟩) L _ fun v H1 G1 x m1 ⟨ns, hx, h1⟩ S1 e1 r1 => h1 σ H1 G1 S1 (L.mono e1) _ fun w H2 G2 y m2 ⟨hm, q⟩ S2 e2 r2 => by
    subst hx
    obtain ⟨b, rfl, hb⟩ := t_of r1
    obtain ⟨es, g1, g2⟩ := S2.mem p _ hm
    have g2 : es = [] := g2
    subst g2
    exact ⟨b, kI ns, rfl, S2.sub _ _ (e2 _ _ hb), g1, k (.ref p) _ G2 _ _ q (S2.chg hm ⟨_, upd_same, w, [], rfl, r2, rfl⟩) (e1.trans e2) .v⟩
/-- d[k] = e -/
theorem w_dput (h : Ev K tv r m fun x m1 => Ev K td r m1 fun y m2 => ∃ p, y = .v (.ref p) ∧ Ev K ty r m2 fun z m3 => ∃ ns kvs, z = .t ns ∧ m3 p = some (.dT kvs) ∧ kvs.length < 100000 ∧ N r (put m3 p (.dT (putV kvs (kI ns) x)))) : Wp K (sDPut td ty tv) r m N E := fun σ H G D S L a b =>
  h σ H G S L _ fun v H1 G1 x m1 h1 S1 e1 r1 => h1 σ H1 G1 S1 (L.mono e1) _ fun w H2 G2 y m2 ⟨p, hy, h2⟩ S2 e2 r2 => h2 σ H2 G2 S2 (L.mono (e1.trans e2)) _ fun u H3 G3 z m3 ⟨ns, kvs, hz, hm, hl, q⟩ S3 e3 r3 => by
    subst hy hz
    have r2 := r2.eq
    subst r2
    obtain ⟨bk, rfl, hb⟩ := t_of r3
    obtain ⟨es, g1, g2⟩ := S3.mem p _ hm
    have hput : KVs K G3 (putV kvs (kI ns) x) (putK es (kI ns) v) := g2.put (kI ns) (r1.mono (e2.trans e3))
    refine ⟨p, upd H3 p (.dT (putK es (kI ns) v)), rfl, DPut.t g1 (S3.sub _ _ hb) (Nat.lt_of_lt_of_le (by rw [g2.len]; exact hl) (by decide)), ?_⟩
    exact a σ _ G3 r _ q (S3.chg hm ⟨_, upd_same, hput⟩) (e1.trans (e2.trans e3)) (L.mono (e1.trans (e2.trans e3)))
/-- a tuple that is there, taken as one that stays -/
theorem Sta.adopt {H G : Hp} {q : Addr} {xs : List V} (S : Sta K m H G) (h : H q = some (.tup xs)) : Sta K m H (upd G q (.tup xs)) ∧ Le G (upd G q (.tup xs)) := by
  have le : Le G (upd G q (.tup xs)) := fun a o e => by
    by_cases ha : a = q
    · subst ha
      have := S.sub _ _ e
      rw [h] at this
      cases this
      exact upd_same
    · rw [upd_ne ha]; exact e
  have hm : m q = none := by
    cases e : m q with
    | none => rfl
    | some o =>
      have hM := S.mem q o e
      cases o with
      | lst rs => obtain ⟨_, g, _⟩ := hM; rw [h] at g; cases g
      | dT rs => obtain ⟨_, g, _⟩ := hM; rw [h] at g; cases g
      | dK rs => obtain ⟨_, g, _⟩ := hM; rw [h] at g; cases g
      | lk a b c => obtain ⟨g, _⟩ := hM; rw [h] at g; cases g
      | box => obtain ⟨_, g⟩ := hM; rw [h] at g; cases g
      | g P => exact absurd h (hM.2.2.2 xs)
  refine ⟨⟨fun a o e => ?_, fun a o e => (S.mem a o e).mono le rfl, fun a o e => ?_⟩, le⟩
  · by_cases ha : a = q
    · subst ha; rw [upd_same] at e; cases e; exact h
    · rw [upd_ne ha] at e; exact S.sub a o e
  · rw [upd_ne (fun z => by rw [z, hm] at e; cases e)]; exact S.dis a o e
/-- for k in a dict -/
theorem w_forD {j : Nat} {p : Addr} {kvs : List (List Int × Val)} (hm : m p = some (.dT (kvs.map fun kv => (kI kv.1, kv.2))))
    (h : ∀ od es, Ev K td r (put m p (.lk od es (kvs.map fun kv => (kI kv.1, kv.2)))) fun x m1 => x = .v (.ref p) ∧ m1 = put m p (.lk od es (kvs.map fun kv => (kI kv.1, kv.2))))
    (W : Nat → List Val → Mm → Prop) (h0 : W 0 r m)
    (hs : ∀ (i : Nat) (k : List Int) (z : Val) r' m' od es, kvs[i]? = some (k, z) → W i r' m' → m' p = some (.dT (kvs.map fun kv => (kI kv.1, kv.2))) →
      Wp K t (r'.set j (.t k)) (put m' p (.lk od es (kvs.map fun kv => (kI kv.1, kv.2)))) (fun r2 m2 => m2 p = some (.lk od es (kvs.map fun kv => (kI kv.1, kv.2))) ∧ W (i + 1) r2 (put m2 p (.dT (kvs.map fun kv => (kI kv.1, kv.2))))) (fun x m2 => m2 p = some (.lk od es (kvs.map fun kv => (kI kv.1, kv.2))) ∧ E x (put m2 p (.dT (kvs.map fun kv => (kI kv.1, kv.2))))))
    (hd : ∀ r' m', W kvs.length r' m' → N r' m') : Wp K (tLock (tFor (iKeys td) (gName j) t)) r m N E := fun σ H G D S L a b => by
  generalize hkk : kvs.map (fun kv => (kI kv.1, kv.2)) = kk at *
  obtain ⟨es, g1, g2⟩ := S.mem p _ hm
  have hlen : es.length = kvs.length := by rw [g2.len, ← hkk, List.length_map]
  have keyAt : ∀ (i : Nat) (k : List Key) (v : V), es[i]? = some (k, v) → ∃ kz, kvs[i]? = some kz ∧ k = kI kz.1 := by
    have aux : ∀ (kk : List (List Key × Val)) (es : List (List Key × V)) (i : Nat) (k : List Key) (v : V), KVs K G kk es → es[i]? = some (k, v) → ∃ z, kk[i]? = some (k, z) := by
      intro kk
      induction kk with
      | nil => intro es i k v h e; have h : es = [] := h; subst h; simp at e
      | cons p t ih =>
        intro es i k v h e
        obtain ⟨k0, r0⟩ := p
        obtain ⟨v0, u, rfl, _, h3⟩ := h
        cases i with
        | zero => simp at e; exact ⟨r0, by simp [e.1]⟩
        | succ i => simpa using ih u i k v h3 (by simpa using e)
    intro i k v he
    obtain ⟨z, hz⟩ := aux kk es i k v g2 he
    rw [← hkk, List.getElem?_map] at hz
    cases hx : kvs[i]? with
    | none => rw [hx] at hz; cases hz
    | some kz => rw [hx] at hz; cases hz; exact ⟨kz, rfl, rfl⟩
  refine ⟨p, .dT es, g1, trivial, fun od => ?_⟩
  have S1 : Sta K (put m p (.lk od es kk)) (upd H p (.frz od (.dT es))) G := S.chg hm ⟨upd_same, g2⟩
  refine h od es σ _ G S1 L _ fun v H1 G1 x m1 ⟨hx, hm1⟩ S2 e1 r1 => ?_
  subst hx hm1
  have r1 := r1.eq
  subst r1
  obtain ⟨g3, g4⟩ := S2.mem p _ put_same
  have back : ∀ {m' : Mm} {H' G' : Hp}, Sta K m' H' G' → m' p = some (.lk od es kk) → Sta K (put m' p (.dT kk)) (upd H' p (.dT es)) G' := fun {m' H' G'} S' hm' => S'.chg hm' ⟨es, upd_same, (S'.mem p _ hm').2⟩
  refine ⟨p, od, rfl, Or.inr ⟨es, g3, for_it (walk_keysT (kvs := es)) (fun i σ' H' => ∃ G' r' m', W i r' (put m' p (.dT kk)) ∧ m' p = some (.lk od es kk) ∧ Sta K m' H' G' ∧ Le G G' ∧ Sl K G' r' σ') ⟨G1, r, _, ?_, put_same, S2, e1, L.mono e1⟩ ?_ ?_ ?_⟩⟩
  · rw [put_put]
    have e : put m p (.dT kk) = m := by
      funext c
      unfold put
      by_cases hc : c = p
      · rw [if_pos hc, hc, hm]
      · rw [if_neg hc]
    rw [e]; exact h0
  · rintro i σ' H' hi ⟨G', r', m', _, hm', S', _, _⟩
    exact (S'.mem p _ hm').1
  · rintro i y σ' H' H2 hi ⟨G', r', m', hw, hm', S', e', L'⟩ ⟨rfl, k, v, q, hk, rfl, hq⟩
    obtain ⟨⟨ki, z⟩, hkz, rfl⟩ := keyAt i k v hk
    rw [kI_kV] at hq
    obtain ⟨S3, e3⟩ := S'.adopt hq
    have hmm : put (put m' p (.dT kk)) p (.lk od es kk) = m' := by
      rw [put_put]
      funext c
      unfold put
      by_cases hc : c = p
      · rw [if_pos hc, hc, hm']
      · rw [if_neg hc]
    have hW := hs i ki z r' (put m' p (.dT kk)) od es hkz hw put_same
    rw [hmm] at hW
    refine hW (σ'.set j (some (.ref q))) _ _ _ S3 ((L'.mono e3).set (r := .t ki) (.t upd_same) j) (fun σ3 H3 G3 r3 m3 ⟨h3, hw3⟩ S3 e4 L3 => ⟨G3, r3, m3, hw3, h3, S3, e'.trans (e3.trans e4), L3⟩) (fun v H3 G3 x m3 ⟨h3, hE⟩ S3 e4 L3 => ?_)
    exact ⟨(S3.mem p _ h3).1, b v _ G3 x _ hE (back S3 h3) (e'.trans (e3.trans e4)) L3⟩
  · rintro σ' H' ⟨G', r', m', hw, hm', S', e', L'⟩
    rw [hlen] at hw
    exact ⟨(S'.mem p _ hm').1, a σ' _ G' r' _ (hd r' _ hw) (back S' hm') e' L'⟩
end
end DL
namespace DL
open PySem L2
section
variable {K : PySem.W.Frag} {r : List Val} {m : Mm} {Q : Val → Mm → Prop} {ta tb tc te tl : TE} {tt : TT} {N : List Val → Mm → Prop} {E : Val → Mm → Prop} {t : TS}
/-! tuples of ints that the code makes -/
theorem VRs.ints {G : Hp} : ∀ {ns : List Int} {xs : List V}, VRs K G (ns.map fun n => .d (.int n)) xs → xs = ns.map V.int
  | [], xs, h => h
  | n :: ns, xs, h => by
    obtain ⟨x, u, rfl, h1, h2⟩ := h
    rw [int_of h1, VRs.ints h2]; rfl
theorem ev_tupT {t : TA} (h : EvA K t r m fun xs m1 => ∃ ns : List Int, xs = ns.map (fun n => Val.d (.int n)) ∧ ns.length ≤ 100000 ∧ Q (.t ns) m1) : Ev K (tTup t) r m Q := fun σ H G S L R k =>
  h σ H G S L _ fun vs H1 G1 xs m1 ⟨ns, hx, hl, q⟩ S1 e1 r1 => by
    subst hx
    have hv := r1.ints
    subst hv
    refine ⟨by rw [List.length_map]; exact Nat.le_trans hl (by decide), fun p hp => ?_⟩
    have hg := S1.free hp
    exact k (.ref p) _ (upd G1 p _) _ m1 q (S1.fix hp) (e1.trans (Le.new hg)) (.t upd_same)
theorem o2_addTt {a b : List Int} (hz : a.length + b.length ≤ 100000) (q : Q (.t (a ++ b)) m) : Op2 K (rAdd K) (.t a) (.t b) m Q := fun H G v w S x y R k => by
  cases x with
  | @t _ p h1 =>
    cases y with
    | @t _ p' h2 =>
      refine Or.inr (Or.inl ⟨p, p', a.map V.int, b.map V.int, rfl, rfl, S.sqT (SqT.of h1), S.sqT (SqT.of h2), ?_, fun e => ?_, fun _ e => ?_, fun _ _ l hl => ?_⟩)
      · rw [List.length_map, List.length_map]; exact Nat.le_trans hz (by decide)
      · have e := List.map_eq_nil_iff.mp e
        subst e
        exact k _ H G _ m q S (Le.refl G) (.t h2)
      · have e := List.map_eq_nil_iff.mp e
        subst e
        rw [List.append_nil] at q
        exact k _ H G _ m q S (Le.refl G) (.t h1)
      · have hg := S.free hl
        exact k _ _ (upd G l _) _ m q (S.fix hl) (Le.new hg) (.t (by rw [List.map_append]; exact upd_same))
/-! lists of them -/
theorem VRs.toT {G : Hp} : ∀ {nss : List (List Int)} {xs : List V}, VRs K G (nss.map Val.t) xs → TAll G nss xs
  | [], xs, h => h
  | ns :: r, xs, h => by
    obtain ⟨x, u, rfl, h1, h2⟩ := h
    obtain ⟨b, rfl, hb⟩ := t_of h1
    rw [kI_kV] at hb
    exact ⟨b, u, rfl, hb, VRs.toT h2⟩
theorem TAll.len {G : Hp} : ∀ {nss : List (List Int)} {xs : List V}, TAll G nss xs → xs.length = nss.length
  | [], xs, h => by
    have h : xs = [] := h
    rw [h]; rfl
  | ns :: r, xs, h => by
    obtain ⟨b, t, rfl, _, h3⟩ := h
    rw [List.length_cons, List.length_cons, TAll.len h3]
theorem TAll.at {G : Hp} : ∀ {nss : List (List Int)} {xs : List V} {i : Nat} {x : V}, TAll G nss xs → xs[i]? = some x → ∃ ns b, nss[i]? = some ns ∧ x = .ref b ∧ G b = some (.tup (ns.map V.int))
  | [], xs, i, x, h, e => by
    have h : xs = [] := h
    subst h; simp at e
  | ns :: r, xs, 0, x, h, e => by
    obtain ⟨b, t, rfl, h2, h3⟩ := h
    have e : V.ref b = x := by simpa using e
    exact ⟨ns, b, rfl, e.symm, h2⟩
  | ns :: r, xs, i + 1, x, h, e => by
    obtain ⟨b, t, rfl, h2, h3⟩ := h
    obtain ⟨n2, b2, e1, e2, e3⟩ := TAll.at (i := i) (x := x) h3 (by simpa using e)
    exact ⟨n2, b2, by simpa using e1, e2, e3⟩
theorem TAll.append {G : Hp} : ∀ {a b : List (List Int)} {xs ys : List V}, TAll G a xs → TAll G b ys → TAll G (a ++ b) (xs ++ ys)
  | [], b, xs, ys, h, g => by
    have h : xs = [] := h
    subst h; exact g
  | ns :: r, b, xs, ys, h, g => by
    obtain ⟨c, t, rfl, h2, h3⟩ := h
    exact ⟨c, t ++ ys, rfl, h2, TAll.append h3 g⟩
theorem ev_lstT {t : TA} (h : EvA K t r m fun xs m1 => ∃ nss : List (List Int), xs = nss.map Val.t ∧ nss.length ≤ 100000 ∧ Q (.lt nss) m1) : Ev K (tLst t) r m Q := fun σ H G S L R k =>
  h σ H G S L _ fun vs H1 G1 xs m1 ⟨nss, hx, hl, q⟩ S1 e1 r1 => by
    subst hx
    have hv := r1.toT
    refine ⟨by rw [hv.len]; exact Nat.le_trans hl (by decide), fun p hp => ?_⟩
    have hg := S1.free hp
    exact k (.ref p) _ (upd G1 p _) _ m1 q (S1.fix hp) (e1.trans (Le.new hg)) (.lt (Rd.of upd_same) (hv.mono (Le.new hg)))
/-! comprehensions whose items are any values -/
theorem TAll.zip {G : Hp} : ∀ {nss : List (List Int)} {xs : List V}, TAll G nss xs → ((xs.zip nss).map (·.1) = xs ∧ (xs.zip nss).map (·.2) = nss ∧ ∀ b ∈ xs.zip nss, ∃ t, b.1 = .ref t ∧ G t = some (.tup (b.2.map V.int)))
  | [], xs, h => by
    have h : xs = [] := h
    subst h
    exact ⟨rfl, rfl, fun b hb => nomatch hb⟩
  | ns :: r, xs, h => by
    obtain ⟨c, t, rfl, h2, h3⟩ := h
    obtain ⟨a1, a2, a3⟩ := TAll.zip h3
    refine ⟨by rw [List.zip_cons_cons, List.map_cons, a1], by rw [List.zip_cons_cons, List.map_cons, a2], fun b hb => ?_⟩
    rw [List.zip_cons_cons] at hb
    rcases List.mem_cons.mp hb with rfl | hb
    · exact ⟨c, rfl, h2⟩
    · exact a3 b hb
/-! a key that a name holds -/
theorem ev_dgetV {td : TE} {i : Nat} {ns : List Int} (hk : r[i]? = some (.t ns)) (h : Ev K td r m fun x m1 => ∃ p kvs z, x = .v (.ref p) ∧ Dat m1 p kvs ∧ getV kvs (kI ns) = some z ∧ Q z m1) : Ev K (tDGet td (tVar i)) r m Q :=
  ev_dget (h.imp fun x m1 ⟨p, kvs, z, hx, hd, hg, q⟩ => ⟨p, hx, ev_var hk (fun h => nomatch h) ⟨ns, kvs, z, rfl, hd, hg, q⟩⟩)
theorem ev_dget2V {td tx : TE} {i : Nat} {ns : List Int} (hk : r[i]? = some (.t ns)) (h : Ev K td r m fun x m1 => ∃ p kvs, x = .v (.ref p) ∧ Dat m1 p kvs ∧ Ev K tx r m1 fun z m3 => ∃ kvs', Dat m3 p kvs' ∧ Q ((getV kvs' (kI ns)).getD z) m3) : Ev K (tDGet2 td (tVar i) tx) r m Q :=
  ev_dget2 (h.imp fun x m1 ⟨p, kvs, hx, hd, h2⟩ => ⟨p, kvs, hx, hd, ev_var hk (fun h => nomatch h) ⟨ns, rfl, h2⟩⟩)
theorem w_dputV {td tv : TE} {i : Nat} {ns : List Int} (hk : r[i]? = some (.t ns)) (h : Ev K tv r m fun x m1 => Ev K td r m1 fun y m2 => ∃ p kvs, y = .v (.ref p) ∧ m2 p = some (.dT kvs) ∧ kvs.length < 100000 ∧ N r (put m2 p (.dT (putV kvs (kI ns) x)))) : Wp K (sDPut td (tVar i) tv) r m N E :=
  w_dput (h.imp fun x m1 h1 => h1.imp fun y m2 ⟨p, kvs, hy, hm, hl, q⟩ => ⟨p, hy, ev_var hk (fun h => nomatch h) ⟨ns, kvs, rfl, hm, hl, q⟩⟩)
end
end DL
namespace DL
open PySem L2
abbrev kn (ks : List Nat) : List Int := ks.map fun (k : Nat) => (k : Int)
theorem kn_inj {a b : List Nat} (h : kn a = kn b) : a = b := List.map_inj_right (fun _ _ e => by omega) |>.mp h
/-! fractions from nought on, bounded -/
structure QB (q : Rat) (d v : Nat) : Prop where
  nn : 0 ≤ q
  le : q ≤ (v : Rat)
  den : q.den ≤ 2 ^ d
theorem QB.mono {q : Rat} {d v d' v' : Nat} (h : QB q d v) (hd : d ≤ d') (hv : v ≤ v') : QB q d' v' :=
  ⟨h.nn, Rat.le_trans h.le (Rat.natCast_le_natCast.mpr hv), Nat.le_trans h.den (Nat.pow_le_pow_right (by decide) hd)⟩
theorem QB.frB {q : Rat} {d v e : Nat} (h : QB q d v) (hv : v < 2 ^ e) : FrB q (d + e + 1) := by
  have hden := den_pos q
  refine ⟨?_, ?_⟩
  · have h0 : 0 ≤ q.num := Rat.num_nonneg.mpr h.nn
    have h1 : q.num ≤ (v : Int) * (q.den : Int) := by
      have := (Rat.le_iff q ((v : Nat) : Rat)).mp h.le
      have e1 : ((v : Nat) : Rat).den = 1 := rfl
      have e2 : ((v : Nat) : Rat).num = (v : Int) := rfl
      rw [e1, e2] at this
      simpa using this
    have h2 : q.num.natAbs ≤ v * q.den := by
      have : ((q.num.natAbs : Nat) : Int) ≤ ((v * q.den : Nat) : Int) := by rw [Int.natAbs_of_nonneg h0, Int.natCast_mul]; exact h1
      omega
    show q.num.natAbs < 2 ^ (d + e + 1)
    have h3 : v * q.den ≤ 2 ^ e * 2 ^ d := Nat.mul_le_mul (by omega) h.den
    rw [← Nat.pow_add] at h3
    refine Nat.lt_of_le_of_lt (Nat.le_trans h2 h3) ?_
    exact Nat.pow_lt_pow_right (by decide) (by omega)
  · show ((q.den : Nat) : Int).natAbs < 2 ^ (d + e + 1)
    rw [Int.natAbs_natCast]
    exact Nat.lt_of_le_of_lt h.den (Nat.pow_lt_pow_right (by decide) (by omega))
theorem den_mk_le (t : Int) (b : Nat) (hb : 0 < b) : (mkRat t b).den ≤ b := by
  rw [Rat.den_mkRat, if_neg (by omega)]
  exact Nat.div_le_self _ _
theorem QB.add {p q : Rat} {a b u v : Nat} (h : QB p a u) (g : QB q b v) : QB (p + q) (a + b) (u + v) := by
  refine ⟨Rat.add_nonneg h.nn g.nn, ?_, ?_⟩
  · have h1 := h.le
    have h2 := g.le
    rw [Rat.natCast_add]
    grind
  · rw [Rat.add_def']
    refine Nat.le_trans (den_mk_le _ _ (Nat.mul_pos (den_pos p) (den_pos q))) ?_
    rw [Nat.pow_add]
    exact Nat.mul_le_mul h.den g.den
theorem QB.mulN {q : Rat} {d v : Nat} (h : QB q d v) (n : Nat) : QB (((n : Int) : Rat) * q) d (n * v) := by
  have hn : (0 : Rat) ≤ ((n : Nat) : Rat) := Rat.natCast_nonneg
  refine ⟨?_, ?_, ?_⟩
  · rw [Rat.intCast_natCast]; exact Rat.mul_nonneg hn h.nn
  · rw [Rat.intCast_natCast, Rat.natCast_mul]
    exact Rat.mul_le_mul_of_nonneg_left h.le hn
  · rw [Rat.mul_def']
    have e : (((n : Int) : Rat)).den = 1 := rfl
    rw [e, Nat.one_mul]
    exact Nat.le_trans (den_mk_le _ _ (den_pos q)) h.den
theorem QB.over {q : Rat} {d v : Nat} (h : QB q d v) {n e w : Nat} (h0 : 0 < n) (he : n ≤ 2 ^ e) (hv : v ≤ w * n) : QB (q * mkRat 1 n) (d + e) w := by
  have hn : ((n : Nat) : Rat) ≠ 0 := nat_ne h0
  have hn0 : (0 : Rat) < ((n : Nat) : Rat) := Rat.natCast_pos.mpr h0
  have e1 : mkRat 1 n = 1 / ((n : Nat) : Rat) := by rw [Rat.mkRat_eq_div]; rfl
  have hinv : (0 : Rat) ≤ mkRat 1 n := Rat.num_nonneg.mp (by rw [Rat.num_mkRat, if_neg (by omega)]; exact Int.ediv_nonneg (by decide) (Int.natCast_nonneg _))
  refine ⟨Rat.mul_nonneg h.nn hinv, ?_, ?_⟩
  · have h1 : q ≤ ((w : Nat) : Rat) * ((n : Nat) : Rat) := by
      rw [← Rat.natCast_mul]
      exact Rat.le_trans h.le (Rat.natCast_le_natCast.mpr hv)
    rw [e1]
    generalize ((n : Nat) : Rat) = N at *
    generalize ((w : Nat) : Rat) = W at *
    have h2 : q * (1 / N) * N ≤ W * N := by
      have : q * (1 / N) * N = q := by grind
      rw [this]; exact h1
    exact Rat.le_of_mul_le_mul_right h2 hn0
  · rw [Rat.mul_def']
    refine Nat.le_trans (den_mk_le _ _ (Nat.mul_pos (den_pos q) (den_pos _))) ?_
    rw [Nat.pow_add]
    exact Nat.mul_le_mul h.den (Nat.le_trans (den_mk_le 1 n h0) he)
theorem QB.nat (n : Nat) : QB ((n : Int) : Rat) 0 n := by
  refine ⟨?_, ?_, ?_⟩
  · rw [Rat.intCast_natCast]; exact Rat.natCast_nonneg
  · rw [Rat.intCast_natCast]; exact Rat.le_refl
  · exact Nat.le_refl 1
/-! the time paper -/
def dueAcc (ss : List Int) (P : List Nat → Rat) (s : List Nat) (l : List Nat) : Rat := l.foldl (fun acc k => acc + ((ss.getD k 0 : Int) : Rat) * P (s.filter fun x => !decide (x = k))) ((ss.sum : Int) : Rat)
def dueT (ss : List Int) (P : List Nat → Rat) (s : List Nat) : Rat := dueAcc ss P s s * mkRat 1 (sumP ss s).toNat
def timeF (ss : List Int) : Nat → List Nat → Rat
  | 0, _ => 0
  | n + 1, s => dueT ss (timeF ss n) s
def timeT (ss : List Int) (s : List Nat) : Rat := timeF ss s.length s
theorem without_len {s : List Nat} (hs : s.Pairwise (· < ·)) {k : Nat} (hk : k ∈ s) : (s.filter fun x => !decide (x = k)).length + 1 = s.length := by
  induction s with
  | nil => cases hk
  | cons a t ih =>
    obtain ⟨h1, h2⟩ := List.pairwise_cons.mp hs
    rcases List.mem_cons.mp hk with rfl | hk
    · rw [List.filter_cons, if_neg (by simp)]
      have : (t.filter fun x => !decide (x = k)) = t := List.filter_eq_self.mpr fun x hx => by have := h1 x hx; simp; omega
      rw [this]; rfl
    · have : a ≠ k := by have := h1 k hk; omega
      rw [List.filter_cons, if_pos (by simp [this]), List.length_cons, List.length_cons, ih h2 hk]
/-- bits of the paper's bottoms -/
def dB : Nat → Nat
  | 0 => 0
  | n + 1 => (n + 1) * dB n + 6
theorem sumP_pos {ss : List Int} (hs : Shares ss) {s : List Nat} (h0 : s ≠ []) (hk : ∀ k ∈ s, k < ss.length) : 1 ≤ sumP ss s := by
  cases s with
  | nil => exact absurd rfl h0
  | cons k t =>
    have := sumP_nonneg hs t
    rw [sumP_cons]
    have : 1 ≤ ss.getD k 0 := by
      rw [List.getD_eq_getElem?_getD, List.getElem?_eq_getElem (hk k (by simp))]
      exact (hs.each _ (List.getElem_mem _)).1
    omega
theorem kinds_without {n : Nat} {s : List Nat} (h : Kinds n s) (k : Nat) : Kinds n (s.filter fun x => !decide (x = k)) := ⟨h.up.filter _, fun x hx => h.lt x (List.mem_filter.mp hx).1⟩
theorem dB_le {n : Nat} (h : n ≤ 5) : dB n ≤ 1236 := by
  have : n = 0 ∨ n = 1 ∨ n = 2 ∨ n = 3 ∨ n = 4 ∨ n = 5 := by omega
  rcases this with rfl | rfl | rfl | rfl | rfl | rfl <;> decide
end DL
namespace DL
open PySem L2
theorem allS_nodup : ∀ n : Fin 6, (allS n).Nodup := by decide +kernel
theorem allS_kinds {n : Nat} {s : List Nat} (h : s ∈ allS n) : Kinds n s := ⟨allSup n s h, fun k hk => (allS_mem n s h).2 k hk⟩
  where allSup : ∀ n, ∀ s ∈ allS n, s.Pairwise (· < ·)
  | 0, s, h => by
    have : s = [] := by simpa [allS] using h
    subst this; exact List.Pairwise.nil
  | n + 1, s, h => by
    rw [allS] at h
    rcases List.mem_append.mp h with h | h
    · exact allSup n s h
    · obtain ⟨t, ht, rfl⟩ := List.mem_map.mp h
      exact List.pairwise_append.mpr ⟨allSup n t ht, List.pairwise_singleton .., fun x hx y hy => by rw [List.mem_singleton.mp hy]; exact (allS_mem n t ht).2 x hx⟩
/-! tables -/
def tabT (f : List Nat → Rat) (l : List (List Nat)) : List (List Key × Val) := l.map fun s => (kI (kn s), .d (frac (f s)))
theorem getV_tab {f : List Nat → Rat} {s : List Nat} : ∀ {l : List (List Nat)}, s ∈ l → getV (tabT f l) (kI (kn s)) = some (.d (frac (f s)))
  | [], h => nomatch h
  | a :: l, h => by
    unfold tabT
    rw [List.map_cons]
    by_cases e : a = s
    · subst e
      simp [getV, List.find?_cons]
    · have e2 : ¬ kI (kn a) = kI (kn s) := fun z => e (kn_inj (kI_inj z))
      have h2 : s ∈ l := by
        rcases List.mem_cons.mp h with h | h
        · exact absurd h.symm e
        · exact h
      have := getV_tab (f := f) h2
      unfold tabT at this
      simp only [getV, List.find?_cons, e2, decide_false] at this ⊢
      exact this
theorem putV_tab {f : List Nat → Rat} {s : List Nat} {l : List (List Nat)} (h : s ∉ l) : putV (tabT f l) (kI (kn s)) (.d (frac (f s))) = tabT f (l ++ [s]) := by
  rw [putV_new]
  · unfold tabT
    rw [List.map_append]; rfl
  · intro p hp e
    obtain ⟨a, ha, rfl⟩ := List.mem_map.mp hp
    exact h (kn_inj (kI_inj e) ▸ ha)
theorem tab_len (f : List Nat → Rat) (l : List (List Nat)) : (tabT f l).length = l.length := List.length_map ..
def noNil (s : List Nat) : Bool := !decide (s = [])
end DL
namespace DL
open PySem L2 PyProof.Rows
end DL
namespace DL
open PySem L2
/-! bounds -/
/-! the turns -/
def addF (G : List Nat → Int) (p : List Nat × Int) : List Nat → Int := fun u => if u = p.1 then G u + p.2 else G u
/-! tables of whole numbers -/
def tabI (G : List Nat → Int) (l : List (List Nat)) : List (List Int × Val) := l.map fun s => (kn s, .d (.int (G s)))
def insL (l : List (List Nat)) (t : List Nat) : List (List Nat) := if t ∈ l then l else l ++ [t]
abbrev dI (kvs : List (List Int × Val)) : List (List Key × Val) := kvs.map fun kv => (kI kv.1, kv.2)
theorem getV_tabI {G : List Nat → Int} {l : List (List Nat)} (h0 : ∀ s, s ∉ l → G s = 0) (t : List Nat) : (getV (dI (tabI G l)) (kI (kn t))).getD (.d (.int 0)) = .d (.int (G t)) := by
  induction l with
  | nil => rw [h0 t (by simp)]; rfl
  | cons a l ih =>
    by_cases e : a = t
    · subst e
      simp [dI, tabI, getV, List.find?_cons]
    · have e2 : ¬ kI (kn a) = kI (kn t) := fun z => e (kn_inj (kI_inj z))
      have : getV (dI (tabI G (a :: l))) (kI (kn t)) = getV (dI (tabI G l)) (kI (kn t)) := by simp [dI, tabI, getV, List.find?_cons, e2]
      rw [this]
      by_cases hG : ∀ s, s ∉ l → G s = 0
      · exact ih hG
      · -- t itself
        by_cases ht : t ∈ l
        · have : ∀ (l : List (List Nat)), t ∈ l → getV (dI (tabI G l)) (kI (kn t)) = some (.d (.int (G t))) := by
            intro l
            induction l with
            | nil => intro h; cases h
            | cons b l ih2 =>
              intro h
              by_cases e3 : b = t
              · subst e3; simp [dI, tabI, getV, List.find?_cons]
              · have e4 : ¬ kI (kn b) = kI (kn t) := fun z => e3 (kn_inj (kI_inj z))
                have h5 : t ∈ l := by
                  rcases List.mem_cons.mp h with h | h
                  · exact absurd h.symm e3
                  · exact h
                have : getV (dI (tabI G (b :: l))) (kI (kn t)) = getV (dI (tabI G l)) (kI (kn t)) := by simp [dI, tabI, getV, List.find?_cons, e4]
                rw [this]; exact ih2 h5
          rw [this l ht]; rfl
        · have hz : G t = 0 := h0 t (by
            intro h
            rcases List.mem_cons.mp h with h | h
            · exact e h.symm
            · exact ht h)
          have : ∀ (l : List (List Nat)), t ∉ l → getV (dI (tabI G l)) (kI (kn t)) = none := by
            intro l
            induction l with
            | nil => intro _; rfl
            | cons b l ih2 =>
              intro h
              have e3 : b ≠ t := fun z => h (z ▸ List.mem_cons_self ..)
              have e4 : ¬ kI (kn b) = kI (kn t) := fun z => e3 (kn_inj (kI_inj z))
              have : getV (dI (tabI G (b :: l))) (kI (kn t)) = getV (dI (tabI G l)) (kI (kn t)) := by simp [dI, tabI, getV, List.find?_cons, e4]
              rw [this]; exact ih2 fun hm => h (List.mem_cons_of_mem _ hm)
          rw [this l ht, hz]; rfl
theorem getV_tabI_mem {G : List Nat → Int} {t : List Nat} : ∀ {l : List (List Nat)}, t ∈ l → getV (dI (tabI G l)) (kI (kn t)) = some (.d (.int (G t)))
  | [], h => nomatch h
  | b :: l, h => by
    by_cases e3 : b = t
    · subst e3; simp [dI, tabI, getV, List.find?_cons]
    · have e4 : ¬ kI (kn b) = kI (kn t) := fun z => e3 (kn_inj (kI_inj z))
      have h5 : t ∈ l := by
        rcases List.mem_cons.mp h with h | h
        · exact absurd h.symm e3
        · exact h
      have : getV (dI (tabI G (b :: l))) (kI (kn t)) = getV (dI (tabI G l)) (kI (kn t)) := by simp [dI, tabI, getV, List.find?_cons, e4]
      rw [this]; exact getV_tabI_mem h5
theorem putV_tabI {G : List Nat → Int} {l : List (List Nat)} (t : List Nat) (x : Int) : putV (dI (tabI G l)) (kI (kn t)) (.d (.int (G t + x))) = dI (tabI (addF G (t, x)) (insL l t)) := by
  unfold insL
  by_cases h : t ∈ l
  · rw [if_pos h]
    unfold putV
    have hany : ((dI (tabI G l)).any fun kv => decide (kv.1 = kI (kn t))) = true := List.any_eq_true.mpr ⟨(kI (kn t), Val.d (.int (G t))), List.mem_map.mpr ⟨(kn t, Val.d (.int (G t))), List.mem_map.mpr ⟨t, h, rfl⟩, rfl⟩, by simp⟩
    rw [if_pos hany]
    unfold dI tabI
    rw [List.map_map, List.map_map, List.map_map]
    refine List.map_congr_left fun s _ => ?_
    show (if kI (kn s) = kI (kn t) then (kI (kn s), Val.d (.int (G t + x))) else (kI (kn s), Val.d (.int (G s)))) = (kI (kn s), Val.d (.int (addF G (t, x) s)))
    by_cases e : s = t
    · subst e; simp [addF]
    · have e2 : ¬ kI (kn s) = kI (kn t) := fun z => e (kn_inj (kI_inj z))
      simp [addF, e, e2]
  · rw [if_neg h, putV_new]
    · unfold dI tabI
      rw [List.map_append, List.map_append]
      have e1 : l.map (fun s => (kn s, Val.d (.int (addF G (t, x) s)))) = l.map fun s => (kn s, Val.d (.int (G s))) := List.map_congr_left fun s hs => by
        have : s ≠ t := fun e => h (e ▸ hs)
        simp [addF, this]
      rw [e1]
      simp [addF]
    · intro p hp e
      obtain ⟨q, hq, rfl⟩ := List.mem_map.mp hp
      obtain ⟨s, hs, rfl⟩ := List.mem_map.mp hq
      exact h (kn_inj (kI_inj e) ▸ hs)
structure TabOk (n : Nat) (G : List Nat → Int) (l : List (List Nat)) : Prop where
  nd : l.Nodup
  sub : ∀ s ∈ l, s ∈ allS n
  off : ∀ s, s ∉ l → G s = 0
theorem TabOk.add {n : Nat} {G : List Nat → Int} {l : List (List Nat)} (h : TabOk n G l) {t : List Nat} (ht : t ∈ allS n) (x : Int) : TabOk n (addF G (t, x)) (insL l t) := by
  unfold insL
  by_cases hm : t ∈ l
  · rw [if_pos hm]
    refine ⟨h.nd, h.sub, fun s hs => ?_⟩
    have : s ≠ t := fun e => hs (e ▸ hm)
    simp [addF, this, h.off s hs]
  · rw [if_neg hm]
    refine ⟨List.nodup_append.mpr ⟨h.nd, List.pairwise_singleton .., fun a ha b hb => by rw [List.mem_singleton.mp hb]; exact fun e => hm (e ▸ ha)⟩, fun s hs => ?_, fun s hs => ?_⟩
    · rcases List.mem_append.mp hs with hs | hs
      · exact h.sub s hs
      · rw [List.mem_singleton.mp hs]; exact ht
    · have h1 : s ∉ l := fun z => hs (List.mem_append_left _ z)
      have h2 : s ≠ t := fun e => hs (List.mem_append_right _ (by rw [e]; simp))
      simp [addF, h2, h.off s h1]
theorem TabOk.len {n : Nat} {G : List Nat → Int} {l : List (List Nat)} (h : TabOk n G l) (hn : n ≤ 5) : l.length ≤ 32 := by
  have h1 : l.Perm ((allS n).filter fun s => decide (s ∈ l)) := (List.perm_ext_iff_of_nodup h.nd ((allS_nodup ⟨n, by omega⟩).filter _)).mpr fun s => by
    rw [List.mem_filter]
    constructor
    · intro z; exact ⟨h.sub s z, decide_eq_true z⟩
    · intro z; exact of_decide_eq_true z.2
  have h2 := h1.length_eq
  have h3 := List.length_filter_le (fun s => decide (s ∈ l)) (allS n)
  have h4 := allS_len n
  have h5 : 2 ^ n ≤ 2 ^ 5 := Nat.pow_le_pow_right (by decide) hn
  omega
/-! words -/
section
variable {K : PySem.W.Frag} {r : List Val} {m : Mm} {N : List Val → Mm → Prop} {E : Val → Mm → Prop} {t : TS}
/-- less told of what may change -/
theorem w_less {m' : Mm} (hl : ∀ a o, m' a = some o → m a = some o) (h : Wp K t r m' N E) : Wp K t r m N E := fun σ H G D S L a b => h σ H G D (S.less hl) L a b
end
theorem tot_pow {ss : List Int} (hs : Shares ss) (n : Nat) : ss.sum ^ n = ((ss.sum.toNat ^ n : Nat) : Int) := by
  have := shares_sum hs
  have e : ss.sum = ((ss.sum.toNat : Nat) : Int) := by omega
  rw [Int.natCast_pow, ← e]
end DL
namespace DL
open PySem L2
/-! all together -/
end DL
namespace DL
open PySem L2
end DL
namespace DL
open PySem L2
end DL
/-! enumerate over a tuple -/
namespace DL
open PySem L2
def etObj (i : Addr) : Obj := { cls := .type "enumerate", data := .fields #[.none, .bool false, .ref i, rawInt 0, .none, .none] }
def etIt (t : Addr) : Obj := { cls := .type "tuple_iterator", data := .fields #[.ref t, .int 0 0] }
theorem et_new (t : Addr) (its : Array Value) : Meets (Builtin.«enumerate.__new__» ⟨[.type "enumerate", .ref t], []⟩) (fun _ R s =>
    s.heap.IsTuple t its ∧ R (.ok (.ret (.ref (s.heap.push (etIt t)).objs.size))) { s with heap := (s.heap.push (etIt t)).push (etObj s.heap.objs.size) }) :=
  .of_wp fun prog w A R s hh => by
    obtain ⟨hT, fin⟩ := hh
    obtain ⟨h0, g0, d0, k0, o0⟩ := s
    have sub := sub_enumerate
    have step : ∀ {B : Around} {E : Value → Shared → Prop} {Q : Value → Shared → Prop}, Q (.ref h0.objs.size) ⟨h0.push (etIt t), g0, d0, k0, o0⟩ →
        wpAny (model prog w) B (pyIter (.ref t)) Q E ⟨h0, g0, d0, k0, o0⟩ := fun q => (begins_tuple t its).iter prog w _ _ ⟨h0, g0, d0, k0, o0⟩ _ hT q
    wp_walk using step
    refine wpAny_stack_any fun z => wpAny_pure ?_
    split
    next c _ _ _ _ _ => cases (c == Value.type "enumerate") <;> (wp_walk using step; exact ⟨_, rfl, fin⟩)
    next => wp_walk using step; exact ⟨_, rfl, fin⟩
theorem et_call {prog : Program} {w : World} {A : Around} {E : Value → Shared → Prop} {s : Shared} {t : Addr} {its : Array Value} {Q : Value → Shared → Prop} (hT : s.heap.IsTuple t its)
    (q : Q (.ref (s.heap.objs.size + 1)) { s with heap := (s.heap.push (etIt t)).push (etObj s.heap.objs.size) }) : wpAny (model prog w) A (call (.type "enumerate") [.ref t]) Q E s := by
  have hz : (s.heap.push (etIt t)).objs.size = s.heap.objs.size + 1 := Heap.size_push ..
  have hg : ((s.heap.push (etIt t)).push (etObj s.heap.objs.size)).get? (s.heap.push (etIt t)).objs.size = some (etObj s.heap.objs.size) := Heap.get?_push_size _ rfl
  rw [← hz] at q
  exact callType_new F.called_enumerate (by decide) (F.typeCall_enumerate_1 _) (F.newCall_enumerate_1 _) (fun o => F.args_object_init_2 o _) F.entry_enumerate_new (et_new t its) ⟨hT, ⟨_, hg, rfl⟩, q⟩
/-- pairs of place and item -/
def ItEt (K : PySem.W.Frag) (a : Addr) (xs : List V) : It where
  go := fun i H => SqT K H a xs ∧ i < xs.length
  yld := fun i H v H' => ∃ T x, v = .ref T ∧ H T = none ∧ H' = upd H T (.tup [.int (i : Nat), x]) ∧ xs[i]? = some x
  stop := fun i H => SqT K H a xs ∧ xs.length ≤ i
theorem et_turn {P : Program} {w : World} {K : PySem.W.Frag} {elts : List Expr} {kk : Nat} {tpos : Pos} (a e it : Addr) (hne : e ≠ it) (hae : a ≠ e) (hai : a ≠ it) (xs : List V) :
    Turn P w K (.Tuple elts kk tpos) (ItEt K a xs) [e, it] e (fun i h => (∃ old, IsEnum h e it ((i : Nat) : Int) old) ∧ h.IsTupleIter it a i ∧ i ≤ xs.length) where
  mem := List.mem_cons_self
  obj := fun i h st b hb => by
    obtain ⟨⟨old, he⟩, ⟨o, ho, _, hd⟩, _⟩ := st
    rcases List.mem_cons.mp hb with rfl | hb
    · exact ⟨_, he, fun v q => nomatch q⟩
    · obtain rfl := List.mem_singleton.mp hb
      exact ⟨o, ho, fun v q => by rw [hd] at q; cases q⟩
  keep := fun i h h' st k => by
    obtain ⟨⟨old, he⟩, hi, hn⟩ := st
    exact ⟨⟨old, k e List.mem_cons_self _ he⟩, hi.at fun o q => k it (List.mem_cons_of_mem _ List.mem_cons_self) o q, hn⟩
  item := by
    rintro X rfl rfl rfl hc i pins s σ H E I hf ⟨⟨old, he⟩, hit, hn⟩ ⟨hq, hlt⟩
    obtain ⟨its, rv, p, _⟩ := I.tuple hq
    have hsz : its.toArray.size = xs.length := by have := rv.length; simpa using this.symm
    have D : Draws X.prog X.w X.A.in1 it [it, a] its.toArray.size (fun i v => its.toArray[i]? = some v) (fun i h => h.IsTupleIter it a i ∧ h.IsTuple a its.toArray) := .tuple (show X.A.in1.handled = none from I.ok.hd hc) it a hai its.toArray
    have hel : e < s.heap.objs.size := Heap.lt_size he
    have hil : it < s.heap.objs.size := by obtain ⟨_, q, _⟩ := hit; exact Heap.lt_size q
    refine wpAny_pyNext_enum_itemD D he ⟨hit, p⟩ (by rw [hsz]; exact hlt) hne (by simp [hne, Ne.symm hae]) fun u h' tk hu ho st' hT _ hk => ?_
    refine ⟨_, rfl, wpAny_letOwnedTupleGo_enum (s := { s with heap := h', toks := tk + 1 }) ho fun h2 he' sb => ?_⟩
    have hx : ∃ x, xs[i]? = some x := ⟨xs[i], by simp [hlt]⟩
    obtain ⟨x, hx⟩ := hx
    obtain ⟨u', hu', ru⟩ := rv.get hx
    have eu : u' = u := by
      have h1 : its[i]? = some u := by simpa using hu
      rw [h1] at hu'; exact (Option.some.inj hu').symm
    subst eu
    have hT2 := (sb.2 _ (Nat.ne_of_gt hel)).trans hT
    have new : ObjOk X.prog X.w (upd H s.heap.objs.size (.tup [.int (i : Nat), x])) h2 s.heap.objs.size (.tup [.int (i : Nat), x]) :=
      ⟨by show 2 ≤ sizeLine; decide, _, .cons ⟨tk, rfl⟩ (.cons ru .nil), ⟨_, hT2, rfl, _, rfl⟩⟩
    have I1 := I.turnedNew (t' := tk + 1) (h' := h2) (ch := [e, it]) (fun b ob hb q => (sb.2 b (fun z => hb (by simp [z]))).trans (hk b ob (fun z => hb (by simp [z])) (fun z => hb (by simp [z])) q)) hf (Nat.le_refl _) new
    refine ⟨.ref s.heap.objs.size, _, I1, rfl, ⟨_, x, rfl, I.hok.fresh (Nat.le_refl _), rfl, hx⟩, ⟨⟨u', ?_⟩, st'.1.at fun o q => (sb.2 it (Ne.symm hne)).trans q, hlt⟩, fun b hb => ?_⟩
    · rw [show ((i + 1 : Nat) : Int) = (i : Int) + 1 by omega]; exact he'
    · have hlt : b < s.heap.objs.size := by
        rcases List.mem_cons.mp hb with rfl | hb
        · exact hel
        · obtain rfl := List.mem_singleton.mp hb; exact hil
      rw [upd_ne (Nat.ne_of_lt hlt)]; exact (hf b hb).1
  done := by
    rintro X rfl rfl rfl hc i pins s σ H E I hf ⟨⟨old, he⟩, hit, hn⟩ ⟨hq, hge⟩
    obtain ⟨its, rv, p, _⟩ := I.tuple hq
    have hsz : its.toArray.size = xs.length := by have := rv.length; simpa using this.symm
    have D : Draws X.prog X.w X.A.in1 it [it, a] its.toArray.size (fun i v => its.toArray[i]? = some v) (fun i h => h.IsTupleIter it a i ∧ h.IsTuple a its.toArray) := .tuple (show X.A.in1.handled = none from I.ok.hd hc) it a hai its.toArray
    have ei : i = its.toArray.size := by rw [hsz]; omega
    obtain ⟨f0, f1, f2, f3, f4, f5⟩ := hf it (by simp)
    exact wpAny_pyNext_enum_endD D he (by rw [← ei]; exact ⟨hit, p⟩) fun h' eb => ⟨rfl, I.turned (t' := s.toks) (fun b o hb q => eb b o hb q) f0 f1 f3 f4 f5⟩
  self := fun A i s Q E st h => let ⟨⟨_, he⟩, _⟩ := st; wpAny_pyIter_enum he h
def iEnumT (K : PySem.W.Frag) (ta : TA) : TI := fun σ H R => ta σ H fun vs H1 => ∃ a xs, vs = [.ref a] ∧ SqT K H1 a xs ∧ R (ItEt K a xs) H1
theorem pi_enumT {X : Cx} {e : Expr} {ta : TA} {p pos tpos : Pos} {elts : List Expr} {kk : Nat} (K : PySem.W.Frag) (hg : Gl X "enumerate") (hm : X.mg "enumerate" = none) (ha : PA X [e] ta) (hK : X.K = K := by rfl) (hs : starEach [e] X.env = [(false, eval e X.env)] := by rfl) :
    PI X (.Tuple elts kk tpos) (.Call (.Name "enumerate" p) [e] [] pos) (iEnumT K ta) := by
  subst hK
  refine ⟨fun pins s σ H R I h => ?_⟩
  refine PyProof.Rows.Call_ (ld_blt I hg hm PyProof.Rows.boot_enumerate (PyProof.Rows.callWith_type1 (thn (ha.run pos pins s σ H _ I h) fun us s1 hh => ?_) hs rfl))
  obtain ⟨vs, H1, I1, r1, a, xs, rfl, hq, q⟩ := hh
  cases r1 with
  | cons r rr =>
    cases rr
    obtain rfl := (show _ = Value.ref a from r)
    obtain ⟨its, rv, pt, _⟩ := I1.tuple hq
    have hal : a < s1.heap.objs.size := by obtain ⟨_, z, _⟩ := pt; exact Heap.lt_size z
    have k2 : ∀ b o, s1.heap.get? b = some o → ((s1.heap.push (etIt a)).push (etObj s1.heap.objs.size)).get? b = some o := fun b o z => Heap.get?_push_of_some _ (Heap.get?_push_of_some _ z)
    have hz : (s1.heap.push (etIt a)).objs.size = s1.heap.objs.size + 1 := Heap.size_push ..
    have he : IsEnum ((s1.heap.push (etIt a)).push (etObj s1.heap.objs.size)) (s1.heap.objs.size + 1) s1.heap.objs.size 0 .none := by
      have z : ((s1.heap.push (etIt a)).push (etObj s1.heap.objs.size)).get? (s1.heap.push (etIt a)).objs.size = some (etObj s1.heap.objs.size) := Heap.get?_push_size _ rfl
      rw [hz] at z; exact z
    refine et_call pt (wpAny_pyIter_enum he ?_)
    refine ⟨s1.heap.objs.size + 1, [s1.heap.objs.size + 1, s1.heap.objs.size], _, _, H1, rfl, I1.kept (t' := s1.toks) k2, et_turn a (s1.heap.objs.size + 1) s1.heap.objs.size (Nat.succ_ne_self _) (Nat.ne_of_lt (Nat.lt_succ_of_lt hal)) (Nat.ne_of_lt hal) xs,
      ⟨⟨.none, he⟩, ⟨_, Heap.get?_push_of_some _ (Heap.get?_push_size _ rfl), rfl, rfl⟩, Nat.zero_le _⟩, fun b hb => ?_, q⟩
    have hle : s1.heap.objs.size ≤ b := by
      rcases List.mem_cons.mp hb with rfl | hb
      · omega
      · obtain rfl := List.mem_singleton.mp hb; exact Nat.le_refl _
    exact I1.fpOk hle (I1.hok.fresh hle)
theorem walk_enumT {K : PySem.W.Frag} {a : Addr} {xs : List V} : Walk (ItEt K a xs) xs.length (fun H => SqT K H a xs) (YPair (fun i => some (.int (i : Nat))) (fun i => xs[i]?)) :=
  ⟨fun _ _ hi q => ⟨q, hi⟩, fun _ q => ⟨q, Nat.le_refl _⟩, fun _ _ _ _ _ _ ⟨T, x, h1, h2, h3, h4⟩ => ⟨T, _, x, h1, h2, h3, rfl, h4⟩⟩
section
variable {K : PySem.W.Frag} {r : List Val} {m : Mm} {N : List Val → Mm → Prop} {E : Val → Mm → Prop} {t : TS}
theorem w_forEt {ta : TA} {j1 j2 : Nat} {α : Type} {xs : List α} {f : α → PyData} (h : EvA K ta r m fun ys m1 => ys = [.d (.tuple (xs.map f))] ∧ m1 = m) (W : Nat → List Val → Mm → Prop) (h0 : W 0 r m)
    (hs : ∀ (i : Nat) (x : α) r' m', xs[i]? = some x → W i r' m' → Wp K t ((r'.set j1 (.d (.int (i : Int)))).set j2 (.d (f x))) m' (W (i + 1)) E) (hd : ∀ r' m', W xs.length r' m' → N r' m') :
    Wp K (tFor (iEnumT K ta) (gTup K 2 (gCons (gName j1) (gCons (gName j2) gNil))) t) r m N E := fun σ H G D S L a b =>
  h σ H G S L _ fun vs H1 G1 ys m1 ⟨hx, hm⟩ S1 e1 r1 => by
    subst hx hm
    obtain ⟨v, rfl, rv⟩ := vrs1 r1
    obtain ⟨p, zs, rfl, hs1, hA⟩ := rp_tuple.mp rv.rp
    have hlen := hA.length
    rw [List.length_map] at hlen
    refine ⟨p, zs, rfl, S1.sqT hs1, for_it walk_enumT (fun i σ' H' => ∃ G' r' m', W i r' m' ∧ Sta K m' H' G' ∧ Le G1 G' ∧ Sl K G' r' σ') ⟨G1, r, _, h0, S1, Le.refl G1, L.mono e1⟩ ?_ ?_ ?_⟩
    · rintro i σ' H' hi ⟨G', r', m', _, S', e', _⟩
      exact S'.sqT (e'.sqT hs1)
    · rintro i x σ' H' H2 hi ⟨G', r', m', hw, S', e', L'⟩ ⟨T, x1, x2, rfl, hT, rfl, hx1, hx2⟩
      have hx1 : V.int (i : Int) = x1 := by simpa using hx1
      subst hx1
      obtain ⟨d, hd1, hd2⟩ := hA.get hx2
      obtain ⟨y, hy, rfl⟩ := map_at hd1
      have e2 : Le G' (upd G' T (.tup [.int (i : Int), x2])) := Le.new (S'.free hT)
      refine ⟨T, _, rfl, SqT.of upd_same, rfl, _, [x2], rfl, x2, [], rfl, rfl, ?_⟩
      exact hs i y r' m' hy hw _ _ (upd G' T (.tup [.int (i : Int), x2])) _ (S'.fix hT) (((L'.mono e2).set (r := .d (.int (i : Int))) vr_int j1).set (r := .d (f y)) (.d (Rp.mono (e'.trans e2) _ _ hd2)) j2)
        (fun σ3 H3 G3 r3 m3 h3 S3 e3 L3 => ⟨G3, r3, m3, h3, S3, e'.trans (e2.trans e3), L3⟩) (fun v H3 G3 x m3 n3 S3 e3 L3 => b v H3 G3 x m3 n3 S3 (e1.trans (e'.trans (e2.trans e3))) L3)
    · rintro σ' H' ⟨G', r', m', hw, S', e', L'⟩
      rw [hlen] at hw
      exact a σ' H' G' r' m' (hd r' m' hw) S' (e1.trans e') L'
end
end DL
/-! sum(d.values()) of a dict whose keys are tuples -/
namespace DL
open PySem L2
section
variable {K : PySem.W.Frag} {r : List Val} {m : Mm} {Q : Val → Mm → Prop} {te : TE}
theorem KVs.ints {G : Hp} {α : Type} : ∀ {kvs : List (α × Val)} {es : List (α × V)} {ns : List Int}, KVs K G kvs es → kvs.map (·.2) = ns.map (fun n => Val.d (.int n)) → es.map (·.2) = ns.map V.int
  | [], es, ns, h, e => by
    have h : es = [] := h
    subst h
    cases ns with
    | nil => rfl
    | cons _ _ => simp at e
  | (k, x) :: t, es, ns, h, e => by
    obtain ⟨v, u, rfl, h2, h3⟩ := h
    cases ns with
    | nil => simp at e
    | cons n ns =>
      rw [List.map_cons, List.map_cons] at e
      injection e with e1 e2
      rw [List.map_cons, List.map_cons, KVs.ints h3 e2]
      have e1 : x = .d (.int n) := e1
      subst e1
      rw [show v = .int n from int_of h2]
end
end DL
/-! no kind twice -/
namespace DL
open PySem L2
theorem knI_inj {a b : List Nat} (h : kI (kn a) = kI (kn b)) : a = b := by
  have h := kI_inj h
  unfold kn at h
  exact (List.map_inj_right (fun x y e => by omega)).mp h
end DL
/-! dict(list of pairs) with tuples as keys -/
namespace DL
open PySem L2
end DL
/-! some kinds, the fewer ahead: told number by number -/
namespace DL
open PySem L2
def ordX (n : Nat) : List (List Nat) := (List.range (n + 1)).flatMap fun k => (allS n).filter fun s => decide (s.length = k)
end DL
/-! in which share of the cases just some kinds are left at some time -/
namespace DL
open PySem L2
/-! bounds -/
def InD (q : Rat) (D : Nat) : Prop := ∃ z : Int, q * ((D : Nat) : Rat) = (z : Rat)
theorem InD.add {p q : Rat} {D : Nat} (h : InD p D) (g : InD q D) : InD (p + q) D := by
  obtain ⟨x, hx⟩ := h
  obtain ⟨y, hy⟩ := g
  exact ⟨x + y, by rw [Rat.add_mul, hx, hy, Rat.intCast_add]⟩
theorem InD.dvd {q : Rat} {D E : Nat} (h : InD q D) (d : D ∣ E) : InD q E := by
  obtain ⟨x, hx⟩ := h
  obtain ⟨c, rfl⟩ := d
  exact ⟨x * c, by rw [Rat.natCast_mul, ← Rat.mul_assoc, hx, Rat.intCast_mul, Rat.intCast_natCast]⟩
theorem InD.int (z : Int) (D : Nat) : InD (z : Rat) D := ⟨z * D, by rw [Rat.intCast_mul, Rat.intCast_natCast]⟩
theorem InD.frac {q : Rat} {D : Nat} (h : InD q D) (a : Int) {b : Nat} (hb : 0 < b) : InD (q * mkRat a b) (D * b) := by
  obtain ⟨x, hx⟩ := h
  refine ⟨x * a, ?_⟩
  have hn := nat_ne hb
  rw [Rat.mkRat_eq_div, Rat.natCast_mul, Rat.intCast_mul, ← hx]
  generalize ((b : Nat) : Rat) = B at *
  generalize ((D : Nat) : Rat) = E at *
  generalize (a : Rat) = A at *
  grind
theorem InD.sum {α : Type} {f : α → Rat} {D : Nat} : ∀ {l : List α}, (∀ x ∈ l, InD (f x) D) → InD (l.map f).sum D
  | [], _ => by have := InD.int 0 D; simpa using this
  | x :: l, h => by
    rw [List.map_cons, List.sum_cons]
    exact (h x List.mem_cons_self).add (InD.sum fun y hy => h y (List.mem_cons_of_mem _ hy))
theorem InD.den {q : Rat} {D : Nat} (h : InD q D) (h0 : 0 < D) : q.den ≤ D := by
  obtain ⟨z, hz⟩ := h
  have e : q = mkRat z D := by
    have hn := nat_ne h0
    rw [Rat.mkRat_eq_div, ← hz]
    generalize ((D : Nat) : Rat) = E at *
    grind
  rw [e]
  exact den_mk_le z D h0
theorem dvd_fold {α : Type} (f : α → Nat) : ∀ {l : List α} {x : α}, x ∈ l → f x ∣ l.foldr (fun s a => f s * a) 1
  | y :: l, x, h => by
    rw [List.foldr_cons]
    rcases List.mem_cons.mp h with rfl | h
    · exact Nat.dvd_mul_right _ _
    · exact Nat.dvd_trans (dvd_fold f h) (Nat.dvd_mul_left _ _)
theorem fold_le {α : Type} (f : α → Nat) : ∀ {l : List α}, (∀ x ∈ l, 0 < f x ∧ f x ≤ 64) → 0 < l.foldr (fun s a => f s * a) 1 ∧ l.foldr (fun s a => f s * a) 1 ≤ 2 ^ (6 * l.length)
  | [], _ => by simp
  | x :: l, h => by
    obtain ⟨h1, h2⟩ := fold_le f fun y hy => h y (List.mem_cons_of_mem _ hy)
    obtain ⟨g1, g2⟩ := h x List.mem_cons_self
    rw [List.foldr_cons, List.length_cons, Nat.mul_add, Nat.pow_add, Nat.mul_comm (2 ^ _)]
    exact ⟨Nat.mul_pos g1 h1, Nat.mul_le_mul g2 h2⟩
theorem sum_ok {ss : List Int} (hs : Shares ss) {s : List Nat} (h : s ∈ allS ss.length) (h0 : s ≠ []) : 0 < (sumP ss s).toNat ∧ (sumP ss s).toNat ≤ 64 ∧ ((sumP ss s).toNat : Int) = sumP ss s := by
  have hk := allS_kinds h
  have h1 := sumP_pos hs h0 hk.lt
  have h2 := sumP_le hs hk
  omega
structure ChB (q : Rat) (D v : Nat) : Prop where
  nn : 0 ≤ q
  le : q ≤ (v : Rat)
  ind : InD q D
theorem ch_mul {p q : Rat} {u v : Nat} (a : 0 ≤ p ∧ p ≤ (u : Rat)) (b : 0 ≤ q ∧ q ≤ (v : Rat)) : 0 ≤ p * q ∧ p * q ≤ ((u * v : Nat) : Rat) := by
  refine ⟨Rat.mul_nonneg a.1 b.1, ?_⟩
  rw [Rat.natCast_mul]
  exact Rat.le_trans (Rat.mul_le_mul_of_nonneg_right a.2 b.1) (Rat.mul_le_mul_of_nonneg_left b.2 (Rat.le_trans a.1 a.2))
theorem ch_sum {α : Type} {f : α → Rat} {v : Nat} : ∀ {l : List α}, (∀ x ∈ l, 0 ≤ f x ∧ f x ≤ (v : Rat)) → 0 ≤ (l.map f).sum ∧ (l.map f).sum ≤ ((l.length * v : Nat) : Rat)
  | [], _ => by simp [Rat.le_refl]
  | x :: l, h => by
    obtain ⟨h1, h2⟩ := ch_sum fun y hy => h y (List.mem_cons_of_mem _ hy)
    obtain ⟨g1, g2⟩ := h x List.mem_cons_self
    rw [List.map_cons, List.sum_cons, List.length_cons, Nat.succ_mul, Nat.add_comm, Rat.natCast_add]
    exact ⟨Rat.add_nonneg g1 h1, by grind⟩
theorem ChB.frB {q : Rat} {D v d e : Nat} (h : ChB q D v) (h0 : 0 < D) (hD : D ≤ 2 ^ d) (hv : v < 2 ^ e) : FrB q (d + e + 1) :=
  QB.frB ⟨h.nn, h.le, Nat.le_trans (h.ind.den h0) hD⟩ hv
end DL
/-! how long until so many kinds have come: by who is left, forth and back -/
namespace DL
open PySem L2
def updQ (f : List Nat → Rat) (t : List Nat) (v : Rat) : List Nat → Rat := fun u => if u = t then v else f u
/-! words -/
theorem putV_tabT {f : List Nat → Rat} {t : List Nat} {v : Rat} {l : List (List Nat)} (h : t ∈ l) : putV (tabT f l) (kI (kn t)) (.d (frac v)) = tabT (updQ f t v) l := by
  unfold putV
  rw [if_pos ?_]
  · unfold tabT
    rw [List.map_map]
    refine List.map_congr_left fun s _ => ?_
    show (if kI (kn s) = kI (kn t) then (kI (kn s), Val.d (frac v)) else (kI (kn s), .d (frac (f s)))) = (kI (kn s), Val.d (frac (updQ f t v s)))
    by_cases e : s = t
    · subst e; rw [if_pos rfl]; unfold updQ; rw [if_pos rfl]
    · rw [if_neg (fun z => e (knI_inj z))]; unfold updQ; rw [if_neg e]
  · rw [List.any_eq_true]
    exact ⟨_, List.mem_map.mpr ⟨t, h, rfl⟩, by simp⟩
end DL
/-! code that runs while an exception is handled: comprehensions over a range, defs that are handed the exception -/
namespace DL
open PySem L2 PySem.Spec PyProof.Rows L2H
end DL
/-! defs that are handed the exception that is handled; isinstance of it -/
namespace DL
open PySem L2 PySem.Spec PyProof.Rows L2H
structure FnP (P : Program) (w : World) (K : PySem.W.Frag) (mg : Str → Option Value) (base : Heap) (k : Nat) (f : Addr) (fd : FuncData) (ps : List Str) (sp : Addr → Value → Sp) : Prop where
  len : ∀ a c vs H Q E, sp a c vs H Q E → vs.length = ps.length
  run : ∀ (A : Around) (outer : List Env) (s : Shared) (H : Hp) (args : Args) (us : List Value) (vs : List V) (Q : VK) (E : XK) (p : Addr × Obj) (c : Value), RoomH k A → Hot1 A p → Zc c none p.2 → PinOk outer H s p →
    Env0 P w K mg base A outer s H → BindsTo s fd args (ps.zip us) → Vals vs us → sp p.1 c vs H Q E → codeAny (model P w) A (.call (.ref f) args) (CR CX0 outer P w H s Q E) s
section
variable {P : Program} {w : World} {K : PySem.W.Frag} {mg : Str → Option Value} {base : Heap}
theorem fnP_of {x qual : Str} {st : Stmt} {f : Addr} {fd : FuncData} {N ps : List Str} {k : Nat} {sp : Addr → Value → Sp} (F : Fun K x qual st f fd) (S : FnScope N ps (defScope st)) (len : ∀ a c vs H Q E, sp a c vs H Q E → vs.length = ps.length)
    (hbody : ∀ (cdv : Value) (A : Around) (outer : List Env) (s : Shared) (H : Hp) (vs : List V) (Q : VK) (E : XK) (p : Addr × Obj) (c : Value), Hot1 A p → Zc c none p.2 → RoomH k (A.deeper (envOfC qual (defScope st) s.heap.objs.size f cdv)) → sp p.1 c vs H Q E →
      ∃ t, PSs (cxH CX0 P w K mg base N qual (defScope st) f cdv A outer s H E p).nox (defBody st) t ∧ t { nx := fun _ H' => Q .non H', rt := Q } (L2.start N vs) H) : FnP P w K mg base (k + 1) f fd ps sp := by
  obtain ⟨oc, od, kV, doc, pm, an, cdv, ct, osl, rfl, lk, hcd⟩ := F.ex
  refine ⟨len, fun A outer s H args us vs Q E p c hr hot hz hpin e0 hb r hsp => ?_⟩
  have here : ∀ b o, base.get? b = some o → s.heap.get? b = some o := fun b o e => (e0.bs b o e).1
  have KX : K.In s.heap := e0.mod.kin.keeps here
  have par : ∀ y ∈ ps.zip us, (defScope st).names.lookup y.1 = some .local ∨ ((defScope st).names.lookup y.1 = some .cell ∧ ((cellsFrom (s.heap.objs.size + 1) (defScope st).names []).lookup y.1).isSome = true) := fun y hy =>
    (S.par y.1 (List.of_mem_zip (a := y.1) (b := y.2) hy).1).imp id fun q => ⟨q, PySem.W.cellsFrom_some _ _ _ (.inl q)⟩
  refine codeAny_call_function hr.depth (KX _ _ lk) rfl S.co S.gen rfl (PySem.W.codeRec_of KX hcd) (hb _ _ _ _ (wpAny_newFunctionEnv_cells S.kind par fun env he s1 x => ?_))
  subst he
  obtain ⟨t, ht, hq⟩ := hbody cdv A outer s H vs Q E p c hot hz (hr.deeper _) hsp
  have I : Inv (cxH CX0 P w K mg base N qual (defScope st) f cdv A outer s H E p) [] (L2.start N vs) H s1 := inv_startH S hpin e0 (len _ _ _ _ _ _ hsp) r x
  refine ⟨(e0.mod.nolimit.keeps here).keeps x.toInCall.keep, codeAny_func (wpAny_mono (ht.nox.run [] s1 (L2.start N vs) H _ I hq) (fun fl s' hs => ?_) fun e s' hs => hs)⟩
  cases fl with
  | ret u =>
    obtain ⟨v, σ', H', J, rv, q⟩ := hs
    exact ⟨v, H', J.os, J.bare, J.base, J.hok, rv, q⟩
  | next =>
    obtain ⟨σ', H', J, q⟩ := hs
    exact ⟨.non, H', J.os, J.bare, J.base, J.hok, rfl, q⟩
  | brk =>
    obtain ⟨_, _, _, q⟩ := hs
    exact q.elim
  | cont =>
    obtain ⟨_, _, _, q⟩ := hs
    exact q.elim
end
/-- the exception that is handled, seen in a context: where it stands and its class -/
def Sees (X : Cx) (a : Addr) (c : Value) : Prop := ∃ oe : Obj, (a, oe) ∈ X.pn ∧ Hot1 X.A (a, oe) ∧ Zc c none oe
section
variable {X : Cx} {k : Nat} {f : Addr} {fd : FuncData} {ps : List Str} {sp : Addr → Value → Sp} {x : Str} {q pos : Pos} {e : Expr} {es : List Expr} {t : TA} {a : Addr} {c : Value}
theorem pe_callP (F : FnP X.prog X.w X.K X.mg X.base k f fd ps sp) (hr : RoomH k X.A) (hc : Sees X a c) (hg : Gl X x) (hm : X.mg x = some (.ref f)) (hk : PySem.W.keepIn X.K (.ref f) = true) (hb : Binds X.K fd ps [])
    (ha : PA X (e :: es) t) (hdb : (x == ("__debug__" : Str)) = false := by decide) (he : starEach (e :: es) X.env = (false, eval e X.env) :: starEach es X.env := by rfl) (hpl : (backTo pos (starEach es X.env)).any (·.1) = false := by rfl) :
    PE X (.Call (.Name x q) (e :: es) [] pos) (tCall (sp a c) [] E0 t) := by
  refine ⟨fun pins s σ H Q I h => ?_⟩
  refine wpAny_Call_Name_kw (ld_glob I hg hm ?_ hdb)
  refine PySem.W.callWith_K (h₀ := X.base) I.ok.mod.kin hk (thn (ha.run pos pins s σ H _ I h) fun us s1 hh => ?_) he hpl
  obtain ⟨vs, H1, I1, r, hsp⟩ := hh
  refine ⟨I1.kIn, ?_⟩
  rw [List.append_nil] at hsp
  obtain ⟨oe, hp, hot, hz⟩ := hc
  have hl : us.length = ps.length := by rw [← r.length]; exact F.len _ _ _ _ _ _ hsp
  have b := hb s1 us I1.kIn (by rw [List.append_nil]; exact hl)
  rw [List.append_nil] at b
  obtain ⟨p1, p2, p3, p4, p5⟩ := I1.pin (a, oe) (List.mem_append_left _ hp)
  have pin : PinOk X.stack H1 s1 (a, oe) := ⟨p1, p2, fun z => (List.mem_cons.mp (I1.stkSub a z)).elim p3 p4, p5⟩
  refine wpAny_call (codeAny_mono (F.run X.A X.stack s1 H1 ⟨us, []⟩ us vs Q E0 (a, oe) c hr hot hz pin I1.env0 b r hsp) fun r s' hq => ?_)
  cases r with
  | error e => exact (pass0 pins σ H1 s1 e s' I1 hq)
  | ok fl =>
    cases fl with
    | ret u => exact I1.after hq
    | next => exact hq.elim
    | brk => exact hq.elim
    | cont => exact hq.elim
theorem call_isP {D : Addr} (hc : Sees X a (.ref D)) (C : ExcC X.K D) : CallR X (.builtin "isinstance") (rIsE X.K D a) := by
  rintro pins s σ H xs us Q I r ⟨y, cv, b, rfl, hcv, e, qq⟩
  obtain ⟨oe, hp, ⟨_, vs, hv, _⟩, hz⟩ := hc
  cases r with
  | cons rx rr =>
    cases rr with
    | cons rt rr =>
      cases rr
      cases rx
      obtain rfl := hcv _ rt
      have hget := (I.pin (a, oe) (List.mem_append_left _ hp)).1
      have J : PySem.W.InstAt s.heap a oe D none := by
        obtain ⟨oc, od, oda, osl⟩ := oe
        obtain ⟨h1, h2⟩ := hz
        dsimp only at h1 h2 hv
        subst h1 h2 hv
        exact ⟨hget, rfl, rfl, trivial⟩
      exact PySem.W.kia_one (PySem.W.handS_kitx_exc C.hg C.hk C.hs C.hd C.ha C.hn C.ht C.hm) I.kIn J e (fun z => nomatch z) fun tk => ⟨.bl b, H, I.kept (t' := tk) fun _ _ z => z, rfl, qq⟩
theorem kIsP (K : PySem.W.Frag) {D : Addr} (hc : Sees X a (.ref D)) (C : ExcC K D) (h : X.K = K := by rfl) : CallR X (.builtin "isinstance") (rIsE K D a) := by
  subst h; exact call_isP hc C
end
/-! at the level of data -/
def spP (K : PySem.W.Frag) (ok : Addr → Prop) (f : Addr → Addr → FSp) : Addr → Value → Sp := fun a c vs H Q E => ∃ D, c = .ref D ∧ ok D ∧ spD K (f a D) vs H Q E
section
variable {K : PySem.W.Frag} {m : Mm} {r : List Val} {Q : Val → Mm → Prop}
theorem on_isE {D a : Addr} {c : V} {cv : Value} {b : Bool} (hc : ∀ u, RelV c u → u = cv) (hk : PySem.W.kitOne K (.ref D) cv = some b) (q : Q (.d (.bool b)) m) : OpN K (rIsE K D a) [.v (.ref a), .v c] m Q := fun H G vs S x R k => by
  obtain ⟨v, w, rfl, h1, h2⟩ := vrs2 x
  obtain rfl := h1.eq
  obtain rfl := h2.eq
  exact ⟨_, cv, b, rfl, hc, hk, k _ H G _ m q S (Le.refl G) vr_bool⟩
theorem relV_ref {C : Addr} : ∀ u, RelV (.ref C) u → u = .ref C := fun u h => h
theorem relV_ty {T : String} : ∀ u, RelV (.ty T) u → u = .type T := fun u h => h
theorem ev_callP {ok : Addr → Prop} {f : Addr → Addr → FSp} {a D : Addr} {t : TA} {E : XK} (hD : ok D) (h : EvA K t r m fun xs m1 => f a D xs m1 Q) : Ev K (tCall (spP K ok f a (.ref D)) [] E t) r m Q := fun σ H G S L R k =>
  h σ H G S L _ fun vs H1 G1 xs m1 h1 S1 e1 r1 => by
    rw [List.append_nil]
    exact ⟨D, rfl, hD, m1, G1, xs, Q, S1, r1, h1, fun v' H3 G3 z m3 h3 S3 e3 r3 => k v' H3 G3 z m3 h3 S3 (e1.trans e3) r3⟩
end
section
variable {P : Program} {w : World} {K : PySem.W.Frag} {mg : Str → Option Value} {base : Heap}
structure ClP (P : Program) (w : World) (K : PySem.W.Frag) (mg : Str → Option Value) (base : Heap) (k : Nat) (x : Str) (ok : Addr → Prop) (sp : Addr → Addr → FSp) : Prop where
  ex : ∃ f fd ps, FnP P w K mg base k f fd ps (spP K ok sp) ∧ mg x = some (.ref f) ∧ PySem.W.keepIn K (.ref f) = true ∧ Binds K fd ps []
theorem pe_clP {X : Cx} {k j : Nat} {x : Str} {ok : Addr → Prop} {sp : Addr → Addr → FSp} {e : Expr} {es : List Expr} {t : TA} {p pos : Pos} {a : Addr} {c : Value} (cl : ClP P w K mg base k x ok sp) (hr : RoomH j X.A) (hk : k ≤ j) (hc : Sees X a c) (hg : Gl X x) (ha : PA X (e :: es) t)
    (hP : X.prog = P := by rfl) (hw : X.w = w := by rfl) (hK : X.K = K := by rfl) (hmg : X.mg = mg := by rfl) (hbs : X.base = base := by rfl) (hdb : (x == ("__debug__" : Str)) = false := by decide)
    (he : starEach (e :: es) X.env = (false, eval e X.env) :: starEach es X.env := by rfl) (hpl : (backTo pos (starEach es X.env)).any (·.1) = false := by rfl) :
    PE X (.Call (.Name x p) (e :: es) [] pos) (tCall (spP K ok sp a c) [] E0 t) := by
  subst hP hw hK hmg hbs
  obtain ⟨f, fd, ps, F, hm, hkp, hb⟩ := cl.ex
  exact pe_callP F (hr.mono hk) hc hg hm hkp hb ha hdb he hpl
theorem fnP_ok {x qual : Str} {st : Stmt} {f : Addr} {fd : FuncData} {N ps : List Str} {k : Nat} {ok : Addr → Prop} {sp : Addr → Addr → FSp} (F : Fun K x qual st f fd) (S : FnScope N ps (defScope st)) (hl : ∀ a D args m R, sp a D args m R → args.length = ps.length)
    (hb : ∀ (cdv : Value) (A : Around) (outer : List Env) (s : Shared) (H : Hp) (E : XK) (p : Addr × Obj) (D : Addr), ok D → Sees (cxH CX0 P w K mg base N qual (defScope st) f cdv A outer s H E p).nox p.1 (.ref D) → RoomH k (A.deeper (envOfC qual (defScope st) s.heap.objs.size f cdv)) →
      ∃ t, PSs (cxH CX0 P w K mg base N qual (defScope st) f cdv A outer s H E p).nox (defBody st) t ∧
        ∀ args m R, sp p.1 D args m R → Wp K t (args ++ List.replicate (N.length - args.length) .any) m (fun _ m' => R (.d .none) m') R) : FnP P w K mg base (k + 1) f fd ps (spP K ok sp) := by
  refine fnP_of F S (fun a c vs H Q E h => ?_) (fun cdv A outer s H vs Q E p c hot hz hr h => ?_)
  · obtain ⟨D, _, _, m, G, args, R, _, r1, h1, _⟩ := h
    rw [r1.length]; exact hl a D args m R h1
  · obtain ⟨D, rfl, hD, m, G, args, R, S1, r1, h1, k1⟩ := h
    have hs : Sees (cxH CX0 P w K mg base N qual (defScope st) f cdv A outer s H E p).nox p.1 (.ref D) := ⟨p.2, List.mem_singleton.mpr rfl, hot, hz⟩
    obtain ⟨t, ht, hw⟩ := hb cdv A outer s H E p D hD hs hr
    refine ⟨t, ht, hw args m R h1 _ H G _ S1 ?_ (fun σ' H' G' r' m' hn S' e' L' => k1 .non H' G' (.d .none) m' hn S' e' (.d (rp_none.mpr rfl))) (fun v H' G' x m' hn S' e' L' => k1 v H' G' x m' hn S' e' L')⟩
    unfold L2.start
    rw [r1.length]
    exact Sl.start _ r1
end
end DL
/-! try .. except C as n, n a name that a comprehension of the suite reads (a cell); all that is raised is of C -/
namespace DL
open PySem L2 PySem.Spec PyProof.Rows L2H
end DL
/-! defs that may refuse, and the try that catches, at the level of data -/
namespace DL
open PySem L2 PySem.Spec PyProof.Rows L2H
abbrev FSpX := List Val → Mm → (Val → Mm → Prop) → (Addr → Mm → Prop) → Prop
def spX (K : PySem.W.Frag) (f : FSpX) : Sp := fun vs H Q E => ∃ m G args R X, Sta K m H G ∧ VRs K G args vs ∧ f args m R X ∧ (∀ v H' G' x m', R x m' → Sta K m' H' G' → Le G G' → VR K G' x v → Q v H') ∧
  (∀ C m' H' G', X C m' → Sta K m' H' G' → Le G G' → E (.ref C) none H')
def EvX (K : PySem.W.Frag) (G0 : Hp) (t : TE) (r : List Val) (m : Mm) (Q : Val → Mm → Prop) : Prop :=
  ∀ σ H G, Le G0 G → Sta K m H G → Sl K G r σ → ∀ R : VK, (∀ v H' G' x m', Q x m' → Sta K m' H' G' → Le G G' → VR K G' x v → R v H') → t σ H R
def Wx (K : PySem.W.Frag) (G0 : Hp) (t : TS) (r : List Val) (m : Mm) (N : List Val → Mm → Prop) (E : Val → Mm → Prop) : Prop :=
  ∀ σ H G (D : Ends), Le G0 G → Sta K m H G → Sl K G r σ → (∀ σ' H' G' r' m', N r' m' → Sta K m' H' G' → Le G G' → Sl K G' r' σ' → D.nx σ' H') →
    (∀ v H' G' x m', E x m' → Sta K m' H' G' → Le G G' → VR K G' x v → D.rt v H') → t D σ H
/-- what is refused here is taken -/
def TkX (K : PySem.W.Frag) (G0 : Hp) (r : List Val) (W : L2.WX) (X : Addr → Mm → Prop) : Prop := ∀ C m' H' G' σ, X C m' → Sta K m' H' G' → Le G0 G' → Sl K G' r σ → W (.ref C) none σ H'
section
variable {K : PySem.W.Frag} {G0 : Hp} {r : List Val} {m : Mm} {Q : Val → Mm → Prop} {N : List Val → Mm → Prop} {E : Val → Mm → Prop} {t u : TS} {te ta tb : TE} {tt : TT} {W : L2.WX} {X : Addr → Mm → Prop}
theorem EvX.of (h : Ev K te r m Q) : EvX K G0 te r m Q := fun σ H G _ S L R k => h σ H G S L R k
theorem Wx.of (h : Wp K t r m N E) : Wx K G0 t r m N E := fun σ H G D _ S L a b => h σ H G D S L a b
theorem wx_next (q : N r m) : Wx K G0 tNext r m N E := .of (w_next q)
theorem wx_seq (h : Wx K G0 t r m (fun r1 m1 => Wx K G0 u r1 m1 N E) E) : Wx K G0 (tSeq t u) r m N E := fun σ H G D g0 S L a b =>
  h σ H G { D with nx := u D } g0 S L (fun σ1 H1 G1 r1 m1 h1 S1 e1 L1 => h1 σ1 H1 G1 D (g0.trans e1) S1 L1 (fun σ2 H2 G2 r2 m2 n2 S2 e2 L2 => a σ2 H2 G2 r2 m2 n2 S2 (e1.trans e2) L2)
    (fun v H2 G2 x m2 n2 S2 e2 L2 => b v H2 G2 x m2 n2 S2 (e1.trans e2) L2)) b
theorem wx_if (h : EvT K tt r m fun c m1 => (c = true → Wx K G0 t r m1 N E) ∧ (c = false → Wx K G0 u r m1 N E)) : Wx K G0 (tIfS tt t u) r m N E := fun σ H G D g0 S L a b =>
  h σ H G S L _ fun H1 G1 c m1 h1 S1 e1 => by
    cases c with
    | true =>
      show t D σ H1
      exact h1.1 rfl σ H1 G1 D (g0.trans e1) S1 (L.mono e1) (fun σ2 H2 G2 r2 m2 n2 S2 e2 L2 => a σ2 H2 G2 r2 m2 n2 S2 (e1.trans e2) L2) (fun v H2 G2 x m2 n2 S2 e2 L2 => b v H2 G2 x m2 n2 S2 (e1.trans e2) L2)
    | false =>
      show u D σ H1
      exact h1.2 rfl σ H1 G1 D (g0.trans e1) S1 (L.mono e1) (fun σ2 H2 G2 r2 m2 n2 S2 e2 L2 => a σ2 H2 G2 r2 m2 n2 S2 (e1.trans e2) L2) (fun v H2 G2 x m2 n2 S2 e2 L2 => b v H2 G2 x m2 n2 S2 (e1.trans e2) L2)
theorem wx_asg {i : Nat} (h : EvX K G0 te r m fun x m1 => N (r.set i x) m1) : Wx K G0 (tAsg te (gName i)) r m N E := fun σ H G D g0 S L a b =>
  h σ H G g0 S L _ fun v H1 G1 x m1 q S1 e1 r1 => a (σ.set i (some v)) H1 G1 (r.set i x) m1 q S1 e1 ((L.mono e1).set r1 i)
theorem wx_drop (h : EvX K G0 te r m fun _ m1 => N r m1) : Wx K G0 (tDrop te) r m N E := fun σ H G D g0 S L a b =>
  h σ H G g0 S L _ fun v H1 G1 x m1 q S1 e1 r1 => a σ H1 G1 r m1 q S1 e1 (L.mono e1)
/-- raise C(..) -/
def tRaise (C : Addr) (W : L2.WX) : TS := fun _ σ H => W (.ref C) none σ H
theorem wx_raise {C : Addr} (hW : TkX K G0 r W X) (q : X C m) : Wx K G0 (tRaise C W) r m N E := fun σ H G D g0 S L a b => hW C m H G σ q S g0 L
theorem evx_call {f : FSpX} {t : TA} (hW : TkX K G0 r W X) (h : EvA K t r m fun xs m1 => f xs m1 Q X) : EvX K G0 (tCallS (spX K f) (WE W) t) r m Q := fun σ H G g0 S L R k =>
  h σ H G S L _ fun vs H1 G1 xs m1 h1 S1 e1 r1 =>
    ⟨m1, G1, xs, Q, X, S1, r1, h1, fun v' H3 G3 z m3 h3 S3 e3 r3 => k v' H3 G3 z m3 h3 S3 (e1.trans e3) r3, fun C m' H' G' hx S' e' => hW C m' H' G' σ hx S' (g0.trans (e1.trans e')) (L.mono (e1.trans e'))⟩
/-- a suite that is told only of exceptions without fields of their own -/
def tNoD (d : Option Addr) (t : TS) : TS := fun D σ H => d = none ∧ t D σ H
theorem w_noD (h : Wp K t r m N E) : Wp K (tNoD none t) r m N E := fun σ H G D S L a b => ⟨rfl, h σ H G D S L a b⟩
theorem w_try {tb : L2.WX → TS} {c : Value} {i : Nat} {ts : Addr → Value → Option Addr → TS} (X : Addr → Mm → Prop) (hb : ∀ (W : L2.WX) (G0 : Hp), TkX K G0 r W X → Wx K G0 (tb W) r m N E)
    (hx : ∀ C m', X C m' → PySem.W.exmOne K (.ref C) c = some true ∧ ∀ a, Wp K (ts a (.ref C) none) (r.set i (.v (.ref a))) m' (fun r' m'' => N (r'.set i .any) m'') E) :
    Wp K (fun D σ H => tb (wAs K c i ts (fun _ _ _ _ => False) D) D σ H) r m N E := fun σ H G D S L a b => by
  refine hb (wAs K c i ts (fun _ _ _ _ => False) D) G (fun C m' H' G' σ' hC S' e' L' => ?_) σ H G D (Le.refl G) S L a b
  obtain ⟨h1, h2⟩ := hx C m' hC
  refine ⟨true, h1, fun _ x _ => ?_, fun z => nomatch z⟩
  exact h2 x (σ'.set i (some (.ref x))) H' G' _ S' (L'.set (r := .v (.ref x)) .v i) (fun σ2 H2 G2 r2 m2 hn S2 e2 L2 => a (σ2.set i none) H2 G2 (r2.set i .any) m2 hn S2 (e'.trans e2) (L2.forget i)) fun v H2 G2 y m2 hn S2 e2 L2 => b v H2 G2 y m2 hn S2 (e'.trans e2) L2
end
theorem takesN0 {X : Cx} : L2N.Takes X (fun _ _ _ _ => False) := fun u s' ⟨_, _, _, _, _, _, _, _, _, _, _, _, _, _, _, _, w⟩ => w.elim
theorem pss_noD {X : Cx} {st : List Stmt} {t : TS} {d : Option Addr} (h : d = none → PSs X st t) : PSs X st (tNoD d t) := ⟨fun pins s σ H D I hw => (h hw.1).run pins s σ H D I hw.2⟩
theorem ps_raiseN {X : Cx} {W : L2.WX} {C : Addr} {x m : Str} {j : Nat} {p p2 pos pos' : Pos} {bmB : List Value} {B newId initId : String} (hc : X.calm = true) (tk : L2N.Takes X W) (F : ExcBaseFacts B newId initId bmB) (q : PySem.W.excIn X.K C bmB newId = true) (gC : X.mg x = some (.ref C))
    (kC : PySem.W.keepIn X.K (.ref C) = true) (r : Raises X (.ref C)) (hg : Gl X x) (hdb : (x == ("__debug__" : Str)) = false := by decide) :
    PS X (.Raise (some (.Call (.Name x p) [.Constant (.str m) j p2] [] pos)) none pos') (tRaise C W) := L2N.ps_raise hc tk (L2N.pmk_own F q gC kC r hg hdb)
/-- what the written part says of a class of refusals -/
structure RfT (K : PySem.W.Frag) (mg : Str → Option Value) (x : Str) (C : Addr) : Prop where
  g : mg x = some (.ref C)
  q : PySem.W.excIn K C [.type "ValueError", .type "Exception", .type "BaseException", .type "object"] "ValueError.__new__" = true
  kp : PySem.W.keepIn K (.ref C) = true
  bs : PySem.W.subIn K (.ref C) (.type "BaseException") = some true
  ty : PySem.W.typeIn K (.ref C) = some (.type "type")
theorem ps_rf {X : Cx} {K : PySem.W.Frag} {mg : Str → Option Value} {W : L2.WX} {C : Addr} {x m : Str} {j : Nat} {p p2 pos pos' : Pos} (T : RfT K mg x C) (tk : L2N.Takes X W) (hg : Gl X x) (hc : X.calm = true := by rfl) (hK : X.K = K := by rfl) (hmg : X.mg = mg := by rfl)
    (hdb : (x == ("__debug__" : Str)) = false := by decide) : PS X (.Raise (some (.Call (.Name x p) [.Constant (.str m) j p2] [] pos)) none pos') (tRaise C W) := by
  subst hK hmg
  exact ps_raiseN hc tk PySem.F.excBase_ValueError T.q T.g T.kp (raises_own T.bs T.ty) hg hdb
theorem sees_suite {X : Cx} {a : Addr} {oe : Obj} {cls : Value} {d : Option Addr} {pn : List (Addr × Obj)} (hz : L2N.Zn cls d oe) (hf : ∃ vs, oe.data = .fields vs) (hd : d = none) : Sees (X.suite a ((a, oe) :: pn)) a cls := by
  obtain ⟨vs, hv⟩ := hf
  subst hd
  exact ⟨oe, List.mem_cons_self, ⟨rfl, vs, hv, hz.2.2 vs hv⟩, hz.1, hz.2.1⟩
section
variable {P : Program} {w : World} {K : PySem.W.Frag} {mg : Str → Option Value} {base : Heap}
structure ClX (P : Program) (w : World) (K : PySem.W.Frag) (mg : Str → Option Value) (base : Heap) (k : Nat) (x : Str) (sp : FSpX) : Prop where
  ex : ∃ f fd ps, FnOk P w K mg base (L2N.CX P w) k f fd ps (spX K sp) ∧ mg x = some (.ref f) ∧ PySem.W.keepIn K (.ref f) = true ∧ Binds K fd ps []
theorem pe_clX {X : Cx} {W : L2.WX} {k j : Nat} {x : Str} {sp : FSpX} {e : Expr} {es : List Expr} {t : TA} {p pos : Pos} (c : ClX P w K mg base k x sp) (hr : Room j X.A) (hk : k ≤ j) (hg : Gl X x) (tk : L2N.Takes X W) (ha : PA X (e :: es) t)
    (hP : X.prog = P := by rfl) (hw : X.w = w := by rfl) (hK : X.K = K := by rfl) (hmg : X.mg = mg := by rfl) (hbs : X.base = base := by rfl)
    (hdb : (x == ("__debug__" : Str)) = false := by decide)
    (he : starEach (e :: es) X.env = (false, eval e X.env) :: starEach es X.env := by rfl) (hpl : (backTo pos (starEach es X.env)).any (·.1) = false := by rfl) :
    PE X (.Call (.Name x p) (e :: es) [] pos) (tCallS (spX K sp) (WE W) t) := by
  subst hP hw hK hmg hbs
  obtain ⟨f, fd, ps, F, hm, hkp, hb⟩ := c.ex
  exact pe_callS F (hr.mono hk) hg hm hkp hb (fun σ => L2N.passAt tk σ) ha hdb he hpl
theorem fnX_ok {x qual : Str} {st : Stmt} {f : Addr} {fd : FuncData} {N ps : List Str} {k : Nat} {sp : FSpX} (F : Fun K x qual st f fd) (S : FnScope N ps (defScope st)) (hl : ∀ args m R X, sp args m R X → args.length = ps.length)
    (hb : ∀ (cdv : Value) (A : Around) (outer : List Env) (s : Shared) (H : Hp) (E : XK), Room k (A.deeper (envOfC qual (defScope st) s.heap.objs.size f cdv)) →
      ∃ t, PSs (cxOf (L2N.CX P w) P w K mg base N qual (defScope st) f cdv A outer s H E) (defBody st) t ∧
        ∀ args m R X, sp args m R X → ∀ G0, (∀ r, TkX K G0 r (fun cls d _ H => E cls d H) X) → Wx K G0 t (args ++ List.replicate (N.length - args.length) .any) m (fun _ m' => R (.d .none) m') R) :
    FnOk P w K mg base (L2N.CX P w) (k + 1) f fd ps (spX K sp) := by
  obtain ⟨oc, od, kV, doc, pm, an, cdv, ct, osl, rfl, lk, hcd⟩ := F.ex
  refine fn_of lk hcd S (fun vs H Q E h => ?_) fun A outer s H vs Q E hr h => ?_
  · obtain ⟨m, G, args, R, X, S1, r1, h1, _⟩ := h
    rw [r1.length]; exact hl args m R X h1
  · obtain ⟨m, G, args, R, X, S1, r1, h1, k1, k2⟩ := h
    obtain ⟨t, ht, hw⟩ := hb cdv A outer s H E hr
    refine ⟨t, ht, ?_⟩
    refine hw args m R X h1 G (fun r C m' H' G' σ hx S' e' _ => k2 C m' H' G' hx S' e') _ H G _ (Le.refl G) S1 ?_ (fun σ' H' G' r' m' hn S' e' L' => k1 .non H' G' (.d .none) m' hn S' e' (.d (rp_none.mpr rfl))) (fun v H' G' x m' hn S' e' L' => k1 v H' G' x m' hn S' e' L')
    unfold L2.start
    rw [r1.length]
    exact Sl.start _ r1
end
end DL
/-! what is refused: words -/
namespace DL
open PySem L2 PySem.Spec PyProof.Rows L2H
section
variable {K : PySem.W.Frag} {r : List Val} {m : Mm} {Q : Val → Mm → Prop}
/-- {}, data -/
theorem ev_dnewD (q : Q (.d (.dict [])) m) : Ev K tDNewT r m Q := fun σ H G S L R k p hp =>
  k _ _ _ _ m q (S.fix hp) (Le.new (S.free hp)) (.d (by rw [Rp]; exact ⟨p, rfl, Or.inl ⟨[], upd_same, by rw [RpT]⟩⟩))
end
theorem roomM {k : Nat} {A : Around} {h : Option Value} (r : Room k A) : RoomH k (A.mark h) := ⟨r.dp, r.un⟩
def okNum : PyData → Int → Int → Bool
  | .int i, lo, hi => decide (lo ≤ i) && decide (i ≤ hi)
  | _, _, _ => false
/-- a def over data that answers or refuses -/
def fnE (cs : List Addr) (n : Nat) (F : List PyData → Except Nat PyData) (pre : List PyData → Prop) : FSpX := fun args m R X => ∃ ds, args = ds.map Val.d ∧ ds.length = n ∧ pre ds ∧ (∀ d, F ds = .ok d → R (.d d) m) ∧ (∀ i, F ds = .error i → X (cs.getD i 0) m)
theorem fnE_len {cs : List Addr} {n : Nat} {F : List PyData → Except Nat PyData} {pre : List PyData → Prop} {args : List Val} {m : Mm} {R : Val → Mm → Prop} {X : Addr → Mm → Prop} (h : fnE cs n F pre args m R X) : args.length = n := by
  obtain ⟨ds, rfl, h, _⟩ := h
  rw [List.length_map]; exact h
def anyD : List PyData → Prop := fun _ => True
def eNeedShares : List PyData → Except Nat PyData
  | [x] => if isShares x = true then .ok .none else .error 0
  | _ => .error 9
def eNeedNumber : List PyData → Except Nat PyData
  | [x, .int lo, .int hi] => if okNum x lo hi = true then .ok .none else .error 2
  | _ => .error 9
def preNumber : List PyData → Prop
  | [_, .int _, .int _] => True
  | _ => False
def intsOf : PyData → List Int
  | .tuple ds => ds.map intOf
  | _ => []
theorem intsOf_tupI (ss : List Int) : intsOf (tupI ss) = ss := by
  show (ss.map PyData.int).map intOf = ss
  rw [List.map_map]
  exact (List.map_congr_left fun _ _ => rfl).trans (List.map_id ss)
theorem okNum_int {x : PyData} {lo hi : Int} (h : okNum x lo hi = true) : ∃ i, x = .int i ∧ lo ≤ i ∧ i ≤ hi := by
  cases x with
  | int i =>
    simp only [okNum, Bool.and_eq_true, decide_eq_true_eq] at h
    exact ⟨i, rfl, h⟩
  | _ => cases h
theorem shares_of {x : PyData} (h : isShares x = true) : ∃ ss, x = tupI ss ∧ Shares ss := by
  cases x with
  | tuple ds =>
    have h : (decide (1 ≤ ds.length) && (decide (ds.length ≤ 5) && ds.all okS)) = true := h
    simp only [Bool.and_eq_true, decide_eq_true_eq] at h
    have each : ∀ d ∈ ds, ∃ i : Int, d = .int i ∧ 1 ≤ i ∧ i ≤ 9 := fun d hd => by
      have z := List.all_eq_true.mp h.2.2 d hd
      cases d with
      | int i =>
        simp only [okS, Bool.and_eq_true, decide_eq_true_eq] at z
        exact ⟨i, rfl, z⟩
      | _ => cases z
    have aux : ∀ l : List PyData, (∀ d ∈ l, ∃ i : Int, d = .int i ∧ 1 ≤ i ∧ i ≤ 9) → ∃ ns : List Int, l = ns.map PyData.int ∧ ∀ i ∈ ns, 1 ≤ i ∧ i ≤ 9 := fun l => by
      induction l with
      | nil => exact fun _ => ⟨[], rfl, fun _ z => nomatch z⟩
      | cons d l ih =>
        intro hl
        obtain ⟨i, rfl, hi⟩ := hl d List.mem_cons_self
        obtain ⟨ns, rfl, hn⟩ := ih fun d hd => hl d (List.mem_cons_of_mem _ hd)
        refine ⟨i :: ns, rfl, fun j hj => ?_⟩
        rcases List.mem_cons.mp hj with rfl | hj
        · exact hi
        · exact hn j hj
    obtain ⟨ns, rfl, hn⟩ := aux ds each
    rw [List.length_map] at h
    exact ⟨ns, rfl, by constructor <;> first | exact hn | exact h.1 | exact h.2.1 | (constructor <;> first | exact h.1 | exact h.2.1)⟩
  | _ => cases h
/-! the cases of the small words -/
theorem nShares_ok {x d : PyData} (h : eNeedShares [x] = .ok d) : isShares x = true := by
  cases hx : isShares x with
  | true => rfl
  | false => simp only [eNeedShares, hx] at h; cases h
theorem nShares_no {x : PyData} {i : Nat} (h : eNeedShares [x] = .error i) : isShares x = false ∧ i = 0 := by
  cases hx : isShares x with
  | false => simp only [eNeedShares, hx] at h; injection h with h; exact ⟨rfl, h.symm⟩
  | true => simp only [eNeedShares, hx, if_true] at h; cases h
theorem nNumber_ok {x d : PyData} {lo hi : Int} (h : eNeedNumber [x, .int lo, .int hi] = .ok d) : okNum x lo hi = true := by
  cases hx : okNum x lo hi with
  | true => rfl
  | false => simp only [eNeedNumber, hx] at h; cases h
theorem nNumber_no {x : PyData} {lo hi : Int} {i : Nat} (h : eNeedNumber [x, .int lo, .int hi] = .error i) : okNum x lo hi = false ∧ i = 2 := by
  cases hx : okNum x lo hi with
  | false => simp only [eNeedNumber, hx] at h; injection h with h; exact ⟨rfl, h.symm⟩
  | true => simp only [eNeedNumber, hx, if_true] at h; cases h
/-! slices -/
end DL
/-! a def that refuses, called where it answers; a def that answers here and refuses there -/
namespace DL
open PySem L2 PySem.Spec PyProof.Rows L2H
def orX (f : FSp) (g : FSpX) : FSpX := fun args m R X => f args m R ∨ g args m R X
section
variable {P : Program} {w : World} {K : PySem.W.Frag} {mg : Str → Option Value} {base : Heap}
theorem ClX.cl {k : Nat} {x : Str} {sp : FSpX} {fs : FSp} (c : ClX P w K mg base k x sp) (h : ∀ args m R, fs args m R → sp args m R fun _ _ => False) : Cl P w K mg base k x fs := by
  obtain ⟨f, fd, ps, F, hm, hk, hb⟩ := c.ex
  have conv : ∀ vs H Q E, spD K fs vs H Q E → spX K sp vs H Q E0 := fun vs H Q E ⟨m, G, args, R, S, r, hf, k⟩ => ⟨m, G, args, R, fun _ _ => False, S, r, h _ _ _ hf, k, fun _ _ _ _ z => z.elim⟩
  refine ⟨f, fd, ps, ⟨fun vs H Q E q => F.len vs H Q E0 (conv _ _ _ _ q), fun A outer s H args us vs Q E hr he hB hv q => ?_⟩, hm, hk, hb⟩
  refine codeAny_mono (F.run A outer s H args us vs Q E0 hr he hB hv (conv _ _ _ _ q)) fun res s' g => ?_
  match res, g with
  | .ok (.ret u), g => exact g
  | .error e, g =>
    obtain ⟨_, _, _, _, _, _, _, _, _, _, _, _, z⟩ := g
    exact z.elim
theorem fnOk_or {k : Nat} {f : Addr} {fd : FuncData} {ps : List Str} {fs : FSp} {sp : FSpX} (o : FnOk P w K mg base CX0 k f fd ps (spD K fs)) (F : FnOk P w K mg base (L2N.CX P w) k f fd ps (spX K sp)) : FnOk P w K mg base (L2N.CX P w) k f fd ps (spX K (orX fs sp)) where
  len := fun vs H Q E ⟨m, G, args, R, X, S, r, hf, k1, k2⟩ => by
    rcases hf with hf | hf
    · exact o.len vs H Q E ⟨m, G, args, R, S, r, hf, k1⟩
    · exact F.len vs H Q E ⟨m, G, args, R, X, S, r, hf, k1, k2⟩
  run := fun A outer s H args us vs Q E hr he hB hv ⟨m, G, as, R, X, S, r, hf, k1, k2⟩ => by
    rcases hf with hf | hf
    · refine codeAny_mono (o.run A outer s H args us vs Q E hr he hB hv ⟨m, G, as, R, S, r, hf, k1⟩) fun res s' g => ?_
      match res, g with
      | .ok (.ret u), g => exact g
      | .error e, g => exact g.elim
    · exact F.run A outer s H args us vs Q E hr he hB hv ⟨m, G, as, R, X, S, r, hf, k1, k2⟩
end
/-- a def over data that refuses -/
def fnR (cs : List Addr) (n : Nat) (F : List PyData → Nat → Prop) : FSpX := fun args m R X => ∃ ds, args = ds.map Val.d ∧ ds.length = n ∧ ∃ i, F ds i ∧ X (cs.getD i 0) m
theorem fnR_len {cs : List Addr} {n : Nat} {F : List PyData → Nat → Prop} {args : List Val} {m : Mm} {R : Val → Mm → Prop} {X : Addr → Mm → Prop} (h : fnR cs n F args m R X) : args.length = n := by
  obtain ⟨ds, rfl, h, _⟩ := h
  rw [List.length_map]; exact h
end DL
/-! orders; what the laws on refusals ask -/
namespace DL
open PySem L2 PySem.Spec PyProof.Rows L2H
def f_noShares : FSp := fun args m R => ∃ (p : Addr), args = [.v (.ref p)] ∧ m p = some .box ∧ ∀ d, isShares d = false → R (.d d) m
theorem of_needShares {cs : List Addr} : ∀ args m R, f_needShares args m R → fnE cs 1 eNeedShares anyD args m R fun _ _ => False := by
  rintro args m R ⟨x, rfl, hx, q⟩
  refine ⟨[x], rfl, rfl, trivial, fun d hd => ?_, fun i hi => ?_⟩
  · simp only [eNeedShares, hx, if_true] at hd; injection hd with hd; subst hd; exact q
  · simp only [eNeedShares, hx, if_true] at hi; cases hi
theorem of_needNumber {cs : List Addr} : ∀ args m R, f_needNumber args m R → fnE cs 3 eNeedNumber preNumber args m R fun _ _ => False := by
  rintro args m R ⟨i, lo, hi, rfl, h1, h2, q⟩
  have hx : okNum (.int i) lo hi = true := by simp only [okNum, Bool.and_eq_true, decide_eq_true_eq]; exact ⟨h1, h2⟩
  refine ⟨[.int i, .int lo, .int hi], rfl, rfl, trivial, fun d hd => ?_, fun i hi => ?_⟩
  · simp only [eNeedNumber, hx, if_true] at hd; injection hd with hd; subst hd; exact q
  · simp only [eNeedNumber, hx, if_true] at hi; cases hi
theorem atI_ex {l : List PyData} {z : Int} (h0 : 0 ≤ z) (h1 : z < (l.length : Int)) : ∃ d ∈ l, atI l z = some d := by
  obtain ⟨k, rfl⟩ : ∃ k : Nat, z = (k : Int) := ⟨z.toNat, by omega⟩
  have hk : k < l.length := by omega
  exact ⟨l[k], List.getElem_mem hk, by rw [atI_nth, List.getElem?_eq_getElem hk]⟩
section
variable {K : PySem.W.Frag} {r : List Val} {m : Mm} {Q : Val → Mm → Prop} {ta : TA} {tb : TE}
/-- [..] * n, data -/
theorem ev_lstMulD (h : EvA K ta r m fun xs m1 => ∃ ds : List PyData, xs = ds.map Val.d ∧ ds.length ≤ 100 ∧ Ev K tb r m1 fun y m2 => ∃ n : Nat, y = .d (.int (n : Int)) ∧ n ≤ 1000 ∧ Q (.d (.list (List.replicate n ds).flatten)) m2) : Ev K (tOp (rMul K) (tLst ta) tb) r m Q := fun σ H G S L R k =>
  h σ H G S L _ fun vs H1 G1 xs m1 ⟨ds, hx, hl, h1⟩ S1 e1 r1 => by
    subst hx
    have hA := r1.toAll
    refine ⟨by rw [hA.length]; exact Nat.le_trans hl (by decide), fun p hp => ?_⟩
    have hg := S1.free hp
    refine h1 σ _ (upd G1 p (.lst vs)) (S1.fix hp) (L.mono (e1.trans (Le.new hg))) _ fun w H2 G2 y m2 ⟨n, hy, hn, q⟩ S2 e2 r2 => ?_
    subst hy
    have r2 := int_of r2
    subst r2
    have en : ((n : Int)).toNat = n := by omega
    refine Or.inr (Or.inr (Or.inr ⟨p, (n : Int), vs, rfl, rfl, S2.sub _ _ (e2 _ _ upd_same), by omega, by omega, ?_, fun l hl => ?_⟩))
    · rw [en, hA.length]
      exact Nat.le_trans (Nat.mul_le_mul hl hn) (by decide)
    · rw [en]
      have hB : RpAll K G2 ds vs := RpAll.mono ((Le.new hg).trans e2) ds vs hA
      have hg2 := S2.free hl
      exact k _ _ (upd G2 l _) _ m2 q (S2.fix hl) (e1.trans ((Le.new hg).trans (e2.trans (Le.new hg2)))) (.d (rp_list.mpr ⟨l, _, rfl, Rd.of upd_same, RpAll.mono (Le.new hg2) _ _ (hB.rep n)⟩))
theorem rep_flat (n : Nat) (d : PyData) : (List.replicate n [d]).flatten = List.replicate n d := by
  induction n with
  | zero => rfl
  | succ n ih => rw [List.replicate_succ, List.flatten_cons, ih]; rfl
/-- l[z], one of them -/
theorem o2_ixLx {l : List PyData} {z : Int} (h0 : 0 ≤ z) (h1 : z < (l.length : Int)) (q : ∀ d ∈ l, Q (.d d) m) : Op2 K (rIx K) (.d (.list l)) (.d (.int z)) m Q := by
  obtain ⟨d, hd, e⟩ := atI_ex h0 h1
  exact o2_ixL e (q d hd)
end
end DL
/-! chances of orders; for a, b in a list of pairs -/
namespace DL
open PySem L2 PySem.Spec PyProof.Rows L2H
section
variable {K : PySem.W.Frag} {r : List Val} {m : Mm} {Q : Val → Mm → Prop} {t : TS} {N : List Val → Mm → Prop} {E : Val → Mm → Prop}
theorem w_forL2 {tl : TE} {j1 j2 : Nat} {xs : List (PyData × PyData)} (h : Ev K tl r m fun x m1 => x = .d (.list (xs.map fun p => .tuple [p.1, p.2])) ∧ m1 = m) (W : Nat → List Val → Mm → Prop) (h0 : W 0 r m)
    (hs : ∀ (i : Nat) (p : PyData × PyData) r' m', xs[i]? = some p → W i r' m' → Wp K t ((r'.set j1 (.d p.1)).set j2 (.d p.2)) m' (W (i + 1)) E) (hd : ∀ r' m', W xs.length r' m' → N r' m') :
    Wp K (tFor (iList K tl) (gTup K 2 (gCons (gName j1) (gCons (gName j2) gNil))) t) r m N E := fun σ H G D S L a b =>
  h σ H G S L _ fun v H1 G1 x m1 ⟨hx, hm⟩ S1 e1 r1 => by
    subst hx hm
    obtain ⟨p, zs, hv, hs1, hA⟩ := rp_list.mp r1.rp
    have hs1 : SqL K G1 p zs := Or.inl hs1
    have hlen := hA.length
    rw [List.length_map] at hlen
    refine ⟨p, hv, ⟨zs, S1.sqL hs1⟩, for_list (xs := zs) (fun i σ' H' => ∃ G' r' m', W i r' m' ∧ Sta K m' H' G' ∧ Le G1 G' ∧ Sl K G' r' σ') ⟨G1, r, _, h0, S1, Le.refl G1, L.mono e1⟩ ?_ ?_ ?_⟩
    · rintro i σ' H' hi ⟨G', r', m', _, S', e', _⟩
      exact S'.sqL (e'.sqL hs1)
    · rintro i y σ' H' hy ⟨G', r', m', hw, S', e', L'⟩
      obtain ⟨d, hd1, hd2⟩ := hA.get hy
      obtain ⟨pr, hpr, rfl⟩ := map_at hd1
      obtain ⟨T, us, hv2, hs2, hB⟩ := rp_tuple.mp (Rp.mono e' _ _ hd2)
      obtain ⟨x1, t1, rfl, a1, hB⟩ := rpa_cons.mp hB
      obtain ⟨x2, t2, rfl, a2, hB⟩ := rpa_cons.mp hB
      obtain rfl := rpa_nil.mp hB
      refine ⟨T, _, hv2, S'.sqT hs2, rfl, x1, [x2], rfl, x2, [], rfl, rfl, ?_⟩
      exact hs i pr r' m' hpr hw _ H' G' _ S' ((L'.set (r := .d pr.1) (.d a1) j1).set (r := .d pr.2) (.d a2) j2) (fun σ3 H3 G3 r3 m3 h3 S3 e3 L3 => ⟨G3, r3, m3, h3, S3, e'.trans e3, L3⟩) (fun v H3 G3 x m3 n3 S3 e3 L3 => b v H3 G3 x m3 n3 S3 (e1.trans (e'.trans e3)) L3)
    · rintro σ' H' ⟨G', r', m', hw, S', e', L'⟩
      rw [hlen] at hw
      exact a σ' H' G' r' m' (hd r' m' hw) S' (e1.trans e') L'
end
section
variable {P : Program} {w : World} {K : PySem.W.Frag} {mg : Str → Option Value} {base : Heap}
theorem Cl.imp {k : Nat} {x : Str} {f g : FSp} (c : Cl P w K mg base k x f) (h : ∀ args m R, g args m R → f args m R) : Cl P w K mg base k x g := by
  obtain ⟨a, fd, ps, F, hm, hk, hb⟩ := c.ex
  exact ⟨a, fd, ps, F.imp fun vs H Q E ⟨m, G, args, R, S, r, hf, k⟩ => ⟨m, G, args, R, S, r, h _ _ _ hf, k⟩, hm, hk, hb⟩
end
/-! what an order's kinds have -/
theorem okNum_off {i lo hi : Int} (h : i < lo ∨ hi < i) : okNum (.int i) lo hi = false := by
  cases hk : okNum (.int i) lo hi with
  | false => rfl
  | true => simp only [okNum, Bool.and_eq_true, decide_eq_true_eq] at hk; omega
end DL
/-! repr of data with dicts (and no lists) -/
namespace DL
open PySem L2 PySem.Spec PyProof.Rows L2H
end DL
/-! taking items out of a list; a list mixed up -/
namespace DL
open PySem L2 PySem.Spec PyProof.Rows L2H
theorem VRs.erase {K : PySem.W.Frag} {G : Hp} : ∀ {rs : List Val} {xs : List V} (i : Nat), VRs K G rs xs → VRs K G (rs.eraseIdx i) (xs.eraseIdx i)
  | [], xs, i, h => by
    have h : xs = [] := h
    subst h
    exact rfl
  | r :: rs, xs, 0, h => by
    obtain ⟨v, t, rfl, h1, h2⟩ := h
    exact h2
  | r :: rs, xs, i + 1, h => by
    obtain ⟨v, t, rfl, h1, h2⟩ := h
    exact ⟨v, _, rfl, h1, VRs.erase i h2⟩
end DL
/-! what are no orders; what may be shown -/
namespace DL
open PySem L2 PySem.Spec PyProof.Rows L2H
/-! shown, with or without dicts -/
end DL
/-! [e for i, x in enumerate(a tuple)] -/
namespace DL
open PySem L2 PySem.Spec PyProof.Rows L2H
section
variable {K : PySem.W.Frag} {r : List Val} {m : Mm} {Q : Val → Mm → Prop} {te : TE}
theorem LcW.fix {G : Hp} {D T : Addr} {W : Nat → List PyData → Prop} {i : Nat} {H' : Hp} {o : HO} (h : LcW K m G D W i H') (hT : H' T = none) : ∃ G', Le G G' ∧ LcW K m (upd G' T o) D W i (upd H' T o) ∧ Le G (upd G' T o) := by
  obtain ⟨G', acc, hw, hl, S, e⟩ := h
  have hn := Le.new (o := o) (S.free hT)
  exact ⟨G', e, ⟨upd G' T o, acc, hw, hl, S.fix hT, Le.refl _⟩, e.trans hn⟩
end
end DL
/-! evened, named -/
namespace DL
open PySem L2 PySem.Spec PyProof.Rows L2H
end DL
/-! orders, and the chances by who is left -/
namespace DL
open PySem L2 PySem.Spec PyProof.Rows L2H
end DL
/-! all orders -/
namespace DL
open PySem L2 PySem.Spec PyProof.Rows L2H
end DL
/-! whole orders: what comes to one, what rises -/
namespace DL
open PySem L2
/-! some kind twice -/
/-! the sums so far -/
end DL
/-! the mean until all have come, over a list of shares: by parts that alternate -/
namespace DL
open PySem L2
/-! the paper's number is this one -/
end DL
/-! k13: cases, what lacks and means, in another order and each so many times -/
namespace DL
open PySem L2
/-! what comes of a list, n draws, with a beside -/
/-! each so many times -/
/-! the program's numbers -/
end DL
/-! tuples that are known to have no attributes: their methods -/
namespace DL
open PySem L2 PySem.Spec PyProof.Rows
end DL
/-! kinds bought or drawn -/
namespace DL
open PySem L2
section
variable {K : PySem.W.Frag} {r : List Val} {m : Mm} {Q : Val → Mm → Prop} {te tl : TE} {tt : TT}
theorem TAll.drop {G : Hp} : ∀ {nss : List (List Int)} {xs : List V} (n : Nat), TAll G nss xs → TAll G (nss.drop n) (xs.drop n)
  | nss, xs, 0, h => h
  | [], xs, n + 1, h => by
    have h : xs = [] := h
    subst h; exact rfl
  | ns :: r, xs, n + 1, h => by
    obtain ⟨b, t, rfl, h2, h3⟩ := h
    exact TAll.drop n h3
end
/-! some kinds but none, the fewer ahead -/
def rsX (n : Nat) : List (List Nat) := (ordX n).filter noNil
/-! numbers by who is left, one told by the others -/
/-! bounds -/
def PB (ss : List Int) (P : List Nat → Rat) : Prop := ∀ s, Kinds ss.length s → QB (P s) (dB s.length) (99 * s.length)
theorem accG {ss : List Int} (hs : Shares ss) {P : List Nat → Rat} {s : List Nat} {d n : Nat} (hP : ∀ k ∈ s, QB (P (s.filter fun x => !decide (x = k))) d (99 * n)) : ∀ l : List Nat, (∀ k ∈ l, k ∈ s) → QB (dueAcc ss P s l) (l.length * d) (45 + 99 * n * (sumP ss l).toNat) := by
  intro l
  have hsum := shares_sum hs
  have gen : ∀ (l : List Nat) (a : Rat) (c v : Nat), QB a c v → (∀ k ∈ l, k ∈ s) → QB (l.foldl (fun acc k => acc + ((ss.getD k 0 : Int) : Rat) * P (s.filter fun x => !decide (x = k))) a) (c + l.length * d) (v + 99 * n * (sumP ss l).toNat) := by
    intro l
    induction l with
    | nil =>
      intro a c v h _
      exact h.mono (by simp) (by simp)
    | cons k t ih =>
      intro a c v h hl
      rw [List.foldl_cons]
      have hb := getD_bounds hs k
      have e1 : ss.getD k 0 = (((ss.getD k 0).toNat : Nat) : Int) := by omega
      have h1 := (hP k (hl k (List.mem_cons_self ..))).mulN (ss.getD k 0).toNat
      rw [← e1] at h1
      have h2 := ih _ _ _ (h.add h1) fun x hx => hl x (List.mem_cons_of_mem _ hx)
      refine h2.mono ?_ ?_
      · rw [List.length_cons, Nat.succ_mul]; omega
      · have e2 : (sumP ss (k :: t)).toNat = (ss.getD k 0).toNat + (sumP ss t).toNat := by
          have := sumP_nonneg hs t
          rw [sumP_cons]; omega
        rw [e2, Nat.mul_add]
        have e3 : (ss.getD k 0).toNat * (99 * n) = 99 * n * (ss.getD k 0).toNat := Nat.mul_comm _ _
        omega
  intro hl
  have e : ss.sum = ((ss.sum.toNat : Nat) : Int) := by omega
  have h0 : QB ((ss.sum : Int) : Rat) 0 45 := by
    rw [e]
    exact (QB.nat _).mono (Nat.le_refl _) (by omega)
  exact (gen l _ 0 45 h0 hl).mono (by omega) (Nat.le_refl _)
theorem PB.sub {ss : List Int} {P : List Nat → Rat} (h : PB ss P) {s : List Nat} (hk : Kinds ss.length s) {n : Nat} (hl : s.length = n + 1) : ∀ k ∈ s, QB (P (s.filter fun x => !decide (x = k))) (dB n) (99 * n) := fun k hks => by
  have := h _ (kinds_without hk k)
  have hw := without_len hk.up hks
  rw [show (s.filter fun x => !decide (x = k)).length = n by omega] at this
  exact this
theorem PB.fr {ss : List Int} (hs : Shares ss) {P : List Nat → Rat} (h : PB ss P) {s : List Nat} (hk : Kinds ss.length s) : FrB (P s) 1300 := by
  have h1 := hk.len
  have h2 := hs.few
  have h3 := dB_le (n := s.length) (by omega)
  exact ((h s hk).frB (e := 10) (by show _ < 1024; omega)).mono (by omega)
theorem PB.accFr {ss : List Int} (hs : Shares ss) {P : List Nat → Rat} (h : PB ss P) {s : List Nat} (hk : Kinds ss.length s) (i : Nat) : FrB (dueAcc ss P s (s.take i)) 1300 := by
  have h1 := hk.len
  have h2 := hs.few
  cases hn : s.length with
  | zero =>
    have : s = [] := List.length_eq_zero_iff.mp hn
    subst this
    have := shares_sum hs
    have e : ss.sum = ((ss.sum.toNat : Nat) : Int) := by omega
    have : dueAcc ss P [] (List.take i []) = ((ss.sum : Int) : Rat) := by simp [dueAcc]
    rw [this, e]
    exact ((QB.nat ss.sum.toNat).frB (e := 10) (by show _ < 1024; omega)).mono (by decide)
  | succ n =>
    have hb := accG hs (h.sub hk hn) (s.take i) fun k hk => List.mem_of_mem_take hk
    have hl : (s.take i).length ≤ n + 1 := by rw [List.length_take]; omega
    have hsl : sumP ss (s.take i) ≤ 45 := by
      have := sumP_le9 hs (s.take i)
      omega
    have hd : (s.take i).length * dB n + 6 ≤ dB (n + 1) := by
      show _ ≤ (n + 1) * dB n + 6
      exact Nat.add_le_add_right (Nat.mul_le_mul_right _ hl) 6
    have hd2 := dB_le (n := n + 1) (by omega)
    have hv : 45 + 99 * n * (sumP ss (s.take i)).toNat ≤ 45 + 99 * 4 * 45 := by
      refine Nat.add_le_add_left (Nat.mul_le_mul (Nat.mul_le_mul_left _ (by omega)) (by omega)) _
    exact (hb.frB (e := 15) (by show _ < 32768; omega)).mono (by omega)
/-! the laws of costs -/
/-! words -/
end DL
/-! sorted(d.items()), d with tuples for keys -/
namespace DL
open PySem L2 PySem.Spec PyProof.Rows
abbrev It := List Int × V × PyData
/-! everything that is known and may not change -/
section
variable {K : PySem.W.Frag} {m : Mm} {H G : Hp}
theorem Sta.all (S : Sta K m H G) : Sta K m H (fun a => if m a = none then H a else none) ∧ Le G (fun a => if m a = none then H a else none) := by
  have hle : Le G (fun a => if m a = none then H a else none) := fun a o h => by
    have hm : m a = none := by
      cases e : m a with
      | none => rfl
      | some u => rw [S.dis a u e] at h; cases h
    show (if m a = none then H a else none) = some o
    rw [if_pos hm]; exact S.sub a o h
  refine ⟨⟨fun a o h => ?_, fun a o h => (S.mem a o h).mono hle rfl, fun a o h => ?_⟩, hle⟩
  · have h : (if m a = none then H a else none) = some o := h
    by_cases hm : m a = none
    · rw [if_pos hm] at h; exact h
    · rw [if_neg hm] at h; cases h
  · show (if m a = none then H a else none) = none
    rw [if_neg (by rw [h]; exact fun z => nomatch z)]
theorem Le.at {G G' : Hp} (h : Le G G') {a : Addr} {o : HO} (e : G a = some o) : G' a = some o := h a o e
variable {r : List Val} {Q : Val → Mm → Prop} {te : TE}
end
/-! in whatever order they were put in -/
/-! d.clear() -/
/-! the numbers of a paper, as pairs -/
end DL
/-! k01: shares and fractions known among all sorts of things -/
namespace DL
open PySem L2 PySem.Spec PyProof.Rows
/-! == of lists of unlike length -/
/-! what may be shown -/
end DL
/-! so many of each: defs that call themselves, needs, the mean by what is still needed -/
namespace DL
open PySem L2
section
variable {P : Program} {w : World} {K : PySem.W.Frag} {mg : Str → Option Value} {base : Heap}
/-- a word that asks what never is -/
theorem cl_zero {k : Nat} {x qual : Str} {st : Stmt} {f : Addr} {fd : FuncData} {ps : List Str} {sp : FSp} (F : Fun K x qual st f fd) (h : ∀ args m R, ¬ sp args m R) (hm : mg x = some (.ref f)) (hb : Binds K fd ps []) : Cl P w K mg base k x sp :=
  ⟨f, fd, ps, ⟨fun vs H Q E ⟨m, G, args, R, _, _, hf, _⟩ => (h _ _ _ hf).elim, fun A outer s H args us vs Q E _ _ _ _ ⟨m, G, as, R, _, _, hf, _⟩ => (h _ _ _ hf).elim⟩, hm, F.kp, hb⟩
end
/-! slices of tuples of ints -/
section
variable {K : PySem.W.Frag} {r : List Val} {m : Mm} {Q : Val → Mm → Prop} {te : TE}
theorem ev_slTt {tl th : TO} (h : Ev K te r m fun x m1 => ∃ ns, x = .t ns ∧ EvO K tl r m1 fun lo m2 => EvO K th r m2 fun hi m3 => Q (.t ((ns.drop (HT.sIx ns.length 0 lo)).take (HT.sIx ns.length ns.length hi - HT.sIx ns.length 0 lo))) m3) : Ev K (tSl (rSlA K) te tl th) r m Q := fun σ H G S L R k =>
  h σ H G S L _ fun v H1 G1 x m1 ⟨ns, hx, h1⟩ S1 e1 r1 => h1 σ H1 G1 S1 (L.mono e1) _ fun H2 G2 lo m2 h2 S2 e2 => h2 σ H2 G2 S2 (L.mono (e1.trans e2)) _ fun H3 G3 hi m3 q S3 e3 => by
    subst hx
    have r3 := r1.mono (e2.trans e3)
    cases r3 with
    | t ht =>
      rename_i a
      refine ⟨a, ns.map V.int, rfl, SqT.of (S3.sub _ _ ht), fun hw => ?_, fun _ l hl => ?_⟩
      · rw [List.length_map] at hw
        have e := cut_whole ns hw
        have q : Q (.t ns) m3 := e ▸ q
        exact k _ H3 G3 _ m3 q S3 (e1.trans (e2.trans e3)) (.t ht)
      · have hg := S3.free hl
        have e : cutV (ns.map V.int) lo hi = ((ns.drop (HT.sIx ns.length 0 lo)).take (HT.sIx ns.length ns.length hi - HT.sIx ns.length 0 lo)).map V.int := by
          unfold cutV
          rw [List.length_map, List.map_take, List.map_drop]
        rw [e]
        exact k _ _ (upd G3 l _) _ m3 q (S3.fix hl) (e1.trans (e2.trans (e3.trans (Le.new hg)))) (.t upd_same)
theorem cutI_take (ns : List Int) (a : Nat) : (ns.drop (HT.sIx ns.length 0 none)).take (HT.sIx ns.length ns.length (some (a : Int)) - HT.sIx ns.length 0 none) = ns.take a := by
  rw [HT.sIx_none, HT.sIx_nat, List.drop_zero, Nat.sub_zero]
  by_cases h : a ≤ ns.length
  · rw [Nat.min_eq_left h]
  · rw [Nat.min_eq_right (by omega), List.take_of_length_le (Nat.le_refl _), List.take_of_length_le (by omega)]
theorem cutI_drop (ns : List Int) (a : Nat) : (ns.drop (HT.sIx ns.length 0 (some (a : Int)))).take (HT.sIx ns.length ns.length none - HT.sIx ns.length 0 (some (a : Int))) = ns.drop a := by
  rw [HT.sIx_none, HT.sIx_nat]
  by_cases h : a ≤ ns.length
  · rw [Nat.min_eq_left h, List.take_of_length_le (by rw [List.length_drop]; exact Nat.le_refl _)]
  · rw [Nat.min_eq_right (by omega), Nat.sub_self, List.take_zero, List.drop_of_length_le (by omega)]
end
/-! needs -/
structure NeedV (n : Nat) (v : List Nat) : Prop where
  len : v.length = n
  few : ∀ x ∈ v, x ≤ 3
def lessV (v : List Nat) (k : Nat) : List Nat := v.take k ++ [v.getD k 0 - 1] ++ v.drop (k + 1)
def suppV (v : List Nat) : List Nat := (List.range v.length).filter fun k => decide (0 < v.getD k 0)
def f_oneLess : FSp := fun args m R => ∃ (v : List Nat) (k : Nat), args = [.t (kn v), .d (.int (k : Int))] ∧ k < v.length ∧ v.length ≤ 100 ∧ R (.t (kn (lessV v k))) m
theorem lessV_set {v : List Nat} {k : Nat} (h : k < v.length) : lessV v k = v.set k (v.getD k 0 - 1) := by
  unfold lessV
  rw [List.set_eq_take_append_cons_drop, if_pos h, List.append_assoc]; rfl
theorem NeedV.less {n : Nat} {v : List Nat} (h : NeedV n v) {k : Nat} (hk : k < n) : NeedV n (lessV v k) := by
  have hk : k < v.length := by rw [h.len]; exact hk
  rw [lessV_set hk]
  refine ⟨by rw [List.length_set]; exact h.len, fun x hx => ?_⟩
  rcases List.mem_or_eq_of_mem_set hx with hx | hx
  · exact h.few x hx
  · have : v.getD k 0 ≤ 3 := by
      rw [List.getD_eq_getElem?_getD, List.getElem?_eq_getElem hk]
      exact h.few _ (List.getElem_mem hk)
    omega
theorem sum_setN : ∀ {v : List Nat} {k : Nat} (x : Nat), k < v.length → (v.set k x).sum + v.getD k 0 = v.sum + x
  | [], k, x, h => by simp at h
  | a :: v, 0, x, _ => by simp [List.getD]; omega
  | a :: v, k + 1, x, h => by
    have ih := sum_setN (v := v) (k := k) x (by simpa using h)
    simp only [List.set_cons_succ, List.sum_cons, List.getD_cons_succ]
    omega
theorem lessV_sum {v : List Nat} {k : Nat} (hk : k < v.length) (h0 : 0 < v.getD k 0) : (lessV v k).sum + 1 = v.sum := by
  rw [lessV_set hk]
  have := sum_setN (v := v) (v.getD k 0 - 1) hk
  omega
theorem supp_mem {v : List Nat} {k : Nat} : k ∈ suppV v ↔ k < v.length ∧ 0 < v.getD k 0 := by
  unfold suppV
  rw [List.mem_filter, List.mem_range, decide_eq_true_eq]
theorem supp_kinds {n : Nat} {v : List Nat} (h : NeedV n v) : Kinds n (suppV v) := ⟨List.pairwise_lt_range.filter _, fun k hk => by have := (supp_mem.mp hk).1; rw [h.len] at this; exact this⟩
theorem supp_nil {v : List Nat} (h : suppV v = []) : v = List.replicate v.length 0 := by
  refine List.ext_getElem (by rw [List.length_replicate]) fun k h1 h2 => ?_
  rw [List.getElem_replicate]
  cases hz : v[k] with
  | zero => rfl
  | succ j =>
    have : k ∈ suppV v := supp_mem.mpr ⟨h1, by rw [List.getD_eq_getElem?_getD, List.getElem?_eq_getElem h1]; show 0 < v[k]; omega⟩
    rw [h] at this; cases this
theorem supp_zero (n : Nat) : suppV (List.replicate n 0) = [] := by
  unfold suppV
  rw [List.filter_eq_nil_iff]
  intro k hk
  have hk := List.mem_range.mp hk
  rw [List.length_replicate] at hk
  simp [List.getD_eq_getElem?_getD, hk]
/-! the mean by what is still needed -/
def accN (ss : List Int) (P : List Nat → Rat) (v l : List Nat) : Rat := l.foldl (fun acc k => acc + ((ss.getD k 0 : Int) : Rat) * P (lessV v k)) ((ss.sum : Int) : Rat)
def mnNF (ss : List Int) : Nat → List Nat → Rat
  | 0, _ => 0
  | n + 1, v => if suppV v = [] then 0 else accN ss (mnNF ss n) v (suppV v) * mkRat 1 (sumP ss (suppV v)).toNat
def mnN (ss : List Int) (v : List Nat) : Rat := mnNF ss v.sum v
theorem accN_congr {ss : List Int} {P P' : List Nat → Rat} {v : List Nat} : ∀ (l : List Nat), (∀ k ∈ l, P (lessV v k) = P' (lessV v k)) → accN ss P v l = accN ss P' v l := by
  intro l hl
  unfold accN
  generalize ((ss.sum : Int) : Rat) = a
  induction l generalizing a with
  | nil => rfl
  | cons k t ih =>
    rw [List.foldl_cons, List.foldl_cons, hl k List.mem_cons_self]
    exact ih (fun x hx => hl x (List.mem_cons_of_mem _ hx)) _
theorem sum_zero {v : List Nat} (h : suppV v = []) : v.sum = 0 := by
  rw [supp_nil h]; simp
theorem mnN_step (ss : List Int) (v : List Nat) : mnN ss v = if suppV v = [] then 0 else accN ss (mnN ss) v (suppV v) * mkRat 1 (sumP ss (suppV v)).toNat := by
  by_cases h : suppV v = []
  · rw [if_pos h]
    unfold mnN
    rw [sum_zero h]; rfl
  · rw [if_neg h]
    obtain ⟨k0, hk0⟩ := List.exists_mem_of_ne_nil _ h
    obtain ⟨a1, a2⟩ := supp_mem.mp hk0
    have hs := lessV_sum a1 a2
    unfold mnN
    cases hn : v.sum with
    | zero => omega
    | succ n =>
      show (if suppV v = [] then 0 else _) = _
      rw [if_neg h]
      refine congrArg (· * _) (accN_congr _ fun k hk => ?_)
      obtain ⟨b1, b2⟩ := supp_mem.mp hk
      have := lessV_sum b1 b2
      rw [show n = (lessV v k).sum by omega]
/-! bounds -/
theorem accN_eq {ss : List Int} {P : List Nat → Rat} {v : List Nat} (l : List Nat) : accN ss P v l = ((ss.sum : Int) : Rat) + (l.map fun k => ((ss.getD k 0 : Int) : Rat) * P (lessV v k)).sum := by
  unfold accN
  generalize ((ss.sum : Int) : Rat) = a
  induction l generalizing a with
  | nil => simp [Rat.add_zero]
  | cons k t ih => rw [List.foldl_cons, ih, List.map_cons, List.sum_cons, Rat.add_assoc]
def allD (ss : List Int) : Nat := ((allS ss.length).filter fun s => !s.isEmpty).foldr (fun s a => (sumP ss s).toNat * a) 1
theorem allD_ok {ss : List Int} (hs : Shares ss) : 0 < allD ss ∧ allD ss ≤ 2 ^ 192 := by
  have hf := hs.few
  obtain ⟨h1, h2⟩ := fold_le (fun s => (sumP ss s).toNat) (l := (allS ss.length).filter fun s => !s.isEmpty) fun s hs' => by
    obtain ⟨a1, a2⟩ := List.mem_filter.mp hs'
    have := sum_ok hs a1 (fun e => by rw [e] at a2; simp at a2)
    exact ⟨this.1, this.2.1⟩
  refine ⟨h1, Nat.le_trans h2 (Nat.pow_le_pow_right (by decide) ?_)⟩
  have : ((allS ss.length).filter fun s => !s.isEmpty).length ≤ 32 := by
    refine Nat.le_trans (List.length_filter_le _ _) ?_
    rw [allS_len]
    exact Nat.pow_le_pow_right (by decide) hf
  omega
theorem allS_filter : ∀ (n : Nat) (p : Nat → Bool), (List.range n).filter p ∈ allS n
  | 0, p => by simp [allS]
  | n + 1, p => by
    have ih := allS_filter n p
    rw [List.range_succ, List.filter_append]
    unfold allS
    by_cases h : p n = true
    · simp [h, ih]
    · simp [h, ih]
theorem supp_allS {n : Nat} {v : List Nat} (h : NeedV n v) : suppV v ∈ allS n := by
  unfold suppV
  rw [h.len]
  exact allS_filter n _
theorem allD_dvd {ss : List Int} {s : List Nat} (h : s ∈ allS ss.length) (h0 : s ≠ []) : (sumP ss s).toNat ∣ allD ss :=
  dvd_fold (fun s => (sumP ss s).toNat) (List.mem_filter.mpr ⟨h, by cases s with | nil => exact absurd rfl h0 | cons a t => rfl⟩)
theorem InD.mulZ {q : Rat} {D : Nat} (h : InD q D) (a : Int) : InD ((a : Rat) * q) D := by
  obtain ⟨x, hx⟩ := h
  exact ⟨a * x, by rw [Rat.mul_assoc, hx, Rat.intCast_mul]⟩
theorem acc_b {ss : List Int} (hs : Shares ss) {P : List Nat → Rat} {v l : List Nat} {D c : Nat} (hl : l.length ≤ 5) (h : ∀ k ∈ l, ChB (P (lessV v k)) D c) : ChB (accN ss P v l) D (45 + 45 * c) := by
  have hsum := shares_sum hs
  rw [accN_eq]
  have each : ∀ k ∈ l, 0 ≤ ((ss.getD k 0 : Int) : Rat) * P (lessV v k) ∧ ((ss.getD k 0 : Int) : Rat) * P (lessV v k) ≤ ((9 * c : Nat) : Rat) := fun k hk => by
    obtain ⟨h1, h2⟩ := getD_bounds hs k
    have e : ss.getD k 0 = (((ss.getD k 0).toNat : Nat) : Int) := by omega
    refine ch_mul ⟨?_, ?_⟩ ⟨(h k hk).nn, (h k hk).le⟩
    · rw [e]; exact Rat.intCast_nonneg.mpr (Int.natCast_nonneg _)
    · rw [e, Rat.intCast_natCast]; exact Rat.natCast_le_natCast.mpr (by omega)
  obtain ⟨b1, b2⟩ := ch_sum each
  have e : ss.sum = ((ss.sum.toNat : Nat) : Int) := by omega
  have s1 : (0 : Rat) ≤ ((ss.sum : Int) : Rat) := by rw [e]; exact Rat.intCast_nonneg.mpr (Int.natCast_nonneg _)
  have s2 : ((ss.sum : Int) : Rat) ≤ ((45 : Nat) : Rat) := by rw [e, Rat.intCast_natCast]; exact Rat.natCast_le_natCast.mpr (by omega)
  refine ⟨Rat.add_nonneg s1 b1, ?_, (InD.int _ _).add (InD.sum fun k hk => (h k hk).ind.mulZ _)⟩
  have b3 : (((l.length * (9 * c) : Nat)) : Rat) ≤ ((45 * c : Nat) : Rat) := Rat.natCast_le_natCast.mpr (by
    have : l.length * (9 * c) ≤ 5 * (9 * c) := Nat.mul_le_mul_right _ hl
    omega)
  rw [Rat.natCast_add]
  have b4 := Rat.le_trans b2 b3
  grind
theorem mnN_b {ss : List Int} (hs : Shares ss) : ∀ (n : Nat) (v : List Nat), NeedV ss.length v → v.sum = n → ChB (mnN ss v) (allD ss ^ n) (2 ^ (6 * (n + 1)))
  | n, v, hv, hn => by
    rw [mnN_step]
    by_cases h : suppV v = []
    · rw [if_pos h]
      exact ⟨Rat.le_refl, Rat.natCast_nonneg, InD.int 0 _⟩
    · rw [if_neg h]
      have hS := supp_allS hv
      obtain ⟨k0, hk0⟩ := List.exists_mem_of_ne_nil _ h
      obtain ⟨a1, a2⟩ := supp_mem.mp hk0
      have hs1 := lessV_sum a1 a2
      match n, hn with
      | 0, hn => omega
      | n + 1, hn =>
        have ih : ∀ k ∈ suppV v, ChB (mnN ss (lessV v k)) (allD ss ^ n) (2 ^ (6 * (n + 1))) := fun k hk => by
          obtain ⟨b1, b2⟩ := supp_mem.mp hk
          exact mnN_b hs n _ (hv.less (by rw [← hv.len]; exact b1)) (by have := lessV_sum b1 b2; omega)
        have hl5 : (suppV v).length ≤ 5 := Nat.le_trans (allS_mem _ _ hS).1 hs.few
        have c := acc_b hs hl5 ih
        obtain ⟨g1, g2, g3⟩ := sum_ok hs hS h
        have w := ch_mul (u := 45 + 45 * 2 ^ (6 * (n + 1))) (v := 1) ⟨c.nn, c.le⟩ (q := mkRat 1 (sumP ss (suppV v)).toNat) (by
          rw [Rat.mkRat_eq_div]
          have z := (QB.nat 1).over (n := (sumP ss (suppV v)).toNat) (e := 6) (w := 1) g1 g2 (by omega)
          have e2 : (((1 : Nat) : Int) : Rat) * mkRat 1 (sumP ss (suppV v)).toNat = ((1 : Int) : Rat) / (((sumP ss (suppV v)).toNat : Nat) : Rat) := by
            rw [Rat.mkRat_eq_div]
            show ((1 : Int) : Rat) * _ = _
            rw [show ((1 : Int) : Rat) = 1 from rfl, Rat.one_mul]
          rw [e2] at z
          exact ⟨z.nn, z.le⟩)
        refine ⟨w.1, Rat.le_trans w.2 (Rat.natCast_le_natCast.mpr ?_), ?_⟩
        · have e : 2 ^ (6 * (n + 1 + 1)) = 64 * 2 ^ (6 * (n + 1)) := by rw [Nat.mul_add 6 (n + 1) 1, Nat.pow_add]; omega
          have p : 2 ^ 6 ≤ 2 ^ (6 * (n + 1)) := Nat.pow_le_pow_right (by decide) (by omega)
          rw [e]
          generalize 2 ^ (6 * (n + 1)) = X at *
          omega
        · refine InD.dvd (c.ind.frac 1 g1) ?_
          rw [Nat.pow_succ]
          exact Nat.mul_dvd_mul_left _ (allD_dvd hS h)
theorem allD_pow {ss : List Int} (hs : Shares ss) {n : Nat} (hn : n ≤ 9) : 0 < allD ss ^ n ∧ allD ss ^ n ≤ 2 ^ 1728 := by
  obtain ⟨h1, h2⟩ := allD_ok hs
  refine ⟨Nat.pow_pos h1, Nat.le_trans (Nat.pow_le_pow_left h2 n) ?_⟩
  have e : (2 ^ 192) ^ n = 2 ^ (192 * n) := (Nat.pow_mul 2 192 n).symm
  rw [e]
  exact Nat.pow_le_pow_right (by decide) (show 192 * n ≤ 1728 by omega)
theorem mnN_fr {ss : List Int} (hs : Shares ss) {v : List Nat} (hv : NeedV ss.length v) (hn : v.sum ≤ 9) : FrB (mnN ss v) 1900 := by
  have c := mnN_b hs _ v hv rfl
  obtain ⟨h1, h2⟩ := allD_pow hs hn
  refine (c.frB (e := 61) h1 h2 (Nat.pow_lt_pow_right (by decide) (by omega))).mono (by decide)
theorem accN_fr {ss : List Int} (hs : Shares ss) {v l : List Nat} (hv : NeedV ss.length v) (hn : v.sum ≤ 9) (hsub : ∀ k ∈ l, k ∈ suppV v) (hl : l.length ≤ 5) : FrB (accN ss (mnN ss) v l) 1900 := by
  by_cases h : suppV v = []
  · have : l = [] := List.eq_nil_iff_forall_not_mem.mpr fun k hk => by have := hsub k hk; rw [h] at this; cases this
    subst this
    have c := acc_b hs (P := mnN ss) (v := v) (l := []) (D := 1) (c := 0) (by decide) (fun k hk => nomatch hk)
    exact (c.frB (d := 0) (e := 6) (by decide) (by decide) (by decide)).mono (by decide)
  · have ih : ∀ k ∈ l, ChB (mnN ss (lessV v k)) (allD ss ^ (v.sum - 1)) (2 ^ (6 * 9)) := fun k hk => by
      obtain ⟨b1, b2⟩ := supp_mem.mp (hsub k hk)
      have e := lessV_sum b1 b2
      have c := mnN_b hs _ _ (hv.less (k := k) (by rw [← hv.len]; exact b1)) (show (lessV v k).sum = v.sum - 1 by omega)
      exact ⟨c.nn, Rat.le_trans c.le (Rat.natCast_le_natCast.mpr (Nat.pow_le_pow_right (by decide) (by omega))), c.ind⟩
    obtain ⟨h1, h2⟩ := allD_pow hs (n := v.sum - 1) (by omega)
    exact ((acc_b hs hl ih).frB (e := 61) h1 h2 (by decide)).mono (by decide)
/-! what is known -/
structure TabN (n : Nat) (l : List (List Nat)) : Prop where
  nd : l.Nodup
  nv : ∀ v ∈ l, NeedV n v
  zero : List.replicate n 0 ∈ l
theorem nd_len {α : Type} [BEq α] [LawfulBEq α] : ∀ {l r : List α}, l.Nodup → (∀ x ∈ l, x ∈ r) → l.length ≤ r.length
  | [], r, _, _ => Nat.zero_le _
  | x :: l, r, hn, hs => by
    obtain ⟨h1, h2⟩ := List.nodup_cons.mp hn
    have := nd_len (r := r.erase x) h2 fun y hy => (List.mem_erase_of_ne (fun (e : y = x) => h1 (by rw [← e]; exact hy))).mpr (hs y (List.mem_cons_of_mem _ hy))
    have hx := hs x List.mem_cons_self
    have e := List.length_erase_of_mem hx
    have := List.length_pos_of_mem hx
    rw [List.length_cons]
    omega
def allN : Nat → List (List Nat)
  | 0 => [[]]
  | n + 1 => (allN n).flatMap fun v => (List.range 4).map fun x => x :: v
theorem allN_len : ∀ n, (allN n).length = 4 ^ n
  | 0 => rfl
  | n + 1 => by
    have ih := allN_len n
    unfold allN
    rw [Nat.pow_succ, ← ih]
    generalize allN n = l
    induction l with
    | nil => rfl
    | cons a t ih => rw [List.flatMap_cons, List.length_append, ih, List.length_cons, List.length_map, List.length_range]; omega
theorem need_mem : ∀ {n : Nat} {v : List Nat}, NeedV n v → v ∈ allN n
  | 0, [], _ => List.mem_singleton.mpr rfl
  | 0, x :: v, h => by have := h.len; simp at this
  | n + 1, [], h => by have := h.len; simp at this
  | n + 1, x :: v, h => List.mem_flatMap.mpr ⟨v, need_mem ⟨by have := h.len; simpa using this, fun y hy => h.few y (List.mem_cons_of_mem _ hy)⟩, List.mem_map.mpr ⟨x, List.mem_range.mpr (by have := h.few x List.mem_cons_self; omega), rfl⟩⟩
theorem TabN.len {n : Nat} (hn : n ≤ 5) {l : List (List Nat)} (h : TabN n l) : l.length ≤ 1024 := by
  refine Nat.le_trans (nd_len h.nd fun v hv => need_mem (h.nv v hv)) ?_
  rw [allN_len]
  exact Nat.pow_le_pow_right (by decide) hn
theorem TabN.add {n : Nat} {l : List (List Nat)} (h : TabN n l) {v : List Nat} (hv : NeedV n v) (hm : v ∉ l) : TabN n (l ++ [v]) :=
  ⟨List.nodup_append.mpr ⟨h.nd, by simp, fun a ha b hb => by rw [List.mem_singleton.mp hb]; exact fun e => hm (e ▸ ha)⟩, fun u hu => by
    rcases List.mem_append.mp hu with hu | hu
    · exact h.nv u hu
    · rw [List.mem_singleton.mp hu]; exact hv, List.mem_append_left _ h.zero⟩
def f_meanOf (d : Nat) : FSp := fun args m R => ∃ (ss : List Int) (v : List Nat) (p : Addr) (l : List (List Nat)), args = [.d (tupI ss), .t (kn v), .v (.ref p)] ∧ Shares ss ∧ NeedV ss.length v ∧ v.sum < d ∧ v.sum ≤ 9 ∧ TabN ss.length l ∧ m p = some (.dT (tabT (mnN ss) l)) ∧
  ∀ l', TabN ss.length l' → v ∈ l' → R (.d (frac (mnN ss v))) (put m p (.dT (tabT (mnN ss) l')))
theorem getV_tabNo {f : List Nat → Rat} {s : List Nat} : ∀ {l : List (List Nat)}, s ∉ l → getV (tabT f l) (kI (kn s)) = none
  | [], _ => rfl
  | a :: l, h => by
    have e2 : ¬ kI (kn a) = kI (kn s) := fun z => h (by rw [kn_inj (kI_inj z)]; exact List.mem_cons_self)
    have := getV_tabNo (f := f) (s := s) (l := l) fun z => h (List.mem_cons_of_mem _ z)
    unfold tabT at this ⊢
    rw [List.map_cons]
    simp only [getV, List.find?_cons, e2, decide_false] at this ⊢
    exact this
theorem kn_take (v : List Nat) (k : Nat) : (kn v).take k = kn (v.take k) := List.map_take.symm
theorem kn_drop (v : List Nat) (k : Nat) : (kn v).drop k = kn (v.drop k) := List.map_drop.symm
theorem kn_app (a b : List Nat) : kn a ++ kn b = kn (a ++ b) := List.map_append.symm
theorem kn_at {v : List Nat} {k : Nat} (h : k < v.length) : atI ((kn v).map PyData.int) (k : Int) = some (.int ((v.getD k 0 : Nat) : Int)) := by
  unfold kn
  rw [atI_nth, List.map_map, List.getElem?_map, List.getD_eq_getElem?_getD, List.getElem?_eq_getElem h]; rfl
theorem put_self {m : Mm} {a : Addr} {o : MO} (h : m a = some o) : put m a o = m := by
  funext b
  by_cases e : b = a
  · subst e; rw [put_same, h]
  · rw [put_ne e]
theorem updQ_self (f : List Nat → Rat) (t : List Nat) : updQ f t (f t) = f := by
  funext u
  unfold updQ
  by_cases e : u = t
  · rw [if_pos e, e]
  · rw [if_neg e]
theorem tabN_put {n : Nat} {f : List Nat → Rat} {l : List (List Nat)} (h : TabN n l) {v : List Nat} (hv : NeedV n v) : ∃ l', TabN n l' ∧ v ∈ l' ∧ putV (tabT f l) (kI (kn v)) (.d (frac (f v))) = tabT f l' := by
  by_cases hm : v ∈ l
  · exact ⟨l, h, hm, by rw [putV_tabT hm, updQ_self]⟩
  · exact ⟨l ++ [v], h.add hv hm, List.mem_append_right _ (List.mem_singleton.mpr rfl), putV_tab hm⟩
theorem accN_snoc {ss : List Int} {P : List Nat → Rat} {v l : List Nat} (k : Nat) : accN ss P v (l ++ [k]) = accN ss P v l + ((ss.getD k 0 : Int) : Rat) * P (lessV v k) := by
  unfold accN
  rw [List.foldl_append]; rfl
/-! (0,) * n as a key -/
section
variable {K : PySem.W.Frag} {m : Mm} {Q : Val → Mm → Prop}
theorem o2_mulTt {i : Int} {n : Nat} (h1 : 1 ≤ n) (h2 : n ≤ 1000) (q : Q (.t (List.replicate n i)) m) : Op2 K (rMul K) (.t [i]) (.d (.int (n : Int))) m Q := fun H G v w S a b R k => by
  rw [int_of b]
  cases a with
  | @t _ p h =>
    by_cases e : n = 1
    · subst e
      exact Or.inr (Or.inr (Or.inl ⟨p, [V.int i], rfl, rfl, S.sqT (SqT.of h), k _ H G _ m q S (Le.refl G) (.t h)⟩))
    · refine Or.inr (Or.inl ⟨p, (n : Int), [V.int i], rfl, rfl, S.sqT (SqT.of h), List.cons_ne_nil _ _, by omega, by omega, by show 1 ≤ 1000; decide, fun l hl => ?_⟩)
      have hg := S.free hl
      have en : ((n : Int)).toNat = n := by omega
      rw [en]
      have e2 : (List.replicate n [V.int i]).flatten = (List.replicate n i).map V.int := by simp
      rw [e2]
      exact k _ _ (upd G l _) _ m q (S.fix hl) (Le.new hg) (.t upd_same)
end
/-! how many states, what is right -/
def stN : List Nat → Nat
  | [] => 1
  | x :: v => (x + 1) * stN v
theorem stN_app : ∀ a b : List Nat, stN (a ++ b) = stN a * stN b
  | [], b => by simp [stN]
  | x :: a, b => by rw [List.cons_append, stN, stN, stN_app a b, Nat.mul_assoc]
theorem few_sum' : ∀ n : _root_.Fin 6, ∀ v ∈ allN n.val, stN v ≤ 64 → v.sum ≤ 9 := by decide +kernel
theorem few_sum {n : Nat} (h5 : n ≤ 5) {v : List Nat} (hv : NeedV n v) (h : stN v ≤ 64) : v.sum ≤ 9 := few_sum' ⟨n, by omega⟩ v (need_mem hv) h
theorem stN_le {n : Nat} : ∀ {v : List Nat}, (∀ x ∈ v, x ≤ 3) → v.length ≤ n → stN v ≤ 4 ^ n
  | [], _, _ => Nat.pow_pos (by decide)
  | x :: v, h, hl => by
    cases n with
    | zero => simp at hl
    | succ n =>
      have ih := stN_le (n := n) (v := v) (fun y hy => h y (List.mem_cons_of_mem _ hy)) (by simpa using hl)
      have := h x List.mem_cons_self
      rw [stN, Nat.pow_succ, Nat.mul_comm]
      exact Nat.mul_le_mul ih (by omega)
def okN : PyData → Bool
  | .int i => decide (0 ≤ i) && decide (i ≤ 3)
  | _ => false
def rightN (n : Nat) : PyData → Bool
  | .tuple ds => decide (ds.length = n) && ds.all okN
  | _ => false
theorem right_of {n : Nat} {v : List Nat} (h : NeedV n v) : rightN n (.tuple ((kn v).map PyData.int)) = true := by
  show (decide (((v.map fun (k : Nat) => (k : Int)).map PyData.int).length = n) && _) = true
  rw [List.length_map, List.length_map, h.len, decide_eq_true rfl, Bool.true_and, List.all_eq_true]
  intro d hd
  obtain ⟨i, hi, rfl⟩ := List.mem_map.mp hd
  obtain ⟨x, hx, rfl⟩ := List.mem_map.mp hi
  have := h.few x hx
  simp [okN]
  omega
def f_rightNeeds : FSp := fun args m R => ∃ (x : PyData) (ss : List Int), args = [.d x, .d (tupI ss)] ∧ ss.length ≤ 5 ∧ R (.d (.bool (rightN ss.length x))) m
def f_areNeeds : FSp := fun args m R => ∃ (x : PyData) (ss : List Int), args = [.d x, .d (tupI ss)] ∧ Shares ss ∧ R (.d (.bool (rightN ss.length x))) m
def f_needNeeds : FSp := fun args m R => ∃ (x : PyData) (ss : List Int), args = [.d (tupI ss), .d x] ∧ Shares ss ∧ rightN ss.length x = true ∧ R (.d .none) m
def f_needFew : FSp := fun args m R => ∃ (v : List Nat), args = [.d (.tuple ((kn v).map PyData.int))] ∧ v.length ≤ 5 ∧ (∀ x ∈ v, x ≤ 3) ∧ stN v ≤ 64 ∧ R (.d .none) m
def f_meanNeeds : FSp := fun args m R => ∃ (ss : List Int) (v : List Nat), args = [.d (tupI ss), .t (kn v)] ∧ Shares ss ∧ NeedV ss.length v ∧ stN v ≤ 64 ∧ R (.d (frac (mnN ss v))) m
end DL
/-! k24: so many draws with so many of each, by times: plain mathematics -/
namespace DL
open PySem L2 RZ
/-- sum over the first n numbers -/
def sg (n : Nat) (f : Nat → Int) : Int := ((List.range n).map f).sum
theorem sg_zero (f : Nat → Int) : sg 0 f = 0 := rfl
theorem sg_succ (n : Nat) (f : Nat → Int) : sg (n + 1) f = sg n f + f n := by
  unfold sg
  rw [List.range_succ, List.map_append, List.sum_append]
  simp
theorem sg_congr {n : Nat} {f g : Nat → Int} (h : ∀ i, i < n → f i = g i) : sg n f = sg n g := by
  unfold sg
  exact congrArg List.sum (List.map_congr_left fun i hi => h i (List.mem_range.mp hi))
theorem sg_mul (n : Nat) (a : Int) (f : Nat → Int) : sg n (fun i => a * f i) = a * sg n f := by
  induction n with
  | zero => rw [sg_zero, sg_zero, Int.mul_zero]
  | succ n ih => rw [sg_succ, sg_succ, ih, Int.mul_add]
/-- how many ways to choose -/
def ch : Nat → Nat → Nat
  | _, 0 => 1
  | 0, _ + 1 => 0
  | n + 1, m + 1 => ch n m + ch n (m + 1)
/-! turn by turn -/
def uN (ss : List Int) : Nat → List Nat → Int
  | 0, v => if v = List.replicate v.length 0 then 1 else 0
  | n + 1, v => sg ss.length fun k => ss.getD k 0 * uN ss n (lessV v k)
/-! the dict of a turn -/
def totF (F : List Nat → Int) (l : List (List Nat)) (φ : List Nat → Int) : Int := (l.map fun s => F s * φ s).sum
theorem tot_same {F G : List Nat → Int} {φ : List Nat → Int} {l : List (List Nat)} (h : ∀ s ∈ l, F s = G s) : totF F l φ = totF G l φ := by
  unfold totF
  exact congrArg List.sum (List.map_congr_left fun s hs => by rw [h s hs])
theorem tot_in {F : List Nat → Int} {φ : List Nat → Int} {t : List Nat} {x : Int} : ∀ {l : List (List Nat)}, l.Nodup → t ∈ l → totF (addF F (t, x)) l φ = totF F l φ + x * φ t
  | a :: l, hn, ht => by
    obtain ⟨h1, h2⟩ := List.nodup_cons.mp hn
    unfold totF
    rw [List.map_cons, List.sum_cons, List.map_cons, List.sum_cons]
    by_cases e : a = t
    · subst e
      have := tot_same (F := addF F (a, x)) (G := F) (φ := φ) (l := l) fun s hs => by
        have : s ≠ a := fun e => h1 (e ▸ hs)
        simp [addF, this]
      unfold totF at this
      rw [this]
      have e2 : addF F (a, x) a = F a + x := by simp [addF]
      rw [e2, Int.add_mul]
      omega
    · have hm : t ∈ l := by
        rcases List.mem_cons.mp ht with h | h
        · exact absurd h.symm e
        · exact h
      have ih := tot_in (F := F) (φ := φ) (x := x) h2 hm
      unfold totF at ih
      rw [ih]
      have e2 : addF F (t, x) a = F a := by simp [addF, e]
      rw [e2]
      omega
theorem tot_add {F : List Nat → Int} {l : List (List Nat)} (hn : l.Nodup) (off : ∀ s, s ∉ l → F s = 0) (t : List Nat) (x : Int) (φ : List Nat → Int) : totF (addF F (t, x)) (insL l t) φ = totF F l φ + x * φ t := by
  unfold insL
  by_cases h : t ∈ l
  · rw [if_pos h]; exact tot_in hn h
  · rw [if_neg h]
    have e := tot_same (F := addF F (t, x)) (G := F) (φ := φ) (l := l) fun s hs => by
      have : s ≠ t := fun e => h (e ▸ hs)
      simp [addF, this]
    unfold totF at e ⊢
    rw [List.map_append, List.sum_append, e]
    have e2 : addF F (t, x) t = x := by simp [addF, off t h]
    simp [e2]
structure TabG (n : Nat) (F : List Nat → Int) (l : List (List Nat)) : Prop where
  nd : l.Nodup
  nv : ∀ s ∈ l, NeedV n s
  off : ∀ s, s ∉ l → F s = 0
  nn : ∀ s, 0 ≤ F s
theorem TabG.add {n : Nat} {F : List Nat → Int} {l : List (List Nat)} (h : TabG n F l) {t : List Nat} (ht : NeedV n t) {x : Int} (hx : 0 ≤ x) : TabG n (addF F (t, x)) (insL l t) := by
  have nn : ∀ s, 0 ≤ addF F (t, x) s := fun s => by
    have := h.nn s
    unfold addF
    split <;> omega
  unfold insL
  by_cases hm : t ∈ l
  · rw [if_pos hm]
    exact ⟨h.nd, h.nv, fun s hs => by
      have : s ≠ t := fun e => hs (e ▸ hm)
      simp [addF, this, h.off s hs], nn⟩
  · rw [if_neg hm]
    refine ⟨List.nodup_append.mpr ⟨h.nd, by simp, fun a ha b hb => by rw [List.mem_singleton.mp hb]; exact fun e => hm (e ▸ ha)⟩, fun s hs => ?_, fun s hs => ?_, nn⟩
    · rcases List.mem_append.mp hs with hs | hs
      · exact h.nv s hs
      · rw [List.mem_singleton.mp hs]; exact ht
    · have h1 : s ∉ l := fun z => hs (List.mem_append_left _ z)
      have h2 : s ≠ t := fun e => hs (by rw [e]; exact List.mem_append_right _ (List.mem_singleton.mpr rfl))
      simp [addF, h2, h.off s h1]
theorem TabG.len {n : Nat} (hn : n ≤ 5) {F : List Nat → Int} {l : List (List Nat)} (h : TabG n F l) : l.length ≤ 1024 := by
  refine Nat.le_trans (nd_len h.nd fun v hv => need_mem (h.nv v hv)) ?_
  rw [allN_len]
  exact Nat.pow_le_pow_right (by decide) hn
theorem tot_ge {F : List Nat → Int} (nn : ∀ s, 0 ≤ F s) : ∀ (l : List (List Nat)), 0 ≤ totF F l (fun _ => 1) ∧ ∀ s ∈ l, F s ≤ totF F l fun _ => 1
  | [] => ⟨Int.le_refl _, fun _ h => nomatch h⟩
  | a :: l => by
    obtain ⟨h1, h2⟩ := tot_ge nn l
    have ha := nn a
    have e : totF F (a :: l) (fun _ => 1) = F a + totF F l fun _ => 1 := by
      unfold totF
      rw [List.map_cons, List.sum_cons, Int.mul_one]
    rw [e]
    refine ⟨by omega, fun s hs => ?_⟩
    rcases List.mem_cons.mp hs with rfl | hs
    · omega
    · have := h2 s hs; omega
theorem TabG.le {n : Nat} {F : List Nat → Int} {l : List (List Nat)} (h : TabG n F l) (s : List Nat) : F s ≤ totF F l fun _ => 1 := by
  obtain ⟨h1, h2⟩ := tot_ge h.nn l
  by_cases hs : s ∈ l
  · exact h2 s hs
  · rw [h.off s hs]; exact h1
/-- what is left at nothing more to need -/
theorem tot_none {n : Nat} {F : List Nat → Int} : ∀ {l : List (List Nat)}, l.Nodup → (∀ s ∈ l, s.length = n) → totF F l (fun s => if s = List.replicate s.length 0 then 1 else 0) = if List.replicate n 0 ∈ l then F (List.replicate n 0) else 0
  | [], _, _ => rfl
  | a :: l, hn, hl => by
    obtain ⟨h1, h2⟩ := List.nodup_cons.mp hn
    have ih := tot_none (F := F) h2 fun s hs => hl s (List.mem_cons_of_mem _ hs)
    have e : totF F (a :: l) (fun s => if s = List.replicate s.length 0 then 1 else 0) = F a * (if a = List.replicate a.length 0 then 1 else 0) + totF F l fun s => if s = List.replicate s.length 0 then 1 else 0 := by
      unfold totF
      rw [List.map_cons, List.sum_cons]
    rw [e, ih, hl a List.mem_cons_self]
    by_cases ha : a = List.replicate n 0
    · subst ha
      rw [if_pos rfl, if_neg h1, if_pos List.mem_cons_self]
      omega
    · have : (List.replicate n 0 ∈ a :: l) ↔ List.replicate n 0 ∈ l := by
        rw [List.mem_cons]
        exact ⟨fun h => h.resolve_left fun e => ha e.symm, Or.inr⟩
      rw [if_neg ha, Int.mul_zero, Int.zero_add]
      simp only [this]
theorem TabG.none {n : Nat} {F : List Nat → Int} {l : List (List Nat)} (h : TabG n F l) : totF F l (fun s => if s = List.replicate s.length 0 then 1 else 0) = F (List.replicate n 0) := by
  rw [tot_none h.nd fun s hs => (h.nv s hs).len]
  by_cases hz : List.replicate n 0 ∈ l
  · rw [if_pos hz]
  · rw [if_neg hz, h.off _ hz]
def stpN (ss : List Int) (φ : List Nat → Int) : List Nat → Int := fun s => sg ss.length fun k => ss.getD k 0 * φ (lessV s k)
def stepN (ss : List Int) : Nat → (List Nat → Int) → List Nat → Int
  | 0, φ => φ
  | i + 1, φ => stepN ss i (stpN ss φ)
theorem step_uN (ss : List Int) : ∀ (i j : Nat), stepN ss i (uN ss j) = uN ss (i + j)
  | 0, j => by rw [Nat.zero_add]; rfl
  | i + 1, j => by
    have e : stpN ss (uN ss j) = uN ss (j + 1) := rfl
    rw [stepN, e, step_uN ss i (j + 1)]
    congr 1
    omega
theorem sg_shares (ss : List Int) : (sg ss.length fun k => ss.getD k 0) = ss.sum := sumP_range ss
theorem step_one (ss : List Int) : ∀ (i : Nat) (c : Int), stepN ss i (fun _ => c) = fun _ => ss.sum ^ i * c
  | 0, c => by rw [stepN]; funext s; rw [Int.pow_zero, Int.one_mul]
  | i + 1, c => by
    have e : stpN ss (fun _ => c) = fun _ => ss.sum * c := by
      funext s
      unfold stpN
      have := sg_mul ss.length c fun k => ss.getD k 0
      rw [sg_shares] at this
      rw [Int.mul_comm ss.sum, ← this]
      exact sg_congr fun k _ => Int.mul_comm _ _
    rw [stepN, e, step_one ss i]
    funext s
    rw [Int.pow_succ, Int.mul_assoc]
theorem tot_snoc (F : List Nat → Int) (l : List (List Nat)) (s : List Nat) (φ : List Nat → Int) : totF F (l ++ [s]) φ = totF F l φ + F s * φ s := by
  unfold totF
  rw [List.map_append, List.sum_append]
  simp
theorem tabG_bt {ss : List Int} (hs : Shares ss) {F : List Nat → Int} {l : List (List Nat)} (h : TabG ss.length F l) {i : Nat} (hi : i ≤ 8) {v : List Nat} (ht : ∀ φ, totF F l φ = stepN ss i φ v) (s : List Nat) : Bt (F s) 60 := by
  have h1 : F s ≤ ss.sum ^ i * 1 := by
    have := h.le s
    rw [ht, step_one] at this
    exact this
  have h2 := h.nn s
  rw [Int.mul_one] at h1
  have hsum := shares_sum hs
  have e : ss.sum = ((ss.sum.toNat : Nat) : Int) := by omega
  rw [e, ← Int.natCast_pow] at h1
  have h3 : ss.sum.toNat ^ i ≤ 45 ^ 8 := Nat.le_trans (Nat.pow_le_pow_left (show ss.sum.toNat ≤ 45 by omega) i) (Nat.pow_le_pow_right (by decide) hi)
  exact bt_lit (n := 60) (by show _ < 1152921504606846976; omega) (by decide)
def shareN (ss : List Int) (n : Nat) (v : List Nat) : Rat := mkRat (uN ss n v) (ss.sum.toNat ^ n)
def f_needsShare : FSp := fun args m R => ∃ (ss : List Int) (v : List Nat) (n : Nat), args = [.d (tupI ss), .t (kn v), .d (.int (n : Int))] ∧ Shares ss ∧ NeedV ss.length v ∧ stN v ≤ 64 ∧ n ≤ 8 ∧ R (.d (frac (shareN ss n v))) m
theorem t24_pos {ss : List Int} (hs : Shares ss) (n : Nat) : 0 < ss.sum.toNat ^ n := by
  have hsum := shares_sum hs
  exact Nat.pow_pos (by omega)
theorem t24_bt {ss : List Int} (hs : Shares ss) {n : Nat} (hn : n ≤ 8) : Bt ((ss.sum.toNat ^ n : Nat) : Int) 60 := by
  have hsum := shares_sum hs
  have h3 : ss.sum.toNat ^ n ≤ 45 ^ 8 := Nat.le_trans (Nat.pow_le_pow_left (show ss.sum.toNat ≤ 45 by omega) n) (Nat.pow_le_pow_right (by decide) hn)
  exact bt_lit (n := 60) (by show _ < 1152921504606846976; omega) (by decide)
/-! bounds -/
/-! rows -/
end DL
/-! k25: the mean until one kind is there as often as asked: plain mathematics -/
namespace DL
open PySem L2
/-- the mean, from what is still needed of each -/
def anF (ss : List Int) : Nat → List Nat → Rat
  | 0, _ => 0
  | n + 1, v => if 0 ∈ v then 0 else accN ss (anF ss n) v (List.range ss.length) * mkRat 1 ss.sum.toNat
def anN (ss : List Int) (v : List Nat) : Rat := anF ss v.sum v
theorem pos_of {v : List Nat} (h : 0 ∉ v) {k : Nat} (hk : k < v.length) : 0 < v.getD k 0 := by
  rw [List.getD_eq_getElem?_getD, List.getElem?_eq_getElem hk]
  have : v[k] ≠ 0 := fun e => h (e ▸ List.getElem_mem hk)
  show 0 < v[k]
  omega
theorem anN_step {ss : List Int} (hs : Shares ss) {v : List Nat} (hv : v.length = ss.length) : anN ss v = if 0 ∈ v then 0 else accN ss (anN ss) v (List.range ss.length) * mkRat 1 ss.sum.toNat := by
  have h1 := hs.pos
  by_cases h : 0 ∈ v
  · rw [if_pos h]
    unfold anN
    cases v.sum with
    | zero => rfl
    | succ n => show (if 0 ∈ v then 0 else _) = _; rw [if_pos h]
  · rw [if_neg h]
    have hs1 := lessV_sum (v := v) (k := 0) (by omega) (pos_of h (by omega))
    unfold anN
    cases hn : v.sum with
    | zero => omega
    | succ n =>
      show (if 0 ∈ v then 0 else _) = _
      rw [if_neg h]
      refine congrArg (· * _) (accN_congr _ fun k hk => ?_)
      have hk := List.mem_range.mp hk
      have := lessV_sum (v := v) (k := k) (by omega) (pos_of h (by omega))
      rw [show n = (lessV v k).sum by omega]
/-! bounds -/
theorem anN_b {ss : List Int} (hs : Shares ss) : ∀ (n : Nat) (v : List Nat), v.length = ss.length → v.sum = n → ChB (anN ss v) (ss.sum.toNat ^ n) (2 ^ (6 * (n + 1)))
  | n, v, hv, hn => by
    have hsum := shares_sum hs
    have h1 := hs.pos
    rw [anN_step hs hv]
    by_cases h : 0 ∈ v
    · rw [if_pos h]
      exact ⟨Rat.le_refl, Rat.natCast_nonneg, InD.int 0 _⟩
    · rw [if_neg h]
      have hs1 := lessV_sum (v := v) (k := 0) (by omega) (pos_of h (by omega))
      match n, hn with
      | 0, hn => omega
      | n + 1, hn =>
        have ih : ∀ k ∈ List.range ss.length, ChB (anN ss (lessV v k)) (ss.sum.toNat ^ n) (2 ^ (6 * (n + 1))) := fun k hk => by
          have hk := List.mem_range.mp hk
          exact anN_b hs n _ (by rw [lessV_set (by omega), List.length_set]; exact hv) (by have := lessV_sum (v := v) (k := k) (by omega) (pos_of h (by omega)); omega)
        have c := acc_b hs (by rw [List.length_range]; exact hs.few) ih
        have g1 : 0 < ss.sum.toNat := by omega
        have w := ch_mul (u := 45 + 45 * 2 ^ (6 * (n + 1))) (v := 1) ⟨c.nn, c.le⟩ (q := mkRat 1 ss.sum.toNat) (by
          rw [Rat.mkRat_eq_div]
          have z := (QB.nat 1).over (n := ss.sum.toNat) (e := 6) (w := 1) g1 (by omega) (by omega)
          have e2 : (((1 : Nat) : Int) : Rat) * mkRat 1 ss.sum.toNat = ((1 : Int) : Rat) / ((ss.sum.toNat : Nat) : Rat) := by
            rw [Rat.mkRat_eq_div]
            show ((1 : Int) : Rat) * _ = _
            rw [show ((1 : Int) : Rat) = 1 from rfl, Rat.one_mul]
          rw [e2] at z
          exact ⟨z.nn, z.le⟩)
        refine ⟨w.1, Rat.le_trans w.2 (Rat.natCast_le_natCast.mpr ?_), ?_⟩
        · have e : 2 ^ (6 * (n + 1 + 1)) = 64 * 2 ^ (6 * (n + 1)) := by rw [Nat.mul_add 6 (n + 1) 1, Nat.pow_add]; omega
          have p : 2 ^ 6 ≤ 2 ^ (6 * (n + 1)) := Nat.pow_le_pow_right (by decide) (by omega)
          rw [e]
          generalize 2 ^ (6 * (n + 1)) = X at *
          omega
        · rw [Nat.pow_succ]
          exact c.ind.frac 1 g1
theorem sum_pow {ss : List Int} (hs : Shares ss) {n : Nat} (hn : n ≤ 9) : 0 < ss.sum.toNat ^ n ∧ ss.sum.toNat ^ n ≤ 2 ^ 54 := by
  have hsum := shares_sum hs
  refine ⟨Nat.pow_pos (by omega), Nat.le_trans (Nat.pow_le_pow_left (show ss.sum.toNat ≤ 2 ^ 6 by omega) n) ?_⟩
  rw [← Nat.pow_mul]
  exact Nat.pow_le_pow_right (by decide) (by omega)
theorem anN_fr {ss : List Int} (hs : Shares ss) {v : List Nat} (hv : v.length = ss.length) (hn : v.sum ≤ 9) : FrB (anN ss v) 200 := by
  have c := anN_b hs _ v hv rfl
  obtain ⟨h1, h2⟩ := sum_pow hs hn
  exact (c.frB (e := 61) h1 h2 (Nat.pow_lt_pow_right (by decide) (by omega))).mono (by decide)
theorem anA_fr {ss : List Int} (hs : Shares ss) {v : List Nat} (hv : v.length = ss.length) (h : 0 ∉ v) (hn : v.sum ≤ 9) (i : Nat) : FrB (accN ss (anN ss) v ((List.range ss.length).take i)) 200 := by
  have h5 := hs.few
  have ih : ∀ k ∈ (List.range ss.length).take i, ChB (anN ss (lessV v k)) (ss.sum.toNat ^ (v.sum - 1)) (2 ^ (6 * 9)) := fun k hk => by
    have hk := List.mem_range.mp (List.mem_of_mem_take hk)
    have e := lessV_sum (v := v) (k := k) (by omega) (pos_of h (by omega))
    have c := anN_b hs _ (lessV v k) (by rw [lessV_set (by omega), List.length_set]; exact hv) (show (lessV v k).sum = v.sum - 1 by omega)
    exact ⟨c.nn, Rat.le_trans c.le (Rat.natCast_le_natCast.mpr (Nat.pow_le_pow_right (by decide) (by omega))), c.ind⟩
  obtain ⟨h1, h2⟩ := sum_pow hs (n := v.sum - 1) (by omega)
  exact ((acc_b hs (by rw [List.length_take, List.length_range]; omega) ih).frB (e := 61) h1 h2 (by decide)).mono (by decide)
structure TabA (n : Nat) (l : List (List Nat)) : Prop where
  nd : l.Nodup
  nv : ∀ v ∈ l, NeedV n v
def f_anyOf (d : Nat) : FSp := fun args m R => ∃ (ss : List Int) (v : List Nat) (p : Addr) (l : List (List Nat)), args = [.d (tupI ss), .t (kn v), .v (.ref p)] ∧ Shares ss ∧ NeedV ss.length v ∧ v.sum < d ∧ v.sum ≤ 9 ∧ TabA ss.length l ∧ m p = some (.dT (tabT (anN ss) l)) ∧
  ∀ l', TabA ss.length l' → R (.d (frac (anN ss v))) (put m p (.dT (tabT (anN ss) l')))
theorem tabA_put {n : Nat} {f : List Nat → Rat} {l : List (List Nat)} (h : TabA n l) {v : List Nat} (hv : NeedV n v) : ∃ l', TabA n l' ∧ v ∈ l' ∧ putV (tabT f l) (kI (kn v)) (.d (frac (f v))) = tabT f l' := by
  by_cases hm : v ∈ l
  · exact ⟨l, h, hm, by rw [putV_tabT hm, updQ_self]⟩
  · refine ⟨l ++ [v], ⟨List.nodup_append.mpr ⟨h.nd, by simp, fun a ha b hb => by rw [List.mem_singleton.mp hb]; exact fun e => hm (e ▸ ha)⟩, fun u hu => ?_⟩, List.mem_append_right _ (List.mem_singleton.mpr rfl), putV_tab hm⟩
    rcases List.mem_append.mp hu with hu | hu
    · exact h.nv u hu
    · rw [List.mem_singleton.mp hu]; exact hv
theorem TabA.len {n : Nat} (hn : n ≤ 5) {l : List (List Nat)} (h : TabA n l) : l.length ≤ 1024 := by
  refine Nat.le_trans (nd_len h.nd fun v hv => need_mem (h.nv v hv)) ?_
  rw [allN_len]
  exact Nat.pow_le_pow_right (by decide) hn
def f_meanAny : FSp := fun args m R => ∃ (ss : List Int) (v : List Nat), args = [.d (tupI ss), .t (kn v)] ∧ Shares ss ∧ NeedV ss.length v ∧ stN v ≤ 64 ∧ R (.d (frac (anN ss v))) m
end DL
/-! comprehensions over what is not known ahead -/
namespace DL
open PySem L2
section
variable {K : PySem.W.Frag} {r : List Val} {m : Mm} {Q : Val → Mm → Prop} {te : TE} {tt : TT}
theorem w_forLtI {tl : TE} {j : Nat} {t : TS} {N : List Val → Mm → Prop} {E : Val → Mm → Prop} (h : Ev K tl r m fun x m1 => ∃ nss, x = .lt nss ∧ ∃ W : Nat → List Val → Mm → Prop, W 0 r m1 ∧
    (∀ (i : Nat) (ns : List Int) r' m', nss[i]? = some ns → W i r' m' → Wp K t (r'.set j (.t ns)) m' (W (i + 1)) E) ∧ (∀ r' m', W nss.length r' m' → N r' m')) : Wp K (tFor (iList K tl) (gName j) t) r m N E := fun σ H G D S L a b =>
  h σ H G S L _ fun v H1 G1 x m1 ⟨nss, hx, W, h0, hs, hd⟩ S1 e1 r1 => by
    subst hx
    cases r1 with
    | @lt _ p xs hs1 hA =>
      have hs1 : SqL K G1 p xs := Or.inl hs1
      refine ⟨p, rfl, ⟨xs, S1.sqL hs1⟩, for_list (xs := xs) (fun i σ' H' => ∃ G' r' m', W i r' m' ∧ Sta K m' H' G' ∧ Le G1 G' ∧ Sl K G' r' σ') ⟨G1, r, _, h0, S1, Le.refl G1, L.mono e1⟩ ?_ ?_ ?_⟩
      · rintro i σ' H' hi ⟨G', r', m', _, S', e', _⟩
        exact S'.sqL (e'.sqL hs1)
      · rintro i y σ' H' hy ⟨G', r', m', hw, S', e', L'⟩
        obtain ⟨ns, c, hns, rfl, hc⟩ := hA.at hy
        refine hs i ns r' m' hns hw (σ'.set j (some (.ref c))) H' G' _ S' (L'.set (r := .t ns) (.t (e' _ _ hc)) j) (fun σ3 H3 G3 r3 m3 h3 S3 e3 L3 => ⟨G3, r3, m3, h3, S3, e'.trans e3, L3⟩) (fun v H3 G3 x m3 n3 S3 e3 L3 => b v H3 G3 x m3 n3 S3 (e1.trans (e'.trans e3)) L3)
      · rintro σ' H' ⟨G', r', m', hw, S', e', L'⟩
        rw [hA.len] at hw
        exact a σ' H' G' r' m' (hd r' m' hw) S' (e1.trans e') L'
end
end DL
/-! pairs of a whole number and a tuple of ints, lists of such, these sorted -/
namespace DL
open PySem L2 PySem.Spec PyProof.Rows
def qP (i : Int) (ns : List Int) : Hp → V → Prop := fun G v => ∃ b c, v = .ref b ∧ G b = some (.tup [.int i, .ref c]) ∧ G c = some (.tup (ns.map V.int))
theorem qP.mono {i : Int} {ns : List Int} {v : V} (G G' : Hp) (e : Le G G') (h : qP i ns G v) : qP i ns G' v := by
  obtain ⟨b, c, h1, h2, h3⟩ := h
  exact ⟨b, c, h1, e _ _ h2, e _ _ h3⟩
def lqP (qs : List (Int × List Int)) : Hp → V → Prop := fun G v => ∃ (a : Addr) (bs : List (V × Int × List Int)), v = .ref a ∧ Rd G a (.lst (bs.map (·.1))) ∧ bs.map (·.2) = qs ∧ ∀ b ∈ bs, qP b.2.1 b.2.2 G b.1
theorem lqP.mono {qs : List (Int × List Int)} {v : V} (G G' : Hp) (e : Le G G') (h : lqP qs G v) : lqP qs G' v := by
  obtain ⟨a, bs, h1, h2, h3, h4⟩ := h
  exact ⟨a, bs, h1, e.rd h2, h3, fun b hb => (h4 b hb).mono _ _ e⟩
/-! sorted of such a list -/
end DL
/-! dicts whose keys are pairs of tuples of ints -/
namespace DL
open PySem L2 PySem.Spec PyProof.Rows
abbrev PK := List Int × List Int
def pkK (k : PK) : NestedKey := .tup [.tup (k.1.map NestedKey.num), .tup (k.2.map NestedKey.num)]
def PkAt (H : Hp) (b : Addr) (k : PK) : Prop := ∃ c d, H b = some (.tup [.ref c, .ref d]) ∧ H c = some (.tup (k.1.map V.int)) ∧ H d = some (.tup (k.2.map V.int))
theorem PkAt.keep {H H' : Hp} {b : Addr} {k : PK} (e : ∀ c xs, H c = some (.tup xs) → H' c = some (.tup xs)) (h : PkAt H b k) : PkAt H' b k := by
  obtain ⟨c, d, h1, h2, h3⟩ := h
  exact ⟨c, d, e _ _ h1, e _ _ h2, e _ _ h3⟩
theorem PkAt.mono {H H' : Hp} {b : Addr} {k : PK} (e : Le H H') (h : PkAt H b k) : PkAt H' b k := h.keep fun c xs z => e _ _ z
section
variable {P : Program} {w : World} {H : Hp} {h : Heap}
theorem nest_all : ∀ {ns : List Int} {us : List Value}, Vals (ns.map V.int) us → NestedAll h (ns.map NestedKey.num) us
  | [], us, r => by cases r; exact .nil
  | n :: ns, us, r => by
    cases r with
    | cons r1 r2 =>
      obtain ⟨t, rfl⟩ := r1
      exact .cons (.int n t) (nest_all r2)
theorem nest_ints {c : Addr} {ns : List Int} (ok : HOk P w H h) (e : H c = some (.tup (ns.map V.int))) : NestedIs h (.tup (ns.map NestedKey.num)) (.ref c) := by
  have hok := ok c _ e
  obtain ⟨_, us, r, o, g1, g2, n, g3⟩ := hok
  exact .tup g1 g2 g3 (by rw [List.toList_toArray]; exact nest_all r)
theorem depth_nums : ∀ ns : List Int, NestedKey.depthAll (ns.map NestedKey.num) = 0
  | [] => by simp [NestedKey.depthAll]
  | n :: ns => by simp [NestedKey.depthAll, NestedKey.depth, depth_nums ns]
theorem pk_is {b : Addr} {k : PK} (ok : HOk P w H h) (e : PkAt H b k) : (nestedKind P w).is h (pkK k) b := by
  obtain ⟨c, d, h1, h2, h3⟩ := e
  have hok := ok b _ h1
  obtain ⟨_, us, r, o, g1, g2, n, g3⟩ := hok
  refine ⟨.tup g1 g2 g3 ?_, ?_⟩
  · rw [List.toList_toArray]
    cases r with
    | cons r1 r2 =>
      cases r2 with
      | cons r3 r4 =>
        cases r4
        cases r1
        cases r3
        exact .cons (nest_ints ok h2) (.cons (nest_ints ok h3) .nil)
  · unfold pkK
    simp only [NestedKey.depth, NestedKey.depthAll, depth_nums]
    decide
end
abbrev PkE := PK × Addr × V
def PkR (p : PkE) (q : NestedKey × Addr × Value) : Prop := q.1 = pkK p.1 ∧ q.2.1 = p.2.1 ∧ RelV p.2.2 q.2.2
/-- the dict at a as one object -/
def pkO (P : Program) (w : World) (a : Addr) (es : List PkE) : HO := .ext fun h => (a == sysModules) = false ∧ ∃ xs, Paired PkR es xs ∧ ∃ o en ep, h.get? a = some o ∧ o.ExactDict ∧ o.data = .dict en ep ∧ en.toList = xs.map (entryOfKey (nestedKind P w)) ∧ (xs.map (·.1)).Nodup
def PkOb (P : Program) (w : World) (H : Hp) (a : Addr) (es : List PkE) : Prop := H a = some (pkO P w a es) ∨ es = [] ∧ H a = some (.dT [])
structure PkD (P : Program) (w : World) (H : Hp) (a : Addr) (es : List PkE) : Prop where
  obj : PkOb P w H a es
  keys : ∀ e ∈ es, PkAt H e.2.1 e.1
  few : es.length ≤ 100000
theorem PkD.dict {P : Program} {w : World} {H : Hp} {h : Heap} {a : Addr} {es : List PkE} (ok : HOk P w H h) (x : PkD P w H a es) : (a == sysModules) = false ∧ ∃ xs, Paired PkR es xs ∧ h.DictOfH (nestedKind P w) a xs := by
  rcases x.obj with e | ⟨rfl, e⟩
  · obtain ⟨⟨h0, xs, r, o, en, ep, g1, g2, g3, g4, g5⟩, _⟩ := (show ObjOk P w H h a (pkO P w a es) from ok a _ e)
    refine ⟨h0, xs, r, o, en, ep, g1, g2, g3, g4, fun y hy => ?_, g5⟩
    have all : ∀ {l : List PkE} {ys : List (NestedKey × Addr × Value)}, Paired PkR l ys → (∀ e ∈ l, PkAt H e.2.1 e.1) → ∀ y ∈ ys, (nestedKind P w).is h y.1 y.2.1 := fun {l ys} r => by
      induction r with
      | nil => exact fun _ _ z => nomatch z
      | @cons p q ps qs hpq _ ih =>
        intro hk y hy
        rcases List.mem_cons.mp hy with rfl | hy
        · obtain ⟨e1, e2, _⟩ := hpq
          rw [e1, e2]
          exact pk_is ok (hk p List.mem_cons_self)
        · exact ih (fun e he => hk e (List.mem_cons_of_mem _ he)) y hy
    exact all r x.keys y hy
  · obtain ⟨z, y, xs, r, o, en, ep, g1, g2, g3, g4, _⟩ := (show ObjOk P w H h a (.dT []) from ok a _ e)
    cases r
    exact ⟨y, [], .nil, o, en, ep, g1, g2, g3, g4, (fun _ z => nomatch z), List.nodup_nil⟩
/-! readings and rules -/
/-! at the level of data -/
def pkP (k : PK) : Hp → V → Prop := fun G v => ∃ b, v = .ref b ∧ PkAt G b k
theorem pkP.mono {k : PK} {v : V} (G G' : Hp) (e : Le G G') (h : pkP k G v) : pkP k G' v := by
  obtain ⟨b, h1, h2⟩ := h
  exact ⟨b, h1, h2.mono e⟩
end DL
/-! what the second gatherer lacks when the first one has all -/
namespace DL
open PySem L2
theorem kinds_filter {n : Nat} {s : List Nat} (h : Kinds n s) : (List.range n).filter (fun x => decide (x ∈ s)) = s := by
  have n1 : ((List.range n).filter fun x => decide (x ∈ s)).Nodup := List.nodup_range.filter _
  have n2 : s.Nodup := h.up.imp fun e => Nat.ne_of_lt e
  have hp : ((List.range n).filter fun x => decide (x ∈ s)).Perm s := (List.perm_ext_iff_of_nodup n1 n2).mpr fun x => by
    rw [List.mem_filter, List.mem_range, decide_eq_true_eq]
    exact ⟨fun z => z.2, fun z => ⟨h.lt x z, z⟩⟩
  exact hp.eq_of_pairwise (fun a b _ _ h1 h2 => by omega) (List.pairwise_lt_range.filter _) h.up
theorem kinds_allS {n : Nat} {s : List Nat} (h : Kinds n s) : s ∈ allS n := by
  rw [← kinds_filter h]
  exact allS_filter n _
/-! the tables -/
abbrev PN := List Nat × List Nat
structure TabK (n : Nat) (l : List PN) : Prop where
  nd : l.Nodup
  gs : ∀ k ∈ l, Kinds n k.1 ∧ Kinds n k.2
theorem TabK.len {n : Nat} (hn : n ≤ 5) {l : List PN} (h : TabK n l) : l.length ≤ 1024 := by
  have hm : ∀ k ∈ l, k ∈ (allS n).flatMap fun a => (allS n).map fun b => (a, b) := fun k hk => List.mem_flatMap.mpr ⟨k.1, kinds_allS (h.gs k hk).1, List.mem_map.mpr ⟨k.2, kinds_allS (h.gs k hk).2, rfl⟩⟩
  refine Nat.le_trans (nd_len h.nd hm) ?_
  have hl : ∀ (x y : List (List Nat)), (x.flatMap fun a => y.map fun b => (a, b)).length = x.length * y.length := fun x y => by
    induction x with
    | nil => simp
    | cons a t ih => rw [List.flatMap_cons, List.length_append, ih, List.length_map, List.length_cons, Nat.succ_mul, Nat.add_comm]
  rw [hl, allS_len]
  have : 2 ^ n ≤ 2 ^ 5 := Nat.pow_le_pow_right (by decide) hn
  exact Nat.mul_le_mul this this
theorem TabK.put {n : Nat} {l l' : List PN} (h : TabK n l) {k : PN} (hk : Kinds n k.1 ∧ Kinds n k.2) (hs : ∀ x ∈ l', x ∈ l ∨ x = k) (hn : l.Nodup → l'.Nodup) : TabK n l' := ⟨hn h.nd, fun x hx => by
  rcases hs x hx with hx | rfl
  · exact h.gs x hx
  · exact hk⟩
/-! the words -/
end DL
/-! k54: what the gatherers' stage refuses -/
namespace DL
open PySem L2
def f_never : FSp := fun _ _ _ => False
end DL
/-! repr of any data; the end of a law that knows that sys.modules stands ahead of it -/
namespace DL
open PySem L2 PySem.Spec PyProof.Rows L2H
structure ShA (x : PyData) : Prop where
  dp : x.depth ≤ 64
  sh : x.showable = true
  ln : x.shown.length ≤ 16777216
/-! how long it is shown -/
structure ShB (d : PyData) (k n : Nat) : Prop where
  dp : d.depth ≤ k
  sh : d.showable = true
  ln : d.shown.length ≤ n
theorem ShB.mono {d : PyData} {k n k' n' : Nat} (h : ShB d k n) (h1 : k ≤ k') (h2 : n ≤ n') : ShB d k' n' := ⟨Nat.le_trans h.dp h1, h.sh, Nat.le_trans h.ln h2⟩
end DL
/-! unlike things are shown unlike, where one of them is made of ints, tuples, lists -/
namespace DL
open PySem
def sL (x : PyData) : List Nat := x.shown.cps.toList
theorem cps_app (a b : Str) : (a ++ b).cps.toList = a.cps.toList ++ b.cps.toList := by
  show (a.cps ++ b.cps).toList = _
  exact Array.toList_append
theorem sL_int (i : Int) : sL (.int i) = (toString i).toList.map Char.toNat := by
  unfold sL
  simp only [PyData.shown]
  rw [Str.ofString_eq_toList]
def bdT (c : Nat) : List PyData → List Nat
  | [] => [c]
  | x :: t => 44 :: 32 :: (sL x ++ bdT c t)
theorem join_bd (c : Nat) : ∀ (t : List PyData) (x : PyData), (Str.join ", " (PyData.shownAll (x :: t))).cps.toList ++ [c] = sL x ++ bdT c t
  | [], x => by
    simp only [PyData.shownAll, Str.join]
    rfl
  | y :: t, x => by
    have ih := join_bd c t y
    simp only [PyData.shownAll] at ih ⊢
    rw [Str.join]
    · rw [cps_app, cps_app, List.append_assoc, List.append_assoc, ih]
      rfl
    · exact fun h => nomatch h
theorem sL_nil : sL (.list []) = [91, 93] := by decide +kernel
theorem sL_list (x : PyData) (t : List PyData) : sL (.list (x :: t)) = 91 :: (sL x ++ bdT 93 t) := by
  have h : (PyData.list (x :: t)).shown = ("[" : Str) ++ Str.join ", " (PyData.shownAll (x :: t)) ++ "]" := by
    simp only [PyData.shown, PyData.shownAll]
    unfold PySem.listText
    rw [show textFrom 0 "[" (PyData.shown x :: PyData.shownAll t) = textFrom 1 (("[" : Str) ++ PyData.shown x) (PyData.shownAll t) by rfl]
    rw [textFrom_pos _ _ _ _ (by decide)]
  unfold sL
  rw [h, cps_app, cps_app, List.append_assoc]
  rw [show ("]" : Str).cps.toList = [93] by decide +kernel, show ("[" : Str).cps.toList = [91] by decide +kernel, join_bd 93 t x]
  rfl
theorem sL_tnil : sL (.tuple []) = [40, 41] := by decide +kernel
theorem sL_tone (x : PyData) : sL (.tuple [x]) = 40 :: (sL x ++ [44, 41]) := by
  unfold sL
  simp only [PyData.shown, PyData.shownAll]
  unfold PySem.tupleText
  rw [cps_app, cps_app]
  rw [show ("(" : Str).cps.toList = [40] by decide +kernel]
  rfl
theorem sL_tup (x y : PyData) (t : List PyData) : sL (.tuple (x :: y :: t)) = 40 :: (sL x ++ bdT 41 (y :: t)) := by
  have h : (PyData.tuple (x :: y :: t)).shown = ("(" : Str) ++ Str.join ", " (PyData.shownAll (x :: y :: t)) ++ ")" := by
    simp only [PyData.shown]
    unfold PySem.tupleText
    have hl : ((PyData.shownAll (x :: y :: t)).length == 1) = false := by simp [PyData.shownAll]
    rw [hl]
    rfl
  unfold sL
  rw [h, cps_app, cps_app, List.append_assoc]
  rw [show (")" : Str).cps.toList = [41] by decide +kernel, show ("(" : Str).cps.toList = [40] by decide +kernel, join_bd 41 (y :: t) x]
  rfl
/-! the first sign -/
def hc : PyData → Nat → Prop
  | .none, c => c = 78
  | .bool _, c => c = 84 ∨ c = 70
  | .int _, c => (48 ≤ c ∧ c ≤ 57) ∨ c = 45
  | .str _, c => c = 39 ∨ c = 34
  | .list _, c => c = 91
  | .tuple _, c => c = 40
  | .dict _, c => c = 123
def dgS (c : Nat) : Prop := (48 ≤ c ∧ c ≤ 57) ∨ c = 45
theorem int_dgS (i : Int) : ∀ c ∈ sL (.int i), dgS c := fun c hc => by
  rw [sL_int] at hc
  obtain ⟨ch, h1, rfl⟩ := List.mem_map.mp hc
  rcases PyProof.Rows.int_sign i ch h1 with h | h
  · have h : (48 : UInt32) ≤ ch.val ∧ ch.val ≤ 57 := by simpa [Char.isDigit] using h
    exact Or.inl ⟨UInt32.le_iff_toNat_le.mp h.1, UInt32.le_iff_toNat_le.mp h.2⟩
  · exact Or.inr (by rw [h]; rfl)
theorem int_ne (i : Int) : sL (.int i) ≠ [] := fun h => by
  rw [sL_int] at h
  have h : (toString i).toList = [] := List.map_eq_nil_iff.mp h
  cases i with
  | ofNat n =>
    have h : (Nat.repr n).toList = [] := h
    rw [Nat.toList_repr] at h
    exact Nat.toDigits_ne_nil h
  | negSucc n =>
    have h : ("-" ++ Nat.repr (n + 1)).toList = [] := h
    simp at h
theorem fold_head (f : Nat → List Nat) : ∀ (l : List Nat) (acc : Array Nat), ∃ t, (l.foldl (fun out c => out ++ (f c).toArray) acc).toList = acc.toList ++ t
  | [], acc => ⟨[], by simp⟩
  | c :: l, acc => by
    obtain ⟨t, ht⟩ := fold_head f l (acc ++ (f c).toArray)
    exact ⟨f c ++ t, by rw [List.foldl_cons, ht]; simp⟩
theorem sL_head : ∀ x : PyData, ∃ c l, sL x = c :: l ∧ hc x c
  | .none => ⟨78, [111, 110, 101], by decide +kernel, rfl⟩
  | .bool true => ⟨84, [114, 117, 101], by decide +kernel, Or.inl rfl⟩
  | .bool false => ⟨70, [97, 108, 115, 101], by decide +kernel, Or.inr rfl⟩
  | .int i => by
    cases h : sL (.int i) with
    | nil => exact absurd h (int_ne i)
    | cons c l => exact ⟨c, l, rfl, int_dgS i c (by rw [h]; exact List.mem_cons_self)⟩
  | .str x => by
    have hq : reprQuote x = 39 ∨ reprQuote x = 34 := by
      unfold reprQuote
      split <;> simp
    obtain ⟨t, ht⟩ := fold_head (PySem.Builtin.Str.reprChar (reprQuote x)) x.cps.toList #[reprQuote x]
    refine ⟨reprQuote x, t ++ [reprQuote x], ?_, hq⟩
    unfold sL
    simp only [PyData.shown]
    unfold reprText
    show ((x.cps.foldl (fun out c => out ++ (PySem.Builtin.Str.reprChar (reprQuote x) c).toArray) #[reprQuote x]).push (reprQuote x)).toList = _
    rw [Array.toList_push, ← Array.foldl_toList, ht]
    rfl
  | .list [] => ⟨91, [93], sL_nil, rfl⟩
  | .list (x :: t) => ⟨91, _, sL_list x t, rfl⟩
  | .tuple [] => ⟨40, [41], sL_tnil, rfl⟩
  | .tuple [x] => ⟨40, _, sL_tone x, rfl⟩
  | .tuple (x :: y :: t) => ⟨40, _, sL_tup x y t, rfl⟩
  | .dict kvs => by
    refine ⟨123, (Str.join ", " (PyData.shownKv kvs)).cps.toList ++ ("}" : Str).cps.toList, ?_, rfl⟩
    unfold sL
    simp only [PyData.shown]
    unfold PySem.dictText
    rw [cps_app, cps_app, show ("{" : Str).cps.toList = [123] by decide +kernel]
    rfl
/-- what may stand behind an item -/
def sep (r : List Nat) : Prop := ∀ c l, r = c :: l → c = 44 ∨ c = 41 ∨ c = 93
theorem dgS_cut : ∀ {l1 l2 r1 r2 : List Nat}, (∀ c ∈ l1, dgS c) → (∀ c ∈ l2, dgS c) → sep r1 → sep r2 → l1 ++ r1 = l2 ++ r2 → l1 = l2 ∧ r1 = r2
  | [], [], r1, r2, _, _, _, _, h => ⟨rfl, h⟩
  | [], c :: l2, r1, r2, _, h2, s1, _, h => by
    have := s1 c _ h
    have := h2 c List.mem_cons_self
    unfold dgS at this
    omega
  | c :: l1, [], r1, r2, h1, _, _, s2, h => by
    have := s2 c _ h.symm
    have := h1 c List.mem_cons_self
    unfold dgS at this
    omega
  | c :: l1, d :: l2, r1, r2, h1, h2, s1, s2, h => by
    rw [List.cons_append, List.cons_append] at h
    injection h with e h
    obtain ⟨h3, h4⟩ := dgS_cut (fun c hc => h1 c (List.mem_cons_of_mem _ hc)) (fun c hc => h2 c (List.mem_cons_of_mem _ hc)) s1 s2 h
    exact ⟨by rw [e, h3], h4⟩
theorem int_text_inj {i j : Int} (h : sL (.int i) = sL (.int j)) : i = j := by
  rw [sL_int, sL_int] at h
  have hc : ∀ {a b : Char}, a.toNat = b.toNat → a = b := fun {a b} e => Char.ext (UInt32.toNat_inj.mp e)
  have h2 : (toString i).toList = (toString j).toList := (List.map_inj_right (fun _ _ e => hc e)).mp h
  exact Int.repr_injective (String.toList_inj.mp h2)
mutual
def itl : PyData → Bool
  | .int _ => true
  | .list ys => itlAll ys
  | .tuple ys => itlAll ys
  | .none => false
  | .bool _ => false
  | .str _ => false
  | .dict _ => false
def itlAll : List PyData → Bool
  | [] => true
  | y :: t => itl y && itlAll t
end
theorem bd_head (c : Nat) (hc : c = 41 ∨ c = 93) (t : List PyData) (r : List Nat) : sep (bdT c t ++ r) := fun d l h => by
  cases t with
  | nil =>
    have h : c :: r = d :: l := h
    injection h with h _
    omega
  | cons x t =>
    have h : 44 :: (32 :: (sL x ++ bdT c t) ++ r) = d :: l := h
    injection h with h _
    omega
theorem same_head {x y : PyData} {r1 r2 : List Nat} (h : sL x ++ r1 = sL y ++ r2) : ∃ c, hc x c ∧ hc y c := by
  obtain ⟨c, l, e1, h1⟩ := sL_head x
  obtain ⟨d, k, e2, h2⟩ := sL_head y
  rw [e1, e2, List.cons_append, List.cons_append] at h
  injection h with e _
  exact ⟨c, h1, e ▸ h2⟩
theorem not_close {y : PyData} (hy : itl y = true) {r1 r2 : List Nat} {c : Nat} (hc' : c = 41 ∨ c = 93) : c :: r1 ≠ sL y ++ r2 := fun h => by
  obtain ⟨d, k, e2, h2⟩ := sL_head y
  rw [e2, List.cons_append] at h
  injection h with e _
  subst e
  cases y <;> simp [itl] at hy <;> simp only [hc] at h2 <;> omega
mutual
theorem cut : ∀ (y x : PyData) (r1 r2 : List Nat), itl y = true → sep r1 → sep r2 → sL x ++ r1 = sL y ++ r2 → x = y ∧ r1 = r2
  | .int i, x, r1, r2, _, s1, s2, h => by
    obtain ⟨c, h1, h2⟩ := same_head h
    cases x with
    | int j =>
      obtain ⟨h3, h4⟩ := dgS_cut (int_dgS j) (int_dgS i) s1 s2 h
      exact ⟨by rw [int_text_inj h3], h4⟩
    | _ => simp only [hc] at h1 h2; omega
  | .list ys, x, r1, r2, hy, s1, s2, h => by
    obtain ⟨c, h1, h2⟩ := same_head h
    cases x with
    | list xs =>
      cases ys with
      | nil =>
        cases xs with
        | nil => exact ⟨rfl, List.append_cancel_left h⟩
        | cons a t =>
          rw [sL_nil, sL_list] at h
          injection h with _ h
          obtain ⟨d, k, e2, h2⟩ := sL_head a
          rw [e2] at h
          injection h with h _
          subst h
          cases a <;> simp only [hc] at h2 <;> omega
      | cons b u =>
        have hy : itl b = true ∧ itlAll u = true := by simpa [itl, itlAll] using hy
        cases xs with
        | nil =>
          rw [sL_nil, sL_list] at h
          injection h with _ h
          have h : 93 :: ([] ++ r1) = (sL b ++ bdT 93 u) ++ r2 := h
          rw [List.append_assoc] at h
          exact absurd h (not_close hy.1 (Or.inr rfl))
        | cons a t =>
          rw [sL_list, sL_list] at h
          injection h with _ h
          have h : (sL a ++ bdT 93 t) ++ r1 = (sL b ++ bdT 93 u) ++ r2 := h
          rw [List.append_assoc, List.append_assoc] at h
          obtain ⟨h3, h4⟩ := cut b a _ _ hy.1 (bd_head 93 (Or.inr rfl) t r1) (bd_head 93 (Or.inr rfl) u r2) h
          obtain ⟨h5, h6⟩ := cutT u t 93 r1 r2 hy.2 (Or.inr rfl) h4
          exact ⟨by rw [h3, h5], h6⟩
    | _ => simp only [hc] at h1 h2; omega
  | .tuple ys, x, r1, r2, hy, s1, s2, h => by
    obtain ⟨c, h1, h2⟩ := same_head h
    cases x with
    | tuple xs =>
      have s41 : ∀ r : List Nat, sep (44 :: r) := fun r d l e => by injection e with e _; omega
      cases ys with
      | nil =>
        cases xs with
        | nil => exact ⟨rfl, List.append_cancel_left h⟩
        | cons a t =>
          obtain ⟨d, k, e2, h2⟩ := sL_head a
          have h3 : d = 41 := by
            cases t with
            | nil =>
              rw [sL_tnil, sL_tone, e2] at h
              injection h with _ h
              injection h with h _
            | cons b t =>
              rw [sL_tnil, sL_tup, e2] at h
              injection h with _ h
              injection h with h _
          subst h3
          cases a <;> simp only [hc] at h2 <;> omega
      | cons b u =>
        have hy : itl b = true ∧ itlAll u = true := by simpa [itl, itlAll] using hy
        cases xs with
        | nil =>
          rw [sL_tnil] at h
          cases u with
          | nil =>
            rw [sL_tone] at h
            injection h with _ h
            have h : 41 :: ([] ++ r1) = (sL b ++ [44, 41]) ++ r2 := h
            rw [List.append_assoc] at h
            exact absurd h (not_close hy.1 (Or.inl rfl))
          | cons b2 u =>
            rw [sL_tup] at h
            injection h with _ h
            have h : 41 :: ([] ++ r1) = (sL b ++ bdT 41 (b2 :: u)) ++ r2 := h
            rw [List.append_assoc] at h
            exact absurd h (not_close hy.1 (Or.inl rfl))
        | cons a t =>
          cases t with
          | nil =>
            cases u with
            | nil =>
              rw [sL_tone, sL_tone] at h
              injection h with _ h
              have h : (sL a ++ [44, 41]) ++ r1 = (sL b ++ [44, 41]) ++ r2 := h
              rw [List.append_assoc, List.append_assoc] at h
              obtain ⟨h3, h4⟩ := cut b a _ _ hy.1 (s41 _) (s41 _) h
              exact ⟨by rw [h3], by injection h4 with _ h4; injection h4 with _ h4⟩
            | cons b2 u =>
              rw [sL_tone, sL_tup] at h
              injection h with _ h
              have h : (sL a ++ [44, 41]) ++ r1 = (sL b ++ bdT 41 (b2 :: u)) ++ r2 := h
              rw [List.append_assoc, List.append_assoc] at h
              obtain ⟨h3, h4⟩ := cut b a _ _ hy.1 (s41 _) (s41 _) h
              have h4 : 44 :: (41 :: r1) = 44 :: (32 :: (sL b2 ++ bdT 41 u) ++ r2) := h4
              injection h4 with _ h4
              injection h4 with h4 _
              omega
          | cons a2 t =>
            cases u with
            | nil =>
              rw [sL_tup, sL_tone] at h
              injection h with _ h
              have h : (sL a ++ bdT 41 (a2 :: t)) ++ r1 = (sL b ++ [44, 41]) ++ r2 := h
              rw [List.append_assoc, List.append_assoc] at h
              obtain ⟨h3, h4⟩ := cut b a _ _ hy.1 (s41 _) (s41 _) h
              have h4 : 44 :: (32 :: (sL a2 ++ bdT 41 t) ++ r1) = 44 :: (41 :: r2) := h4
              injection h4 with _ h4
              injection h4 with h4 _
              omega
            | cons b2 u =>
              rw [sL_tup, sL_tup] at h
              injection h with _ h
              have h : (sL a ++ bdT 41 (a2 :: t)) ++ r1 = (sL b ++ bdT 41 (b2 :: u)) ++ r2 := h
              rw [List.append_assoc, List.append_assoc] at h
              obtain ⟨h3, h4⟩ := cut b a _ _ hy.1 (s41 _) (s41 _) h
              obtain ⟨h5, h6⟩ := cutT (b2 :: u) (a2 :: t) 41 r1 r2 hy.2 (Or.inl rfl) h4
              exact ⟨by rw [h3, h5], h6⟩
    | _ => simp only [hc] at h1 h2; omega
  | .none, _, _, _, hy, _, _, _ => by simp [itl] at hy
  | .bool _, _, _, _, hy, _, _, _ => by simp [itl] at hy
  | .str _, _, _, _, hy, _, _, _ => by simp [itl] at hy
  | .dict _, _, _, _, hy, _, _, _ => by simp [itl] at hy
theorem cutT : ∀ (ys xs : List PyData) (c : Nat) (r1 r2 : List Nat), itlAll ys = true → (c = 41 ∨ c = 93) → bdT c xs ++ r1 = bdT c ys ++ r2 → xs = ys ∧ r1 = r2
  | [], xs, c, r1, r2, _, hc', h => by
    cases xs with
    | nil => exact ⟨rfl, List.append_cancel_left h⟩
    | cons a t =>
      have h : 44 :: (32 :: (sL a ++ bdT c t) ++ r1) = c :: r2 := h
      injection h with h _
      omega
  | b :: u, xs, c, r1, r2, hy, hc', h => by
    have hy : itl b = true ∧ itlAll u = true := by simpa [itlAll] using hy
    cases xs with
    | nil =>
      have h : c :: r1 = 44 :: (32 :: (sL b ++ bdT c u) ++ r2) := h
      injection h with h _
      omega
    | cons a t =>
      have h : 44 :: (32 :: ((sL a ++ bdT c t) ++ r1)) = 44 :: (32 :: ((sL b ++ bdT c u) ++ r2)) := h
      injection h with _ h
      injection h with _ h
      rw [List.append_assoc, List.append_assoc] at h
      obtain ⟨h3, h4⟩ := cut b a _ _ hy.1 (bd_head c hc' t r1) (bd_head c hc' u r2) h
      obtain ⟨h5, h6⟩ := cutT u t c r1 r2 hy.2 hc' h4
      exact ⟨by rw [h3, h5], h6⟩
end
end DL
/-! k33: pack papers among things that are told otherwise -/
namespace DL
open PySem L2
/-! it is the paper where it is shown as the paper -/
end DL
/-! k64: what the buying stage refuses -/
namespace DL
open PySem L2
/-- a thing that is no plan -/
def NoPl (m : Mm) (y : Val) : Prop := (∃ x, y = .d x ∧ isDct x = false) ∨ ∃ (p : Addr) (kvs : List (List Int × Val)), y = .v (.ref p) ∧ m p = some (.dT (dI kvs)) ∧ (kvs = [] ∨ kvs = [([], .d (.str "draw"))] ∨ kvs = [([0], .d (.str "Buy"))] ∨ kvs = [([0], .d .none)])
theorem NoPl.less {m m' : Mm} {y : Val} (h : NoPl m y) (hl : ∀ a o, m a = some o → m' a = some o) : NoPl m' y := by
  rcases h with h | ⟨p, kvs, h1, h2, h3⟩
  · exact Or.inl h
  · exact Or.inr ⟨p, kvs, h1, hl _ _ h2, h3⟩
end DL
/-! list.sort of tuples of which the first one is empty -/
/-! list(d), sorted(d), dict(d) of a dict with tuple keys -/
namespace DL
open PySem L2 PySem.Spec PyProof.Rows
/-! list(d) -/
/-! sorted(d) -/
end DL
/-! dict(d), and these at the level of data -/
namespace DL
open PySem L2 PySem.Spec PyProof.Rows
def hI (ns : List Int) : Int := reduceHash (Builtin.Tuple.tupleHashOf (ns.map hashInt))
/-! at the level of data -/
end DL
/-! k21: rules, papers that are over or under, words -/
namespace DL
open PySem L2
end DL
/-! k21: papers that are over or under: plain mathematics, words -/
namespace DL
open PySem L2
def hQ : Rat := mkRat 1 2
/-- papers whose numbers are small enough -/
structure FB (ss : List Int) (P : List Nat → Rat) : Prop where
  nn : ∀ s, Kinds ss.length s → 0 ≤ P s
  fr : ∀ s, Kinds ss.length s → FrB (P s) 1400
  acc : ∀ s, Kinds ss.length s → ∀ i, FrB (dueAcc ss P s (s.take i)) 1400
theorem PB.fb {ss : List Int} (hs : Shares ss) {P : List Nat → Rat} (h : PB ss P) : FB ss P := ⟨fun s hk => (h s hk).nn, fun s hk => (h.fr hs hk).mono (by decide), fun s hk i => (h.accFr hs hk i).mono (by decide)⟩
/-- 1/2 more -/
def addH (P : List Nat → Rat) : List Nat → Rat := fun s => if s = [] then P s else P s + hQ
/-! the time paper's own numbers -/
/-! words -/
def someL (n : Nat) : List (List Nat) := (allS n).filter noNil
/-- a paper stands at p -/
structure PapAt (ss : List Int) (m : Mm) (p : Addr) (P : List Nat → Rat) : Prop where
  sh : Shares ss
  fb : FB ss P
  nil : P [] = 0
  mem : m p = some (.dT (tabT P ([] :: rsX ss.length)))
theorem PapAt.less {ss : List Int} {m m' : Mm} {p : Addr} {P : List Nat → Rat} (h : PapAt ss m p P) (hl : ∀ a o, m a = some o → m' a = some o) : PapAt ss m' p P := ⟨h.sh, h.fb, h.nil, hl _ _ h.mem⟩
def ovB (ss : List Int) (P : List Nat → Rat) : Bool := (someL ss.length).any fun s => decide (P s < dueT ss P s)
/-! what they tell -/
/-- the paper while 1/2 is added -/
def hF (ss : List Int) (l : List (List Nat)) : List Nat → Rat := fun s => if s ∈ l then addH (timeT ss) s else timeT ss s
end DL
/-! things that may be dicts with tuple keys, lists of such things -/
namespace DL
open PySem L2
/-! dicts of data -/
def dV (kds : List (List Int × PyData)) : List (List Int × Val) := kds.map fun e => (e.1, Val.d e.2)
def dctD (kds : List (List Int × PyData)) : PyData := .dict (kds.map fun e => (tupI e.1, e.2))
def lkD (kds : List (List Int × PyData)) (k : List Int) : Option PyData := (kds.find? fun e => decide (e.1 = k)).map (·.2)
theorem getV_dV (kds : List (List Int × PyData)) (k : List Int) : getV (dI (dV kds)) (kI k) = (lkD kds k).map Val.d := by
  induction kds with
  | nil => rfl
  | cons e kds ih =>
    unfold getV lkD dI dV at *
    rw [List.map_cons, List.map_cons, List.find?_cons, List.find?_cons]
    by_cases h : e.1 = k
    · subst h; simp
    · rw [show decide (kI e.1 = kI k) = false from decide_eq_false fun z => h (kI_inj z), show decide (e.1 = k) = false from decide_eq_false h]
      exact ih
end DL
/-! k17: any thing looked at as a paper: plain mathematics, words -/
namespace DL
open PySem L2
def topI : PyData → Int
  | .tuple (.int t :: _) => t
  | _ => 0
def frQ : PyData → Rat
  | .tuple [.int t, .int b] => mkRat t b.toNat
  | _ => 0
def okEn (n : Nat) (e : List Int × PyData) : Bool := areKinds (tupI e.1) (n : Int) && (isFrac e.2 && decide (0 ≤ topI e.2))
def numK (kds : List (List Int × PyData)) (s : List Nat) : Rat := match lkD kds (kn s) with
  | some d => frQ d
  | none => 0
def okPap (n : Nat) (kds : List (List Int × PyData)) : Bool := decide (kds.length = 2 ^ n) && (kds.all (okEn n) && decide (numK kds [] = 0))
/-! things -/
inductive Tg where
  | dat (x : PyData)
  | dct (kds : List (List Int × PyData))
def Tg.data : Tg → PyData
  | .dat x => x
  | .dct kds => dctD kds
/-- the thing t stands at y -/
def Tg.At (m : Mm) (y : Val) : Tg → Prop
  | .dat x => y = .d x ∧ ∀ kvs, x = .dict kvs → kvs.length ≤ 1
  | .dct kds => ∃ p, y = .v (.ref p) ∧ m p = some (.dT (dI (dV kds))) ∧ (kds.map (·.1)).Nodup ∧ kds.length ≤ 100 ∧ ∀ e ∈ kds, szFrac e.2 ∧ e.1.length ≤ 100
theorem Tg.At.less {m m' : Mm} {y : Val} {t : Tg} (h : t.At m y) (hl : ∀ a o, m a = some o → m' a = some o) : t.At m' y := by
  cases t with
  | dat x => exact h
  | dct kds =>
    obtain ⟨p, h1, h2, h3⟩ := h
    exact ⟨p, h1, hl _ _ h2, h3⟩
def Tg.pap (n : Nat) : Tg → Bool
  | .dat _ => false
  | .dct kds => okPap n kds
def Tg.num : Tg → List Nat → Rat
  | .dat _ => fun _ => 0
  | .dct kds => numK kds
def Tg.over (ss : List Int) (t : Tg) : PyData := if t.pap ss.length = true then (if ovB ss t.num = true then .none else frac (t.num (List.range ss.length))) else .none
/-- a paper stands at p, its keys in any order -/
structure PapD (ss : List Int) (m : Mm) (p : Addr) (kds : List (List Int × PyData)) : Prop where
  sh : Shares ss
  fb : FB ss (numK kds)
  mem : m p = some (.dT (dI (dV kds)))
  num : ∀ s, Kinds ss.length s → lkD kds (kn s) = some (frac (numK kds s))
theorem PapD.get {ss : List Int} {m : Mm} {p : Addr} {kds : List (List Int × PyData)} (h : PapD ss m p kds) {s : List Nat} (hs : Kinds ss.length s) : getV (dI (dV kds)) (kI (kn s)) = some (.d (frac (numK kds s))) := by
  rw [getV_dV, h.num s hs]; rfl
/-- small enough for all that is reckoned -/
def TgB (ss : List Int) (t : Tg) : Prop := t.pap ss.length = true → FB ss t.num
/-! bounds of what is grown -/
/-- bits of the bottoms -/
def gB : Nat → Nat
  | 0 => 0
  | n + 1 => (n + 1) * gB n + 12
/-- each number small: bottoms by how many kinds, tops at most v -/
def GB (ss : List Int) (v : Nat) (P : List Nat → Rat) : Prop := ∀ s, Kinds ss.length s → QB (P s) (gB s.length) v
theorem accB {ss : List Int} (hs : Shares ss) {P : List Nat → Rat} {s : List Nat} {d v : Nat} (hP : ∀ k ∈ s, QB (P (s.filter fun x => !decide (x = k))) d v) : ∀ l : List Nat, (∀ k ∈ l, k ∈ s) → QB (dueAcc ss P s l) (l.length * d) (45 + l.length * (9 * v)) := by
  intro l
  have hsum := shares_sum hs
  have gen : ∀ (l : List Nat) (a : Rat) (c u : Nat), QB a c u → (∀ k ∈ l, k ∈ s) → QB (l.foldl (fun acc k => acc + ((ss.getD k 0 : Int) : Rat) * P (s.filter fun x => !decide (x = k))) a) (c + l.length * d) (u + l.length * (9 * v)) := by
    intro l
    induction l with
    | nil =>
      intro a c u h _
      exact h.mono (by simp) (by simp)
    | cons k t ih =>
      intro a c u h hl
      rw [List.foldl_cons]
      have hb := getD_bounds hs k
      have e1 : ss.getD k 0 = (((ss.getD k 0).toNat : Nat) : Int) := by omega
      have h1 := (hP k (hl k (List.mem_cons_self ..))).mulN (ss.getD k 0).toNat
      rw [← e1] at h1
      have h1 := h1.mono (d' := d) (v' := 9 * v) (Nat.le_refl _) (Nat.mul_le_mul_right _ (by omega))
      have h2 := ih _ _ _ (h.add h1) fun x hx => hl x (List.mem_cons_of_mem _ hx)
      have e2 : (t.length + 1) * (9 * v) = t.length * (9 * v) + 9 * v := Nat.succ_mul _ _
      refine h2.mono ?_ ?_
      · rw [List.length_cons, Nat.succ_mul]; omega
      · show _ ≤ u + (t.length + 1) * (9 * v)
        omega
  intro hl
  have e : ss.sum = ((ss.sum.toNat : Nat) : Int) := by omega
  have h0 : QB ((ss.sum : Int) : Rat) 0 45 := by
    rw [e]
    exact (QB.nat _).mono (Nat.le_refl _) (by omega)
  exact (gen l _ 0 45 h0 hl).mono (by omega) (Nat.le_refl _)
theorem GB.sub {ss : List Int} {v : Nat} {P : List Nat → Rat} (h : GB ss v P) {s : List Nat} (hk : Kinds ss.length s) {n : Nat} (hl : s.length = n + 1) : ∀ k ∈ s, QB (P (s.filter fun x => !decide (x = k))) (gB n) v := fun k hks => by
  have := h _ (kinds_without hk k)
  have hw := without_len hk.up hks
  rw [show (s.filter fun x => !decide (x = k)).length = n by omega] at this
  exact this
theorem gB_le {n : Nat} (h : n ≤ 4) : gB n ≤ 492 := by
  have : n = 0 ∨ n = 1 ∨ n = 2 ∨ n = 3 ∨ n = 4 := by omega
  rcases this with rfl | rfl | rfl | rfl | rfl <;> decide
theorem GB.fb {ss : List Int} (hs : Shares ss) (h4 : ss.length ≤ 4) {v : Nat} (hv : v ≤ 1100000) {P : List Nat → Rat} (h : GB ss v P) : FB ss P := by
  refine ⟨fun s hk => (h s hk).nn, fun s hk => ?_, fun s hk i => ?_⟩
  · have := hk.len
    have := gB_le (n := s.length) (by omega)
    exact ((h s hk).frB (e := 21) (by show _ < 2097152; omega)).mono (by omega)
  · have hl4 := hk.len
    cases hn : s.length with
    | zero =>
      have : s = [] := List.length_eq_zero_iff.mp hn
      subst this
      have := shares_sum hs
      have e : ss.sum = ((ss.sum.toNat : Nat) : Int) := by omega
      have : dueAcc ss P [] (List.take i []) = ((ss.sum : Int) : Rat) := by simp [dueAcc]
      rw [this, e]
      exact ((QB.nat ss.sum.toNat).frB (e := 10) (by show _ < 1024; omega)).mono (by decide)
    | succ n =>
      have hb := accB hs (h.sub hk hn) (s.take i) fun k hk => List.mem_of_mem_take hk
      have hl : (s.take i).length ≤ 4 := by rw [List.length_take]; omega
      have hd := gB_le (n := n) (by omega)
      have hg : gB n ≤ 120 := by
        have : n = 0 ∨ n = 1 ∨ n = 2 ∨ n = 3 := by omega
        rcases this with rfl | rfl | rfl | rfl <;> decide
      have hd2 : (s.take i).length * gB n ≤ 480 := Nat.le_trans (Nat.mul_le_mul hl hg) (by decide)
      have hv2 : (s.take i).length * (9 * v) ≤ 4 * (9 * 1100000) := Nat.mul_le_mul hl (Nat.mul_le_mul_left _ hv)
      exact (hb.frB (e := 26) (by show _ < 67108864; omega)).mono (by omega)
/-! dicts by a table -/
/-! how long dicts are shown -/
/-- what a thing must be like in the law -/
structure Gd (ss : List Int) (t : Tg) : Prop where
  sh : ShA t.data
  b : TgB ss t
/-! the things of k17 -/
/-! what is grown -/
end DL
/-! dicts with tuple keys, some of which are tuples of truths -/
namespace DL
open PySem L2 PySem.Spec PyProof.Rows
def nkI (ns : List Int) : NestedKey := .tup (ns.map NestedKey.num)
inductive OKey where
  | okI (ns : List Int)
  | okB (bs : List Bool)
def b01 (b : Bool) : Int := if b = true then 1 else 0
def OKey.num : OKey → List Int
  | .okI ns => ns
  | .okB bs => bs.map b01
def OKey.data : OKey → PyData
  | .okI ns => tupI ns
  | .okB bs => .tuple (bs.map PyData.bool)
def OKey.At (H : Hp) (b : Addr) : OKey → Prop
  | .okI ns => H b = some (.tup (ns.map V.int))
  | .okB bs => H b = some (.tup (bs.map V.bl))
theorem OKey.At.mono {H H' : Hp} {b : Addr} {z : OKey} (e : Le H H') (h : z.At H b) : z.At H' b := by
  cases z with
  | okI ns => exact e _ _ h
  | okB bs => exact e _ _ h
theorem rpa_bls {K : PySem.W.Frag} {G : Hp} : ∀ (bs : List Bool), RpAll K G (bs.map PyData.bool) (bs.map V.bl)
  | [] => rpa_nil.mpr rfl
  | b :: bs => rpa_cons.mpr ⟨_, _, rfl, rp_bool.mpr rfl, rpa_bls bs⟩
theorem OKey.At.rp {K : PySem.W.Frag} {H : Hp} {b : Addr} {z : OKey} (h : z.At H b) : Rp K H z.data (.ref b) := by
  cases z with
  | okI ns => exact rp_tuple.mpr ⟨b, _, rfl, SqT.of h, rpa_ints _⟩
  | okB bs => exact rp_tuple.mpr ⟨b, _, rfl, SqT.of h, rpa_bls _⟩
section
variable {P : Program} {w : World} {H : Hp} {h : Heap}
theorem nest_bls : ∀ {bs : List Bool} {us : List Value}, Vals (bs.map V.bl) us → NestedAll h ((bs.map b01).map NestedKey.num) us
  | [], us, r => by cases r; exact .nil
  | n :: ns, us, r => by
    cases r with
    | cons r1 r2 =>
      cases r1
      exact .cons (.bool rfl) (nest_bls r2)
theorem ok_is {b : Addr} {z : OKey} (ok : HOk P w H h) (e : z.At H b) : (nestedKind P w).is h (nkI z.num) b := by
  refine ⟨?_, ?_⟩
  · cases z with
    | okI ns => exact nest_ints ok e
    | okB bs =>
      obtain ⟨_, us, r, o, g1, g2, n, g3⟩ := (show ObjOk P w H h b (.tup (bs.map V.bl)) from ok b _ e)
      exact .tup g1 g2 g3 (by rw [List.toList_toArray]; exact nest_bls r)
  · unfold nkI
    simp only [NestedKey.depth, depth_nums]
    decide
end
abbrev OE := OKey × Addr × V
def NkR (p : OE) (q : NestedKey × Addr × Value) : Prop := q.1 = nkI p.1.num ∧ q.2.1 = p.2.1 ∧ RelV p.2.2 q.2.2
/-- the dict at a as one object -/
def nkO (P : Program) (w : World) (a : Addr) (es : List OE) : HO := .ext fun h => (a == sysModules) = false ∧ ∃ xs, Paired NkR es xs ∧ ∃ o en ep, h.get? a = some o ∧ o.ExactDict ∧ o.data = .dict en ep ∧ en.toList = xs.map (entryOfKey (nestedKind P w)) ∧ (xs.map (·.1)).Nodup
/-- read, perhaps while it is walked -/
structure NkW (P : Program) (w : World) (H : Hp) (a : Addr) (es : List OE) : Prop where
  obj : H a = some (nkO P w a es) ∨ ∃ o, H a = some (.frz o (nkO P w a es))
  keys : ∀ e ∈ es, e.1.At H e.2.1
theorem nk_obj {P : Program} {w : World} {H : Hp} {h : Heap} {a : Addr} {es : List OE} (ok : HOk P w H h) (x : H a = some (nkO P w a es) ∨ ∃ o, H a = some (.frz o (nkO P w a es))) : (a == sysModules) = false ∧ ∃ xs, Paired NkR es xs ∧ ∃ o en ep, h.get? a = some o ∧ o.ExactDict ∧ o.data = .dict en ep ∧ en.toList = xs.map (entryOfKey (nestedKind P w)) ∧ (xs.map (·.1)).Nodup := by
  rcases x with e | ⟨o, e⟩
  · obtain ⟨x, _⟩ := (show ObjOk P w H h a (nkO P w a es) from ok a _ e)
    exact x
  · obtain ⟨_, x, _⟩ := (show ObjOk P w H h a (.frz o (nkO P w a es)) from ok a _ e)
    exact x
theorem NkW.dict {P : Program} {w : World} {H : Hp} {h : Heap} {a : Addr} {es : List OE} (ok : HOk P w H h) (x : NkW P w H a es) : (a == sysModules) = false ∧ ∃ xs, Paired NkR es xs ∧ h.DictOfH (nestedKind P w) a xs := by
  obtain ⟨h0, xs, r, o, en, ep, g1, g2, g3, g4, g5⟩ := nk_obj ok x.obj
  refine ⟨h0, xs, r, o, en, ep, g1, g2, g3, g4, fun y hy => ?_, g5⟩
  have all : ∀ {l : List OE} {ys : List (NestedKey × Addr × Value)}, Paired NkR l ys → (∀ e ∈ l, e.1.At H e.2.1) → ∀ y ∈ ys, (nestedKind P w).is h y.1 y.2.1 := fun {l ys} r => by
    induction r with
    | nil => exact fun _ _ z => nomatch z
    | @cons p q ps qs hpq _ ih =>
      intro hk y hy
      rcases List.mem_cons.mp hy with rfl | hy
      · obtain ⟨e1, e2, _⟩ := hpq
        rw [e1, e2]
        exact ok_is ok (hk p List.mem_cons_self)
      · exact ih (fun e he => hk e (List.mem_cons_of_mem _ he)) y hy
  exact all r x.keys y hy
/-! one kind of keys taken as the other -/
/-! readings and rules -/
def tOr (t1 t2 : TE) : TE := fun σ H Q => t1 σ H Q ∨ t2 σ H Q
end DL
/-! dicts with odd keys: walked, told, at the level of data -/
namespace DL
open PySem L2 PySem.Spec PyProof.Rows L2H
/-! walked -/
/-! isinstance, len, repr -/
def dctO (kos : List (OKey × PyData)) : PyData := .dict (kos.map fun e => (e.1.data, e.2))
/-! at the level of data -/
def okP (z : OKey) : Hp → V → Prop := fun G v => ∃ b, v = .ref b ∧ z.At G b
theorem okP.mono {z : OKey} {v : V} (G G' : Hp) (e : Le G G') (h : okP z G v) : okP z G' v := by
  obtain ⟨b, h1, h2⟩ := h
  exact ⟨b, h1, h2.mono e⟩
def OrG (K : PySem.W.Frag) (G : Hp) (p : OKey × PyData) (e : OE) : Prop := e.1 = p.1 ∧ p.1.At G e.2.1 ∧ VR K G (.d p.2) e.2.2
theorem org_keys {K : PySem.W.Frag} {G H : Hp} (e : Le G H) {kos : List (OKey × PyData)} {es : List OE} (r : Paired (OrG K G) kos es) : ∀ x ∈ es, x.1.At H x.2.1 := by
  induction r with
  | nil => exact fun _ h => nomatch h
  | cons h _ ih =>
    intro x hx
    rcases List.mem_cons.mp hx with rfl | hx
    · rw [h.1]; exact h.2.1.mono e
    · exact ih x hx
def oddQ (K : PySem.W.Frag) (P : Program) (w : World) (kos : List (OKey × PyData)) : Hp → Hp → Addr → Prop := fun G H a => ∃ es : List OE, H a = some (nkO P w a es) ∧ Paired (OrG K G) kos es
def oddM (K : PySem.W.Frag) (P : Program) (w : World) (kos : List (OKey × PyData)) : MO := .g (oddQ K P w kos)
def oddWQ (K : PySem.W.Frag) (P : Program) (w : World) (o : Obj) (es : List OE) (kos : List (OKey × PyData)) : Hp → Hp → Addr → Prop := fun G H a => H a = some (.frz o (nkO P w a es)) ∧ Paired (OrG K G) kos es
/-- one that is being walked -/
def oddW (K : PySem.W.Frag) (P : Program) (w : World) (o : Obj) (es : List OE) (kos : List (OKey × PyData)) : MO := .g (oddWQ K P w o es kos)
section
variable {K : PySem.W.Frag} {P : Program} {w : World} {G H : Hp} {a p : Addr} {kos : List (OKey × PyData)} {o : Obj} {es : List OE}
theorem Sta.odd {m : Mm} (S : Sta K m H G) (hm : m p = some (oddM K P w kos)) : ∃ es, H p = some (nkO P w p es) ∧ Paired (OrG K G) kos es := by
  obtain ⟨⟨es, h1, h2⟩, _⟩ := S.mem p _ hm
  exact ⟨es, h1, h2⟩
def OdDat (K : PySem.W.Frag) (P : Program) (w : World) (m : Mm) (p : Addr) (kos : List (OKey × PyData)) : Prop := m p = some (oddM K P w kos) ∨ ∃ o es, m p = some (oddW K P w o es kos)
theorem OdDat.rd {m : Mm} (h : OdDat K P w m p kos) (S : Sta K m H G) : ∃ es, NkW P w H p es ∧ Paired (OrG K G) kos es := by
  rcases h with h | ⟨o, es, h⟩
  · obtain ⟨es, h1, h2⟩ := S.odd h
    exact ⟨es, ⟨Or.inl h1, org_keys S.sub h2⟩, h2⟩
  · obtain ⟨⟨h1, h2⟩, _⟩ := S.mem p _ h
    exact ⟨es, ⟨Or.inr ⟨o, h1⟩, org_keys S.sub h2⟩, h2⟩
end
end DL
/-! t[::-1] of a tuple -/
namespace DL
open PySem L2 PySem.Spec PyProof.Rows HT
end DL
set_option exponentiation.threshold 9000
/-! k15: time papers looked at: plain mathematics, words -/
namespace DL
open PySem L2
/-- an odd dict: one key is a tuple of truths -/
structure OdAt (K : PySem.W.Frag) (P : Program) (w : World) (m : Mm) (p : Addr) (kos : List (OKey × PyData)) : Prop where
  mem : m p = some (oddM K P w kos)
  nd : (kos.map fun e => e.1.num).Nodup
  few : kos.length ≤ 100
  ok : ∀ e ∈ kos, szFrac e.2 ∧ e.1.num.length ≤ 100
  okb : ∀ e ∈ kos, ∀ bs, e.1 = .okB bs → bs ≠ []
  odd : ∃ e ∈ kos, ∃ bs, e.1 = .okB bs
theorem Tg.At.nd {m : Mm} {y : Val} {t : Tg} (h : t.At m y) : ∀ kds, t = .dct kds → (kds.map (·.1)).Nodup := fun kds e => by
  subst e
  obtain ⟨p, _, _, h, _⟩ := h
  exact h
/-! words -/
/-! bounds -/
/-! the things of k15 -/
def ThG (K : PySem.W.Frag) (P : Program) (w : World) (ss : List Int) (m : Mm) (y : Val) : Prop := (∃ t : Tg, t.At m y ∧ Gd ss t) ∨ ∃ (p : Addr) (kos : List (OKey × PyData)), y = .v (.ref p) ∧ OdAt K P w m p kos ∧ ShA (dctO kos)
section
variable {K : PySem.W.Frag} {P : Program} {w : World} {ss : List Int} {m m' : Mm} {y : Val}
theorem ThG.agree (h : ThG K P w ss m y) (e : ∀ p, y = .v (.ref p) → m' p = m p) : ThG K P w ss m' y := by
  rcases h with ⟨t, h, g⟩ | ⟨p, kos, rfl, ho, g⟩
  · refine Or.inl ⟨t, ?_, g⟩
    cases t with
    | dat x => exact h
    | dct kds =>
      obtain ⟨p, rfl, h1, h2⟩ := h
      exact ⟨p, rfl, (e p rfl).trans h1, h2⟩
  · exact Or.inr ⟨p, kos, rfl, ⟨(e p rfl).trans ho.mem, ho.nd, ho.few, ho.ok, ho.okb, ho.odd⟩, g⟩
theorem ThG.at (h : ThG K P w ss m y) {p : Addr} (e : y = .v (.ref p)) : ∃ o, m p = some o ∧ ∀ xs, o ≠ .lst xs := by
  rcases h with ⟨t, h, g⟩ | ⟨p', kos, h, ho, g⟩
  · cases t with
    | dat x => rw [e] at h; exact nomatch h.1
    | dct kds =>
      obtain ⟨p', h, h1, h2⟩ := h
      rw [e] at h
      cases h
      exact ⟨_, h1, fun xs z => nomatch z⟩
  · rw [e] at h
    cases h
    exact ⟨_, ho.mem, fun xs z => nomatch z⟩
theorem ThG.less (h : ThG K P w ss m y) (hx : Ext m m') : ThG K P w ss m' y := h.agree fun p e => by
  obtain ⟨o, h1, _⟩ := h.at e
  rw [h1, hx p o h1]
end
end DL
/-! defs that want to know that nothing is being shown around them, called -/
namespace DL
open PySem L2 PySem.Spec PyProof.Rows
end DL
/-! sorted(d) of a dict whose keys are tuples with an item at least -/
namespace DL
open PySem L2 PySem.Spec PyProof.Rows
end DL
set_option exponentiation.threshold 9000
/-! k61: plans looked at: a walk over a dict that is data, plain mathematics, words -/
namespace DL
open PySem L2
/-! plans -/
def isWd : PyData → Bool
  | .str x => decide (x ∈ (["draw", "buy"] : List Str))
  | _ => false
def okPl (n : Nat) (e : List Int × PyData) : Bool := areKinds (tupI e.1) (n : Int) && (!decide (e.1 = []) && isWd e.2)
def Tg.plan (n : Nat) : Tg → Bool
  | .dat _ => false
  | .dct kds => decide (kds.length = (rsX n).length) && kds.all (okPl n)
/-- data that is a dict has one text key -/
def TgD (t : Tg) : Prop := ∀ kvs, t = .dat (.dict kvs) → ∃ d, kvs = [(.str "a", d)]
def SmS (s : List Nat) : Prop := (∀ k ∈ s, k ≤ 1000) ∧ s.length ≤ 20
def SmK (t : Tg) : Prop := ∀ kds, t = .dct kds → ∀ e ∈ kds, ∃ s, e.1 = kn s ∧ SmS s
def SmO (kos : List (OKey × PyData)) : Prop := ∀ e ∈ kos, (∃ s, e.1 = .okI (kn s) ∧ SmS s) ∨ ∃ bs : List Bool, e.1 = .okB bs ∧ bs.length ≤ 20
/-! how keys are shown -/
/-! the law's odd things -/
end DL
set_option exponentiation.threshold 9000
/-! k61: the things -/
namespace DL
open PySem L2
def ThP (K : PySem.W.Frag) (P : Program) (w : World) (n : Nat) (m : Mm) (y : Val) (c : Bool) : Prop := (∃ t : Tg, t.At m y ∧ TgD t ∧ SmK t ∧ ShA t.data ∧ c = t.plan n) ∨ ∃ (p : Addr) (kos : List (OKey × PyData)), y = .v (.ref p) ∧ OdAt K P w m p kos ∧ SmO kos ∧ ShA (dctO kos) ∧ c = false
section
variable {K : PySem.W.Frag} {P : Program} {w : World} {n : Nat} {m m' : Mm} {y : Val} {c : Bool}
theorem ThP.agree (h : ThP K P w n m y c) (e : ∀ p, y = .v (.ref p) → m' p = m p) : ThP K P w n m' y c := by
  rcases h with ⟨t, h, g⟩ | ⟨p, kos, rfl, ho, g⟩
  · refine Or.inl ⟨t, ?_, g⟩
    cases t with
    | dat x => exact h
    | dct kds =>
      obtain ⟨p, rfl, h1, h2⟩ := h
      exact ⟨p, rfl, (e p rfl).trans h1, h2⟩
  · exact Or.inr ⟨p, kos, rfl, ⟨(e p rfl).trans ho.mem, ho.nd, ho.few, ho.ok, ho.okb, ho.odd⟩, g⟩
theorem ThP.at (h : ThP K P w n m y c) {p : Addr} (e : y = .v (.ref p)) : ∃ o, m p = some o ∧ ∀ xs, o ≠ .lst xs := by
  rcases h with ⟨t, h, g⟩ | ⟨p', kos, h, ho, g⟩
  · cases t with
    | dat x => rw [e] at h; exact nomatch h.1
    | dct kds =>
      obtain ⟨p', h, h1, h2⟩ := h
      rw [e] at h
      cases h
      exact ⟨_, h1, fun xs z => nomatch z⟩
  · rw [e] at h
    cases h
    exact ⟨_, ho.mem, fun xs z => nomatch z⟩
theorem ThP.less (h : ThP K P w n m y c) (hx : Ext m m') : ThP K P w n m' y c := h.agree fun p e => by
  obtain ⟨o, h1, _⟩ := h.at e
  rw [h1, hx p o h1]
end
end DL
/-! for a, b in a list of pairs made on the spot; a list that may change + one that stays -/
namespace DL
open PySem L2
end DL
/-! a text key put into a dict with tuple keys -/
namespace DL
open PySem PySem.Spec PyProof.Rows Sem
end DL
/-! dicts with tuple keys and one text key behind them -/
namespace DL
open PySem L2 PySem.Spec PyProof.Rows L2H
/-- the dict at a as one object: tuple keys, then the text x -/
def txO (P : Program) (w : World) (a : Addr) (es : List OE) (x : Str) (v : V) : HO := .ext fun h => (a == sysModules) = false ∧ ∃ xs, Paired NkR es xs ∧ ∃ o en ep t u, h.get? a = some o ∧ o.ExactDict ∧ o.data = .dict en ep ∧ en.toList = xs.map (entryOfKey (nestedKind P w)) ++ [⟨hashStr w x, .str x t, u⟩] ∧ RelV v u
/-! isinstance, len, repr -/
def dctT (kos : List (OKey × PyData)) (x : Str) (d : PyData) : PyData := .dict ((kos.map fun e => (e.1.data, e.2)) ++ [(.str x, d)])
/-! at the level of data -/
def txQ (K : PySem.W.Frag) (P : Program) (w : World) (kos : List (OKey × PyData)) (x : Str) (d : PyData) : Hp → Hp → Addr → Prop := fun G H a => ∃ (es : List OE) (v : V), H a = some (txO P w a es x v) ∧ Paired (OrG K G) kos es ∧ VR K G (.d d) v
def txM (K : PySem.W.Frag) (P : Program) (w : World) (kos : List (OKey × PyData)) (x : Str) (d : PyData) : MO := .g (txQ K P w kos x d)
end DL
set_option exponentiation.threshold 9000
/-! k62: cost papers looked at: plain mathematics -/
namespace DL
open PySem L2
/-! words -/
structure TxAt (K : PySem.W.Frag) (P : Program) (w : World) (n : Nat) (m : Mm) (p : Addr) (kos : List (OKey × PyData)) (x : Str) (d : PyData) : Prop where
  mem : m p = some (txM K P w kos x d)
  len : kos.length = 2 ^ n
/-- keys small, values to be shown -/
def ShV (t : Tg) : Prop := ∀ kds, t = .dct kds → ∀ e ∈ kds, ShA e.2
end DL
set_option exponentiation.threshold 9000
/-! k62: keys of truths put together, bounds, the things of the law -/
namespace DL
open PySem L2 PySem.Spec PyProof.Rows
theorem mul_tuple0 {l : Addr} {items : Array Value} {n : Nat} {dd : Option Addr} {sl : Array (Option Value)} {u : Tok} (hne : items.isEmpty = false) :
    Meets (Builtin.«tuple.__mul__» ⟨[.ref l, .int 0 u], []⟩) (fun _ R s => s.heap.get? l = some { cls := .type "tuple", dict := dd, data := .seq items n, slots := sl } ∧
      R (.ok (.ret (Value.ref s.heap.objs.size))) { s with heap := s.heap.push { cls := Value.type "tuple", data := Data.seq #[] }, toks := s.toks }) :=
  .of_wp fun prog w A R s h => by
    obtain ⟨hp, g, d, tk, os⟩ := s
    obtain ⟨hl, h⟩ := h
    have f1 := AutoSeq1.idx_int
    wp_walk using wpAny_loadPart' hl
    repeat (first
      | (refine wpAny_ite_false (by decide) ?_; wp_walk using wpAny_loadPart' hl)
      | (refine wpAny_ite_false (by rw [hne]; decide) ?_; wp_walk using wpAny_loadPart' hl)
      | (refine wpAny_ite_true (by simp) ?_; wp_walk using wpAny_loadPart' hl))
    exact ⟨_, rfl, h⟩
section
variable {X : Cx} {j : Nat}
def rRepT0 (K : PySem.W.Frag) : R2 := fun x y H Q => ∃ l xs, x = .ref l ∧ y = .int 0 ∧ xs ≠ [] ∧ SqT K H l xs ∧ ∀ p, H p = none → Q (.ref p) (upd H p (.tup []))
theorem op_repT0 : OpR X (binaryOp .Mult) (rRepT0 X.K) := by
  intro pins s σ H x y v u Q I rx ry h
  obtain ⟨l, xs, rfl, rfl, hne, hT, q⟩ := h
  cases rx
  obtain ⟨t, rfl⟩ := ry
  obtain ⟨its, r, ⟨⟨cls, dd, data, sl⟩, ho, hc, n, hd⟩, hs⟩ := I.tuple hT
  simp only at hc hd
  subst hc hd
  have hi : its.toArray.isEmpty = false := by
    cases its with
    | nil => exact absurd (List.length_eq_zero_iff.mp (by rw [r.length]; rfl)) hne
    | cons a b => rfl
  refine wpAny_binaryOp_repeat_ref (T := "tuple") (U := "int") (by decide) ⟨_, ho, rfl⟩ (fun s' => typeIs_int s' 0 t) noFill_tuple_mul PySem.F.fills_int_mul PySem.F.slot_int_rmul repeat_tuple PySem.F.slot_int_index.lookup
    (call_meets PySem.F.slot_int_rmul (typeIs_int s 0 t) PySem.F.entry_int_rmul (PySem.F.args_int_rmul_2 _ _) (int_rmul_tuple 0 t l its.toArray n dd sl)
      ⟨ho, rfl, ⟨_, ho, rfl⟩, call_meets PySem.F.slot_tuple_mul ⟨_, ho, rfl⟩ PySem.F.entry_tuple_mul (PySem.F.args_tuple_mul_2 _ _) (mul_tuple0 hi) ⟨ho, ?_⟩⟩)
  refine ⟨.ref s.heap.objs.size, _, I.laid (t' := s.toks) (o := .tup []) (fun b ob q => Heap.get?_push_of_some _ q) (Nat.le_refl _) ?_, rfl, q _ (I.hok.fresh (Nat.le_refl _))⟩
  exact ⟨by show 0 ≤ sizeLine; exact Nat.zero_le _, [], .nil, IsTup.new _ _⟩
def rMulZ (K : PySem.W.Frag) : R2 := fun x y H Q => rRepT0 K x y H Q ∨ rMul K x y H Q
theorem kMulZ (K : PySem.W.Frag) (h : X.K = K := by rfl) : OpR X (binaryOp .Mult) (rMulZ K) := h ▸ op_repT0.or oMul
end
/-! at the level of data -/
/-! bounds -/
/-! the things -/
def ThC (K : PySem.W.Frag) (P : Program) (w : World) (ss : List Int) (m : Mm) (y : Val) : Prop := (∃ t : Tg, t.At m y ∧ TgD t ∧ SmK t ∧ ShV t ∧ Gd ss t) ∨ (∃ (p : Addr) (kos : List (OKey × PyData)), y = .v (.ref p) ∧ OdAt K P w m p kos ∧ SmO kos ∧ (∀ e ∈ kos, ShA e.2) ∧ ShA (dctO kos)) ∨
  ∃ (p : Addr) (kos : List (OKey × PyData)) (x : Str) (d : PyData), y = .v (.ref p) ∧ TxAt K P w ss.length m p kos x d ∧ ShA (dctT kos x d)
section
variable {K : PySem.W.Frag} {P : Program} {w : World} {ss : List Int} {m m' : Mm} {y : Val}
theorem ThC.agree (h : ThC K P w ss m y) (e : ∀ p, y = .v (.ref p) → m' p = m p) : ThC K P w ss m' y := by
  rcases h with ⟨t, h, g⟩ | ⟨p, kos, rfl, ho, g⟩ | ⟨p, kos, x, d, rfl, ht, g⟩
  · refine Or.inl ⟨t, ?_, g⟩
    cases t with
    | dat x => exact h
    | dct kds =>
      obtain ⟨p, rfl, h1, h2⟩ := h
      exact ⟨p, rfl, (e p rfl).trans h1, h2⟩
  · exact Or.inr (Or.inl ⟨p, kos, rfl, ⟨(e p rfl).trans ho.mem, ho.nd, ho.few, ho.ok, ho.okb, ho.odd⟩, g⟩)
  · exact Or.inr (Or.inr ⟨p, kos, x, d, rfl, ⟨(e p rfl).trans ht.mem, ht.len⟩, g⟩)
theorem ThC.at (h : ThC K P w ss m y) {p : Addr} (e : y = .v (.ref p)) : ∃ o, m p = some o ∧ ∀ xs, o ≠ .lst xs := by
  rcases h with ⟨t, h, g⟩ | ⟨p', kos, h, ho, g⟩ | ⟨p', kos, x, d, h, ht, g⟩
  · cases t with
    | dat x => rw [e] at h; exact nomatch h.1
    | dct kds =>
      obtain ⟨p', h, h1, h2⟩ := h
      rw [e] at h
      cases h
      exact ⟨_, h1, fun xs z => nomatch z⟩
  · rw [e] at h
    cases h
    exact ⟨_, ho.mem, fun xs z => nomatch z⟩
  · rw [e] at h
    cases h
    exact ⟨_, ht.mem, fun xs z => nomatch z⟩
theorem ThC.less (h : ThC K P w ss m y) (hx : Ext m m') : ThC K P w ss m' y := h.agree fun p e => by
  obtain ⟨o, h1, _⟩ := h.at e
  rw [h1, hx p o h1]
end
end DL
/-! instances of a class: attributes, methods, at the level of data; tuples of any things; tuples known whole put together -/
namespace DL
open PySem L2 PySem.Spec PyProof.Rows L2H
/-! tuples known whole: displays and sums -/
/-! attributes as targets -/
/-! methods -/
/-! K-named rules -/
/-! ## the level of data -/
def vtQ (K : PySem.W.Frag) (rs : List Val) : Hp → V → Prop := fun G v => ∃ p xs, v = .ref p ∧ G p = some (.tup xs) ∧ VRs K G rs xs
section
variable {K : PySem.W.Frag} {G H : Hp} {a p C : Addr} {fs : List (Str × Val)} {m : Mm}
theorem vtQ.mono {rs : List Val} {v : V} (G G' : Hp) (e : Le G G') (h : vtQ K rs G v) : vtQ K rs G' v := by
  obtain ⟨p, xs, h1, h2, h3⟩ := h
  exact ⟨p, xs, h1, e _ _ h2, h3.mono e⟩
end
end DL
/-! the desk: further rules (count, or of texts, signs of a text, parts of a text, a try that is not needed), its attributes -/
namespace DL
open PySem L2 PySem.Spec PyProof.Rows L2H
/-! ## the level of data -/
/-! the attributes of the desk -/
end DL
/-! an own exception class whose __init__ calls its program's own base class: G.__init__(self, ..) -/
namespace L2
open PySem PySem.Spec PyProof.Rows
end L2
/-! an exception with a number of its own: its __init__ -/
namespace DL
open PySem L2 PySem.Spec PyProof.Rows L2H
section
variable {P : Program} {w : World} {K : PySem.W.Frag} {mg : Str → Option Value} {base : Heap}
def xdN (z : Int) : HO := .xd [("at", .int z)]
end
end DL
/-! the handled exception keeps a number: isinstance of it, defs that are handed it, its number; count and index in lists of truths -/
namespace DL
open PySem L2 PySem.Spec PyProof.Rows L2H
/-! at the level of data -/
/-- the handled exception, with its number -/
def xNP (a d : Addr) (z : Int) : Hp → V → Prop := fun G u => u = .ref a ∧ G d = some (xdN z)
theorem xNP.mono {a d : Addr} {z : Int} {v : V} : ∀ G G', Le G G' → xNP a d z G v → xNP a d z G' v := fun _ _ e h => ⟨h.1, e _ _ h.2⟩
/-! l.count(b), l.index(b) in a list of truths -/
def rCntF (K : PySem.W.Frag) : V → List V → Hp → VK → Prop := fun x xs H Q => ∃ (p : Addr) (ys : List V) (y : V), x = .ref p ∧ xs = [y] ∧ SqL K H p ys ∧ flatV y = true ∧ ys.all flatV = true ∧ Q (.int ((ys.countP fun z => eqV z y : Nat) : Int)) H
theorem cnt_of {y : V} : ∀ {ys : List V} {us : List Value}, Vals ys us → ys.all flatV = true → us.countP (eqU y) = ys.countP fun z => eqV z y
  | _, _, .nil, _ => rfl
  | y1 :: ys, u :: us, .cons r t, f => by
    rw [List.all_cons, Bool.and_eq_true] at f
    rw [List.countP_cons, List.countP_cons, cnt_of t f.2, eqU_of r f.1]
theorem mt_cntF {X : Cx} : MtR X "list.count" (rCntF X.K) := by
  intro pins s σ H x xs v us Q I rx rxs h
  obtain ⟨p, ys, y, rfl, rfl, hs, fy, fys, q⟩ := h
  cases rx
  obtain ⟨u, rfl, ru⟩ := rxs.one
  obtain ⟨its, rv, ⟨⟨cls, dd, data, sl⟩, n, ho, hc, hdn, hd⟩, hlen⟩ := I.list hs
  simp only at hc hd
  subst hc hd
  refine call_meets PySem.F.slot_list_count ⟨_, ho, rfl⟩ PySem.F.entry_list_count (PySem.F.args_list_count_2 _ _)
    (SeqAt.list_countAt p its.toArray n dd sl u (eqU y)) ⟨ho, fun w hw => mem_eqAt ru fy rv fys w (by simpa using hw), ?_⟩
  have ec : its.toArray.toList.countP (eqU y) = ys.countP fun z => eqV z y := cnt_of rv fys
  refine ⟨.int ((ys.countP fun z => eqV z y : Nat) : Int), H, I.tok _, ⟨s.toks, ?_⟩, q⟩
  show Value.int ((its.toArray.toList.countP (eqU y) : Nat) : Int) s.toks = Value.int ((ys.countP fun z => eqV z y : Nat) : Int) s.toks
  rw [ec]
theorem kCntF (K : PySem.W.Frag) {X : Cx} {e : Expr} {to : TE} {ta : TA} (hp : PE X e (tBM X.K "list" (rCntF X.K) to ta)) (h : X.K = K := by rfl) : PE X e (tBM K "list" (rCntF K) to ta) := h ▸ hp
theorem kIdxF (K : PySem.W.Frag) {X : Cx} {e : Expr} {to : TE} {ta : TA} (hp : PE X e (tBM X.K "list" (L2.rIndex X.K) to ta)) (h : X.K = K := by rfl) : PE X e (tBM K "list" (L2.rIndex K) to ta) := h ▸ hp
theorem rpa_bools {K : PySem.W.Frag} {G : Hp} : ∀ {bs : List Bool} {xs : List V}, RpAll K G (bs.map PyData.bool) xs → xs = bs.map V.bl
  | [], _, h => rpa_nil.mp h
  | b :: bs, xs, h => by
    obtain ⟨x, r, rfl, h1, h2⟩ := rpa_cons.mp h
    rw [rp_bool.mp h1, rpa_bools h2]
    rfl
theorem bls_flat (bs : List Bool) : (bs.map V.bl).all flatV = true := by
  rw [List.all_eq_true]
  intro x hx
  obtain ⟨b, _, rfl⟩ := List.mem_map.mp hx
  rfl
section
variable {K : PySem.W.Frag} {r : List Val} {m : Mm} {Q : Val → Mm → Prop} {to te : TE}
theorem ev_cntB (h : Ev K to r m fun x m1 => ∃ bs : List Bool, x = .d (.list (bs.map PyData.bool)) ∧ Ev K te r m1 fun y m2 => ∃ b : Bool, y = .d (.bool b) ∧ Q (.d (.int (bs.count b : Nat))) m2) : Ev K (tBM K "list" (rCntF K) to (tCons te tNil)) r m Q := fun σ H G S L R k =>
  h σ H G S L _ fun v H1 G1 x m1 ⟨bs, hx, h1⟩ S1 e1 r1 => by
    subst hx
    obtain ⟨p, xs, rfl, g1, g2⟩ := rp_list.mp r1.rp
    rw [rpa_bools g2] at g1
    refine ⟨Or.inl ⟨rfl, _, Or.inl (Le.rd S1.sub g1)⟩, ?_⟩
    refine h1 σ H1 G1 S1 (L.mono e1) _ fun w H2 G2 y m2 ⟨b, hy, q⟩ S2 e2 r2 => ?_
    subst hy
    have r2 := rp_bool.mp r2.rp
    subst r2
    refine ⟨p, bs.map V.bl, .bl b, rfl, rfl, Or.inl (Le.rd S2.sub (e2.rd g1)), rfl, bls_flat bs, ?_⟩
    have e : (bs.map V.bl).countP (fun z => eqV z (.bl b)) = bs.count b := by
      rw [List.countP_map, List.count_eq_countP]
      rfl
    rw [e]
    exact k _ H2 G2 _ m2 q S2 (e1.trans e2) vr_int
theorem ev_idxB (h : Ev K to r m fun x m1 => ∃ bs : List Bool, x = .d (.list (bs.map PyData.bool)) ∧ Ev K te r m1 fun y m2 => ∃ (b : Bool) (j : Nat), y = .d (.bool b) ∧ bs[j]? = some b ∧ (∀ i : Nat, i < j → bs[i]? = some (!b)) ∧ Q (.d (.int (j : Int))) m2) : Ev K (tBM K "list" (L2.rIndex K) to (tCons te tNil)) r m Q := fun σ H G S L R k =>
  h σ H G S L _ fun v H1 G1 x m1 ⟨bs, hx, h1⟩ S1 e1 r1 => by
    subst hx
    obtain ⟨p, xs, rfl, g1, g2⟩ := rp_list.mp r1.rp
    rw [rpa_bools g2] at g1
    refine ⟨Or.inl ⟨rfl, _, Or.inl (Le.rd S1.sub g1)⟩, ?_⟩
    refine h1 σ H1 G1 S1 (L.mono e1) _ fun w H2 G2 y m2 ⟨b, j, hy, hj, hn, q⟩ S2 e2 r2 => ?_
    subst hy
    have r2 := rp_bool.mp r2.rp
    subst r2
    refine ⟨p, bs.map V.bl, .bl b, j, .bl b, rfl, rfl, Or.inl (Le.rd S2.sub (e2.rd g1)), rfl, bls_flat bs, by rw [List.getElem?_map, hj]; rfl, by cases b <;> rfl, fun i z hi hz => ?_, ?_⟩
    · rw [List.getElem?_map, hn i hi] at hz
      cases hz
      cases b <;> rfl
    · exact k _ H2 G2 _ m2 q S2 (e1.trans e2) vr_int
end
/-! what the written part says of classes -/
structure XL (K : PySem.W.Frag) (cs : List Addr) (gat : Addr) (i : Nat) (C : Addr) : Prop where
  exc : ExcC K C
  one : ∀ j, j < cs.length → PySem.W.kitOne K (.ref C) (.ref (cs.getD j 0)) = some (decide (j = i))
  gt : PySem.W.kitOne K (.ref C) (.ref gat) = some true
  val : PySem.W.kitOne K (.ref C) (.type "ValueError") = some true
  em : PySem.W.exmOne K (.ref C) (.ref gat) = some true
abbrev okL (K : PySem.W.Frag) (cs : List Addr) (gat : Addr) : Addr → Prop := fun D => ∃ i, XL K cs gat i D
theorem kNeH {X : Cx} {j : Nat} (K : PySem.W.Frag) (hr : RoomH j X.A) (h : X.K = K := by rfl) : OpR X (compareOp .NotEq) (rNeA K) := by
  subst h
  exact op_ne.or (op_neD (by have := hr.un; omega))
/-- try .. except C as n, the name not held by a comprehension -/
def tTryA (K : PySem.W.Frag) (c : Value) (i : Nat) (ts : Addr → Value → Option Addr → TS) (tb : L2.WX → TS) : TS := fun D σ H => tb (wAs K c i ts (fun _ _ _ _ => False) D) D σ H
theorem ps_tryA {X : Cx} {K : PySem.W.Frag} {c : Value} {i : Nat} {ts : Addr → Value → Option Addr → TS} {tb : L2.WX → TS} {st : Stmt} (h : PS X st (fun D σ H => tb (wAs X.K c i ts (fun _ _ _ _ => False) D) D σ H)) (hK : X.K = K := by rfl) : PS X st (tTryA K c i ts tb) := by
  subst hK
  exact h
section
variable {K : PySem.W.Frag} {r : List Val} {m : Mm} {N : List Val → Mm → Prop} {E : Val → Mm → Prop} {tb : L2.WX → TS} {c : Value} {i : Nat} {ts : Addr → Value → Option Addr → TS}
theorem w_tryA (X : Addr → Mm → Prop) (hb : ∀ (W : L2.WX) (G0 : Hp), TkX K G0 r W X → Wx K G0 (tb W) r m N E)
    (hx : ∀ C m', X C m' → PySem.W.exmOne K (.ref C) c = some true ∧ ∀ a, Wp K (ts a (.ref C) none) (r.set i (.v (.ref a))) m' (fun r' m'' => N (r'.set i .any) m'') E) : Wp K (tTryA K c i ts tb) r m N E := w_try (tb := tb) X hb hx
end
end DL
set_option exponentiation.threshold 9000
/-! k05: what is refused first -/
namespace DL
open PySem L2
/-- a def over data that looks and answers nothing, or refuses with the i-th class -/
def fnC (cs : List Addr) (n i : Nat) (B : List PyData → Bool) (pre : List PyData → Prop) : FSpX := fun args m R X => ∃ ds, args = ds.map Val.d ∧ ds.length = n ∧ pre ds ∧ (B ds = true → R (.d .none) m) ∧ (B ds = false → X (cs.getD i 0) m)
theorem fnC_len {cs : List Addr} {n i : Nat} {B : List PyData → Bool} {pre : List PyData → Prop} {args : List Val} {m : Mm} {R : Val → Mm → Prop} {X : Addr → Mm → Prop} (h : fnC cs n i B pre args m R X) : args.length = n := by
  obtain ⟨ds, rfl, h, _⟩ := h
  rw [List.length_map]; exact h
def bKinds : List PyData → Bool
  | [.tuple ds, x] => areKinds x (ds.length : Int)
  | _ => false
def preKinds : List PyData → Prop
  | [.tuple _, x] => shortD x
  | _ => False
def bFrac : List PyData → Bool
  | [x] => isFrac x
  | _ => false
def preFrac : List PyData → Prop
  | [x] => szFrac x
  | _ => False
def okPk (a s : PyData) : Bool := okNum a 1 5 && okNum s 1 (min (intOf a) 3)
def bPack : List PyData → Bool
  | [a, s] => okPk a s
  | _ => false
def natsOf (ds : List PyData) : List Nat := ds.map fun d => (intOf d).toNat
def bFew : List PyData → Bool
  | [.tuple ds] => decide (stN (natsOf ds) ≤ 64)
  | _ => false
def preFew : List PyData → Prop
  | [.tuple ds] => ∃ v : List Nat, ds = (kn v).map PyData.int ∧ v.length ≤ 5 ∧ ∀ x ∈ v, x ≤ 3
  | _ => False
theorem nats_kn (v : List Nat) : natsOf ((kn v).map PyData.int) = v := by
  unfold natsOf kn
  rw [List.map_map, List.map_map]
  conv => rhs; rw [← List.map_id v]
  exact List.map_congr_left fun x _ => by show ((x : Nat) : Int).toNat = x; omega
def eNeedNeeds : List PyData → Except Nat PyData
  | [sh, x] => if isShares sh = true then (if rightN (intsOf sh).length x = true then .ok .none else .error 3) else .error 0
  | _ => .error 9
theorem nNeeds_ok {sh x d : PyData} (h : eNeedNeeds [sh, x] = .ok d) : isShares sh = true ∧ rightN (intsOf sh).length x = true := by
  cases hs : isShares sh with
  | false => simp only [eNeedNeeds, hs] at h; cases h
  | true =>
    cases hx : rightN (intsOf sh).length x with
    | true => exact ⟨rfl, rfl⟩
    | false => simp only [eNeedNeeds, hs, hx, if_true] at h; cases h
theorem nNeeds_no {sh x : PyData} {i : Nat} (h : eNeedNeeds [sh, x] = .error i) : (isShares sh = false ∧ i = 0) ∨ (isShares sh = true ∧ rightN (intsOf sh).length x = false ∧ i = 3) := by
  cases hs : isShares sh with
  | false => simp only [eNeedNeeds, hs] at h; injection h with h; exact Or.inl ⟨rfl, h.symm⟩
  | true =>
    cases hx : rightN (intsOf sh).length x with
    | true => simp only [eNeedNeeds, hs, hx, if_true] at h; cases h
    | false => simp only [eNeedNeeds, hs, hx, if_true] at h; injection h with h; exact Or.inr ⟨rfl, rfl, h.symm⟩
/-! what each def refuses -/
def rS1 : List PyData → Nat → Prop
  | [sh], i => isShares sh = false ∧ i = 0
  | _, _ => False
def rS2 : List PyData → Nat → Prop
  | [_, sh], i => isShares sh = false ∧ i = 0
  | _, _ => False
def rPart : List PyData → Nat → Prop
  | [sh, one], i => (isShares sh = false ∧ i = 0) ∨ ∃ ss, sh = tupI ss ∧ Shares ss ∧ shortD one ∧ areKinds one (ss.length : Int) = false ∧ i = 1
  | _, _ => False
def rJust : List PyData → Nat → Prop
  | [sh, one, other], i => (isShares sh = false ∧ i = 0) ∨ ∃ ss, sh = tupI ss ∧ Shares ss ∧ shortD one ∧ ((areKinds one (ss.length : Int) = false ∧ i = 1) ∨ (areKinds one (ss.length : Int) = true ∧ okNum other 0 12 = false ∧ i = 2))
  | _, _ => False
def rNum12 : List PyData → Nat → Prop
  | [sh, one], i => (isShares sh = false ∧ i = 0) ∨ ∃ ss, sh = tupI ss ∧ Shares ss ∧ okNum one 0 12 = false ∧ i = 2
  | _, _ => False
def rNeeds : List PyData → Nat → Prop
  | [sh, one], i => (isShares sh = false ∧ i = 0) ∨ ∃ ss, sh = tupI ss ∧ Shares ss ∧ ((rightN ss.length one = false ∧ i = 3) ∨ ∃ v, NeedV ss.length v ∧ one = .tuple ((kn v).map PyData.int) ∧ 64 < stN v ∧ i = 4)
  | _, _ => False
def rNeedsN : List PyData → Nat → Prop
  | [sh, one, other], i => (isShares sh = false ∧ i = 0) ∨ ∃ ss, sh = tupI ss ∧ Shares ss ∧ ((rightN ss.length one = false ∧ i = 3) ∨ ∃ v, NeedV ss.length v ∧ one = .tuple ((kn v).map PyData.int) ∧ ((okNum other 0 8 = false ∧ i = 2) ∨ (okNum other 0 8 = true ∧ 64 < stN v ∧ i = 4)))
  | _, _ => False
def okLow (x y : PyData) : Bool := isInt x && (isInt y && decide (1 ≤ intOf y))
def rLow : List PyData → Nat → Prop
  | [x, y], i => okLow x y = false ∧ i = 2
  | _, _ => False
def rFr2 : List PyData → Nat → Prop
  | [x, y], i => szFrac x ∧ szFrac y ∧ (isFrac x && isFrac y) = false ∧ i = 2
  | _, _ => False
def rPk2 : List PyData → Nat → Prop
  | [a, s], i => okPk a s = false ∧ i = 2
  | _, _ => False
def rPkI : List PyData → Nat → Prop
  | [_, a, s], i => okPk a s = false ∧ i = 2
  | _, _ => False
def rPkC : List PyData → Nat → Prop
  | [a, s, n], i => (okPk a s = false ∨ (okPk a s = true ∧ okNum n 0 8 = false)) ∧ i = 2
  | _, _ => False
def RefSh : Nat → PyData → PyData → PyData → Nat → Prop
  | 8, sh, one, _, i => rPart [sh, one] i
  | 9, sh, one, other, i => rJust [sh, one, other] i
  | 10, sh, one, _, i => rNum12 [sh, one] i
  | 11, sh, one, _, i => rNum12 [sh, one] i
  | 12, sh, one, _, i => rNum12 [sh, one] i
  | 13, sh, one, _, i => rNeeds [sh, one] i
  | 14, sh, one, other, i => rNeedsN [sh, one, other] i
  | 15, sh, one, _, i => rNeeds [sh, one] i
  | _, sh, _, _, i => isShares sh = false ∧ i = 0
def RefNum : Nat → PyData → PyData → Nat → Prop
  | 0, x, y, i => rLow [x, y] i
  | _, x, y, i => rFr2 [x, y] i
def RefPk : Nat → PyData → PyData → PyData → Nat → Prop
  | 3, a, s, _, i => rPkI [.none, a, s] i
  | 4, a, s, n, i => rPkC [a, s, n] i
  | _, a, s, _, i => rPk2 [a, s] i
theorem refSh_bad {k : Nat} {sh one other : PyData} (h : isShares sh = false) : RefSh k sh one other 0 := by
  unfold RefSh
  split <;> first | exact ⟨h, rfl⟩ | exact Or.inl ⟨h, rfl⟩
def f_bySh (cs : List Addr) : FSpX := fun args m R X => (∃ (k : Nat) (sh one other : PyData) (i : Nat), args = [.d (.int (k : Int)), .d sh, .d one, .d other] ∧ k ≤ 15 ∧ RefSh k sh one other i ∧ X (cs.getD i 0) m) ∨
  (∃ (k : Nat) (ss : List Int) (v : List Nat), args = [.d (.int (k : Int)), .d (tupI ss), .t (kn v), .d (.int 3)] ∧ (k = 7 ∨ k = 13 ∨ k = 14 ∨ k = 15) ∧ Shares ss ∧ NeedV ss.length v ∧ stN v ≤ 64 ∧ R (.d .none) m) ∨
  ∃ (ss : List Int) (one other : PyData), args = [.d (.int 7), .d (tupI ss), .d one, .d other] ∧ Shares ss ∧ R (.d .none) m
def f_byNum (cs : List Addr) : FSpX := fun args m R X => ∃ (k : Nat) (x y : PyData) (i : Nat), args = [.d (.int (k : Int)), .d x, .d y] ∧ k ≤ 4 ∧ RefNum k x y i ∧ X (cs.getD i 0) m
def f_byPk (cs : List Addr) : FSpX := fun args m R X => ∃ (k : Nat) (a s n : PyData) (i : Nat), args = [.d (.int (k : Int)), .d a, .d s, .d n] ∧ k ≤ 4 ∧ RefPk k a s n i ∧ X (cs.getD i 0) m
def markS (i : Nat) : Str := [("shares" : Str), "kind", "number", "needs", "many", "text"].getD i ""
def f_marksN (K : PySem.W.Frag) (cs : List Addr) (gat : Addr) : Addr → Addr → FSp := fun a D args m R => ∃ i, XL K cs gat i D ∧ i < 6 ∧ cs.length = 6 ∧ args = [.v (.ref a)] ∧ R (.d (.str (markS i))) m
def f_said05 : FSp := fun args m R => (∃ (k : Nat) (sh one other : PyData) (i : Nat), args = [.d (.int 0), .d (.int (k : Int)), .d sh, .d one, .d other] ∧ k ≤ 15 ∧ RefSh k sh one other i ∧ i < 5 ∧ R (.d (.str (markS i))) m) ∨
  (∃ (k : Nat) (ss : List Int) (v : List Nat), args = [.d (.int 0), .d (.int (k : Int)), .d (tupI ss), .t (kn v), .d (.int 3)] ∧ (k = 7 ∨ k = 13 ∨ k = 14 ∨ k = 15) ∧ Shares ss ∧ NeedV ss.length v ∧ stN v ≤ 64 ∧ R (.d (.str "told")) m) ∨
  (∃ (ss : List Int) (one other : PyData), args = [.d (.int 0), .d (.int 7), .d (tupI ss), .d one, .d other] ∧ Shares ss ∧ R (.d (.str "told")) m) ∨
  (∃ (k : Nat) (x y z : PyData), args = [.d (.int 1), .d (.int (k : Int)), .d x, .d y, .d z] ∧ k ≤ 4 ∧ RefNum k x y 2 ∧ R (.d (.str "number")) m) ∨
  ∃ (k : Nat) (a s n : PyData), args = [.d (.int 2), .d (.int (k : Int)), .d a, .d s, .d n] ∧ k ≤ 4 ∧ RefPk k a s n 2 ∧ R (.d (.str "number")) m
theorem of_needNeeds {cs : List Addr} : ∀ args m R, f_needNeeds args m R → fnE cs 2 eNeedNeeds anyD args m R fun _ _ => False := by
  rintro args m R ⟨x, ss, rfl, hs, hr, q⟩
  have e : eNeedNeeds [tupI ss, x] = .ok .none := by simp only [eNeedNeeds, isShares_of hs, intsOf_tupI, hr, if_true]
  refine ⟨[tupI ss, x], rfl, rfl, trivial, fun d hd => ?_, fun i hi => ?_⟩
  · rw [e] at hd; cases hd; exact q
  · rw [e] at hi; cases hi
theorem of_needFew {cs : List Addr} : ∀ args m R, f_needFew args m R → fnC cs 1 4 bFew preFew args m R fun _ _ => False := by
  rintro args m R ⟨v, rfl, h5, h3, h64, q⟩
  refine ⟨[.tuple ((kn v).map PyData.int)], rfl, rfl, ⟨v, rfl, h5, h3⟩, fun _ => q, fun h => ?_⟩
  have h : decide (stN (natsOf ((kn v).map PyData.int)) ≤ 64) = false := h
  rw [nats_kn] at h
  exact absurd h64 (of_decide_eq_false h)
theorem st_sh {sh : PyData} {i : Nat} {T : List Int → Prop} (h : (isShares sh = false ∧ i = 0) ∨ ∃ ss, sh = tupI ss ∧ Shares ss ∧ T ss) : (∀ j, eNeedShares [sh] = .error j → j = i) ∧ ∀ d, eNeedShares [sh] = .ok d → ∃ ss, sh = tupI ss ∧ Shares ss ∧ T ss := by
  refine ⟨fun j hj => ?_, fun d hd => ?_⟩
  · obtain ⟨h1, rfl⟩ := nShares_no hj
    rcases h with ⟨_, rfl⟩ | ⟨ss, rfl, hs, _⟩
    · rfl
    · rw [isShares_of hs] at h1; cases h1
  · have h1 := nShares_ok hd
    rcases h with ⟨h2, _⟩ | h
    · rw [h2] at h1; cases h1
    · exact h
theorem st_no {sh : PyData} {i : Nat} (h : isShares sh = false ∧ i = 0) : (∀ j, eNeedShares [sh] = .error j → j = i) ∧ ∀ d, eNeedShares [sh] ≠ .ok d := by
  refine ⟨fun j hj => ?_, fun d hd => ?_⟩
  · obtain ⟨h1, rfl⟩ := nShares_no hj
    exact h.2.symm
  · have h1 := nShares_ok hd
    rw [h.1] at h1; cases h1
/-- .. need_needs behind need_shares -/
theorem st_needs {sh one : PyData} {i : Nat} {T : List Int → List Nat → Prop} (h : (isShares sh = false ∧ i = 0) ∨ ∃ ss, sh = tupI ss ∧ Shares ss ∧ ((rightN ss.length one = false ∧ i = 3) ∨ ∃ v, NeedV ss.length v ∧ one = .tuple ((kn v).map PyData.int) ∧ T ss v)) :
    (∀ j, eNeedNeeds [sh, one] = .error j → j = i) ∧ ∀ d, eNeedNeeds [sh, one] = .ok d → ∃ ss v, sh = tupI ss ∧ Shares ss ∧ NeedV ss.length v ∧ one = .tuple ((kn v).map PyData.int) ∧ T ss v := by
  refine ⟨fun j hj => ?_, fun d hd => ?_⟩
  · rcases nNeeds_no hj with ⟨h1, rfl⟩ | ⟨h1, h2, rfl⟩
    · rcases h with ⟨_, rfl⟩ | ⟨ss, rfl, hs, _⟩
      · rfl
      · rw [isShares_of hs] at h1; cases h1
    · rcases h with ⟨h3, _⟩ | ⟨ss, rfl, hs, ⟨_, rfl⟩ | ⟨v, hv, rfl, _⟩⟩
      · rw [h3] at h1; cases h1
      · rfl
      · rw [intsOf_tupI, right_of hv] at h2; cases h2
  · obtain ⟨h1, h2⟩ := nNeeds_ok hd
    rcases h with ⟨h3, _⟩ | ⟨ss, rfl, hs, ⟨h4, _⟩ | ⟨v, hv, rfl, hT⟩⟩
    · rw [h3] at h1; cases h1
    · rw [intsOf_tupI, h4] at h2; cases h2
    · exact ⟨ss, v, rfl, hs, hv, rfl, hT⟩
theorem bFew_no {v : List Nat} (h : 64 < stN v) : bFew [.tuple ((kn v).map PyData.int)] ≠ true := fun hb => by
  have hb : decide (stN (natsOf ((kn v).map PyData.int)) ≤ 64) = true := hb
  rw [nats_kn] at hb
  have := of_decide_eq_true hb
  omega
theorem bFew_few {v : List Nat} (h : ¬ stN v ≤ 64) : bFew [.tuple ((kn v).map PyData.int)] = false := by
  show decide (stN (natsOf ((kn v).map PyData.int)) ≤ 64) = false
  rw [nats_kn]
  exact decide_eq_false h
theorem bFew_yes {v : List Nat} (h : stN v ≤ 64) : bFew [.tuple ((kn v).map PyData.int)] = true := by
  show decide (stN (natsOf ((kn v).map PyData.int)) ≤ 64) = true
  rw [nats_kn]
  exact decide_eq_true h
end DL
set_option exponentiation.threshold 9000
/-! k05: what the law asks, one by one -/
namespace DL
open PySem L2
section
variable {m : Mm} {R : Val → Mm → Prop} {ss : List Int} {d one other x y z a s n : PyData} {k : Nat} {v : List Nat}
theorem sd_bad (hk : k ≤ 15) (h : isShares d = false) (q : R (.d (.str "shares")) m) : f_said05 [.d (.int 0), .d (.int (k : Int)), .d d, .d one, .d other] m R := Or.inl ⟨k, d, one, other, 0, rfl, hk, refSh_bad h, by decide, q⟩
theorem sd_kind (hk : k = 8 ∨ k = 9) (hs : Shares ss) (hd : shortD one) (h : areKinds one (ss.length : Int) = false) (q : R (.d (.str "kind")) m) : f_said05 [.d (.int 0), .d (.int (k : Int)), .d (tupI ss), .d one, .d other] m R := by
  refine Or.inl ⟨k, tupI ss, one, other, 1, rfl, by omega, ?_, by decide, q⟩
  rcases hk with rfl | rfl
  · exact Or.inr ⟨ss, rfl, hs, hd, h, rfl⟩
  · exact Or.inr ⟨ss, rfl, hs, hd, Or.inl ⟨h, rfl⟩⟩
theorem sd_num (hk : k = 10 ∨ k = 11 ∨ k = 12) (hs : Shares ss) (h : okNum one 0 12 = false) (q : R (.d (.str "number")) m) : f_said05 [.d (.int 0), .d (.int (k : Int)), .d (tupI ss), .d one, .d other] m R := by
  refine Or.inl ⟨k, tupI ss, one, other, 2, rfl, by omega, ?_, by decide, q⟩
  rcases hk with rfl | rfl | rfl <;> exact Or.inr ⟨ss, rfl, hs, h, rfl⟩
theorem sd_just (hs : Shares ss) (h : okNum other 0 12 = false) (q : R (.d (.str "number")) m) : f_said05 [.d (.int 0), .d (.int 9), .d (tupI ss), .d (.tuple [.int 0]), .d other] m R := by
  refine Or.inl ⟨9, tupI ss, .tuple [.int 0], other, 2, rfl, by decide, Or.inr ⟨ss, rfl, hs, by show 1 ≤ 90000; decide, Or.inr ⟨?_, h, rfl⟩⟩, by decide, q⟩
  exact areKinds_of (ks := [0]) (n := ss.length) ⟨by simp, fun k hk => by rw [List.mem_singleton.mp hk]; exact hs.pos⟩
theorem sd_needs (hk : k = 13 ∨ k = 14 ∨ k = 15) (hs : Shares ss) (h : rightN ss.length one = false) (q : R (.d (.str "needs")) m) : f_said05 [.d (.int 0), .d (.int (k : Int)), .d (tupI ss), .d one, .d other] m R := by
  refine Or.inl ⟨k, tupI ss, one, other, 3, rfl, by omega, ?_, by decide, q⟩
  rcases hk with rfl | rfl | rfl <;> exact Or.inr ⟨ss, rfl, hs, Or.inl ⟨h, rfl⟩⟩
theorem sd_nn (hs : Shares ss) (hv : NeedV ss.length v) (h : okNum other 0 8 = false) (q : R (.d (.str "number")) m) : f_said05 [.d (.int 0), .d (.int 14), .d (tupI ss), .d (.tuple ((kn v).map PyData.int)), .d other] m R :=
  Or.inl ⟨14, tupI ss, _, other, 2, rfl, by decide, Or.inr ⟨ss, rfl, hs, Or.inr ⟨v, hv, rfl, Or.inl ⟨h, rfl⟩⟩⟩, by decide, q⟩
theorem sd_many (hk : k = 13 ∨ k = 14 ∨ k = 15) (hs : Shares ss) (hv : NeedV ss.length v) (h : 64 < stN v) (q : R (.d (.str "many")) m) : f_said05 [.d (.int 0), .d (.int (k : Int)), .d (tupI ss), .d (.tuple ((kn v).map PyData.int)), .d (.int 3)] m R := by
  refine Or.inl ⟨k, tupI ss, _, .int 3, 4, rfl, by omega, ?_, by decide, q⟩
  rcases hk with rfl | rfl | rfl
  · exact Or.inr ⟨ss, rfl, hs, Or.inr ⟨v, hv, rfl, h, rfl⟩⟩
  · exact Or.inr ⟨ss, rfl, hs, Or.inr ⟨v, hv, rfl, Or.inr ⟨rfl, h, rfl⟩⟩⟩
  · exact Or.inr ⟨ss, rfl, hs, Or.inr ⟨v, hv, rfl, h, rfl⟩⟩
theorem sd_told (hk : k = 7 ∨ k = 13 ∨ k = 14 ∨ k = 15) (hs : Shares ss) (hv : NeedV ss.length v) (h : stN v ≤ 64) (q : R (.d (.str "told")) m) : f_said05 [.d (.int 0), .d (.int (k : Int)), .d (tupI ss), .t (kn v), .d (.int 3)] m R :=
  Or.inr (Or.inl ⟨k, ss, v, rfl, hk, hs, hv, h, q⟩)
theorem sd_none (hs : Shares ss) (q : R (.d (.str "told")) m) : f_said05 [.d (.int 0), .d (.int 7), .d (tupI ss), .d one, .d other] m R := Or.inr (Or.inr (Or.inl ⟨ss, one, other, rfl, hs, q⟩))
theorem sd_fr (hk : k = 1 ∨ k = 2 ∨ k = 3 ∨ k = 4) (hx : szFrac x) (hy : szFrac y) (h : (isFrac x && isFrac y) = false) (q : R (.d (.str "number")) m) : f_said05 [.d (.int 1), .d (.int (k : Int)), .d x, .d y, .d z] m R := by
  refine Or.inr (Or.inr (Or.inr (Or.inl ⟨k, x, y, z, rfl, by omega, ?_, q⟩)))
  rcases hk with rfl | rfl | rfl | rfl <;> exact ⟨hx, hy, h, rfl⟩
theorem sd_low (h : okLow x y = false) (q : R (.d (.str "number")) m) : f_said05 [.d (.int 1), .d (.int 0), .d x, .d y, .d z] m R := Or.inr (Or.inr (Or.inr (Or.inl ⟨0, x, y, z, rfl, by decide, ⟨h, rfl⟩, q⟩)))
theorem sd_pk (hk : k < 5) (h : okPk a s = false) (q : R (.d (.str "number")) m) : f_said05 [.d (.int 2), .d (.int (k : Int)), .d a, .d s, .d n] m R := by
  refine Or.inr (Or.inr (Or.inr (Or.inr ⟨k, a, s, n, rfl, by omega, ?_, q⟩)))
  have : k = 0 ∨ k = 1 ∨ k = 2 ∨ k = 3 ∨ k = 4 := by omega
  rcases this with rfl | rfl | rfl | rfl | rfl
  · exact ⟨h, rfl⟩
  · exact ⟨h, rfl⟩
  · exact ⟨h, rfl⟩
  · exact ⟨h, rfl⟩
  · exact ⟨Or.inl h, rfl⟩
theorem sd_pkn (h : okPk a s = true) (hn : okNum n 0 8 = false) (q : R (.d (.str "number")) m) : f_said05 [.d (.int 2), .d (.int 4), .d a, .d s, .d n] m R := Or.inr (Or.inr (Or.inr (Or.inr ⟨4, a, s, n, rfl, by decide, ⟨Or.inr ⟨h, hn⟩, rfl⟩, q⟩)))
end
section
variable {K : PySem.W.Frag} {r : List Val} {m : Mm} {Q : Val → Mm → Prop}
theorem ev_strs {s : Str} {n : Nat} (hn : n ≤ 1000) (q : Q (.d (.list (List.replicate n (.str s)))) m) : Ev K (tOp (rMul K) (tLst (tCons (tC (.str s)) tNil)) (tC (.int (n : Int)))) r m Q := by
  refine ev_lstMulD (eva_cons (ev_cS (eva_nil ⟨[.str s], rfl, by show 1 ≤ 100; decide, ev_cI ⟨n, rfl, hn, ?_⟩⟩)))
  rw [rep_flat]; exact q
end
theorem reps_shaped : ∀ n : _root_.Fin 17, ∀ i : _root_.Fin 6, SeqAt.shaped (.list (List.replicate n.val (.str (markS i.val)))) = true ∧ SeqAt.shaped (.list (List.replicate n.val (.str "told"))) = true := by decide +kernel
/-- != of what was answered so many times -/
theorem o2_neMap {K : PySem.W.Frag} {m : Mm} {Q : Val → Mm → Prop} {α : Type} {xs : List α} {d : PyData} {n : Nat} (hn : xs.length = n) (h : SeqAt.shaped (.list (List.replicate n d)) = true) (q : Q (.d (.bool false)) m) : Op2 K (rNeA K) (.d (.list (xs.map fun _ => d))) (.d (.list (List.replicate n d))) m Q := by
  have e : xs.map (fun _ => d) = List.replicate n d := by rw [List.map_const', hn]
  rw [e]
  exact o2_neSame h q
def f_shRight : FSp := fun args m R => ∃ (p : Addr) (ss : List Int), args = [.v (.ref p), .d (tupI ss)] ∧ m p = some .box ∧ Shares ss ∧ R (.d (.bool true)) m
def f_nbRight : FSp := fun args m R => ∃ p : Addr, args = [.v (.ref p)] ∧ m p = some .box ∧ R (.d (.bool true)) m
theorem o2_mulZn {K : PySem.W.Frag} {m : Mm} {Q : Val → Mm → Prop} {ds : List PyData} {n : Nat} (hne : ds ≠ []) (hn : n ≤ 1000) (hl : ds.length ≤ 1000) (q : Q (.d (.tuple (List.replicate n ds).flatten)) m) : Op2 K (rMulZ K) (.d (.tuple ds)) (.d (.int (n : Int))) m Q := by
  by_cases h0 : n = 0
  · subst h0
    intro H G v w S a b R k
    rw [int_of b]
    obtain ⟨p, xs, rfl, g2, g3⟩ := rp_tuple.mp a.rp
    refine Or.inl ⟨p, xs, rfl, rfl, fun e => hne ?_, S.sqT g2, fun l hl => ?_⟩
    · subst e
      exact List.length_eq_zero_iff.mp (by rw [← g3.length]; rfl)
    · have hg := S.free hl
      exact k _ _ (upd G l _) _ m q (S.fix hl) (Le.new hg) (.d (rp_tuple.mpr ⟨l, [], rfl, SqT.of upd_same, rpa_nil.mpr rfl⟩))
  · intro H G v w S a b R k
    exact Or.inr (o2_mulT hne (by omega) hn hl q H G v w S a b R k)
theorem rN_len {n : Nat} {ds : List PyData} (h : ds.length ≠ n) : rightN n (.tuple ds) = false := by
  show (decide (ds.length = n) && ds.all okN) = false
  rw [decide_eq_false h, Bool.false_and]
theorem rN_rep {n k : Nat} {x : PyData} (h : okN x = false) (hk : 1 ≤ k) : rightN n (.tuple (List.replicate k [x]).flatten) = false := by
  show (decide ((List.replicate k [x]).flatten.length = n) && (List.replicate k [x]).flatten.all okN) = false
  rw [rep_flat, List.all_replicate, if_neg (by omega), h, Bool.and_false]
theorem ones_need (n : Nat) : NeedV n (List.replicate n 1) := ⟨List.length_replicate, fun x hx => by rw [List.eq_of_mem_replicate hx]; decide⟩
theorem ones_shares {n : Nat} (h1 : 1 ≤ n) (h5 : n ≤ 5) : Shares (List.replicate n 1) := ⟨by rw [List.length_replicate]; omega, by rw [List.length_replicate]; exact h5, fun x hx => by rw [List.eq_of_mem_replicate hx]; decide⟩
theorem ones_tup (n : Nat) : PyData.tuple (List.replicate n [PyData.int 1]).flatten = tupI (List.replicate n 1) := by
  rw [rep_flat]
  unfold tupI
  rw [List.map_replicate]
theorem ones_kn (n : Nat) : PyData.tuple (List.replicate n [PyData.int 1]).flatten = .tuple ((kn (List.replicate n 1)).map PyData.int) := by
  rw [rep_flat]
  unfold kn
  rw [List.map_replicate, List.map_replicate]
  rfl
def grtL : List PyData := [.tuple [.int 3, .int 3, .int 3, .int 1], .tuple [.int 3, .int 3, .int 1, .int 1, .int 1], .tuple [.int 2, .int 2, .int 2, .int 2], .tuple [.int 1, .int 3, .int 3, .int 2], .tuple [.int 3, .int 3, .int 3, .int 3, .int 3], .tuple [.int 2, .int 2, .int 1, .int 1, .int 1]]
theorem need_of : ∀ v : List Nat, (decide (∀ x ∈ v, x ≤ 3)) = true → NeedV v.length v := fun v h => ⟨rfl, of_decide_eq_true h⟩
theorem grt_need {d : PyData} (h : d ∈ grtL) : ∃ v : List Nat, d = .tuple ((kn v).map PyData.int) ∧ 1 ≤ v.length ∧ v.length ≤ 5 ∧ NeedV v.length v ∧ 64 < stN v := by
  unfold grtL at h
  simp only [List.mem_cons, List.not_mem_nil, or_false] at h
  rcases h with rfl | rfl | rfl | rfl | rfl | rfl
  · exact ⟨[3, 3, 3, 1], rfl, by decide, by decide, need_of _ (by decide), by decide⟩
  · exact ⟨[3, 3, 1, 1, 1], rfl, by decide, by decide, need_of _ (by decide), by decide⟩
  · exact ⟨[2, 2, 2, 2], rfl, by decide, by decide, need_of _ (by decide), by decide⟩
  · exact ⟨[1, 3, 3, 2], rfl, by decide, by decide, need_of _ (by decide), by decide⟩
  · exact ⟨[3, 3, 3, 3, 3], rfl, by decide, by decide, need_of _ (by decide), by decide⟩
  · exact ⟨[2, 2, 1, 1, 1], rfl, by decide, by decide, need_of _ (by decide), by decide⟩
theorem bad_kinds {n : Nat} (h1 : 0 < n) {d : PyData} (h : d ∈ [PyData.none, .tuple [.int 1, .int 0], .tuple [.int 0, .int 0], .list [.int 0], .tuple [.int 0, .int (n : Int)], .tuple [.int (-1)], .int 0, .str "0", .tuple [.bool true], .tuple [.int 0, .none]]) : shortD d ∧ areKinds d (n : Int) = false := by
  simp only [List.mem_cons, List.not_mem_nil, or_false] at h
  rcases h with rfl | rfl | rfl | rfl | rfl | rfl | rfl | rfl | rfl | rfl
  · exact ⟨trivial, rfl⟩
  · exact ⟨by show 2 ≤ 90000; decide, by simp [areKinds, okK, rising, intOf]⟩
  · exact ⟨by show 2 ≤ 90000; decide, by simp [areKinds, okK, rising, intOf]⟩
  · exact ⟨trivial, rfl⟩
  · exact ⟨by show 2 ≤ 90000; decide, by simp [areKinds, okK, rising, intOf]⟩
  · exact ⟨by show 1 ≤ 90000; decide, by simp [areKinds, okK, rising, intOf]⟩
  · exact ⟨trivial, rfl⟩
  · exact ⟨trivial, rfl⟩
  · exact ⟨by show 1 ≤ 90000; decide, by simp [areKinds, okK, rising, intOf]⟩
  · exact ⟨by show 2 ≤ 90000; decide, by simp [areKinds, okK, rising, intOf]⟩
theorem odd_kinds {n : Nat} {d : PyData} (h : d ∈ [PyData.tuple [.list [.int 0]], .tuple [.int 0, .dict []], .tuple [.tuple [.int 0]]]) : shortD d ∧ areKinds d (n : Int) = false := by
  simp only [List.mem_cons, List.not_mem_nil, or_false] at h
  rcases h with rfl | rfl | rfl
  · exact ⟨by show 1 ≤ 90000; decide, by simp [areKinds, okK, rising, intOf]⟩
  · exact ⟨by show 2 ≤ 90000; decide, by simp [areKinds, okK, rising, intOf]⟩
  · exact ⟨by show 1 ≤ 90000; decide, by simp [areKinds, okK, rising, intOf]⟩
theorem bad_num {w : Int} (hw : 0 ≤ w) {d : PyData} (h : d ∈ [PyData.int 13, .int (-1), .bool true, .none, .str "1", .tuple [.int 1], .int ((10 : Int) ^ 29), .int (13 + w)]) : okNum d 0 12 = false := by
  simp only [List.mem_cons, List.not_mem_nil, or_false] at h
  rcases h with rfl | rfl | rfl | rfl | rfl | rfl | rfl | rfl
  · rfl
  · rfl
  · rfl
  · rfl
  · rfl
  · rfl
  · decide +kernel
  · exact okNum_off (by omega)
theorem bad_needs {n : Nat} (h1 : 0 < n) {d : PyData} (h : d ∈ [PyData.none, .tuple (List.replicate (n + 1) [PyData.int 1]).flatten, .list (List.replicate n [PyData.int 1]).flatten, .tuple (List.replicate n [PyData.int 4]).flatten, .tuple (List.replicate n [PyData.bool true]).flatten, .tuple (List.replicate n [PyData.int (-1)]).flatten, .tuple (List.replicate (n - 1) [PyData.int 1]).flatten, .str "1"]) : rightN n d = false := by
  simp only [List.mem_cons, List.not_mem_nil, or_false] at h
  rcases h with rfl | rfl | rfl | rfl | rfl | rfl | rfl | rfl
  · rfl
  · exact rN_len (by rw [rep_flat, List.length_replicate]; omega)
  · rfl
  · exact rN_rep rfl h1
  · exact rN_rep rfl h1
  · exact rN_rep rfl h1
  · exact rN_len (by rw [rep_flat, List.length_replicate]; omega)
  · rfl
/-- a def named otherwise that is never called -/
theorem cl_zeroN {P : Program} {w : World} {K : PySem.W.Frag} {mg : Str → Option Value} {base : Heap} {k : Nat} {x y qual : Str} {st : Stmt} {f : Addr} {fd : FuncData} {ps : List Str} {sp : FSp} (F : Fun K y qual st f fd) (h : ∀ args m R, ¬ sp args m R) (hm : mg x = some (.ref f)) (hb : Binds K fd ps []) : Cl P w K mg base k x sp :=
  ⟨f, fd, ps, ⟨fun vs H Q E ⟨m, G, args, R, _, _, hf, _⟩ => (h _ _ _ hf).elim, fun A outer s H args us vs Q E _ _ _ _ ⟨m, G, as, R, _, _, hf, _⟩ => (h _ _ _ hf).elim⟩, hm, F.kp, hb⟩
end DL
namespace Law
open PySem L2 DL
def topS (i : Nat) : Stmt := PySem.Challenge.pw_kindsgathered_k05_what_is_refused_first.main.body.getD i (.Pass ⟨0, 0, 0, 0⟩)
local macro_rules | `(tactic| walk_at "dl1") => `(tactic| first
  | with_reducible refine w_seq ?_
  | with_reducible refine w_asg ?_
  | with_reducible refine w_ret ?_
  | with_reducible refine w_drop ?_
  | with_reducible refine w_if ?_
  | with_reducible refine w_par ?_
  | with_reducible refine evt_B ?_
  | with_reducible refine evt_test ?_
  | with_reducible refine evt_and ?_
  | with_reducible refine evt_or ?_
  | with_reducible refine evt_not ?_
  | with_reducible refine evt_yes ?_
  | with_reducible refine ev_lstMul ?_
  | with_reducible refine ev_op ?_
  | with_reducible refine ev_un ?_
  | with_reducible refine ev_callB ?_
  | with_reducible refine ev_call ?_
  | with_reducible refine eva_cons ?_
  | with_reducible refine eva_nil ?_
  | with_reducible refine evo_none ?_
  | with_reducible refine evo_some ?_
  | with_reducible refine ev_slL ?_
  | with_reducible refine ev_slT ?_
  | with_reducible refine ev_and ?_
  | with_reducible refine ev_or ?_
  | with_reducible refine ev_not ?_
  | with_reducible refine ev_chain ?_
  | with_reducible refine ev_tup ?_
  | with_reducible refine ev_if ?_
  | (refine ev_varTN rfl ?_)
  | (refine ev_varT rfl ?_)
  | (refine ev_var rfl (fun h => nomatch h) ?_)
  | with_reducible refine ev_cI ?_
  | with_reducible refine ev_cB ?_
  | with_reducible refine ev_cS ?_
  | with_reducible refine ev_cN ?_
  | with_reducible refine ev_cTy ?_)
local macro_rules | `(tactic| walk_at "dl2") => `(tactic| first
  | with_reducible refine o2_addI ?_
  | with_reducible refine o2_sub ?_
  | with_reducible refine o2_lt ?_
  | with_reducible refine o2_le ?_
  | with_reducible refine o2_gt ?_
  | with_reducible refine o2_ge ?_
  | with_reducible refine o2_eqI ?_
  | with_reducible refine o2_neI ?_
  | with_reducible refine o2_neS ?_
  | with_reducible refine o2_eqS ?_
  | with_reducible refine o1_neg ?_
  | with_reducible refine o2_isB ?_
  | with_reducible refine o2_isNotB ?_
  | with_reducible refine o2_inN ?_
  | with_reducible refine o2_notInN ?_
  | with_reducible refine on_abs ?_
  | with_reducible refine on_max ?_
  | with_reducible refine on_min ?_
  | with_reducible refine o2_ixF0 ?_
  | with_reducible refine o2_ixF1 ?_
  | with_reducible refine on_lenI ?_
  | with_reducible refine on_lenN ?_
  | with_reducible refine on_sumI ?_
  | with_reducible refine on_lenT ?_
  | with_reducible refine on_lenL ?_
  | with_reducible refine on_lenS ?_
  | with_reducible refine on_tupL ?_
  | with_reducible refine on_tupT ?_
  | with_reducible refine on_lstT ?_
  | with_reducible refine on_isiTup ?_
  | with_reducible refine on_isiInt ?_
  | with_reducible refine on_isiBool ?_
  | with_reducible refine on_isiStr ?_
  | with_reducible refine on_isiList ?_
  | with_reducible refine on_isiDict ?_
  | with_reducible refine on_sumL ?_
  | with_reducible refine on_sumT ?_
  | with_reducible refine on_all ?_
  | with_reducible refine on_any ?_
  | refine ⟨_, rfl, ?_⟩
  | refine ⟨_, _, rfl, ?_⟩
  | refine ⟨[], rfl, Nat.le_of_ble_eq_true rfl, ?_⟩
  | refine ⟨[_], rfl, Nat.le_of_ble_eq_true rfl, ?_⟩
  | refine ⟨[_, _], rfl, Nat.le_of_ble_eq_true rfl, ?_⟩
  | refine ⟨[_, _, _], rfl, Nat.le_of_ble_eq_true rfl, ?_⟩)
local macro_rules | `(tactic| walk_at "dl") => `(tactic| first | walk_at "dl1" | walk_at "dl2")
local macro_rules | `(tactic| walk_at "go") => `(tactic| repeat walk_at "dl")
section
variable {P : Program} {w : World} {K : PySem.W.Frag} {mg : Str → Option Value} {base : Heap}
variable {c_NoShares c_NoKind c_NoNumber c_NoNeeds c_TooMany c_NoText c_GatherError : Addr}
abbrev s_is_whole : Stmt := topS 10
theorem sc_is_whole : FnScope ["thing"] ["thing"] (defScope s_is_whole) := ⟨rfl, rfl, rfl, by decide +kernel, rfl, by decide +kernel, by decide +kernel⟩
theorem ok_is_whole {a : Addr} {fd : FuncData} (F : Fun K "is_whole" "is_whole" s_is_whole a fd) (hm : mg "is_whole" = some (.ref a)) (z_isinstance : mg "isinstance" = none) (z_bool : mg "bool" = none) (z_int : mg "int" = none) :
    Cl P w K mg base 1 "is_whole" f_isWhole := by
  refine ⟨a, fd, ["thing"], fn_ok F sc_is_whole (fun args m R h => ?_) (fun cdv A outer s H E hr => ⟨_, (pss_one (ps_ret (pe_and (pe_callB (kIsi K) (by rfl) z_isinstance (by decide +kernel) (pa_cons (pv 0) (pa_cons (pe_bltn (v := .ty "int") (by rfl) z_int (by decide +kernel) rfl) pa_nil))) (pe_one (pe_not (pe_callB (kIsi K) (by rfl) z_isinstance (by decide +kernel) (pa_cons (pv 0) (pa_cons (pe_bltn (v := .ty "bool") (by rfl) z_bool (by decide +kernel) rfl) pa_nil)))))))), fun args m R h => ?_⟩), hm, F.kp, F.binds (ps := ["thing"]) fun _ _ _ _ _ _ us hl => match us, hl with | [_], _ => rfl⟩
  ·
    obtain ⟨_, rfl, _⟩ := h; rfl
  ·
    obtain ⟨x, rfl, q⟩ := h
    repeat walk_at "dl"
    refine ⟨fun hc => ?_, fun hc => ?_⟩
    · repeat walk_at "dl"
      have e : (!isBoo x) = isInt x := by cases x <;> simp_all [isBoo, isInt, isIntB]
      rw [e]
      exact q
    · have e : isInt x = false := by cases x <;> simp_all [isInt, isIntB]
      rw [e] at q
      exact q
abbrev s_greatest_common : Stmt := topS 11
theorem sc_greatest_common : FnScope ["one", "other"] ["one", "other"] (defScope s_greatest_common) := ⟨rfl, rfl, rfl, by decide +kernel, rfl, by decide +kernel, by decide +kernel⟩
theorem ok_greatest_common {a : Addr} {fd : FuncData} (F : Fun K "greatest_common" "greatest_common" s_greatest_common a fd) (hm : mg "greatest_common" = some (.ref a)) :
    Cl P w K mg base 1 "greatest_common" f_gcd := by
  refine ⟨a, fd, ["one", "other"], fn_ok F sc_greatest_common (fun args m R h => ?_) (fun cdv A outer s H E hr => ⟨_, (pss_cons (ps_while PassesOwn.never (pt_cmpR (kNe K hr) (pv 1) pe_int (nomark _)) (pss_one (ps_par (i := 0) (j := 1) rfl sc_greatest_common.nd rfl rfl (by decide) rfl rfl (pa_cons (pv 1) (pa_cons (pe_op oMod (pv 0) (pv 1)) pa_nil)) rfl)))
      (pss_one (ps_ret (pv 0)))), fun args m R h => ?_⟩), hm, F.kp, F.binds (ps := ["one", "other"]) fun _ _ _ _ _ _ us hl => match us, hl with | [_, _], _ => rfl⟩
  ·
    obtain ⟨_, _, rfl, _⟩ := h; rfl
  ·
    obtain ⟨a0, b0, rfl, q⟩ := h
    refine w_seq (w_while (fun n r m' => m' = m ∧ ∃ x y : Nat, n = y ∧ r = [.d (.int (x : Int)), .d (.int (y : Int))] ∧ Nat.gcd x y = Nat.gcd a0 b0) b0 ⟨rfl, a0, b0, rfl, rfl, rfl⟩ ?_)
    rintro n r m' ⟨rfl, x, y, rfl, rfl, hg⟩
    repeat walk_at "dl"
    refine ⟨fun hc => ?_, fun hc => ?_⟩
    · have hy : n ≠ 0 := by
        intro e
        rw [e] at hc
        simp at hc
      repeat walk_at "dl"
      refine o2_mod (by omega) ?_
      repeat walk_at "dl"
      refine ⟨x % n, Nat.mod_lt x (by omega), rfl, n, x % n, rfl, rfl, ?_⟩
      rw [← hg, Nat.gcd_comm n (x % n), ← Nat.gcd_rec, Nat.gcd_comm]
    · have hy : n = 0 := by
        have : ((n : Nat) : Int) = 0 := by simpa using hc
        omega
      subst hy
      repeat walk_at "dl"
      rw [Nat.gcd_zero_right] at hg
      rw [hg]
      exact q
abbrev s_raised : Stmt := topS 16
theorem sc_raised : FnScope ["number", "often", "found", "turn"] ["number", "often"] (defScope s_raised) := ⟨rfl, rfl, rfl, by decide +kernel, rfl, by decide +kernel, by decide +kernel⟩
theorem ok_raised {a : Addr} {fd : FuncData} (F : Fun K "raised" "raised" s_raised a fd) (hm : mg "raised" = some (.ref a)) (z_range : mg "range" = none) :
    Cl P w K mg base 1 "raised" f_raised := by
  refine ⟨a, fd, ["number", "often"], fn_ok F sc_raised (fun args m R h => ?_) (fun cdv A outer s H E hr => ⟨_, (pss_cons (ps_set (i := 2) sc_raised.nd rfl (by first | exact Or.inl rfl | exact Or.inr rfl) pe_int)
      (pss_cons (ps_for PassesOwn.never rfl (pi_range1 (by rfl) z_range (pa_cons (pv 1) pa_nil)) (pg_name (i := 3) sc_raised.nd rfl (by first | exact Or.inl rfl | exact Or.inr rfl)) (pss_one (ps_set (i := 2) sc_raised.nd rfl (by first | exact Or.inl rfl | exact Or.inr rfl) (pe_op (kMul K) (pv 2) (pv 0)))))
      (pss_one (ps_ret (pv 2))))), fun args m R h => ?_⟩), hm, F.kp, F.binds (ps := ["number", "often"]) fun _ _ _ _ _ _ us hl => match us, hl with | [_, _], _ => rfl⟩
  ·
    obtain ⟨_, _, rfl, _⟩ := h; rfl
  ·
    obtain ⟨b, n, rfl, hn, hb, q⟩ := h
    walk_at "go"
    refine w_forR1 (n := n) ?_ (by omega) (fun i r' m' => m' = m ∧ ∃ y, r' = [.d (.int b), .d (.int (n : Int)), .d (.int (b ^ i)), y]) ⟨rfl, .any, by rw [Int.pow_zero]; rfl⟩ ?_ ?_
    · walk_at "go"
      exact ⟨rfl, rfl⟩
    · rintro i r' m' hi ⟨rfl, y, rfl⟩
      walk_at "go"
      refine o2_mulI ((hb.pow i).cmul hb (by omega)) ?_
      refine ⟨rfl, .d (.int (i : Int)), ?_⟩
      rw [Int.pow_succ]
      rfl
    · rintro r' m' ⟨rfl, y, rfl⟩
      walk_at "go"
      exact q
abbrev s_below : Stmt := topS 20
theorem ok_below {a : Addr} {fd : FuncData} (F : Fun K "below" "below" s_below a fd) (hm : mg "below" = some (.ref a)) : Cl P w K mg base 1 "below" f_never := cl_zero F (fun _ _ _ h => h) hm (F.binds (ps := ["one", "other"]) fun _ _ _ _ _ _ us hl => match us, hl with | [_, _], _ => rfl)
abbrev s_sum_part : Stmt := topS 32
theorem ok_sum_part {a : Addr} {fd : FuncData} (F : Fun K "sum_part" "sum_part" s_sum_part a fd) (hm : mg "sum_part" = some (.ref a)) : Cl P w K mg base 1 "sum_part" f_never := cl_zero F (fun _ _ _ h => h) hm (F.binds (ps := ["shares", "some"]) fun _ _ _ _ _ _ us hl => match us, hl with | [_, _], _ => rfl)
abbrev s_all_some : Stmt := topS 35
theorem ok_all_some {a : Addr} {fd : FuncData} (F : Fun K "all_some" "all_some" s_all_some a fd) (hm : mg "all_some" = some (.ref a)) : Cl P w K mg base 1 "all_some" f_never := cl_zero F (fun _ _ _ h => h) hm (F.binds (ps := ["kinds"]) fun _ _ _ _ _ _ us hl => match us, hl with | [_], _ => rfl)
abbrev s_need_few : Stmt := topS 43
theorem sc_need_few : FnScope ["needs", "states", "one"] ["needs"] (defScope s_need_few) := ⟨rfl, rfl, rfl, by decide +kernel, rfl, by decide +kernel, by decide +kernel⟩
theorem ok_need_few {a : Addr} {fd : FuncData} (F : Fun K "need_few" "need_few" s_need_few a fd) (hm : mg "need_few" = some (.ref a)) (c_MOST_STATES : ∃ t, mg "MOST_STATES" = some (.int 64 t)) (t_TooMany : RfT K mg "TooMany" c_TooMany) :
    ClX P w K mg base 1 "need_few" (fnC [c_NoShares, c_NoKind, c_NoNumber, c_NoNeeds, c_TooMany, (0 : Addr), (0 : Addr), c_NoText] 1 4 bFew preFew) := by
  refine ⟨a, fd, ["needs"], fnX_ok F sc_need_few (fun args m R X h => ?_) (fun cdv A outer s H E hr => ⟨_, (pss_cons (ps_set (i := 1) sc_need_few.nd rfl (by first | exact Or.inl rfl | exact Or.inr rfl) pe_int)
      (pss_cons (ps_for (L2.passes_of rfl) rfl (kiT K (pv 0)) (pg_name (i := 2) sc_need_few.nd rfl (by first | exact Or.inl rfl | exact Or.inr rfl)) (PSs.nox (pss_one (ps_set (i := 1) sc_need_few.nd rfl (by first | exact Or.inl rfl | exact Or.inr rfl) (pe_op (kMul K) (pv 1) (pe_op (kAdd K) (pv 2) pe_int))))))
      (pss_one (ps_if (pt_cmpR oGt (pv 1) (pe_gi c_MOST_STATES (by rfl)) (nomark _)) (pss_one (ps_rf t_TooMany (L2N.takes_of rfl rfl rfl rfl) (by rfl))) pss_nil)))), fun args m R X h G0 hT => ?_⟩), hm, F.kp, F.binds (ps := ["needs"]) fun _ _ _ _ _ _ us hl => match us, hl with | [_], _ => rfl⟩
  ·
    exact fnC_len h
  ·
    obtain ⟨ds, rfl, hl, hp, h1, h2⟩ := h
    match ds, hp with
    | [.tuple es], hp =>
      obtain ⟨v, rfl, h5, h3⟩ := hp
      refine wx_seq (wx_asg (.of (ev_cI ?_)))
      refine wx_seq (.of (w_forTf (xs := v) (f := intN) ?_ (fun i r' m' => m' = m ∧ ∃ y2, r' = [.d (.tuple ((kn v).map PyData.int)), .d (.int ((stN (v.take i) : Nat) : Int)), y2]) ⟨rfl, _, rfl⟩ ?_ ?_))
      · walk_at "go"
        exact ⟨by unfold kn; rw [List.map_map]; rfl, rfl⟩
      · rintro i x r' m' hi ⟨rfl, y2, rfl⟩
        have hx := h3 x (List.mem_of_getElem? hi)
        have hb := stN_le (n := 5) (v := v.take i) (fun y hy => h3 y (List.mem_of_mem_take hy)) (by rw [List.length_take]; omega)
        walk_at "go"
        refine o2_mulI (Bt.cmul (a := 11) (b := 3) (bt_lit (n := 11) (by show _ < 2048; omega) (by decide)) (bt_lit (n := 3) (by show _ < 8; omega) (by decide)) (by decide)) ?_
        refine ⟨rfl, .d (.int (x : Int)), ?_⟩
        have e : ((stN (v.take i) : Nat) : Int) * ((x : Int) + 1) = ((stN (v.take (i + 1)) : Nat) : Int) := by
          rw [take_one hi, stN_app, Int.natCast_mul]
          simp [stN]
        show _ = _
        rw [← e]
        rfl
      · rintro r' m' ⟨rfl, y2, rfl⟩
        rw [List.take_length]
        refine wx_if ?_
        walk_at "go"
        by_cases h64 : stN v ≤ 64
        · exact br_f (decide_eq_false (by omega)) (wx_next (h1 (bFew_yes h64)))
        · exact br_t (decide_eq_true (by omega)) (wx_raise (hT _) (h2 (bFew_few h64)))
abbrev s_one_less : Stmt := topS 44
theorem sc_one_less : FnScope ["needs", "kind"] ["needs", "kind"] (defScope s_one_less) := ⟨rfl, rfl, rfl, by decide +kernel, rfl, by decide +kernel, by decide +kernel⟩
theorem ok_one_less {a : Addr} {fd : FuncData} (F : Fun K "one_less" "one_less" s_one_less a fd) (hm : mg "one_less" = some (.ref a)) (z_max : mg "max" = none) :
    Cl P w K mg base 1 "one_less" f_oneLess := by
  refine ⟨a, fd, ["needs", "kind"], fn_ok F sc_one_less (fun args m R h => ?_) (fun cdv A outer s H E hr => ⟨_, (pss_one (ps_ret (pe_op (kAdd K) (pe_op (kAdd K) (pe_slice (kSlT K) (pv 0) po_none (po_some (pv 1))) (pe_tup (pa_cons (pe_callB (cMax rfl) (by rfl) z_max (by decide +kernel) (pa_cons pe_int (pa_cons (pe_op oSub (pe_ix (kIx K) (pv 0) (pv 1) (fun _ _ => rfl)) pe_int) pa_nil))) pa_nil))) (pe_slice (kSlT K) (pv 0) (po_some (pe_op (kAdd K) (pv 1) pe_int)) po_none)))), fun args m R h => ?_⟩), hm, F.kp, F.binds (ps := ["needs", "kind"]) fun _ _ _ _ _ _ us hl => match us, hl with | [_, _], _ => rfl⟩
  ·
    obtain ⟨_, _, rfl, _⟩ := h; rfl
  ·
    obtain ⟨v, k, rfl, hk, hl, q⟩ := h
    refine w_ret (ev_op (ev_op (ev_slTt ?_)))
    refine ev_var rfl (fun h => nomatch h) ⟨_, rfl, evo_none (evo_some ?_)⟩
    refine ev_var rfl (fun h => nomatch h) ⟨_, rfl, ?_⟩
    rw [cutI_take, kn_take]
    refine ev_tupT (eva_cons ?_)
    walk_at "go"
    refine o2_ixT (kn_at hk) ?_
    walk_at "go"
    rw [show max (0 : Int) (((v.getD k 0 : Nat) : Int) - 1) = ((v.getD k 0 - 1 : Nat) : Int) by omega]
    refine o2_addTt (by unfold kn; rw [List.length_map, List.length_take]; show _ + 1 ≤ 100000; omega) ?_
    refine ev_slTt ?_
    refine ev_var rfl (fun h => nomatch h) ⟨_, rfl, evo_some ?_⟩
    walk_at "go"
    rw [show (k : Int) + 1 = ((k + 1 : Nat) : Int) by omega, cutI_drop, kn_drop]
    refine o2_addTt (by unfold kn; rw [List.length_append, List.length_map, List.length_map, List.length_take, List.length_drop]; show _ + 1 + _ ≤ 100000; omega) ?_
    rw [show [((v.getD k 0 - 1 : Nat) : Int)] = kn [v.getD k 0 - 1] from rfl, kn_app, kn_app]
    exact q
abbrev s_every : Stmt := topS 64
theorem ok_every {a : Addr} {fd : FuncData} (F : Fun K "every" "every" s_every a fd) (hm : mg "every" = some (.ref a)) : Cl P w K mg base 1 "every" f_never := cl_zero F (fun _ _ _ h => h) hm (F.binds (ps := ["shares"]) fun _ _ _ _ _ _ us hl => match us, hl with | [_], _ => rfl)
abbrev s_choices : Stmt := topS 73
theorem ok_choices {a : Addr} {fd : FuncData} (F : Fun K "choices" "choices" s_choices a fd) (hm : mg "choices" = some (.ref a)) : Cl P w K mg base 1 "choices" f_never := cl_zero F (fun _ _ _ h => h) hm (F.binds (ps := ["many", "few"]) fun _ _ _ _ _ _ us hl => match us, hl with | [_, _], _ => rfl)
abbrev s__law_cell : Stmt := topS 85
theorem sc__law_cell : FnScope ["_law_script", "_law_k"] ["_law_script", "_law_k"] (defScope s__law_cell) := ⟨rfl, rfl, rfl, by decide +kernel, rfl, by decide +kernel, by decide +kernel⟩
theorem ok__law_cell {a : Addr} {fd : FuncData} (F : Fun K "_law_cell" "_law_cell" s__law_cell a fd) (hm : mg "_law_cell" = some (.ref a)) (z_len : mg "len" = none) :
    Cl P w K mg base 1 "_law_cell" f_cell := by
  refine ⟨a, fd, ["_law_script", "_law_k"], fn_ok F sc__law_cell (fun args m R h => ?_) (fun cdv A outer s H E hr => ⟨_, (pss_cons (ps_if (pt_cmpR oLt (pv 1) (pe_callB (kLen K) (by rfl) z_len (by decide +kernel) (pa_cons (pv 0) pa_nil)) (nomark _)) (pss_one (ps_ret (pe_ix (kIx K) (pv 0) (pv 1) (fun _ _ => rfl)))) pss_nil)
      (pss_one (ps_ret pe_int))), fun args m R h => ?_⟩), hm, F.kp, F.binds (ps := ["_law_script", "_law_k"]) fun _ _ _ _ _ _ us hl => match us, hl with | [_, _], _ => rfl⟩
  ·
    obtain ⟨_, _, rfl, _⟩ := h; rfl
  ·
    obtain ⟨ns, k, rfl, q⟩ := h
    repeat walk_at "dl"
    by_cases hk : (k : Int) < (ns.length : Int)
    · refine br_t (decide_eq_true hk) ?_
      repeat walk_at "dl"
      refine o2_ixS (List.getElem?_eq_getElem (by omega)) ?_
      exact q _
    · refine br_f (decide_eq_false hk) (w_next ?_)
      repeat walk_at "dl"
      exact q _
abbrev s__law_mix : Stmt := topS 86
theorem sc__law_mix : FnScope ["_law_cell_here", "_law_k", "_law_some", "_law_stir"] ["_law_cell_here", "_law_k"] (defScope s__law_mix) := ⟨rfl, rfl, rfl, by decide +kernel, rfl, by decide +kernel, by decide +kernel⟩
theorem ok__law_mix {a : Addr} {fd : FuncData} (F : Fun K "_law_mix" "_law_mix" s__law_mix a fd) (hm : mg "_law_mix" = some (.ref a)) :
    Cl P w K mg base 1 "_law_mix" f_mix := by
  refine ⟨a, fd, ["_law_cell_here", "_law_k"], fn_ok F sc__law_mix (fun args m R h => ?_) (fun cdv A outer s H E hr => ⟨_, (pss_cons (ps_set (i := 2) sc__law_mix.nd rfl (by first | exact Or.inl rfl | exact Or.inr rfl) (pe_lst (pa_cons pe_int (pa_cons pe_int (pa_cons pe_int (pa_cons pe_int (pa_cons pe_int (pa_cons pe_int (pa_cons pe_int (pa_cons pe_int (pa_cons pe_int (pa_cons pe_int (pa_cons pe_int (pa_cons pe_int (pa_cons pe_int pa_nil)))))))))))))))
      (pss_cons (ps_set (i := 3) sc__law_mix.nd rfl (by first | exact Or.inl rfl | exact Or.inr rfl) (pe_op (kMul K) (pe_op (kAdd K) (pe_op oMod (pv 0) pe_int) pe_int) (pe_ix (kIx K) (pv 2) (pe_op oMod (pv 1) pe_int) (fun _ _ => rfl))))
      (pss_cons (ps_set (i := 3) sc__law_mix.nd rfl (by first | exact Or.inl rfl | exact Or.inr rfl) (pe_op (kAdd K) (pe_op (kAdd K) (pv 3) (pe_op (kMul K) pe_int (pv 1))) (pe_op (kMul K) pe_int (pe_op oFdv (pv 1) pe_int))))
      (pss_cons (ps_set (i := 3) sc__law_mix.nd rfl (by first | exact Or.inl rfl | exact Or.inr rfl) (pe_op oMod (pv 3) pe_int))
      (pss_one (ps_ret (pe_op oFdv (pe_op oMod (pe_op (kAdd K) (pe_op (kMul K) (pv 3) (pv 3)) (pe_op (kMul K) pe_int (pv 1))) pe_int) pe_int))))))), fun args m R h => ?_⟩), hm, F.kp, F.binds (ps := ["_law_cell_here", "_law_k"]) fun _ _ _ _ _ _ us hl => match us, hl with | [_, _], _ => rfl⟩
  ·
    obtain ⟨_, _, rfl, _⟩ := h; rfl
  ·
    obtain ⟨c, k, rfl, hk, q⟩ := h
    refine w_seq (w_asg (ev_lstD ?_))
    iterate 27 walk_at "dl1"
    refine ⟨([48271, 69621, 16807, 39373, 30269, 40014, 40692, 50021, 61687, 71993, 83869, 95561, 30307] : List Int).map PyData.int, rfl, Nat.le_of_ble_eq_true rfl, ?_⟩
    obtain ⟨v, hv, hv0, hv1⟩ : ∃ v : Int, atI (([48271, 69621, 16807, 39373, 30269, 40014, 40692, 50021, 61687, 71993, 83869, 95561, 30307] : List Int).map PyData.int) ((k : Int) % 13) = some (.int v) ∧ 0 ≤ v ∧ v < 131072 := by
      have h13 : k % 13 < 13 := Nat.mod_lt k (by decide)
      have e : (k : Int) % 13 = ((k % 13 : Nat) : Int) := by omega
      rw [e, atI_nth, List.getElem?_map, List.getElem?_eq_getElem (by simpa using h13)]
      refine ⟨_, rfl, ?_⟩
      have hm := List.getElem_mem (l := ([48271, 69621, 16807, 39373, 30269, 40014, 40692, 50021, 61687, 71993, 83869, 95561, 30307] : List Int)) (n := k % 13) (by simpa using h13)
      revert hm
      generalize ([48271, 69621, 16807, 39373, 30269, 40014, 40692, 50021, 61687, 71993, 83869, 95561, 30307] : List Int)[k % 13] = w
      intro hm
      simp only [List.mem_cons, List.mem_nil_iff, or_false] at hm
      omega
    have hc := Int.emod_nonneg c (show (2147483647 : Int) ≠ 0 by decide)
    have hc2 := Int.emod_lt_of_pos c (show (0 : Int) < 2147483647 by decide)
    repeat walk_at "dl"
    refine o2_mod (by decide) ?_
    repeat walk_at "dl"
    refine o2_mod (by decide) ?_
    refine o2_ixL hv ?_
    refine o2_mulI (cmul_small (by omega) (by omega)) ?_
    repeat walk_at "dl"
    refine o2_mulI (cmul_small (by decide) (by omega)) ?_
    repeat walk_at "dl"
    refine o2_fdv (cdiv_small (by decide) (by decide)) ?_
    refine o2_mulI (cmul_small (by decide) (by omega)) ?_
    repeat walk_at "dl"
    refine o2_mod (by decide) ?_
    generalize hs : ((c % 2147483647 + 12345) * v + 977 * (k : Int) + 7919 * ((k : Int) / 13)) = S
    have h1 := Int.emod_nonneg S (show (1000000007 : Int) ≠ 0 by decide)
    have h2 := Int.emod_lt_of_pos S (show (0 : Int) < 1000000007 by decide)
    generalize ht : S % 1000000007 = T at *
    repeat walk_at "dl"
    refine o2_mulI (cmul_small (by omega) (by omega)) ?_
    repeat walk_at "dl"
    refine o2_mulI (cmul_small (by decide) (by omega)) ?_
    repeat walk_at "dl"
    refine o2_mod (by decide) ?_
    repeat walk_at "dl"
    refine o2_fdv (cdiv_small (by decide) (by decide)) ?_
    have h3 := Int.emod_nonneg (T * T + 48271 * (k : Int)) (show (1000000007 : Int) ≠ 0 by decide)
    have h4 := Int.emod_lt_of_pos (T * T + 48271 * (k : Int)) (show (0 : Int) < 1000000007 by decide)
    exact q _ (by omega) (by omega)
abbrev s__law_take : Stmt := topS 88
theorem sc__law_take : FnScope ["_law_box_here", "_law_many", "_law_left", "_law_digit"] ["_law_box_here", "_law_many"] (defScope s__law_take) := ⟨rfl, rfl, rfl, by decide +kernel, rfl, by decide +kernel, by decide +kernel⟩
theorem ok__law_take {a : Addr} {fd : FuncData} (F : Fun K "_law_take" "_law_take" s__law_take a fd) (hm : mg "_law_take" = some (.ref a)) (z_divmod : mg "divmod" = none) :
    Cl P w K mg base 1 "_law_take" f_take := by
  refine ⟨a, fd, ["_law_box_here", "_law_many"], fn_ok F sc__law_take (fun args m R h => ?_) (fun cdv A outer s H E hr => ⟨_, (pss_cons (ps_asg (pe_callB cDivmod (by rfl) z_divmod (by decide +kernel) (pa_cons (pe_ix (kIx K) (pv 0) pe_int (fun _ _ => rfl)) (pa_cons (pv 1) pa_nil))) (kgT K (pg_tup (n := 2) rfl (pgs_cons (pg_name (i := 2) sc__law_take.nd rfl (by first | exact Or.inl rfl | exact Or.inr rfl)) (pgs_cons (pg_name (i := 3) sc__law_take.nd rfl (by first | exact Or.inl rfl | exact Or.inr rfl)) pgs_nil)))))
      (pss_cons (ps_asg (pv 2) (pg_sub (pv 0) pe_int set_list))
      (pss_one (ps_ret (pv 3))))), fun args m R h => ?_⟩), hm, F.kp, F.binds (ps := ["_law_box_here", "_law_many"]) fun _ _ _ _ _ _ us hl => match us, hl with | [_, _], _ => rfl⟩
  ·
    obtain ⟨_, _, rfl, _⟩ := h; rfl
  ·
    obtain ⟨p, k, rfl, hp, hk, hb, q⟩ := h
    refine w_seq (w_asg2 ?_)
    repeat walk_at "dl"
    refine o2_ixB hp fun n => ?_
    repeat walk_at "dl"
    refine on_divmod (hb.cdiv hk (by decide)) ?_
    repeat walk_at "dl"
    refine w_setB (p := p) ?_
    repeat walk_at "dl"
    refine ⟨rfl, ?_⟩
    repeat walk_at "dl"
    refine ⟨rfl, hp, ?_⟩
    repeat walk_at "dl"
    exact q _ (Int.emod_nonneg n (by omega)) (Int.emod_lt_of_pos n hk)
abbrev s__law_marks : Stmt := topS 91
theorem sc__law_marks : FnScope ["_law_e", "_law_found"] ["_law_e"] (defScope s__law_marks) := ⟨rfl, rfl, rfl, by decide +kernel, rfl, by decide +kernel, by decide +kernel⟩
theorem ok__law_marks {a : Addr} {fd : FuncData} (F : Fun K "_law_marks" "_law_marks" s__law_marks a fd) (hm : mg "_law_marks" = some (.ref a)) (z_isinstance : mg "isinstance" = none) (z_ValueError : mg "ValueError" = none) (g_GatherError : mg "GatherError" = some (.ref c_GatherError)) (g_NoNeeds : mg "NoNeeds" = some (.ref c_NoNeeds)) (g_NoNumber : mg "NoNumber" = some (.ref c_NoNumber)) (g_NoKind : mg "NoKind" = some (.ref c_NoKind)) (g_NoShares : mg "NoShares" = some (.ref c_NoShares)) (g_NoText : mg "NoText" = some (.ref c_NoText)) (g_TooMany : mg "TooMany" = some (.ref c_TooMany)) :
    ClP P w K mg base 1 "_law_marks" (okL K [c_NoShares, c_NoKind, c_NoNumber, c_NoNeeds, c_TooMany, c_NoText] c_GatherError) (f_marksN K [c_NoShares, c_NoKind, c_NoNumber, c_NoNeeds, c_TooMany, c_NoText] c_GatherError) := by
  refine ⟨a, fd, ["_law_e"], fnP_ok F sc__law_marks (fun a D args m R h => ?_) (fun cdv A outer s H E p D hD hsee hr => ?_), hm, F.kp, F.binds (ps := ["_law_e"]) fun _ _ _ _ _ _ us hl => match us, hl with | [_], _ => rfl⟩
  ·
    obtain ⟨_, _, _, _, rfl, _⟩ := h; rfl
  · obtain ⟨i0, hX⟩ := hD
    refine ⟨_, (pss_cons (ps_if (PW.pt (pw_or (pt_not (pt_val (pe_callB (kIsP K hsee hX.exc) (by rfl) z_isinstance (by decide +kernel) (pa_cons (pv 0) (pa_cons (pe_glob (v := V.ref c_GatherError) (by rfl) g_GatherError rfl) pa_nil))))) (pw_or1 (pt_not (pt_val (pe_callB (kIsP K hsee hX.exc) (by rfl) z_isinstance (by decide +kernel) (pa_cons (pv 0) (pa_cons (pe_bltn (v := .ty "ValueError") (by rfl) z_ValueError (by decide +kernel) rfl) pa_nil)))))))) (pss_one (ps_ret pe_str)) pss_nil)
      (pss_cons (ps_set (i := 1) sc__law_marks.nd rfl (by first | exact Or.inl rfl | exact Or.inr rfl) (pe_lst (pa_cons (pe_callB (kIsP K hsee hX.exc) (by rfl) z_isinstance (by decide +kernel) (pa_cons (pv 0) (pa_cons (pe_glob (v := V.ref c_NoShares) (by rfl) g_NoShares rfl) pa_nil))) (pa_cons (pe_callB (kIsP K hsee hX.exc) (by rfl) z_isinstance (by decide +kernel) (pa_cons (pv 0) (pa_cons (pe_glob (v := V.ref c_NoKind) (by rfl) g_NoKind rfl) pa_nil))) (pa_cons (pe_callB (kIsP K hsee hX.exc) (by rfl) z_isinstance (by decide +kernel) (pa_cons (pv 0) (pa_cons (pe_glob (v := V.ref c_NoNumber) (by rfl) g_NoNumber rfl) pa_nil))) (pa_cons (pe_callB (kIsP K hsee hX.exc) (by rfl) z_isinstance (by decide +kernel) (pa_cons (pv 0) (pa_cons (pe_glob (v := V.ref c_NoNeeds) (by rfl) g_NoNeeds rfl) pa_nil))) pa_nil))))))
      (pss_cons (ps_set (i := 1) sc__law_marks.nd rfl (by first | exact Or.inl rfl | exact Or.inr rfl) (pe_op (kAdd K) (pv 1) (pe_lst (pa_cons (pe_callB (kIsP K hsee hX.exc) (by rfl) z_isinstance (by decide +kernel) (pa_cons (pv 0) (pa_cons (pe_glob (v := V.ref c_TooMany) (by rfl) g_TooMany rfl) pa_nil))) (pa_cons (pe_callB (kIsP K hsee hX.exc) (by rfl) z_isinstance (by decide +kernel) (pa_cons (pv 0) (pa_cons (pe_glob (v := V.ref c_NoText) (by rfl) g_NoText rfl) pa_nil))) pa_nil)))))
      (pss_cons (ps_if (pt_cmpR (kNeH K hr) (kCntF K (pe_bm PySem.F.plainAttrs_list PySem.F.slot_list_count PySem.F.type_list_count mt_cntF (pv 1) (pa_cons pe_bl pa_nil))) pe_int (nomark _)) (pss_one (ps_ret pe_str)) pss_nil)
      (pss_one (ps_ret (pe_ix (kIx K) (pe_lst (pa_cons pe_str (pa_cons pe_str (pa_cons pe_str (pa_cons pe_str (pa_cons pe_str (pa_cons pe_str pa_nil))))))) (kIdxF K (pe_bm PySem.F.plainAttrs_list PySem.F.slot_list_index PySem.F.type_list_index mt_index (pv 1) (pa_cons pe_bl pa_nil))) (fun _ _ => rfl)))))))), fun args m R h => ?_⟩
    obtain ⟨i, hX', h6, hcs, rfl, q⟩ := h
    refine w_seq (w_if ?_)
    refine evt_or (evt_not (evt_B (ev_callB (eva_cons (ev_var rfl (fun h => nomatch h) (eva_cons (ev_cV (eva_nil (on_isE relV_ref hX'.gt ⟨_, rfl, ?_⟩)))))))))
    refine br_f rfl ?_
    refine evt_not (evt_B (ev_callB (eva_cons (ev_var rfl (fun h => nomatch h) (eva_cons (ev_cV (eva_nil (on_isE relV_ty hX'.val ⟨_, rfl, ?_⟩))))))))
    refine br_f rfl (w_next ?_)
    refine w_seq (w_asg (ev_lstD ?_))
    refine eva_cons (ev_callB (eva_cons (ev_var rfl (fun h => nomatch h) (eva_cons (ev_cV (eva_nil (on_isE relV_ref (hX'.one 0 (by rw [hcs]; decide)) ?_)))))))
    refine eva_cons (ev_callB (eva_cons (ev_var rfl (fun h => nomatch h) (eva_cons (ev_cV (eva_nil (on_isE relV_ref (hX'.one 1 (by rw [hcs]; decide)) ?_)))))))
    refine eva_cons (ev_callB (eva_cons (ev_var rfl (fun h => nomatch h) (eva_cons (ev_cV (eva_nil (on_isE relV_ref (hX'.one 2 (by rw [hcs]; decide)) ?_)))))))
    refine eva_cons (ev_callB (eva_cons (ev_var rfl (fun h => nomatch h) (eva_cons (ev_cV (eva_nil (on_isE relV_ref (hX'.one 3 (by rw [hcs]; decide)) ?_)))))))
    refine eva_nil ⟨[_, _, _, _], rfl, by show 4 ≤ 100000; decide, ?_⟩
    refine w_seq (w_asg (ev_op (ev_var rfl (fun h => nomatch h) (ev_lstD ?_))))
    refine eva_cons (ev_callB (eva_cons (ev_var rfl (fun h => nomatch h) (eva_cons (ev_cV (eva_nil (on_isE relV_ref (hX'.one 4 (by rw [hcs]; decide)) ?_)))))))
    refine eva_cons (ev_callB (eva_cons (ev_var rfl (fun h => nomatch h) (eva_cons (ev_cV (eva_nil (on_isE relV_ref (hX'.one 5 (by rw [hcs]; decide)) ?_)))))))
    refine eva_nil ⟨[_, _], rfl, by show 2 ≤ 100000; decide, ?_⟩
    refine o2_addL (by show 4 + 2 ≤ 100000; decide) ?_
    have hc : ∀ i : _root_.Fin 6, [decide (0 = i.val), decide (1 = i.val), decide (2 = i.val), decide (3 = i.val), decide (4 = i.val), decide (5 = i.val)].count true = 1 := by decide +kernel
    have hj : ∀ i : _root_.Fin 6, [decide (0 = i.val), decide (1 = i.val), decide (2 = i.val), decide (3 = i.val), decide (4 = i.val), decide (5 = i.val)][i.val]? = some true := by decide +kernel
    have hk : ∀ i j : _root_.Fin 6, j.val < i.val → [decide (0 = i.val), decide (1 = i.val), decide (2 = i.val), decide (3 = i.val), decide (4 = i.val), decide (5 = i.val)][j.val]? = some (!true) := by decide +kernel
    refine w_seq (w_if ?_)
    walk_at "go"
    refine ev_cntB (ev_var rfl (fun h => nomatch h) ⟨[decide (0 = i), decide (1 = i), decide (2 = i), decide (3 = i), decide (4 = i), decide (5 = i)], rfl, ?_⟩)
    walk_at "go"
    refine br_f (by rw [hc ⟨i, h6⟩]; rfl) (w_next ?_)
    refine w_ret (ev_op (ev_lstD ?_))
    walk_at "go"
    refine ⟨[("shares" : Str), "kind", "number", "needs", "many", "text"].map PyData.str, rfl, by show 6 ≤ 100000; decide, ?_⟩
    refine ev_idxB (ev_var rfl (fun h => nomatch h) ⟨[decide (0 = i), decide (1 = i), decide (2 = i), decide (3 = i), decide (4 = i), decide (5 = i)], rfl, ev_cB ⟨true, i, rfl, hj ⟨i, h6⟩, fun j hj2 => hk ⟨i, h6⟩ ⟨j, by omega⟩ hj2, ?_⟩⟩)
    refine o2_ixL (d := .str (markS i)) ?_ q
    rw [atI_nth]
    have h7 : i = 0 ∨ i = 1 ∨ i = 2 ∨ i = 3 ∨ i = 4 ∨ i = 5 := by omega
    rcases h7 with rfl | rfl | rfl | rfl | rfl | rfl <;> rfl
abbrev s_made : Stmt := topS 12
theorem sc_made : FnScope ["top", "bottom", "both"] ["top", "bottom"] (defScope s_made) := ⟨rfl, rfl, rfl, by decide +kernel, rfl, by decide +kernel, by decide +kernel⟩
theorem ok_made {a : Addr} {fd : FuncData} (F : Fun K "made" "made" s_made a fd) (hm : mg "made" = some (.ref a)) (z_abs : mg "abs" = none) (k_greatest_common : Cl P w K mg base 1 "greatest_common" f_gcd) :
    Cl P w K mg base 2 "made" f_made := by
  refine ⟨a, fd, ["top", "bottom"], fn_ok F sc_made (fun args m R h => ?_) (fun cdv A outer s H E hr => ⟨_, (pss_cons (ps_set (i := 2) sc_made.nd rfl (by first | exact Or.inl rfl | exact Or.inr rfl) (pe_cl k_greatest_common hr (by decide) (by rfl) (pa_cons (pv 1) (pa_cons (pe_callB cAbs (by rfl) z_abs (by decide +kernel) (pa_cons (pv 0) pa_nil)) pa_nil))))
      (pss_one (ps_ret (pe_tup (pa_cons (pe_op oFdv (pv 0) (pv 2)) (pa_cons (pe_op oFdv (pv 1) (pv 2)) pa_nil)))))), fun args m R h => ?_⟩), hm, F.kp, F.binds (ps := ["top", "bottom"]) fun _ _ _ _ _ _ us hl => match us, hl with | [_, _], _ => rfl⟩
  ·
    obtain ⟨_, _, rfl, _⟩ := h; rfl
  ·
    obtain ⟨t, b, rfl, hb, hz, q⟩ := h
    have hp : 0 < Nat.gcd b t.natAbs := Nat.gcd_pos_of_pos_left _ hb
    have hB : Bt ((Nat.gcd b t.natAbs : Nat) : Int) 8000 := hz.le (by
      have := Nat.le_of_dvd hb (Nat.gcd_dvd_left b t.natAbs)
      omega)
    repeat walk_at "dl"
    refine o2_fdv (hB.cdiv (by omega) (by decide)) ?_
    repeat walk_at "dl"
    refine o2_fdv (hB.cdiv (by omega) (by decide)) ?_
    repeat walk_at "dl"
    rw [frac_mk t b (by omega)] at q
    exact q
abbrev s_need_number : Stmt := topS 15
theorem sc_need_number : FnScope ["number", "least", "most"] ["number", "least", "most"] (defScope s_need_number) := ⟨rfl, rfl, rfl, by decide +kernel, rfl, by decide +kernel, by decide +kernel⟩
theorem ok_need_number {a : Addr} {fd : FuncData} (F : Fun K "need_number" "need_number" s_need_number a fd) (hm : mg "need_number" = some (.ref a)) (k_is_whole : Cl P w K mg base 1 "is_whole" f_isWhole) (t_NoNumber : RfT K mg "NoNumber" c_NoNumber) :
    ClX P w K mg base 2 "need_number" (fnE [c_NoShares, c_NoKind, c_NoNumber, c_NoNeeds, c_TooMany, (0 : Addr), (0 : Addr), c_NoText] 3 eNeedNumber preNumber) := by
  refine ⟨a, fd, ["number", "least", "most"], fnX_ok F sc_need_number (fun args m R X h => ?_) (fun cdv A outer s H E hr => ⟨_, (pss_one (ps_if (PW.pt (pw_or (pt_not (pt_val (pe_cl k_is_whole hr (by decide) (by rfl) (pa_cons (pv 0) pa_nil)))) (pw_or1 (pt_not (pt_chain oLe oLe (pv 1) (pv 0) (pv 2)))))) (pss_one (ps_rf t_NoNumber (L2N.takes_of rfl rfl rfl rfl) (by rfl))) pss_nil)), fun args m R X h G0 hT => ?_⟩), hm, F.kp, F.binds (ps := ["number", "least", "most"]) fun _ _ _ _ _ _ us hl => match us, hl with | [_, _, _], _ => rfl⟩
  ·
    exact fnE_len h
  ·
    obtain ⟨ds, rfl, hl, hp, h1, h2⟩ := h
    match ds, hp with
    | [x, .int lo, .int hi], _ =>
      refine wx_if ?_
      walk_at "go"
      cases hx : isInt x with
      | false =>
        refine br_t rfl (br_t rfl ?_)
        exact wx_raise (hT _) (h2 2 (if_neg (by cases x <;> first | (intro z; cases z) | cases hx)))
      | true =>
        obtain ⟨i, rfl⟩ := int_shape hx
        refine br_f rfl ?_
        walk_at "go"
        by_cases g1 : lo ≤ i
        · refine br_t (decide_eq_true g1) ?_
          walk_at "go"
          by_cases g2 : i ≤ hi
          · rw [decide_eq_true g2]
            exact br_f rfl (wx_next (h1 _ (if_pos (by simp only [okNum, Bool.and_eq_true, decide_eq_true_eq]; exact ⟨g1, g2⟩))))
          · rw [decide_eq_false g2]
            exact br_t rfl (wx_raise (hT _) (h2 2 (if_neg (by simp only [okNum, Bool.and_eq_true, decide_eq_true_eq]; exact fun z => g2 z.2))))
        · refine br_f (decide_eq_false g1) ⟨_, rfl, br_t rfl ?_⟩
          exact wx_raise (hT _) (h2 2 (if_neg (by simp only [okNum, Bool.and_eq_true, decide_eq_true_eq]; exact fun z => g1 z.1)))
abbrev s_is_shares : Stmt := topS 28
theorem sc_is_shares : FnScope ["thing", "one"] ["thing"] (defScope s_is_shares) := ⟨rfl, rfl, rfl, by decide +kernel, rfl, by decide +kernel, by decide +kernel⟩
theorem ok_is_shares {a : Addr} {fd : FuncData} (F : Fun K "is_shares" "is_shares" s_is_shares a fd) (hm : mg "is_shares" = some (.ref a)) (z_len : mg "len" = none) (z_isinstance : mg "isinstance" = none) (z_tuple : mg "tuple" = none) (z_all : mg "all" = none) (c_MOST_KINDS : ∃ t, mg "MOST_KINDS" = some (.int 5 t)) (c_MOST_SHARE : ∃ t, mg "MOST_SHARE" = some (.int 9 t)) (k_is_whole : Cl P w K mg base 1 "is_whole" f_isWhole) :
    Cl P w K mg base 2 "is_shares" f_isShares := by
  refine ⟨a, fd, ["thing"], fn_ok F sc_is_shares (fun args m R h => ?_) (fun cdv A outer s H E hr => ⟨_, (pss_cons (ps_if (PW.pt (pw_or (pt_not (pt_val (pe_callB (kIsi K) (by rfl) z_isinstance (by decide +kernel) (pa_cons (pv 0) (pa_cons (pe_bltn (v := .ty "tuple") (by rfl) z_tuple (by decide +kernel) rfl) pa_nil))))) (pw_or1 (pt_not (pt_chain oLe oLe pe_int (pe_callB (kLen K) (by rfl) z_len (by decide +kernel) (pa_cons (pv 0) pa_nil)) (pe_gi c_MOST_KINDS (by rfl))))))) (pss_one (ps_ret pe_bl)) pss_nil)
      (pss_one (ps_ret (pe_callB (kAll K) (by rfl) z_all (by decide +kernel) (pa_cons (pe_lc (own := [("one", 1)]) rfl sc_is_shares.nd (kiT K (pv 0)) (blkOk_by (own := [("one", 1)]) (N := ["thing", "one"]) (sc := defScope s_is_shares) (by decide +kernel)) (fun _ _ _ _ _ => (pg_name (i := 1) sc_is_shares.nd rfl (by first | exact Or.inl rfl | exact Or.inr rfl))) (fun _ _ _ _ _ => pts_nil) (fun _ _ _ _ _ => (pe_and (pe_cl k_is_whole hr (by decide) (by rfl) (pa_cons (pv 1) pa_nil)) (pe_one (pe_chain oLe oLe pe_int (pv 1) (pe_gi c_MOST_SHARE (by rfl))))))) pa_nil))))), fun args m R h => ?_⟩), hm, F.kp, F.binds (ps := ["thing"]) fun _ _ _ _ _ _ us hl => match us, hl with | [_], _ => rfl⟩
  ·
    obtain ⟨_, rfl, _⟩ := h; rfl
  ·
    obtain ⟨x, rfl, q⟩ := h
    repeat walk_at "dl"
    cases hx : isTup x with
    | false =>
      refine br_t rfl (br_t rfl ?_)
      repeat walk_at "dl"
      have e : isShares x = false := by cases x <;> first | rfl | cases hx
      rw [e] at q
      exact q
    | true =>
      obtain ⟨ds, rfl⟩ := tup_shape hx
      refine br_f rfl ?_
      repeat walk_at "dl"
      by_cases h1 : (1 : Int) ≤ (ds.length : Int)
      · refine br_t (decide_eq_true h1) ?_
        repeat walk_at "dl"
        by_cases h5 : (ds.length : Int) ≤ 5
        · rw [decide_eq_true h5]
          refine br_f rfl ?_
          refine w_next ?_
          repeat walk_at "dl"
          refine ev_mapT (ds := ds) ?_ (by omega) (fun d => .bool (okS d)) (fun i d m' hd hx => ?_) ?_
          · repeat walk_at "dl"
            exact ⟨rfl, rfl⟩
          · repeat walk_at "dl"
            cases hi : isInt d with
            | false =>
              refine br_f rfl ⟨?_, rfl⟩
              cases d <;> first | rfl | cases hi
            | true =>
              obtain ⟨i, rfl⟩ := int_shape hi
              refine br_t rfl ?_
              repeat walk_at "dl"
              by_cases g1 : (1 : Int) ≤ i
              · refine br_t (decide_eq_true g1) ?_
                repeat walk_at "dl"
                refine ⟨?_, rfl⟩
                show Val.d (.bool (decide (i ≤ 9))) = .d (.bool (decide (1 ≤ i) && decide (i ≤ 9)))
                rw [decide_eq_true g1, Bool.true_and]
              · refine br_f (decide_eq_false g1) ⟨?_, rfl⟩
                show Val.d (.bool false) = .d (.bool (decide (1 ≤ i) && decide (i ≤ 9)))
                rw [decide_eq_false g1, Bool.false_and]
          · repeat walk_at "dl"
            have e : (ds.map fun d => PyData.bool (okS d)) = (ds.map okS).map PyData.bool := by rw [List.map_map]; rfl
            rw [e]
            repeat walk_at "dl"
            have e : (ds.map okS).all id = isShares (.tuple ds) := by
              show _ = (decide (1 ≤ ds.length) && (decide (ds.length ≤ 5) && ds.all okS))
              rw [decide_eq_true (show 1 ≤ ds.length by omega), decide_eq_true (show ds.length ≤ 5 by omega), List.all_map]; rfl
            rw [e]
            exact q
        · rw [decide_eq_false h5]
          refine br_t rfl ?_
          repeat walk_at "dl"
          have e : isShares (.tuple ds) = false := by
            show (decide (1 ≤ ds.length) && (decide (ds.length ≤ 5) && ds.all okS)) = false
            rw [decide_eq_false (show ¬ ds.length ≤ 5 by omega), Bool.false_and, Bool.and_false]
          rw [e] at q
          exact q
      · refine br_f (decide_eq_false h1) ⟨_, rfl, br_t rfl ?_⟩
        repeat walk_at "dl"
        have e : isShares (.tuple ds) = false := by
          show (decide (1 ≤ ds.length) && (decide (ds.length ≤ 5) && ds.all okS)) = false
          rw [decide_eq_false (show ¬ 1 ≤ ds.length by omega), Bool.false_and]
        rw [e] at q
        exact q
abbrev s_are_kinds : Stmt := topS 30
theorem sc_are_kinds : FnScope ["thing", "many", "at", "one"] ["thing", "many"] (defScope s_are_kinds) := ⟨rfl, rfl, rfl, by decide +kernel, rfl, by decide +kernel, by decide +kernel⟩
theorem ok_are_kinds {a : Addr} {fd : FuncData} (F : Fun K "are_kinds" "are_kinds" s_are_kinds a fd) (hm : mg "are_kinds" = some (.ref a)) (z_all : mg "all" = none) (z_isinstance : mg "isinstance" = none) (z_tuple : mg "tuple" = none) (z_range : mg "range" = none) (z_len : mg "len" = none) (k_is_whole : Cl P w K mg base 1 "is_whole" f_isWhole) :
    Cl P w K mg base 2 "are_kinds" f_areKinds := by
  refine ⟨a, fd, ["thing", "many"], fn_ok F sc_are_kinds (fun args m R h => ?_) (fun cdv A outer s H E hr => ⟨_, (pss_cons (ps_if (PW.pt (pw_or (pt_not (pt_val (pe_callB (kIsi K) (by rfl) z_isinstance (by decide +kernel) (pa_cons (pv 0) (pa_cons (pe_bltn (v := .ty "tuple") (by rfl) z_tuple (by decide +kernel) rfl) pa_nil))))) (pw_or1 (pt_not (pt_val (pe_callB (kAll K) (by rfl) z_all (by decide +kernel) (pa_cons (pe_lc (own := [("one", 3)]) rfl sc_are_kinds.nd (kiT K (pv 0)) (blkOk_by (own := [("one", 3)]) (N := ["thing", "many", "at", "one"]) (sc := defScope s_are_kinds) (by decide +kernel)) (fun _ _ _ _ _ => (pg_name (i := 3) sc_are_kinds.nd rfl (by first | exact Or.inl rfl | exact Or.inr rfl))) (fun _ _ _ _ _ => pts_nil) (fun _ _ _ _ _ => (pe_and (pe_cl k_is_whole hr (by decide) (by rfl) (pa_cons (pv 3) pa_nil)) (pe_one (pe_chain oLe oLt pe_int (pv 3) (pv 1)))))) pa_nil))))))) (pss_one (ps_ret pe_bl)) pss_nil)
      (pss_one (ps_ret (pe_callB (kAll K) (by rfl) z_all (by decide +kernel) (pa_cons (pe_lc (own := [("at", 2)]) rfl sc_are_kinds.nd (pi_range2 (by rfl) z_range (pa_cons pe_int (pa_cons (pe_callB (kLen K) (by rfl) z_len (by decide +kernel) (pa_cons (pv 0) pa_nil)) pa_nil))) (blkOk_by (own := [("at", 2)]) (N := ["thing", "many", "at", "one"]) (sc := defScope s_are_kinds) (by decide +kernel)) (fun _ _ _ _ _ => (pg_name (i := 2) sc_are_kinds.nd rfl (by first | exact Or.inl rfl | exact Or.inr rfl))) (fun _ _ _ _ _ => pts_nil) (fun _ _ _ _ _ => (pe_cmpR oLt (pe_ix (kIx K) (pv 0) (pe_op oSub (pv 2) pe_int) (fun _ _ => rfl)) (pe_ix (kIx K) (pv 0) (pv 2) (fun _ _ => rfl)) (nomark _)))) pa_nil))))), fun args m R h => ?_⟩), hm, F.kp, F.binds (ps := ["thing", "many"]) fun _ _ _ _ _ _ us hl => match us, hl with | [_, _], _ => rfl⟩
  ·
    obtain ⟨_, _, rfl, _⟩ := h; rfl
  ·
    obtain ⟨x, n, rfl, hz, q⟩ := h
    repeat walk_at "dl"
    cases hx : isTup x with
    | false =>
      refine br_t rfl (br_t rfl ?_)
      repeat walk_at "dl"
      have e : areKinds x n = false := by cases x <;> first | rfl | cases hx
      rw [e] at q
      exact q
    | true =>
      obtain ⟨ds, rfl⟩ := tup_shape hx
      have hz : ds.length ≤ 90000 := hz
      refine br_f rfl ?_
      repeat walk_at "dl"
      refine ev_mapT (ds := ds) ?_ (by omega) (fun d => .bool (okK n d)) (fun i d m' hd hx => ?_) ?_
      · repeat walk_at "dl"
        exact ⟨rfl, rfl⟩
      · repeat walk_at "dl"
        cases hi : isInt d with
        | false =>
          refine br_f rfl ⟨?_, rfl⟩
          cases d <;> first | rfl | cases hi
        | true =>
          obtain ⟨i, rfl⟩ := int_shape hi
          refine br_t rfl ?_
          repeat walk_at "dl"
          by_cases g1 : (0 : Int) ≤ i
          · refine br_t (decide_eq_true g1) ?_
            repeat walk_at "dl"
            refine ⟨?_, rfl⟩
            show Val.d (.bool (decide (i < n))) = .d (.bool (decide (0 ≤ i) && decide (i < n)))
            rw [decide_eq_true g1, Bool.true_and]
          · refine br_f (decide_eq_false g1) ⟨?_, rfl⟩
            show Val.d (.bool false) = .d (.bool (decide (0 ≤ i) && decide (i < n)))
            rw [decide_eq_false g1, Bool.false_and]
      · repeat walk_at "dl"
        have e : (ds.map fun d => PyData.bool (okK n d)) = (ds.map (okK n)).map PyData.bool := by rw [List.map_map]; rfl
        rw [e]
        repeat walk_at "dl"
        have e : (ds.map (okK n)).all id = ds.all (okK n) := by rw [List.all_map]; rfl
        rw [e]
        cases hk : ds.all (okK n) with
        | false =>
          refine br_t rfl ?_
          repeat walk_at "dl"
          have e : areKinds (.tuple ds) n = false := by
            show (ds.all (okK n) && rising ds) = false
            rw [hk]; rfl
          rw [e] at q
          exact q
        | true =>
          refine br_f rfl ?_
          refine w_next ?_
          have hI : ∀ k, k < ds.length → ds[k]? = some (.int (intOf (ds.getD k .none))) := by
            intro k hk1
            have h2 := List.all_eq_true.mp hk ds[k] (List.getElem_mem hk1)
            rw [List.getD_eq_getElem?_getD, List.getElem?_eq_getElem hk1]
            cases hq : ds[k] with
            | int i => rfl
            | _ => rw [hq] at h2; cases h2
          have fin : Ev K (tCB (rAll K) (tCons (tLc (iRng2 (tCons (tC (.int 1)) (tCons (tCB (DL.rLen K) (tCons (tVar 0) tNil)) tNil))) (gName 2) tYes (tOp rLt (tOp (rIx K) (tVar 0) (tOp DL.rSub (tVar 2) (tC (.int 1)))) (tOp (rIx K) (tVar 0) (tVar 2))) [2]) tNil)) [.d (.tuple ds), .d (.int n), .any, .any] m R := by
            repeat walk_at "dl"
            by_cases h0 : ds = []
            · subst h0
              refine ev_lcR2' ?_ ?_
              · repeat walk_at "dl"
                exact ⟨rfl, rfl⟩
              · repeat walk_at "dl"
                refine on_all (bs := []) ?_
                have e : areKinds (.tuple []) n = true := rfl
                rw [e] at q
                exact q
            have h1 : 1 ≤ ds.length := by
              cases ds with
              | nil => exact absurd rfl h0
              | cons a b => simp
            refine ev_mapR2 (lo := 1) (n := ds.length - 1) ?_ (by omega) (fun i => .bool (decide (intOf (ds.getD i .none) < intOf (ds.getD (i + 1) .none)))) (fun i m' hi hx => ?_) ?_
            · repeat walk_at "dl"
              refine ⟨?_, rfl⟩
              rw [show 1 + (ds.length - 1) = ds.length by omega]
              rfl
            · repeat walk_at "dl"
              rw [show ((1 + i : Nat) : Int) - 1 = (i : Int) by omega]
              refine o2_ixT (by rw [atI_nth]; exact hI i (by omega)) ?_
              repeat walk_at "dl"
              refine o2_ixT (by rw [atI_nth]; exact hI (1 + i) (by omega)) ?_
              repeat walk_at "dl"
              refine ⟨?_, rfl⟩
              rw [Nat.add_comm 1 i]
            · repeat walk_at "dl"
              have e : ((List.range (ds.length - 1)).map fun i => PyData.bool (decide (intOf (ds.getD i .none) < intOf (ds.getD (i + 1) .none)))) = ((List.range (ds.length - 1)).map fun i => decide (intOf (ds.getD i .none) < intOf (ds.getD (i + 1) .none))).map PyData.bool := by rw [List.map_map]; rfl
              rw [e]
              repeat walk_at "dl"
              have e : areKinds (.tuple ds) n = (((List.range (ds.length - 1)).map fun i => decide (intOf (ds.getD i .none) < intOf (ds.getD (i + 1) .none))).all id) := by
                show (ds.all (okK n) && rising ds) = _
                rw [hk, List.all_map]; rfl
              rw [← e]
              exact q
          exact w_ret fin
abbrev s_right_needs : Stmt := topS 40
theorem sc_right_needs : FnScope ["thing", "shares", "one"] ["thing", "shares"] (defScope s_right_needs) := ⟨rfl, rfl, rfl, by decide +kernel, rfl, by decide +kernel, by decide +kernel⟩
theorem ok_right_needs {a : Addr} {fd : FuncData} (F : Fun K "right_needs" "right_needs" s_right_needs a fd) (hm : mg "right_needs" = some (.ref a)) (z_len : mg "len" = none) (z_isinstance : mg "isinstance" = none) (z_tuple : mg "tuple" = none) (z_all : mg "all" = none) (c_MOST_NEED : ∃ t, mg "MOST_NEED" = some (.int 3 t)) (k_is_whole : Cl P w K mg base 1 "is_whole" f_isWhole) :
    Cl P w K mg base 2 "right_needs" f_rightNeeds := by
  refine ⟨a, fd, ["thing", "shares"], fn_ok F sc_right_needs (fun args m R h => ?_) (fun cdv A outer s H E hr => ⟨_, (pss_cons (ps_if (PW.pt (pw_or (pt_not (pt_val (pe_callB (kIsi K) (by rfl) z_isinstance (by decide +kernel) (pa_cons (pv 0) (pa_cons (pe_bltn (v := .ty "tuple") (by rfl) z_tuple (by decide +kernel) rfl) pa_nil))))) (pw_or1 (pt_cmpR (kNe K hr) (pe_callB (kLen K) (by rfl) z_len (by decide +kernel) (pa_cons (pv 0) pa_nil)) (pe_callB (kLen K) (by rfl) z_len (by decide +kernel) (pa_cons (pv 1) pa_nil)) (nomark _))))) (pss_one (ps_ret pe_bl)) pss_nil)
      (pss_one (ps_ret (pe_callB (kAll K) (by rfl) z_all (by decide +kernel) (pa_cons (pe_lc (own := [("one", 2)]) rfl sc_right_needs.nd (kiT K (pv 0)) (blkOk_by (own := [("one", 2)]) (N := ["thing", "shares", "one"]) (sc := defScope s_right_needs) (by decide +kernel)) (fun _ _ _ _ _ => (pg_name (i := 2) sc_right_needs.nd rfl (by first | exact Or.inl rfl | exact Or.inr rfl))) (fun _ _ _ _ _ => pts_nil) (fun _ _ _ _ _ => (pe_and (pe_cl k_is_whole hr (by decide) (by rfl) (pa_cons (pv 2) pa_nil)) (pe_one (pe_chain oLe oLe pe_int (pv 2) (pe_gi c_MOST_NEED (by rfl))))))) pa_nil))))), fun args m R h => ?_⟩), hm, F.kp, F.binds (ps := ["thing", "shares"]) fun _ _ _ _ _ _ us hl => match us, hl with | [_, _], _ => rfl⟩
  ·
    obtain ⟨_, _, rfl, _⟩ := h; rfl
  ·
    obtain ⟨x, ss, rfl, h5, q⟩ := h
    repeat walk_at "dl"
    cases hx : isTup x with
    | false =>
      refine br_t rfl (br_t rfl ?_)
      repeat walk_at "dl"
      have e : rightN ss.length x = false := by cases x <;> first | rfl | cases hx
      rw [e] at q
      exact q
    | true =>
      obtain ⟨ds, rfl⟩ := tup_shape hx
      refine br_f rfl ?_
      repeat walk_at "dl"
      by_cases h1 : ds.length = ss.length
      · refine br_f (by rw [h1]; simp) (w_next ?_)
        walk_at "go"
        refine ev_mapT (ds := ds) ?_ (by omega) (fun d => .bool (okN d)) (fun i d m' hd hx => ?_) ?_
        · repeat walk_at "dl"
          exact ⟨rfl, rfl⟩
        · repeat walk_at "dl"
          cases hi : isInt d with
          | false =>
            refine br_f rfl ⟨?_, rfl⟩
            cases d <;> first | rfl | cases hi
          | true =>
            obtain ⟨i, rfl⟩ := int_shape hi
            refine br_t rfl ?_
            repeat walk_at "dl"
            by_cases g1 : (0 : Int) ≤ i
            · refine br_t (decide_eq_true g1) ?_
              repeat walk_at "dl"
              refine ⟨?_, rfl⟩
              show Val.d (.bool (decide (i ≤ 3))) = .d (.bool (decide (0 ≤ i) && decide (i ≤ 3)))
              rw [decide_eq_true g1, Bool.true_and]
            · refine br_f (decide_eq_false g1) ⟨?_, rfl⟩
              show Val.d (.bool false) = .d (.bool (decide (0 ≤ i) && decide (i ≤ 3)))
              rw [decide_eq_false g1, Bool.false_and]
        · repeat walk_at "dl"
          have e : (ds.map fun d => PyData.bool (okN d)) = (ds.map okN).map PyData.bool := by rw [List.map_map]; rfl
          rw [e]
          repeat walk_at "dl"
          have e : (ds.map okN).all id = ds.all okN := by rw [List.all_map]; rfl
          have e2 : rightN ss.length (.tuple ds) = ds.all okN := by
            show (decide (ds.length = ss.length) && ds.all okN) = _
            rw [decide_eq_true h1, Bool.true_and]
          rw [e2] at q
          rw [e]
          exact q
      · refine br_t (by simp; omega) ?_
        walk_at "go"
        have e2 : rightN ss.length (.tuple ds) = false := by
          show (decide (ds.length = ss.length) && ds.all okN) = _
          rw [decide_eq_false h1, Bool.false_and]
        rw [e2] at q
        exact q
abbrev s_cases_of : Stmt := topS 62
theorem ok_cases_of {a : Addr} {fd : FuncData} (F : Fun K "cases_of" "cases_of" s_cases_of a fd) (hm : mg "cases_of" = some (.ref a)) : Cl P w K mg base 2 "cases_of" f_never := cl_zero F (fun _ _ _ h => h) hm (F.binds (ps := ["shares", "some", "number"]) fun _ _ _ _ _ _ us hl => match us, hl with | [_, _, _], _ => rfl)
abbrev s__law_box : Stmt := topS 87
theorem sc__law_box : FnScope ["_law_script", "_law_k", "_law_cell_here", "_law_number", "_law_j"] ["_law_script", "_law_k"] (defScope s__law_box) := ⟨rfl, rfl, rfl, by decide +kernel, rfl, by decide +kernel, by decide +kernel⟩
theorem ok__law_box {a : Addr} {fd : FuncData} (F : Fun K "_law_box" "_law_box" s__law_box a fd) (hm : mg "_law_box" = some (.ref a)) (z_abs : mg "abs" = none) (z_range : mg "range" = none) (k__law_cell : Cl P w K mg base 1 "_law_cell" f_cell) (k__law_mix : Cl P w K mg base 1 "_law_mix" f_mix) :
    Cl P w K mg base 2 "_law_box" f_box := by
  refine ⟨a, fd, ["_law_script", "_law_k"], fn_ok F sc__law_box (fun args m R h => ?_) (fun cdv A outer s H E hr => ⟨_, (pss_cons (ps_set (i := 2) sc__law_box.nd rfl (by first | exact Or.inl rfl | exact Or.inr rfl) (pe_cl k__law_cell hr (by decide) (by rfl) (pa_cons (pv 0) (pa_cons (pv 1) pa_nil))))
      (pss_cons (ps_if (pt_cmpR (kEq K hr) (pe_op oMod (pv 2) pe_int) pe_int (nomark _)) (pss_one (ps_ret (pe_lst (pa_cons (pe_op oFdv (pe_callB cAbs (by rfl) z_abs (by decide +kernel) (pa_cons (pv 2) pa_nil)) pe_int) pa_nil)))) pss_nil)
      (pss_cons (ps_set (i := 3) sc__law_box.nd rfl (by first | exact Or.inl rfl | exact Or.inr rfl) pe_int)
      (pss_cons (ps_for PassesOwn.never rfl (pi_range1 (by rfl) z_range (pa_cons pe_int pa_nil)) (pg_name (i := 4) sc__law_box.nd rfl (by first | exact Or.inl rfl | exact Or.inr rfl)) (pss_one (ps_set (i := 3) sc__law_box.nd rfl (by first | exact Or.inl rfl | exact Or.inr rfl) (pe_op (kAdd K) (pe_op (kMul K) (pv 3) pe_int) (pe_cl k__law_mix hr (by decide) (by rfl) (pa_cons (pv 2) (pa_cons (pv 4) pa_nil)))))))
      (pss_one (ps_ret (pe_lst (pa_cons (pv 3) pa_nil)))))))), fun args m R h => ?_⟩), hm, F.kp, F.binds (ps := ["_law_script", "_law_k"]) fun _ _ _ _ _ _ us hl => match us, hl with | [_, _], _ => rfl⟩
  ·
    obtain ⟨_, _, rfl, _⟩ := h; rfl
  ·
    obtain ⟨ns, k, rfl, q⟩ := h
    repeat walk_at "dl"
    intro z
    repeat walk_at "dl"
    refine o2_mod (by decide) ?_
    repeat walk_at "dl"
    by_cases hz : z % 2 = 0
    · refine br_t (decide_eq_true hz) (w_ret (ev_lstB ?_))
      repeat walk_at "dl"
      refine o2_fdv (cdiv_small (by decide) (by decide)) ?_
      repeat walk_at "dl"
      exact q
    · refine br_f (decide_eq_false hz) (w_next ?_)
      repeat walk_at "dl"
      refine w_forR1 (n := 40) ?_ (by decide) (fun i r' m' => m' = m ∧ ∃ (n : Int) (y : Val), r' = [.scr ns, .d (.int (k : Int)), .d (.int z), .d (.int n), y] ∧ 0 ≤ n ∧ Bt n (32 * i + 1)) ⟨rfl, 0, .any, rfl, by decide, bt_lit (n := 1) (by decide) (by omega)⟩ ?_ ?_
      · repeat walk_at "dl"
        exact ⟨rfl, rfl⟩
      · rintro i r' m' hi ⟨rfl, n, y, rfl, hn, hb⟩
        repeat walk_at "dl"
        refine o2_mulI (hb.cmul (b := 31) (bt_lit (n := 31) (by decide) (by decide)) (by omega)) ?_
        repeat walk_at "dl"
        refine ⟨by omega, fun w hw hw1 => ?_⟩
        repeat walk_at "dl"
        refine ⟨rfl, n * 142857143 + w, _, rfl, by omega, ?_⟩
        have h1 : Bt (n * 142857143) (32 * i + 1 + 28) := hb.mul (bt_lit (n := 28) (by decide) (Nat.le_refl _))
        exact (h1.add (bt_lit (i := w) (n := 30) (a := 32 * i + 30) (by
          have e : (2 : Nat) ^ 30 = 1073741824 := by decide
          rw [e]; omega) (by omega)) (c := 32 * i + 30) (by omega) (Nat.le_refl _)).mono (by omega)
      · rintro r' m' ⟨rfl, n, y, rfl, hn, hb⟩
        refine w_ret (ev_lstB ?_)
        repeat walk_at "dl"
        exact q
abbrev s__law_drawn_shares : Stmt := topS 89
theorem sc__law_drawn_shares : FnScope ["_law_box_here", "_law_most", "_law_top", "_law_many", "_law_kind", "_law_place"] ["_law_box_here", "_law_most", "_law_top"] (defScope s__law_drawn_shares) := ⟨rfl, rfl, rfl, by decide +kernel, rfl, by decide +kernel, by decide +kernel⟩
theorem ok__law_drawn_shares {a : Addr} {fd : FuncData} (F : Fun K "_law_drawn_shares" "_law_drawn_shares" s__law_drawn_shares a fd) (hm : mg "_law_drawn_shares" = some (.ref a)) (z_tuple : mg "tuple" = none) (z_range : mg "range" = none) (k__law_take : Cl P w K mg base 1 "_law_take" f_take) :
    Cl P w K mg base 2 "_law_drawn_shares" f_drawnShares := by
  refine ⟨a, fd, ["_law_box_here", "_law_most", "_law_top"], fn_ok F sc__law_drawn_shares (fun args m R h => ?_) (fun cdv A outer s H E hr => ⟨_, (pss_cons (ps_set (i := 3) sc__law_drawn_shares.nd rfl (by first | exact Or.inl rfl | exact Or.inr rfl) (pe_op (kAdd K) pe_int (pe_cl k__law_take hr (by decide) (by rfl) (pa_cons (pv 0) (pa_cons (pv 1) pa_nil)))))
      (pss_cons (ps_set (i := 4) sc__law_drawn_shares.nd rfl (by first | exact Or.inl rfl | exact Or.inr rfl) (pe_cl k__law_take hr (by decide) (by rfl) (pa_cons (pv 0) (pa_cons pe_int pa_nil))))
      (pss_cons (ps_if (pt_cmpR (kEq K hr) (pv 4) pe_int (nomark _)) (pss_one (ps_ret (pe_op (kMul K) (pe_tup (pa_cons (pe_op (kAdd K) pe_int (pe_cl k__law_take hr (by decide) (by rfl) (pa_cons (pv 0) (pa_cons (pv 2) pa_nil)))) pa_nil)) (pv 3)))) pss_nil)
      (pss_one (ps_ret (pe_callTy (kTup K) (by rfl) z_tuple (by decide +kernel) (pa_cons (pe_lc (own := [("_law_place", 5)]) rfl sc__law_drawn_shares.nd (pi_range1 (by rfl) z_range (pa_cons (pv 3) pa_nil)) (blkOk_by (own := [("_law_place", 5)]) (N := ["_law_box_here", "_law_most", "_law_top", "_law_many", "_law_kind", "_law_place"]) (sc := defScope s__law_drawn_shares) (by decide +kernel)) (fun _ _ _ _ _ => (pg_name (i := 5) sc__law_drawn_shares.nd rfl (by first | exact Or.inl rfl | exact Or.inr rfl))) (fun _ _ _ _ _ => pts_nil) (fun _ _ _ _ _ => (pe_op (kAdd K) pe_int (pe_cl k__law_take hr (by decide) (by rfl) (pa_cons (pv 0) (pa_cons (pe_ix (kIx K) (pe_lst (pa_cons (pv 2) (pa_cons pe_int (pa_cons (pv 2) pa_nil)))) (pe_op oSub (pv 4) pe_int) (fun _ _ => rfl)) pa_nil)))))) pa_nil))))))), fun args m R h => ?_⟩), hm, F.kp, F.binds (ps := ["_law_box_here", "_law_most", "_law_top"]) fun _ _ _ _ _ _ us hl => match us, hl with | [_, _, _], _ => rfl⟩
  ·
    obtain ⟨_, _, _, rfl, _⟩ := h; rfl
  ·
    obtain ⟨p, a, b, rfl, hp, ha1, ha5, hb2, hb9, q⟩ := h
    repeat walk_at "dl"
    refine ⟨hp, by omega, bt_lit (n := 3) (by show _ < 8; omega) (by decide), fun n0 hn0 hn1 => ?_⟩
    obtain ⟨n, rfl⟩ : ∃ n : Nat, n0 = (n : Int) := ⟨n0.toNat, by omega⟩
    repeat walk_at "dl"
    refine ⟨hp, by decide, bt_lit (n := 3) (by decide) (by decide), fun kd hk0 hk1 => ?_⟩
    repeat walk_at "dl"
    have en : (1 : Int) + (n : Int) = ((n + 1 : Nat) : Int) := by omega
    by_cases hz : kd = 0
    · refine br_t (decide_eq_true hz) ?_
      repeat walk_at "dl"
      refine ⟨hp, by omega, bt_lit (n := 4) (by show _ < 16; omega) (by decide), fun s hs0 hs1 => ?_⟩
      repeat walk_at "dl"
      rw [en]
      refine o2_mulT (by simp) (by omega) (by omega) (Nat.le_of_ble_eq_true rfl) ?_
      have e : (PyData.tuple (List.replicate (n + 1) [PyData.int (1 + s)]).flatten) = tupI (List.replicate (n + 1) (1 + s)) := by
        unfold tupI
        congr 1
        rw [List.map_replicate]
        induction (n + 1) with
        | zero => rfl
        | succ k ih => rw [List.replicate_succ, List.replicate_succ, List.flatten_cons, ih]; rfl
      rw [e]
      refine q _ ⟨by rw [List.length_replicate]; omega, by rw [List.length_replicate]; omega, fun x hx => ?_⟩ (by rw [List.length_replicate]; omega)
      rw [List.eq_of_mem_replicate hx]
      omega
    · refine br_f (decide_eq_false hz) (w_next ?_)
      repeat walk_at "dl"
      refine ev_anyR1 (n := n + 1) ?_ (by omega) (fun _ y => ∃ s : Int, y = .int s ∧ 1 ≤ s ∧ s ≤ 9) (fun i m' hi hx => ?_) fun ds hl hds => ?_
      · repeat walk_at "dl"
        exact ⟨by rw [en], rfl⟩
      · have hv : ∃ v : Int, atI ([PyData.int b, .int 2, .int b] : List PyData) (kd - 1) = some (.int v) ∧ 2 ≤ v ∧ v ≤ 9 := by
          have h3 : kd = 1 ∨ kd = 2 ∨ kd = 3 := by omega
          rcases h3 with rfl | rfl | rfl
          · exact ⟨b, rfl, hb2, hb9⟩
          · exact ⟨2, rfl, by decide, by decide⟩
          · exact ⟨b, rfl, hb2, hb9⟩
        obtain ⟨v, hv1, hv2, hv3⟩ := hv
        iterate 6 walk_at "dl"
        refine ev_op (ev_lstD ?_)
        repeat walk_at "dl"
        refine o2_ixL hv1 ?_
        repeat walk_at "dl"
        refine ⟨hx p _ hp, by omega, bt_lit (n := 4) (by show _ < 16; omega) (by decide), fun s hs0 hs1 => ?_⟩
        repeat walk_at "dl"
        exact ⟨⟨_, rfl, 1 + s, rfl, by omega, by omega⟩, rfl⟩
      · repeat walk_at "dl"
        obtain ⟨ss, hss, hl2⟩ : ∃ ss : List Int, ds = ss.map PyData.int ∧ ∀ s ∈ ss, 1 ≤ s ∧ s ≤ 9 := by
          refine ⟨ds.map intOf, ?_, fun s hs => ?_⟩
          · rw [List.map_map]
            refine (List.map_id ds).symm.trans (List.map_congr_left fun d hd => ?_)
            obtain ⟨i, hi⟩ := List.getElem?_of_mem hd
            obtain ⟨s, rfl, _⟩ := hds i d hi
            rfl
          · obtain ⟨d, hd, rfl⟩ := List.mem_map.mp hs
            obtain ⟨i, hi⟩ := List.getElem?_of_mem hd
            obtain ⟨s, rfl, h1⟩ := hds i d hi
            exact h1
        subst hss
        rw [List.length_map] at hl
        exact q ss ⟨by omega, by omega, hl2⟩ (by omega)
abbrev s__law_no_shares : Stmt := topS 90
theorem sc__law_no_shares : FnScope ["_law_box_here", "_law_some"] ["_law_box_here"] (defScope s__law_no_shares) := ⟨rfl, rfl, rfl, by decide +kernel, rfl, by decide +kernel, by decide +kernel⟩
theorem ok__law_no_shares {a : Addr} {fd : FuncData} (F : Fun K "_law_no_shares" "_law_no_shares" s__law_no_shares a fd) (hm : mg "_law_no_shares" = some (.ref a)) (k__law_take : Cl P w K mg base 1 "_law_take" f_take) :
    Cl P w K mg base 2 "_law_no_shares" f_noShares := by
  refine ⟨a, fd, ["_law_box_here"], fn_ok F sc__law_no_shares (fun args m R h => ?_) (fun cdv A outer s H E hr => ⟨_, (pss_cons (ps_set (i := 1) sc__law_no_shares.nd rfl (by first | exact Or.inl rfl | exact Or.inr rfl) (pe_lst (pa_cons pe_non (pa_cons (pe_tup pa_nil) (pa_cons (pe_tup (pa_cons pe_int pa_nil)) (pa_cons (pe_tup (pa_cons pe_int pa_nil)) (pa_cons (pe_tup (pa_cons pe_int (pa_cons pe_int (pa_cons pe_int (pa_cons pe_int (pa_cons pe_int (pa_cons pe_int pa_nil))))))) (pa_cons (pe_lst (pa_cons pe_int (pa_cons pe_int pa_nil))) (pa_cons (pe_tup (pa_cons pe_int (pa_cons pe_bl pa_nil))) (pa_cons (pe_tup (pa_cons pe_int (pa_cons pe_str pa_nil))) (pa_cons pe_str (pa_cons pe_int (pa_cons pe_dnewT (pa_cons (pe_tup (pa_cons pe_int (pa_cons (pe_un oNeg pe_int) pa_nil))) (pa_cons (pe_tup (pa_cons (pe_tup (pa_cons pe_int pa_nil)) pa_nil)) pa_nil)))))))))))))))
      (pss_one (ps_ret (pe_ix (kIx K) (pe_op (kAdd K) (pv 1) (pe_lst (pa_cons (pe_tup (pa_cons pe_int (pa_cons pe_non pa_nil))) (pa_cons (pe_tup (pa_cons pe_int (pa_cons pe_int pa_nil))) (pa_cons (pe_tup (pa_cons pe_int (pa_cons (pe_tup (pa_cons pe_int (pa_cons pe_int pa_nil))) pa_nil))) pa_nil))))) (pe_cl k__law_take hr (by decide) (by rfl) (pa_cons (pv 0) (pa_cons pe_int pa_nil))) (fun _ _ => rfl))))), fun args m R h => ?_⟩), hm, F.kp, F.binds (ps := ["_law_box_here"]) fun _ _ _ _ _ _ us hl => match us, hl with | [_], _ => rfl⟩
  ·
    obtain ⟨_, rfl, _⟩ := h; rfl
  ·
    obtain ⟨p, rfl, hp, q⟩ := h
    repeat (first | with_reducible refine ev_lstMulD ?_ | with_reducible refine ev_lstD ?_ | with_reducible refine ev_dnewD ?_ | walk_at "dl" | (refine ⟨[_, _, _, _, _, _], rfl, (by show 6 ≤ 100000; decide), ?_⟩) | (refine ⟨[_, _, _, _, _, _, _], rfl, (by show 7 ≤ 100000; decide), ?_⟩) | (refine ⟨[_, _, _, _, _, _, _, _], rfl, (by show 8 ≤ 100000; decide), ?_⟩) | (refine ⟨[_, _, _, _, _, _, _, _, _], rfl, (by show 9 ≤ 100000; decide), ?_⟩) | (refine ⟨[_, _, _, _, _, _, _, _, _, _], rfl, (by show 10 ≤ 100000; decide), ?_⟩) | (refine ⟨[_, _, _, _, _, _, _, _, _, _, _], rfl, (by show 11 ≤ 100000; decide), ?_⟩) | (refine ⟨[_, _, _, _, _, _, _, _, _, _, _, _], rfl, (by show 12 ≤ 100000; decide), ?_⟩) | (refine ⟨[_, _, _, _, _, _, _, _, _, _, _, _, _], rfl, (by show 13 ≤ 100000; decide), ?_⟩) | (refine ⟨[_, _, _, _, _, _, _, _, _, _, _, _, _, _], rfl, (by show 14 ≤ 100000; decide), ?_⟩) | (refine ⟨[_, _, _, _, _, _, _, _, _, _, _, _, _, _, _], rfl, (by show 15 ≤ 100000; decide), ?_⟩))
    refine o2_addL (by show 13 + 3 ≤ 100000; decide) ?_
    walk_at "go"
    refine ⟨hp, by decide, bt_lit (n := 5) (by decide) (by decide), fun z h0 h1 => ?_⟩
    refine o2_ixLx h0 h1 ?_
    intro d hd
    refine q d ?_
    revert d
    decide +kernel
abbrev s_is_fraction : Stmt := topS 13
theorem sc_is_fraction : FnScope ["thing"] ["thing"] (defScope s_is_fraction) := ⟨rfl, rfl, rfl, by decide +kernel, rfl, by decide +kernel, by decide +kernel⟩
theorem ok_is_fraction {a : Addr} {fd : FuncData} (F : Fun K "is_fraction" "is_fraction" s_is_fraction a fd) (hm : mg "is_fraction" = some (.ref a)) (z_len : mg "len" = none) (z_isinstance : mg "isinstance" = none) (z_tuple : mg "tuple" = none) (k_is_whole : Cl P w K mg base 1 "is_whole" f_isWhole) (k_made : Cl P w K mg base 2 "made" f_made) :
    Cl P w K mg base 3 "is_fraction" f_isFrac := by
  refine ⟨a, fd, ["thing"], fn_ok F sc_is_fraction (fun args m R h => ?_) (fun cdv A outer s H E hr => ⟨_, (pss_cons (ps_if (PW.pt (pw_or (pt_not (pt_val (pe_callB (kIsi K) (by rfl) z_isinstance (by decide +kernel) (pa_cons (pv 0) (pa_cons (pe_bltn (v := .ty "tuple") (by rfl) z_tuple (by decide +kernel) rfl) pa_nil))))) (pw_or (pt_cmpR (kNe K hr) (pe_callB (kLen K) (by rfl) z_len (by decide +kernel) (pa_cons (pv 0) pa_nil)) pe_int (nomark _)) (pw_or (pt_not (pt_val (pe_cl k_is_whole hr (by decide) (by rfl) (pa_cons (pe_ix (kIx K) (pv 0) pe_int (fun _ _ => rfl)) pa_nil)))) (pw_or1 (pt_not (pt_val (pe_cl k_is_whole hr (by decide) (by rfl) (pa_cons (pe_ix (kIx K) (pv 0) pe_int (fun _ _ => rfl)) pa_nil))))))))) (pss_one (ps_ret pe_bl)) pss_nil)
      (pss_one (ps_ret (pe_and (pe_cmpR oGe (pe_ix (kIx K) (pv 0) pe_int (fun _ _ => rfl)) pe_int (nomark _)) (pe_one (pe_cmpR (kEq K hr) (pe_cl k_made hr (by decide) (by rfl) (pa_cons (pe_ix (kIx K) (pv 0) pe_int (fun _ _ => rfl)) (pa_cons (pe_ix (kIx K) (pv 0) pe_int (fun _ _ => rfl)) pa_nil))) (pv 0) (nomark _))))))), fun args m R h => ?_⟩), hm, F.kp, F.binds (ps := ["thing"]) fun _ _ _ _ _ _ us hl => match us, hl with | [_], _ => rfl⟩
  ·
    obtain ⟨_, rfl, _⟩ := h; rfl
  ·
    obtain ⟨x, rfl, hz, q⟩ := h
    walk_at "go"
    cases hx : isTup x with
    | false =>
      refine br_t rfl (br_t rfl ?_)
      walk_at "go"
      have e : isFrac x = false := by cases x <;> first | rfl | cases hx
      rw [e] at q
      exact q
    | true =>
      obtain ⟨ds, rfl⟩ := tup_shape hx
      refine br_f rfl ?_
      walk_at "go"
      by_cases h2 : (ds.length : Int) = 2
      · refine br_f (by rw [decide_eq_true h2]; rfl) ?_
        obtain ⟨d0, d1, rfl⟩ : ∃ d0 d1, ds = [d0, d1] := by
          match ds, h2 with
          | [a, b], _ => exact ⟨a, b, rfl⟩
          | [], h => exact absurd h (by decide)
          | [_], h => exact absurd h (by simp)
          | _ :: _ :: _ :: _, h => simp at h; omega
        walk_at "go"
        refine o2_ixT (d := d0) rfl ?_
        walk_at "go"
        cases h0 : isInt d0 with
        | false =>
          refine br_t rfl (br_t rfl ?_)
          walk_at "go"
          have e : isFrac (.tuple [d0, d1]) = false := by cases d0 <;> first | rfl | cases h0
          rw [e] at q
          exact q
        | true =>
          obtain ⟨t, rfl⟩ := int_shape h0
          refine br_f rfl ?_
          walk_at "go"
          refine o2_ixT (d := d1) rfl ?_
          walk_at "go"
          cases h1 : isInt d1 with
          | false =>
            refine br_t rfl ?_
            walk_at "go"
            have e : isFrac (.tuple [.int t, d1]) = false := by cases d1 <;> first | rfl | cases h1
            rw [e] at q
            exact q
          | true =>
            obtain ⟨b, rfl⟩ := int_shape h1
            have hz : Bt b 8000 := hz
            refine br_f rfl (w_next ?_)
            walk_at "go"
            refine o2_ixT (d := .int b) rfl ?_
            walk_at "go"
            by_cases hb : (1 : Int) ≤ b
            · refine br_t (decide_eq_true hb) ?_
              obtain ⟨n, rfl⟩ : ∃ n : Nat, b = (n : Int) := ⟨b.toNat, by omega⟩
              walk_at "go"
              refine o2_ixT (d := .int t) rfl ?_
              walk_at "go"
              refine o2_ixT (d := .int (n : Int)) rfl ?_
              walk_at "go"
              refine ⟨by omega, hz, ?_⟩
              walk_at "go"
              refine o2_eq (shaped_frac _) (by simp [SeqAt.shaped, PyData.canLay0, PyData.canLayAll0, PyData.depth, PyData.depthAll]) ?_
              rw [eqv_frac2 t n (by omega)]
              have e : isFrac (.tuple [.int t, .int (n : Int)]) = decide (Nat.gcd n t.natAbs = 1) := by
                show (decide (1 ≤ (n : Int)) && decide (Nat.gcd ((n : Int)).toNat t.natAbs = 1)) = _
                rw [decide_eq_true hb, Int.toNat_natCast, Bool.true_and]
              rw [e] at q
              exact q
            · refine br_f (decide_eq_false hb) ?_
              have e : isFrac (.tuple [.int t, .int b]) = false := by
                show (decide (1 ≤ b) && decide (Nat.gcd b.toNat t.natAbs = 1)) = false
                rw [decide_eq_false hb, Bool.false_and]
              rw [e] at q
              exact q
      · refine br_t (by rw [decide_eq_false h2]; rfl) (br_t rfl ?_)
        walk_at "go"
        have e : isFrac (.tuple ds) = false := by
          match ds, h2 with
          | [], _ => rfl
          | [_], _ => simp [isFrac]
          | [a, b], h => exact absurd rfl h
          | _ :: _ :: _ :: _, _ => simp [isFrac]
        rw [e] at q
        exact q
abbrev s_lowest : Stmt := topS 17
theorem sc_lowest : FnScope ["top", "bottom"] ["top", "bottom"] (defScope s_lowest) := ⟨rfl, rfl, rfl, by decide +kernel, rfl, by decide +kernel, by decide +kernel⟩
theorem ok_lowest {a : Addr} {fd : FuncData} (F : Fun K "lowest" "lowest" s_lowest a fd) (hm : mg "lowest" = some (.ref a)) (k_is_whole : Cl P w K mg base 1 "is_whole" f_isWhole) (k_made : Cl P w K mg base 2 "made" f_made) (t_NoNumber : RfT K mg "NoNumber" c_NoNumber) :
    ClX P w K mg base 3 "lowest" (fnR [c_NoShares, c_NoKind, c_NoNumber, c_NoNeeds, c_TooMany, (0 : Addr), (0 : Addr), c_NoText] 2 rLow) := by
  refine ⟨a, fd, ["top", "bottom"], fnX_ok F sc_lowest (fun args m R X h => ?_) (fun cdv A outer s H E hr => ⟨_, (pss_cons (ps_if (PW.pt (pw_or (pt_not (pt_val (pe_cl k_is_whole hr (by decide) (by rfl) (pa_cons (pv 0) pa_nil)))) (pw_or (pt_not (pt_val (pe_cl k_is_whole hr (by decide) (by rfl) (pa_cons (pv 1) pa_nil)))) (pw_or1 (pt_cmpR oLt (pv 1) pe_int (nomark _)))))) (pss_one (ps_rf t_NoNumber (L2N.takes_of rfl rfl rfl rfl) (by rfl))) pss_nil)
      (PSs.nox (pss_one (ps_ret (pe_cl k_made hr (by decide) (by rfl) (pa_cons (pv 0) (pa_cons (pv 1) pa_nil))))))), fun args m R X h G0 hT => ?_⟩), hm, F.kp, F.binds (ps := ["top", "bottom"]) fun _ _ _ _ _ _ us hl => match us, hl with | [_, _], _ => rfl⟩
  ·
    exact fnR_len h
  ·
    obtain ⟨ds, rfl, hl, i, hi, hX⟩ := h
    match ds, hl, hi with
    | [x, y], _, hi =>
      obtain ⟨hb, rfl⟩ := hi
      refine wx_seq (wx_if ?_)
      walk_at "go"
      cases hx : isInt x with
      | false => exact br_t rfl (br_t rfl (wx_raise (hT _) hX))
      | true =>
        refine br_f rfl ?_
        walk_at "go"
        cases hy : isInt y with
        | false => exact br_t rfl (br_t rfl (wx_raise (hT _) hX))
        | true =>
          obtain ⟨b, rfl⟩ := int_shape hy
          refine br_f rfl ?_
          walk_at "go"
          unfold okLow at hb
          rw [hx, hy, Bool.true_and, Bool.true_and] at hb
          have hb : ¬ (1 : Int) ≤ b := of_decide_eq_false hb
          exact br_t (decide_eq_true (by omega)) (wx_raise (hT _) hX)
abbrev s_sum_of : Stmt := topS 18
theorem sc_sum_of : FnScope ["one", "other"] ["one", "other"] (defScope s_sum_of) := ⟨rfl, rfl, rfl, by decide +kernel, rfl, by decide +kernel, by decide +kernel⟩
theorem ok_sum_of {a : Addr} {fd : FuncData} (F : Fun K "sum_of" "sum_of" s_sum_of a fd) (hm : mg "sum_of" = some (.ref a)) (k_made : Cl P w K mg base 2 "made" f_made) :
    Cl P w K mg base 3 "sum_of" f_sumOf := by
  refine ⟨a, fd, ["one", "other"], fn_ok F sc_sum_of (fun args m R h => ?_) (fun cdv A outer s H E hr => ⟨_, (pss_one (ps_ret (pe_cl k_made hr (by decide) (by rfl) (pa_cons (pe_op (kAdd K) (pe_op (kMul K) (pe_ix (kIx K) (pv 0) pe_int (fun _ _ => rfl)) (pe_ix (kIx K) (pv 1) pe_int (fun _ _ => rfl))) (pe_op (kMul K) (pe_ix (kIx K) (pv 1) pe_int (fun _ _ => rfl)) (pe_ix (kIx K) (pv 0) pe_int (fun _ _ => rfl)))) (pa_cons (pe_op (kMul K) (pe_ix (kIx K) (pv 0) pe_int (fun _ _ => rfl)) (pe_ix (kIx K) (pv 1) pe_int (fun _ _ => rfl))) pa_nil))))), fun args m R h => ?_⟩), hm, F.kp, F.binds (ps := ["one", "other"]) fun _ _ _ _ _ _ us hl => match us, hl with | [_, _], _ => rfl⟩
  ·
    obtain ⟨_, _, rfl, _⟩ := h; rfl
  ·
    obtain ⟨p, r, rfl, hp, hr, q⟩ := h
    walk_at "go"
    refine o2_mulI (hp.1.cmul hr.2 (by decide)) ?_
    walk_at "go"
    refine o2_mulI (hr.1.cmul hp.2 (by decide)) ?_
    walk_at "go"
    refine o2_mulI (hp.2.cmul hr.2 (by decide)) ?_
    walk_at "go"
    refine ⟨Nat.mul_pos (den_pos p) (den_pos r), ?_, ?_⟩
    · rw [Int.natCast_mul]; exact (hp.2.mul hr.2).mono (by decide)
    · rw [← Rat.add_def']; exact q
abbrev s_times_of : Stmt := topS 19
theorem sc_times_of : FnScope ["one", "other"] ["one", "other"] (defScope s_times_of) := ⟨rfl, rfl, rfl, by decide +kernel, rfl, by decide +kernel, by decide +kernel⟩
theorem ok_times_of {a : Addr} {fd : FuncData} (F : Fun K "times_of" "times_of" s_times_of a fd) (hm : mg "times_of" = some (.ref a)) (k_made : Cl P w K mg base 2 "made" f_made) :
    Cl P w K mg base 3 "times_of" f_timesOf := by
  refine ⟨a, fd, ["one", "other"], fn_ok F sc_times_of (fun args m R h => ?_) (fun cdv A outer s H E hr => ⟨_, (pss_one (ps_ret (pe_cl k_made hr (by decide) (by rfl) (pa_cons (pe_op (kMul K) (pe_ix (kIx K) (pv 0) pe_int (fun _ _ => rfl)) (pe_ix (kIx K) (pv 1) pe_int (fun _ _ => rfl))) (pa_cons (pe_op (kMul K) (pe_ix (kIx K) (pv 0) pe_int (fun _ _ => rfl)) (pe_ix (kIx K) (pv 1) pe_int (fun _ _ => rfl))) pa_nil))))), fun args m R h => ?_⟩), hm, F.kp, F.binds (ps := ["one", "other"]) fun _ _ _ _ _ _ us hl => match us, hl with | [_, _], _ => rfl⟩
  ·
    obtain ⟨_, _, rfl, _⟩ := h; rfl
  ·
    obtain ⟨p, r, rfl, hp, hr, q⟩ := h
    walk_at "go"
    refine o2_mulI (hp.1.cmul hr.1 (by decide)) ?_
    walk_at "go"
    refine o2_mulI (hp.2.cmul hr.2 (by decide)) ?_
    walk_at "go"
    refine ⟨Nat.mul_pos (den_pos p) (den_pos r), ?_, ?_⟩
    · rw [Int.natCast_mul]; exact (hp.2.mul hr.2).mono (by decide)
    · rw [← Rat.mul_def']; exact q
abbrev s_need_shares : Stmt := topS 29
theorem sc_need_shares : FnScope ["shares"] ["shares"] (defScope s_need_shares) := ⟨rfl, rfl, rfl, by decide +kernel, rfl, by decide +kernel, by decide +kernel⟩
theorem ok_need_shares {a : Addr} {fd : FuncData} (F : Fun K "need_shares" "need_shares" s_need_shares a fd) (hm : mg "need_shares" = some (.ref a)) (k_is_shares : Cl P w K mg base 2 "is_shares" f_isShares) (t_NoShares : RfT K mg "NoShares" c_NoShares) :
    ClX P w K mg base 3 "need_shares" (fnE [c_NoShares, c_NoKind, c_NoNumber, c_NoNeeds, c_TooMany, (0 : Addr), (0 : Addr), c_NoText] 1 eNeedShares anyD) := by
  refine ⟨a, fd, ["shares"], fnX_ok F sc_need_shares (fun args m R X h => ?_) (fun cdv A outer s H E hr => ⟨_, (pss_one (ps_if (pt_not (pt_val (pe_cl k_is_shares hr (by decide) (by rfl) (pa_cons (pv 0) pa_nil)))) (pss_one (ps_rf t_NoShares (L2N.takes_of rfl rfl rfl rfl) (by rfl))) pss_nil)), fun args m R X h G0 hT => ?_⟩), hm, F.kp, F.binds (ps := ["shares"]) fun _ _ _ _ _ _ us hl => match us, hl with | [_], _ => rfl⟩
  ·
    exact fnE_len h
  ·
    obtain ⟨ds, rfl, hl, _, h1, h2⟩ := h
    obtain ⟨x, rfl⟩ := List.length_eq_one_iff.mp hl
    refine wx_if ?_
    walk_at "go"
    cases hx : isShares x with
    | true => exact br_f rfl (wx_next (h1 _ (if_pos hx)))
    | false => exact br_t rfl (wx_raise (hT _) (h2 0 (if_neg (by rw [hx]; decide))))
abbrev s_need_kinds : Stmt := topS 31
theorem sc_need_kinds : FnScope ["shares", "some"] ["shares", "some"] (defScope s_need_kinds) := ⟨rfl, rfl, rfl, by decide +kernel, rfl, by decide +kernel, by decide +kernel⟩
theorem ok_need_kinds {a : Addr} {fd : FuncData} (F : Fun K "need_kinds" "need_kinds" s_need_kinds a fd) (hm : mg "need_kinds" = some (.ref a)) (z_len : mg "len" = none) (k_are_kinds : Cl P w K mg base 2 "are_kinds" f_areKinds) (t_NoKind : RfT K mg "NoKind" c_NoKind) :
    ClX P w K mg base 3 "need_kinds" (fnC [c_NoShares, c_NoKind, c_NoNumber, c_NoNeeds, c_TooMany, (0 : Addr), (0 : Addr), c_NoText] 2 1 bKinds preKinds) := by
  refine ⟨a, fd, ["shares", "some"], fnX_ok F sc_need_kinds (fun args m R X h => ?_) (fun cdv A outer s H E hr => ⟨_, (pss_one (ps_if (pt_not (pt_val (pe_cl k_are_kinds hr (by decide) (by rfl) (pa_cons (pv 1) (pa_cons (pe_callB (kLen K) (by rfl) z_len (by decide +kernel) (pa_cons (pv 0) pa_nil)) pa_nil))))) (pss_one (ps_rf t_NoKind (L2N.takes_of rfl rfl rfl rfl) (by rfl))) pss_nil)), fun args m R X h G0 hT => ?_⟩), hm, F.kp, F.binds (ps := ["shares", "some"]) fun _ _ _ _ _ _ us hl => match us, hl with | [_, _], _ => rfl⟩
  ·
    exact fnC_len h
  ·
    obtain ⟨ds, rfl, hl, hp, h1, h2⟩ := h
    match ds, hp with
    | [.tuple es, x], hp =>
      refine wx_if ?_
      walk_at "go"
      refine ⟨hp, ?_⟩
      walk_at "go"
      cases hx : areKinds x (es.length : Int) with
      | true => exact br_f rfl (wx_next (h1 hx))
      | false => exact br_t rfl (wx_raise (hT _) (h2 hx))
abbrev s_share_by : Stmt := topS 65
theorem ok_share_by {a : Addr} {fd : FuncData} (F : Fun K "share_by" "share_by" s_share_by a fd) (hm : mg "share_by" = some (.ref a)) : Cl P w K mg base 3 "share_by" f_never := cl_zero F (fun _ _ _ h => h) hm (F.binds (ps := ["shares", "number"]) fun _ _ _ _ _ _ us hl => match us, hl with | [_, _], _ => rfl)
abbrev s_need_pack : Stmt := topS 74
theorem sc_need_pack : FnScope ["many", "size"] ["many", "size"] (defScope s_need_pack) := ⟨rfl, rfl, rfl, by decide +kernel, rfl, by decide +kernel, by decide +kernel⟩
theorem ok_need_pack {a : Addr} {fd : FuncData} (F : Fun K "need_pack" "need_pack" s_need_pack a fd) (hm : mg "need_pack" = some (.ref a)) (z_min : mg "min" = none) (c_MOST_KINDS : ∃ t, mg "MOST_KINDS" = some (.int 5 t)) (c_MOST_SIZE : ∃ t, mg "MOST_SIZE" = some (.int 3 t)) (q_need_number : ClX P w K mg base 2 "need_number" (fnE [c_NoShares, c_NoKind, c_NoNumber, c_NoNeeds, c_TooMany, (0 : Addr), (0 : Addr), c_NoText] 3 eNeedNumber preNumber)) :
    ClX P w K mg base 3 "need_pack" (fnC [c_NoShares, c_NoKind, c_NoNumber, c_NoNeeds, c_TooMany, (0 : Addr), (0 : Addr), c_NoText] 2 2 bPack anyD) := by
  refine ⟨a, fd, ["many", "size"], fnX_ok F sc_need_pack (fun args m R X h => ?_) (fun cdv A outer s H E hr => ⟨_, (pss_cons (ps_expr (pe_clX q_need_number hr (by decide) (by rfl) (L2N.takes_of rfl rfl rfl rfl) (pa_cons (pv 0) (pa_cons pe_int (pa_cons (pe_gi c_MOST_KINDS (by rfl)) pa_nil)))))
      (pss_one (ps_expr (pe_clX q_need_number hr (by decide) (by rfl) (L2N.takes_of rfl rfl rfl rfl) (pa_cons (pv 1) (pa_cons pe_int (pa_cons (pe_callB (cMin rfl) (by rfl) z_min (by decide +kernel) (pa_cons (pv 0) (pa_cons (pe_gi c_MOST_SIZE (by rfl)) pa_nil))) pa_nil))))))), fun args m R X h G0 hT => ?_⟩), hm, F.kp, F.binds (ps := ["many", "size"]) fun _ _ _ _ _ _ us hl => match us, hl with | [_, _], _ => rfl⟩
  ·
    exact fnC_len h
  ·
    obtain ⟨ds, rfl, hl, hp, h1, h2⟩ := h
    match ds, hl with
    | [a, s], _ =>
      refine wx_seq (wx_drop (evx_call (hT _) ?_))
      walk_at "go"
      refine ⟨[a, .int 1, .int 5], rfl, rfl, trivial, fun d hd => ?_, fun i hi => ?_⟩
      rotate_left
      · obtain ⟨hx, rfl⟩ := nNumber_no hi
        exact h2 (by show okPk a s = false; unfold okPk; rw [hx]; rfl)
      have ha := nNumber_ok hd
      obtain ⟨x, rfl, hx1, hx2⟩ := okNum_int ha
      refine wx_drop (evx_call (hT _) ?_)
      walk_at "go"
      refine ⟨[s, .int 1, .int (min x 3)], rfl, rfl, trivial, fun d hd => ?_, fun i hi => ?_⟩
      rotate_left
      · obtain ⟨hx, rfl⟩ := nNumber_no hi
        exact h2 (by show okPk (.int x) s = false; unfold okPk; rw [show intOf (.int x) = x from rfl, hx, Bool.and_false])
      exact h1 (by show okPk (.int x) s = true; unfold okPk; rw [show intOf (.int x) = x from rfl, ha, nNumber_ok hd]; rfl)
abbrev s_need_fraction : Stmt := topS 14
theorem sc_need_fraction : FnScope ["thing"] ["thing"] (defScope s_need_fraction) := ⟨rfl, rfl, rfl, by decide +kernel, rfl, by decide +kernel, by decide +kernel⟩
theorem ok_need_fraction {a : Addr} {fd : FuncData} (F : Fun K "need_fraction" "need_fraction" s_need_fraction a fd) (hm : mg "need_fraction" = some (.ref a)) (k_is_fraction : Cl P w K mg base 3 "is_fraction" f_isFrac) (t_NoNumber : RfT K mg "NoNumber" c_NoNumber) :
    ClX P w K mg base 4 "need_fraction" (fnC [c_NoShares, c_NoKind, c_NoNumber, c_NoNeeds, c_TooMany, (0 : Addr), (0 : Addr), c_NoText] 1 2 bFrac preFrac) := by
  refine ⟨a, fd, ["thing"], fnX_ok F sc_need_fraction (fun args m R X h => ?_) (fun cdv A outer s H E hr => ⟨_, (pss_one (ps_if (pt_not (pt_val (pe_cl k_is_fraction hr (by decide) (by rfl) (pa_cons (pv 0) pa_nil)))) (pss_one (ps_rf t_NoNumber (L2N.takes_of rfl rfl rfl rfl) (by rfl))) pss_nil)), fun args m R X h G0 hT => ?_⟩), hm, F.kp, F.binds (ps := ["thing"]) fun _ _ _ _ _ _ us hl => match us, hl with | [_], _ => rfl⟩
  ·
    exact fnC_len h
  ·
    obtain ⟨ds, rfl, hl, hp, h1, h2⟩ := h
    match ds, hp with
    | [x], hp =>
      refine wx_if ?_
      walk_at "go"
      refine ⟨hp, ?_⟩
      walk_at "go"
      cases hx : isFrac x with
      | true => exact br_f rfl (wx_next (h1 hx))
      | false => exact br_t rfl (wx_raise (hT _) (h2 hx))
abbrev s_total : Stmt := topS 33
theorem sc_total : FnScope ["shares"] ["shares"] (defScope s_total) := ⟨rfl, rfl, rfl, by decide +kernel, rfl, by decide +kernel, by decide +kernel⟩
theorem ok_total {a : Addr} {fd : FuncData} (F : Fun K "total" "total" s_total a fd) (hm : mg "total" = some (.ref a)) (z_sum : mg "sum" = none) (q_need_shares : ClX P w K mg base 3 "need_shares" (fnE [c_NoShares, c_NoKind, c_NoNumber, c_NoNeeds, c_TooMany, (0 : Addr), (0 : Addr), c_NoText] 1 eNeedShares anyD)) :
    ClX P w K mg base 4 "total" (fnR [c_NoShares, c_NoKind, c_NoNumber, c_NoNeeds, c_TooMany, (0 : Addr), (0 : Addr), c_NoText] 1 rS1) := by
  refine ⟨a, fd, ["shares"], fnX_ok F sc_total (fun args m R X h => ?_) (fun cdv A outer s H E hr => ⟨_, (pss_cons (ps_expr (pe_clX q_need_shares hr (by decide) (by rfl) (L2N.takes_of rfl rfl rfl rfl) (pa_cons (pv 0) pa_nil)))
      (PSs.nox (pss_one (ps_ret (pe_callB (kSum K) (by rfl) z_sum (by decide +kernel) (pa_cons (pv 0) pa_nil)))))), fun args m R X h G0 hT => ?_⟩), hm, F.kp, F.binds (ps := ["shares"]) fun _ _ _ _ _ _ us hl => match us, hl with | [_], _ => rfl⟩
  ·
    exact fnR_len h
  ·
    obtain ⟨ds, rfl, hl, i, hi, hX⟩ := h
    match ds, hl, hi with
    | [sh], _, hi =>
      refine wx_seq (wx_drop (evx_call (hT _) ?_))
      walk_at "go"
      refine ⟨[sh], rfl, rfl, trivial, fun d hd => ?_, fun j hj => ?_⟩
      rotate_left
      · obtain rfl := (st_no hi).1 j hj
        exact hX
      exact absurd hd ((st_no hi).2 d)
abbrev s_part : Stmt := topS 34
theorem sc_part : FnScope ["shares", "some"] ["shares", "some"] (defScope s_part) := ⟨rfl, rfl, rfl, by decide +kernel, rfl, by decide +kernel, by decide +kernel⟩
theorem ok_part {a : Addr} {fd : FuncData} (F : Fun K "part" "part" s_part a fd) (hm : mg "part" = some (.ref a)) (z_sum : mg "sum" = none) (k_made : Cl P w K mg base 2 "made" f_made) (k_sum_part : Cl P w K mg base 1 "sum_part" f_never) (q_need_shares : ClX P w K mg base 3 "need_shares" (fnE [c_NoShares, c_NoKind, c_NoNumber, c_NoNeeds, c_TooMany, (0 : Addr), (0 : Addr), c_NoText] 1 eNeedShares anyD)) (q_need_kinds : ClX P w K mg base 3 "need_kinds" (fnC [c_NoShares, c_NoKind, c_NoNumber, c_NoNeeds, c_TooMany, (0 : Addr), (0 : Addr), c_NoText] 2 1 bKinds preKinds)) :
    ClX P w K mg base 4 "part" (fnR [c_NoShares, c_NoKind, c_NoNumber, c_NoNeeds, c_TooMany, (0 : Addr), (0 : Addr), c_NoText] 2 rPart) := by
  refine ⟨a, fd, ["shares", "some"], fnX_ok F sc_part (fun args m R X h => ?_) (fun cdv A outer s H E hr => ⟨_, (pss_cons (ps_expr (pe_clX q_need_shares hr (by decide) (by rfl) (L2N.takes_of rfl rfl rfl rfl) (pa_cons (pv 0) pa_nil)))
      (pss_cons (ps_expr (pe_clX q_need_kinds hr (by decide) (by rfl) (L2N.takes_of rfl rfl rfl rfl) (pa_cons (pv 0) (pa_cons (pv 1) pa_nil))))
      (PSs.nox (pss_one (ps_ret (pe_cl k_made hr (by decide) (by rfl) (pa_cons (pe_cl k_sum_part hr (by decide) (by rfl) (pa_cons (pv 0) (pa_cons (pv 1) pa_nil))) (pa_cons (pe_callB (kSum K) (by rfl) z_sum (by decide +kernel) (pa_cons (pv 0) pa_nil)) pa_nil)))))))), fun args m R X h G0 hT => ?_⟩), hm, F.kp, F.binds (ps := ["shares", "some"]) fun _ _ _ _ _ _ us hl => match us, hl with | [_, _], _ => rfl⟩
  ·
    exact fnR_len h
  ·
    obtain ⟨ds, rfl, hl, i, hi, hX⟩ := h
    match ds, hl, hi with
    | [sh, one], _, hi =>
      refine wx_seq (wx_drop (evx_call (hT _) ?_))
      walk_at "go"
      refine ⟨[sh], rfl, rfl, trivial, fun d hd => ?_, fun j hj => ?_⟩
      rotate_left
      · obtain rfl := (st_sh hi).1 j hj
        exact hX
      obtain ⟨ss, rfl, hs, hq⟩ := (st_sh hi).2 d hd
      obtain ⟨hsd, hk, rfl⟩ := hq
      refine wx_seq (wx_drop (evx_call (hT _) ?_))
      walk_at "go"
      refine ⟨[tupI ss, one], rfl, rfl, hsd, fun hb => ?_, fun hb => ?_⟩
      · have hb : areKinds one ((ss.map PyData.int).length : Int) = true := hb
        rw [List.length_map, hk] at hb; cases hb
      · exact hX
abbrev s_are_needs : Stmt := topS 41
theorem sc_are_needs : FnScope ["thing", "shares"] ["thing", "shares"] (defScope s_are_needs) := ⟨rfl, rfl, rfl, by decide +kernel, rfl, by decide +kernel, by decide +kernel⟩
theorem fok_are_needs {a : Addr} {fd : FuncData} (F : Fun K "are_needs" "are_needs" s_are_needs a fd) (hm : mg "are_needs" = some (.ref a)) (k_need_shares : Cl P w K mg base 3 "need_shares" f_needShares) (k_right_needs : Cl P w K mg base 2 "right_needs" f_rightNeeds) :
    FnOk P w K mg base CX0 4 a fd ["thing", "shares"] (spD K f_areNeeds) := by
  refine fn_ok F sc_are_needs (fun args m R h => ?_) (fun cdv A outer s H E hr => ⟨_, (pss_cons (ps_expr (pe_cl k_need_shares hr (by decide) (by rfl) (pa_cons (pv 1) pa_nil)))
      (pss_one (ps_ret (pe_cl k_right_needs hr (by decide) (by rfl) (pa_cons (pv 0) (pa_cons (pv 1) pa_nil)))))), fun args m R h => ?_⟩)
  ·
    obtain ⟨_, _, rfl, _⟩ := h; rfl
  ·
    obtain ⟨x, ss, rfl, hs, q⟩ := h
    walk_at "go"
    refine ⟨isShares_of hs, ?_⟩
    walk_at "go"
    exact ⟨hs.few, q⟩
theorem ok_are_needs {a : Addr} {fd : FuncData} (F : Fun K "are_needs" "are_needs" s_are_needs a fd) (hm : mg "are_needs" = some (.ref a)) (o : FnOk P w K mg base CX0 4 a fd ["thing", "shares"] (spD K f_areNeeds)) : Cl P w K mg base 4 "are_needs" f_areNeeds := ⟨a, fd, ["thing", "shares"], o, hm, F.kp, F.binds (ps := ["thing", "shares"]) fun _ _ _ _ _ _ us hl => match us, hl with | [_, _], _ => rfl⟩
theorem okx_are_needs {a : Addr} {fd : FuncData} (F : Fun K "are_needs" "are_needs" s_are_needs a fd) (hm : mg "are_needs" = some (.ref a)) (k_right_needs : Cl P w K mg base 2 "right_needs" f_rightNeeds) (q_need_shares : ClX P w K mg base 3 "need_shares" (fnE [c_NoShares, c_NoKind, c_NoNumber, c_NoNeeds, c_TooMany, (0 : Addr), (0 : Addr), c_NoText] 1 eNeedShares anyD)) (o : FnOk P w K mg base CX0 4 a fd ["thing", "shares"] (spD K f_areNeeds)) :
    ClX P w K mg base 4 "are_needs" (orX f_areNeeds (fnR [c_NoShares, c_NoKind, c_NoNumber, c_NoNeeds, c_TooMany, (0 : Addr), (0 : Addr), c_NoText] 2 rS2)) := by
  refine ⟨a, fd, ["thing", "shares"], fnOk_or o (fnX_ok F sc_are_needs (fun args m R X h => ?_) (fun cdv A outer s H E hr => ⟨_, (pss_cons (ps_expr (pe_clX q_need_shares hr (by decide) (by rfl) (L2N.takes_of rfl rfl rfl rfl) (pa_cons (pv 1) pa_nil)))
      (PSs.nox (pss_one (ps_ret (pe_cl k_right_needs hr (by decide) (by rfl) (pa_cons (pv 0) (pa_cons (pv 1) pa_nil))))))), fun args m R X h G0 hT => ?_⟩)), hm, F.kp, F.binds (ps := ["thing", "shares"]) fun _ _ _ _ _ _ us hl => match us, hl with | [_, _], _ => rfl⟩
  ·
    exact fnR_len h
  ·
    obtain ⟨ds, rfl, hl, i, hi, hX⟩ := h
    match ds, hl, hi with
    | [one, sh], _, hi =>
      refine wx_seq (wx_drop (evx_call (hT _) ?_))
      walk_at "go"
      refine ⟨[sh], rfl, rfl, trivial, fun d hd => ?_, fun j hj => ?_⟩
      rotate_left
      · obtain rfl := (st_no hi).1 j hj
        exact hX
      exact absurd hd ((st_no hi).2 d)
abbrev s_need_needs : Stmt := topS 42
theorem sc_need_needs : FnScope ["shares", "needs"] ["shares", "needs"] (defScope s_need_needs) := ⟨rfl, rfl, rfl, by decide +kernel, rfl, by decide +kernel, by decide +kernel⟩
theorem ok_need_needs {a : Addr} {fd : FuncData} (F : Fun K "need_needs" "need_needs" s_need_needs a fd) (hm : mg "need_needs" = some (.ref a)) (k_right_needs : Cl P w K mg base 2 "right_needs" f_rightNeeds) (q_need_shares : ClX P w K mg base 3 "need_shares" (fnE [c_NoShares, c_NoKind, c_NoNumber, c_NoNeeds, c_TooMany, (0 : Addr), (0 : Addr), c_NoText] 1 eNeedShares anyD)) (t_NoNeeds : RfT K mg "NoNeeds" c_NoNeeds) :
    ClX P w K mg base 4 "need_needs" (fnE [c_NoShares, c_NoKind, c_NoNumber, c_NoNeeds, c_TooMany, (0 : Addr), (0 : Addr), c_NoText] 2 eNeedNeeds anyD) := by
  refine ⟨a, fd, ["shares", "needs"], fnX_ok F sc_need_needs (fun args m R X h => ?_) (fun cdv A outer s H E hr => ⟨_, (pss_cons (ps_expr (pe_clX q_need_shares hr (by decide) (by rfl) (L2N.takes_of rfl rfl rfl rfl) (pa_cons (pv 0) pa_nil)))
      (pss_one (ps_if (pt_not (pt_val (pe_cl k_right_needs hr (by decide) (by rfl) (pa_cons (pv 1) (pa_cons (pv 0) pa_nil))))) (pss_one (ps_rf t_NoNeeds (L2N.takes_of rfl rfl rfl rfl) (by rfl))) pss_nil))), fun args m R X h G0 hT => ?_⟩), hm, F.kp, F.binds (ps := ["shares", "needs"]) fun _ _ _ _ _ _ us hl => match us, hl with | [_, _], _ => rfl⟩
  ·
    exact fnE_len h
  ·
    obtain ⟨ds, rfl, hl, _, h1, h2⟩ := h
    match ds, hl with
    | [sh, x], _ =>
      refine wx_seq (wx_drop (evx_call (hT _) ?_))
      walk_at "go"
      refine ⟨[sh], rfl, rfl, trivial, fun d hd => ?_, fun i hi => ?_⟩
      rotate_left
      · obtain ⟨hx, rfl⟩ := nShares_no hi
        exact h2 0 (by simp only [eNeedNeeds, hx]; rfl)
      have hsh := nShares_ok hd
      obtain ⟨ss, rfl, hs⟩ := shares_of hsh
      refine wx_if ?_
      walk_at "go"
      refine ⟨hs.few, ?_⟩
      walk_at "go"
      cases hx : rightN ss.length x with
      | true => exact br_f rfl (wx_next (h1 .none (by simp only [eNeedNeeds, hsh, intsOf_tupI, hx, if_true])))
      | false => exact br_t rfl (wx_raise (hT _) (h2 3 (by simp only [eNeedNeeds, hsh, intsOf_tupI, hx, if_true]; rfl)))
abbrev s_due_number : Stmt := topS 51
theorem ok_due_number {a : Addr} {fd : FuncData} (F : Fun K "due_number" "due_number" s_due_number a fd) (hm : mg "due_number" = some (.ref a)) : Cl P w K mg base 4 "due_number" f_never := cl_zero F (fun _ _ _ h => h) hm (F.binds (ps := ["shares", "paper", "some"]) fun _ _ _ _ _ _ us hl => match us, hl with | [_, _, _], _ => rfl)
abbrev s_is_paper : Stmt := topS 54
theorem ok_is_paper {a : Addr} {fd : FuncData} (F : Fun K "is_paper" "is_paper" s_is_paper a fd) (hm : mg "is_paper" = some (.ref a)) : Cl P w K mg base 4 "is_paper" f_never := cl_zero F (fun _ _ _ h => h) hm (F.binds (ps := ["thing", "shares"]) fun _ _ _ _ _ _ us hl => match us, hl with | [_, _], _ => rfl)
abbrev s_just_cases : Stmt := topS 63
theorem sc_just_cases : FnScope ["shares", "some", "number"] ["shares", "some", "number"] (defScope s_just_cases) := ⟨rfl, rfl, rfl, by decide +kernel, rfl, by decide +kernel, by decide +kernel⟩
theorem ok_just_cases {a : Addr} {fd : FuncData} (F : Fun K "just_cases" "just_cases" s_just_cases a fd) (hm : mg "just_cases" = some (.ref a)) (c_MOST_DRAWS_coming : ∃ t, mg "MOST_DRAWS_coming" = some (.int 12 t)) (k_cases_of : Cl P w K mg base 2 "cases_of" f_never) (q_need_shares : ClX P w K mg base 3 "need_shares" (fnE [c_NoShares, c_NoKind, c_NoNumber, c_NoNeeds, c_TooMany, (0 : Addr), (0 : Addr), c_NoText] 1 eNeedShares anyD)) (q_need_kinds : ClX P w K mg base 3 "need_kinds" (fnC [c_NoShares, c_NoKind, c_NoNumber, c_NoNeeds, c_TooMany, (0 : Addr), (0 : Addr), c_NoText] 2 1 bKinds preKinds)) (q_need_number : ClX P w K mg base 2 "need_number" (fnE [c_NoShares, c_NoKind, c_NoNumber, c_NoNeeds, c_TooMany, (0 : Addr), (0 : Addr), c_NoText] 3 eNeedNumber preNumber)) :
    ClX P w K mg base 4 "just_cases" (fnR [c_NoShares, c_NoKind, c_NoNumber, c_NoNeeds, c_TooMany, (0 : Addr), (0 : Addr), c_NoText] 3 rJust) := by
  refine ⟨a, fd, ["shares", "some", "number"], fnX_ok F sc_just_cases (fun args m R X h => ?_) (fun cdv A outer s H E hr => ⟨_, (pss_cons (ps_expr (pe_clX q_need_shares hr (by decide) (by rfl) (L2N.takes_of rfl rfl rfl rfl) (pa_cons (pv 0) pa_nil)))
      (pss_cons (ps_expr (pe_clX q_need_kinds hr (by decide) (by rfl) (L2N.takes_of rfl rfl rfl rfl) (pa_cons (pv 0) (pa_cons (pv 1) pa_nil))))
      (pss_cons (ps_expr (pe_clX q_need_number hr (by decide) (by rfl) (L2N.takes_of rfl rfl rfl rfl) (pa_cons (pv 2) (pa_cons pe_int (pa_cons (pe_gi c_MOST_DRAWS_coming (by rfl)) pa_nil)))))
      (PSs.nox (pss_one (ps_ret (pe_cl k_cases_of hr (by decide) (by rfl) (pa_cons (pv 0) (pa_cons (pv 1) (pa_cons (pv 2) pa_nil)))))))))), fun args m R X h G0 hT => ?_⟩), hm, F.kp, F.binds (ps := ["shares", "some", "number"]) fun _ _ _ _ _ _ us hl => match us, hl with | [_, _, _], _ => rfl⟩
  ·
    exact fnR_len h
  ·
    obtain ⟨ds, rfl, hl, i, hi, hX⟩ := h
    match ds, hl, hi with
    | [sh, one, other], _, hi =>
      refine wx_seq (wx_drop (evx_call (hT _) ?_))
      walk_at "go"
      refine ⟨[sh], rfl, rfl, trivial, fun d hd => ?_, fun j hj => ?_⟩
      rotate_left
      · obtain rfl := (st_sh hi).1 j hj
        exact hX
      obtain ⟨ss, rfl, hs, hq⟩ := (st_sh hi).2 d hd
      obtain ⟨hsd, hq⟩ := hq
      refine wx_seq (wx_drop (evx_call (hT _) ?_))
      walk_at "go"
      refine ⟨[tupI ss, one], rfl, rfl, hsd, fun hb => ?_, fun hb => ?_⟩
      rotate_left
      · have hb : areKinds one ((ss.map PyData.int).length : Int) = false := hb
        rw [List.length_map] at hb
        rcases hq with ⟨_, rfl⟩ | ⟨hk, _⟩
        · exact hX
        · rw [hk] at hb; cases hb
      have hb : areKinds one ((ss.map PyData.int).length : Int) = true := hb
      rw [List.length_map] at hb
      rcases hq with ⟨hk, _⟩ | ⟨_, hn, rfl⟩
      · rw [hk] at hb; cases hb
      refine wx_seq (wx_drop (evx_call (hT _) ?_))
      walk_at "go"
      refine ⟨[other, .int 0, .int 12], rfl, rfl, trivial, fun d hd => ?_, fun j hj => ?_⟩
      rotate_left
      · obtain ⟨_, rfl⟩ := nNumber_no hj
        exact hX
      have hb := nNumber_ok hd
      rw [hn] at hb; cases hb
abbrev s_all_share : Stmt := topS 66
theorem sc_all_share : FnScope ["shares", "number"] ["shares", "number"] (defScope s_all_share) := ⟨rfl, rfl, rfl, by decide +kernel, rfl, by decide +kernel, by decide +kernel⟩
theorem ok_all_share {a : Addr} {fd : FuncData} (F : Fun K "all_share" "all_share" s_all_share a fd) (hm : mg "all_share" = some (.ref a)) (c_MOST_DRAWS_coming : ∃ t, mg "MOST_DRAWS_coming" = some (.int 12 t)) (k_share_by : Cl P w K mg base 3 "share_by" f_never) (q_need_shares : ClX P w K mg base 3 "need_shares" (fnE [c_NoShares, c_NoKind, c_NoNumber, c_NoNeeds, c_TooMany, (0 : Addr), (0 : Addr), c_NoText] 1 eNeedShares anyD)) (q_need_number : ClX P w K mg base 2 "need_number" (fnE [c_NoShares, c_NoKind, c_NoNumber, c_NoNeeds, c_TooMany, (0 : Addr), (0 : Addr), c_NoText] 3 eNeedNumber preNumber)) :
    ClX P w K mg base 4 "all_share" (fnR [c_NoShares, c_NoKind, c_NoNumber, c_NoNeeds, c_TooMany, (0 : Addr), (0 : Addr), c_NoText] 2 rNum12) := by
  refine ⟨a, fd, ["shares", "number"], fnX_ok F sc_all_share (fun args m R X h => ?_) (fun cdv A outer s H E hr => ⟨_, (pss_cons (ps_expr (pe_clX q_need_shares hr (by decide) (by rfl) (L2N.takes_of rfl rfl rfl rfl) (pa_cons (pv 0) pa_nil)))
      (pss_cons (ps_expr (pe_clX q_need_number hr (by decide) (by rfl) (L2N.takes_of rfl rfl rfl rfl) (pa_cons (pv 1) (pa_cons pe_int (pa_cons (pe_gi c_MOST_DRAWS_coming (by rfl)) pa_nil)))))
      (PSs.nox (pss_one (ps_ret (pe_cl k_share_by hr (by decide) (by rfl) (pa_cons (pv 0) (pa_cons (pv 1) pa_nil)))))))), fun args m R X h G0 hT => ?_⟩), hm, F.kp, F.binds (ps := ["shares", "number"]) fun _ _ _ _ _ _ us hl => match us, hl with | [_, _], _ => rfl⟩
  ·
    exact fnR_len h
  ·
    obtain ⟨ds, rfl, hl, i, hi, hX⟩ := h
    match ds, hl, hi with
    | [sh, one], _, hi =>
      refine wx_seq (wx_drop (evx_call (hT _) ?_))
      walk_at "go"
      refine ⟨[sh], rfl, rfl, trivial, fun d hd => ?_, fun j hj => ?_⟩
      rotate_left
      · obtain rfl := (st_sh hi).1 j hj
        exact hX
      obtain ⟨ss, rfl, hs, hq⟩ := (st_sh hi).2 d hd
      obtain ⟨hn, rfl⟩ := hq
      refine wx_seq (wx_drop (evx_call (hT _) ?_))
      walk_at "go"
      refine ⟨[one, .int 0, .int 12], rfl, rfl, trivial, fun d hd => ?_, fun j hj => ?_⟩
      rotate_left
      · obtain ⟨_, rfl⟩ := nNumber_no hj
        exact hX
      have hb := nNumber_ok hd
      rw [hn] at hb; cases hb
abbrev s_last_share : Stmt := topS 67
theorem sc_last_share : FnScope ["shares", "number", "top", "bottom"] ["shares", "number"] (defScope s_last_share) := ⟨rfl, rfl, rfl, by decide +kernel, rfl, by decide +kernel, by decide +kernel⟩
theorem ok_last_share {a : Addr} {fd : FuncData} (F : Fun K "last_share" "last_share" s_last_share a fd) (hm : mg "last_share" = some (.ref a)) (c_MOST_DRAWS_coming : ∃ t, mg "MOST_DRAWS_coming" = some (.int 12 t)) (c_NOUGHT : ∃ a, mg "NOUGHT" = some (.ref a) ∧ ∀ G, Rp K G (.tuple [.int 0, .int 1]) (.ref a)) (k_share_by : Cl P w K mg base 3 "share_by" f_never) (k_sum_of : Cl P w K mg base 3 "sum_of" f_sumOf) (q_need_shares : ClX P w K mg base 3 "need_shares" (fnE [c_NoShares, c_NoKind, c_NoNumber, c_NoNeeds, c_TooMany, (0 : Addr), (0 : Addr), c_NoText] 1 eNeedShares anyD)) (q_need_number : ClX P w K mg base 2 "need_number" (fnE [c_NoShares, c_NoKind, c_NoNumber, c_NoNeeds, c_TooMany, (0 : Addr), (0 : Addr), c_NoText] 3 eNeedNumber preNumber)) :
    ClX P w K mg base 4 "last_share" (fnR [c_NoShares, c_NoKind, c_NoNumber, c_NoNeeds, c_TooMany, (0 : Addr), (0 : Addr), c_NoText] 2 rNum12) := by
  obtain ⟨a_NOUGHT, h_NOUGHT, d_NOUGHT⟩ := c_NOUGHT
  refine ⟨a, fd, ["shares", "number"], fnX_ok F sc_last_share (fun args m R X h => ?_) (fun cdv A outer s H E hr => ⟨_, (pss_cons (ps_expr (pe_clX q_need_shares hr (by decide) (by rfl) (L2N.takes_of rfl rfl rfl rfl) (pa_cons (pv 0) pa_nil)))
      (pss_cons (ps_expr (pe_clX q_need_number hr (by decide) (by rfl) (L2N.takes_of rfl rfl rfl rfl) (pa_cons (pv 1) (pa_cons pe_int (pa_cons (pe_gi c_MOST_DRAWS_coming (by rfl)) pa_nil)))))
      (PSs.nox (pss_cons (ps_if (pt_cmpR (kEq K hr) (pv 1) pe_int (nomark _)) (pss_one (ps_ret (pe_glob (v := V.ref a_NOUGHT) (by rfl) h_NOUGHT rfl))) pss_nil)
      (pss_cons (ps_asg (pe_cl k_share_by hr (by decide) (by rfl) (pa_cons (pv 0) (pa_cons (pe_op oSub (pv 1) pe_int) pa_nil))) (kgT K (pg_tup (n := 2) rfl (pgs_cons (pg_name (i := 2) sc_last_share.nd rfl (by first | exact Or.inl rfl | exact Or.inr rfl)) (pgs_cons (pg_name (i := 3) sc_last_share.nd rfl (by first | exact Or.inl rfl | exact Or.inr rfl)) pgs_nil)))))
      (pss_one (ps_ret (pe_cl k_sum_of hr (by decide) (by rfl) (pa_cons (pe_cl k_share_by hr (by decide) (by rfl) (pa_cons (pv 0) (pa_cons (pv 1) pa_nil))) (pa_cons (pe_tup (pa_cons (pe_op oSub pe_int (pv 2)) (pa_cons (pv 3) pa_nil))) pa_nil)))))))))), fun args m R X h G0 hT => ?_⟩), hm, F.kp, F.binds (ps := ["shares", "number"]) fun _ _ _ _ _ _ us hl => match us, hl with | [_, _], _ => rfl⟩
  ·
    exact fnR_len h
  ·
    obtain ⟨ds, rfl, hl, i, hi, hX⟩ := h
    match ds, hl, hi with
    | [sh, one], _, hi =>
      refine wx_seq (wx_drop (evx_call (hT _) ?_))
      walk_at "go"
      refine ⟨[sh], rfl, rfl, trivial, fun d hd => ?_, fun j hj => ?_⟩
      rotate_left
      · obtain rfl := (st_sh hi).1 j hj
        exact hX
      obtain ⟨ss, rfl, hs, hq⟩ := (st_sh hi).2 d hd
      obtain ⟨hn, rfl⟩ := hq
      refine wx_seq (wx_drop (evx_call (hT _) ?_))
      walk_at "go"
      refine ⟨[one, .int 0, .int 12], rfl, rfl, trivial, fun d hd => ?_, fun j hj => ?_⟩
      rotate_left
      · obtain ⟨_, rfl⟩ := nNumber_no hj
        exact hX
      have hb := nNumber_ok hd
      rw [hn] at hb; cases hb
abbrev s_lacking : Stmt := topS 68
theorem sc_lacking : FnScope ["shares", "number", "whole", "found", "one"] ["shares", "number"] (defScope s_lacking) := ⟨rfl, rfl, rfl, by decide +kernel, rfl, by decide +kernel, by decide +kernel⟩
theorem ok_lacking {a : Addr} {fd : FuncData} (F : Fun K "lacking" "lacking" s_lacking a fd) (hm : mg "lacking" = some (.ref a)) (z_sum : mg "sum" = none) (c_MOST_DRAWS_coming : ∃ t, mg "MOST_DRAWS_coming" = some (.int 12 t)) (c_NOUGHT : ∃ a, mg "NOUGHT" = some (.ref a) ∧ ∀ G, Rp K G (.tuple [.int 0, .int 1]) (.ref a)) (k_sum_of : Cl P w K mg base 3 "sum_of" f_sumOf) (k_made : Cl P w K mg base 2 "made" f_made) (k_raised : Cl P w K mg base 1 "raised" f_raised) (q_need_shares : ClX P w K mg base 3 "need_shares" (fnE [c_NoShares, c_NoKind, c_NoNumber, c_NoNeeds, c_TooMany, (0 : Addr), (0 : Addr), c_NoText] 1 eNeedShares anyD)) (q_need_number : ClX P w K mg base 2 "need_number" (fnE [c_NoShares, c_NoKind, c_NoNumber, c_NoNeeds, c_TooMany, (0 : Addr), (0 : Addr), c_NoText] 3 eNeedNumber preNumber)) :
    ClX P w K mg base 4 "lacking" (fnR [c_NoShares, c_NoKind, c_NoNumber, c_NoNeeds, c_TooMany, (0 : Addr), (0 : Addr), c_NoText] 2 rNum12) := by
  obtain ⟨a_NOUGHT, h_NOUGHT, d_NOUGHT⟩ := c_NOUGHT
  refine ⟨a, fd, ["shares", "number"], fnX_ok F sc_lacking (fun args m R X h => ?_) (fun cdv A outer s H E hr => ⟨_, (pss_cons (ps_expr (pe_clX q_need_shares hr (by decide) (by rfl) (L2N.takes_of rfl rfl rfl rfl) (pa_cons (pv 0) pa_nil)))
      (pss_cons (ps_expr (pe_clX q_need_number hr (by decide) (by rfl) (L2N.takes_of rfl rfl rfl rfl) (pa_cons (pv 1) (pa_cons pe_int (pa_cons (pe_gi c_MOST_DRAWS_coming (by rfl)) pa_nil)))))
      (PSs.nox (pss_cons (ps_set (i := 2) sc_lacking.nd rfl (by first | exact Or.inl rfl | exact Or.inr rfl) (pe_callB (kSum K) (by rfl) z_sum (by decide +kernel) (pa_cons (pv 0) pa_nil)))
      (pss_cons (ps_set (i := 3) sc_lacking.nd rfl (by first | exact Or.inl rfl | exact Or.inr rfl) (pe_glob (v := V.ref a_NOUGHT) (by rfl) h_NOUGHT rfl))
      (pss_cons (ps_for PassesOwn.never rfl (kiT K (pv 0)) (pg_name (i := 4) sc_lacking.nd rfl (by first | exact Or.inl rfl | exact Or.inr rfl)) (pss_one (ps_set (i := 3) sc_lacking.nd rfl (by first | exact Or.inl rfl | exact Or.inr rfl) (pe_cl k_sum_of hr (by decide) (by rfl) (pa_cons (pv 3) (pa_cons (pe_cl k_made hr (by decide) (by rfl) (pa_cons (pe_cl k_raised hr (by decide) (by rfl) (pa_cons (pe_op oSub (pv 2) (pv 4)) (pa_cons (pv 1) pa_nil))) (pa_cons (pe_cl k_raised hr (by decide) (by rfl) (pa_cons (pv 2) (pa_cons (pv 1) pa_nil))) pa_nil))) pa_nil))))))
      (pss_one (ps_ret (pv 3))))))))), fun args m R X h G0 hT => ?_⟩), hm, F.kp, F.binds (ps := ["shares", "number"]) fun _ _ _ _ _ _ us hl => match us, hl with | [_, _], _ => rfl⟩
  ·
    exact fnR_len h
  ·
    obtain ⟨ds, rfl, hl, i, hi, hX⟩ := h
    match ds, hl, hi with
    | [sh, one], _, hi =>
      refine wx_seq (wx_drop (evx_call (hT _) ?_))
      walk_at "go"
      refine ⟨[sh], rfl, rfl, trivial, fun d hd => ?_, fun j hj => ?_⟩
      rotate_left
      · obtain rfl := (st_sh hi).1 j hj
        exact hX
      obtain ⟨ss, rfl, hs, hq⟩ := (st_sh hi).2 d hd
      obtain ⟨hn, rfl⟩ := hq
      refine wx_seq (wx_drop (evx_call (hT _) ?_))
      walk_at "go"
      refine ⟨[one, .int 0, .int 12], rfl, rfl, trivial, fun d hd => ?_, fun j hj => ?_⟩
      rotate_left
      · obtain ⟨_, rfl⟩ := nNumber_no hj
        exact hX
      have hb := nNumber_ok hd
      rw [hn] at hb; cases hb
abbrev s_pack_many : Stmt := topS 75
theorem sc_pack_many : FnScope ["many", "size"] ["many", "size"] (defScope s_pack_many) := ⟨rfl, rfl, rfl, by decide +kernel, rfl, by decide +kernel, by decide +kernel⟩
theorem ok_pack_many {a : Addr} {fd : FuncData} (F : Fun K "pack_many" "pack_many" s_pack_many a fd) (hm : mg "pack_many" = some (.ref a)) (k_choices : Cl P w K mg base 1 "choices" f_never) (q_need_pack : ClX P w K mg base 3 "need_pack" (fnC [c_NoShares, c_NoKind, c_NoNumber, c_NoNeeds, c_TooMany, (0 : Addr), (0 : Addr), c_NoText] 2 2 bPack anyD)) :
    ClX P w K mg base 4 "pack_many" (fnR [c_NoShares, c_NoKind, c_NoNumber, c_NoNeeds, c_TooMany, (0 : Addr), (0 : Addr), c_NoText] 2 rPk2) := by
  refine ⟨a, fd, ["many", "size"], fnX_ok F sc_pack_many (fun args m R X h => ?_) (fun cdv A outer s H E hr => ⟨_, (pss_cons (ps_expr (pe_clX q_need_pack hr (by decide) (by rfl) (L2N.takes_of rfl rfl rfl rfl) (pa_cons (pv 0) (pa_cons (pv 1) pa_nil))))
      (PSs.nox (pss_one (ps_ret (pe_cl k_choices hr (by decide) (by rfl) (pa_cons (pv 0) (pa_cons (pv 1) pa_nil))))))), fun args m R X h G0 hT => ?_⟩), hm, F.kp, F.binds (ps := ["many", "size"]) fun _ _ _ _ _ _ us hl => match us, hl with | [_, _], _ => rfl⟩
  ·
    exact fnR_len h
  ·
    obtain ⟨ds, rfl, hl, i, hi, hX⟩ := h
    match ds, hl, hi with
    | [a, s], _, hi =>
      obtain ⟨hb, rfl⟩ := hi
      refine wx_seq (wx_drop (evx_call (hT _) ?_))
      walk_at "go"
      refine ⟨[a, s], rfl, rfl, trivial, fun h1 => ?_, fun h1 => hX⟩
      have h1 : okPk a s = true := h1
      rw [h1] at hb; cases hb
abbrev s_pack_cases : Stmt := topS 76
theorem sc_pack_cases : FnScope ["many", "size", "number", "found", "out", "sign"] ["many", "size", "number"] (defScope s_pack_cases) := ⟨rfl, rfl, rfl, by decide +kernel, rfl, by decide +kernel, by decide +kernel⟩
theorem ok_pack_cases {a : Addr} {fd : FuncData} (F : Fun K "pack_cases" "pack_cases" s_pack_cases a fd) (hm : mg "pack_cases" = some (.ref a)) (z_range : mg "range" = none) (c_MOST_PACKS : ∃ t, mg "MOST_PACKS" = some (.int 8 t)) (k_choices : Cl P w K mg base 1 "choices" f_never) (k_raised : Cl P w K mg base 1 "raised" f_raised) (q_need_pack : ClX P w K mg base 3 "need_pack" (fnC [c_NoShares, c_NoKind, c_NoNumber, c_NoNeeds, c_TooMany, (0 : Addr), (0 : Addr), c_NoText] 2 2 bPack anyD)) (q_need_number : ClX P w K mg base 2 "need_number" (fnE [c_NoShares, c_NoKind, c_NoNumber, c_NoNeeds, c_TooMany, (0 : Addr), (0 : Addr), c_NoText] 3 eNeedNumber preNumber)) :
    ClX P w K mg base 4 "pack_cases" (fnR [c_NoShares, c_NoKind, c_NoNumber, c_NoNeeds, c_TooMany, (0 : Addr), (0 : Addr), c_NoText] 3 rPkC) := by
  refine ⟨a, fd, ["many", "size", "number"], fnX_ok F sc_pack_cases (fun args m R X h => ?_) (fun cdv A outer s H E hr => ⟨_, (pss_cons (ps_expr (pe_clX q_need_pack hr (by decide) (by rfl) (L2N.takes_of rfl rfl rfl rfl) (pa_cons (pv 0) (pa_cons (pv 1) pa_nil))))
      (pss_cons (ps_expr (pe_clX q_need_number hr (by decide) (by rfl) (L2N.takes_of rfl rfl rfl rfl) (pa_cons (pv 2) (pa_cons pe_int (pa_cons (pe_gi c_MOST_PACKS (by rfl)) pa_nil)))))
      (PSs.nox (pss_cons (ps_set (i := 3) sc_pack_cases.nd rfl (by first | exact Or.inl rfl | exact Or.inr rfl) pe_int)
      (pss_cons (ps_for PassesOwn.never rfl (pi_range1 (by rfl) z_range (pa_cons (pe_op (kAdd K) (pv 0) pe_int) pa_nil)) (pg_name (i := 4) sc_pack_cases.nd rfl (by first | exact Or.inl rfl | exact Or.inr rfl)) (pss_cons (ps_set (i := 5) sc_pack_cases.nd rfl (by first | exact Or.inl rfl | exact Or.inr rfl) (pe_op oSub pe_int (pe_op (kMul K) pe_int (pe_op oMod (pv 4) pe_int))))
      (pss_one (ps_set (i := 3) sc_pack_cases.nd rfl (by first | exact Or.inl rfl | exact Or.inr rfl) (pe_op (kAdd K) (pv 3) (pe_op (kMul K) (pe_op (kMul K) (pv 5) (pe_cl k_choices hr (by decide) (by rfl) (pa_cons (pv 0) (pa_cons (pv 4) pa_nil)))) (pe_cl k_raised hr (by decide) (by rfl) (pa_cons (pe_cl k_choices hr (by decide) (by rfl) (pa_cons (pe_op oSub (pv 0) (pv 4)) (pa_cons (pv 1) pa_nil))) (pa_cons (pv 2) pa_nil)))))))))
      (pss_one (ps_ret (pv 3)))))))), fun args m R X h G0 hT => ?_⟩), hm, F.kp, F.binds (ps := ["many", "size", "number"]) fun _ _ _ _ _ _ us hl => match us, hl with | [_, _, _], _ => rfl⟩
  ·
    exact fnR_len h
  ·
    obtain ⟨ds, rfl, hl, i, hi, hX⟩ := h
    match ds, hl, hi with
    | [a, s, n], _, hi =>
      obtain ⟨hb, rfl⟩ := hi
      refine wx_seq (wx_drop (evx_call (hT _) ?_))
      walk_at "go"
      refine ⟨[a, s], rfl, rfl, trivial, fun h1 => ?_, fun h1 => hX⟩
      have h1 : okPk a s = true := h1
      rcases hb with hb | ⟨_, hn⟩
      · rw [h1] at hb; cases hb
      refine wx_seq (wx_drop (evx_call (hT _) ?_))
      walk_at "go"
      refine ⟨[n, .int 0, .int 8], rfl, rfl, trivial, fun d hd => ?_, fun j hj => ?_⟩
      rotate_left
      · obtain ⟨_, rfl⟩ := nNumber_no hj
        exact hX
      have hb := nNumber_ok hd
      rw [hn] at hb; cases hb
abbrev s_paper_of_packs : Stmt := topS 77
theorem ok_paper_of_packs {a : Addr} {fd : FuncData} (F : Fun K "paper_of" "paper_of" s_paper_of_packs a fd) (hm : mg "paper_of_packs" = some (.ref a)) : Cl P w K mg base 4 "paper_of_packs" f_never := cl_zeroN F (fun _ _ _ h => h) hm (F.binds (ps := ["many", "size"]) fun _ _ _ _ _ _ us hl => match us, hl with | [_, _], _ => rfl)
abbrev s_show : Stmt := topS 83
theorem sc_show : FnScope ["shares", "one"] ["shares"] (defScope s_show) := ⟨rfl, rfl, rfl, by decide +kernel, rfl, by decide +kernel, by decide +kernel⟩
theorem ok_show {a : Addr} {fd : FuncData} (F : Fun K "show" "show" s_show a fd) (hm : mg "show" = some (.ref a)) (z_str : mg "str" = none) (q_need_shares : ClX P w K mg base 3 "need_shares" (fnE [c_NoShares, c_NoKind, c_NoNumber, c_NoNeeds, c_TooMany, (0 : Addr), (0 : Addr), c_NoText] 1 eNeedShares anyD)) :
    ClX P w K mg base 4 "show" (fnR [c_NoShares, c_NoKind, c_NoNumber, c_NoNeeds, c_TooMany, (0 : Addr), (0 : Addr), c_NoText] 1 rS1) := by
  refine ⟨a, fd, ["shares"], fnX_ok F sc_show (fun args m R X h => ?_) (fun cdv A outer s H E hr => ⟨_, (pss_cons (ps_expr (pe_clX q_need_shares hr (by decide) (by rfl) (L2N.takes_of rfl rfl rfl rfl) (pa_cons (pv 0) pa_nil)))
      (PSs.nox (pss_one (ps_ret (kJoin K (pe_join pe_str (pe_lc (own := [("one", 1)]) rfl sc_show.nd (kiT K (pv 0)) (blkOk_by (own := [("one", 1)]) (N := ["shares", "one"]) (sc := defScope s_show) (by decide +kernel)) (fun _ _ _ _ _ => (pg_name (i := 1) sc_show.nd rfl (by first | exact Or.inl rfl | exact Or.inr rfl))) (fun _ _ _ _ _ => pts_nil) (fun _ _ _ _ _ => (pe_callTy cStr (by rfl) z_str (by decide +kernel) (pa_cons (pv 1) pa_nil)))))))))), fun args m R X h G0 hT => ?_⟩), hm, F.kp, F.binds (ps := ["shares"]) fun _ _ _ _ _ _ us hl => match us, hl with | [_], _ => rfl⟩
  ·
    exact fnR_len h
  ·
    obtain ⟨ds, rfl, hl, i, hi, hX⟩ := h
    match ds, hl, hi with
    | [sh], _, hi =>
      refine wx_seq (wx_drop (evx_call (hT _) ?_))
      walk_at "go"
      refine ⟨[sh], rfl, rfl, trivial, fun d hd => ?_, fun j hj => ?_⟩
      rotate_left
      · obtain rfl := (st_no hi).1 j hj
        exact hX
      exact absurd hd ((st_no hi).2 d)
abbrev s_added : Stmt := topS 21
theorem sc_added : FnScope ["one", "other"] ["one", "other"] (defScope s_added) := ⟨rfl, rfl, rfl, by decide +kernel, rfl, by decide +kernel, by decide +kernel⟩
theorem ok_added {a : Addr} {fd : FuncData} (F : Fun K "added" "added" s_added a fd) (hm : mg "added" = some (.ref a)) (k_sum_of : Cl P w K mg base 3 "sum_of" f_sumOf) (q_need_fraction : ClX P w K mg base 4 "need_fraction" (fnC [c_NoShares, c_NoKind, c_NoNumber, c_NoNeeds, c_TooMany, (0 : Addr), (0 : Addr), c_NoText] 1 2 bFrac preFrac)) :
    ClX P w K mg base 5 "added" (fnR [c_NoShares, c_NoKind, c_NoNumber, c_NoNeeds, c_TooMany, (0 : Addr), (0 : Addr), c_NoText] 2 rFr2) := by
  refine ⟨a, fd, ["one", "other"], fnX_ok F sc_added (fun args m R X h => ?_) (fun cdv A outer s H E hr => ⟨_, (pss_cons (ps_expr (pe_clX q_need_fraction hr (by decide) (by rfl) (L2N.takes_of rfl rfl rfl rfl) (pa_cons (pv 0) pa_nil)))
      (pss_cons (ps_expr (pe_clX q_need_fraction hr (by decide) (by rfl) (L2N.takes_of rfl rfl rfl rfl) (pa_cons (pv 1) pa_nil)))
      (PSs.nox (pss_one (ps_ret (pe_cl k_sum_of hr (by decide) (by rfl) (pa_cons (pv 0) (pa_cons (pv 1) pa_nil)))))))), fun args m R X h G0 hT => ?_⟩), hm, F.kp, F.binds (ps := ["one", "other"]) fun _ _ _ _ _ _ us hl => match us, hl with | [_, _], _ => rfl⟩
  ·
    exact fnR_len h
  ·
    obtain ⟨ds, rfl, hl, i, hi, hX⟩ := h
    match ds, hl, hi with
    | [x, y], _, hi =>
      obtain ⟨hx, hy, hb, rfl⟩ := hi
      refine wx_seq (wx_drop (evx_call (hT _) ?_))
      walk_at "go"
      refine ⟨[x], rfl, rfl, hx, fun h1 => ?_, fun h1 => hX⟩
      have h1 : isFrac x = true := h1
      rw [h1, Bool.true_and] at hb
      refine wx_seq (wx_drop (evx_call (hT _) ?_))
      walk_at "go"
      refine ⟨[y], rfl, rfl, hy, fun h2 => ?_, fun h2 => hX⟩
      have h2 : isFrac y = true := h2
      rw [h2] at hb; cases hb
abbrev s_lessened : Stmt := topS 22
theorem sc_lessened : FnScope ["one", "other"] ["one", "other"] (defScope s_lessened) := ⟨rfl, rfl, rfl, by decide +kernel, rfl, by decide +kernel, by decide +kernel⟩
theorem ok_lessened {a : Addr} {fd : FuncData} (F : Fun K "lessened" "lessened" s_lessened a fd) (hm : mg "lessened" = some (.ref a)) (k_sum_of : Cl P w K mg base 3 "sum_of" f_sumOf) (q_need_fraction : ClX P w K mg base 4 "need_fraction" (fnC [c_NoShares, c_NoKind, c_NoNumber, c_NoNeeds, c_TooMany, (0 : Addr), (0 : Addr), c_NoText] 1 2 bFrac preFrac)) :
    ClX P w K mg base 5 "lessened" (fnR [c_NoShares, c_NoKind, c_NoNumber, c_NoNeeds, c_TooMany, (0 : Addr), (0 : Addr), c_NoText] 2 rFr2) := by
  refine ⟨a, fd, ["one", "other"], fnX_ok F sc_lessened (fun args m R X h => ?_) (fun cdv A outer s H E hr => ⟨_, (pss_cons (ps_expr (pe_clX q_need_fraction hr (by decide) (by rfl) (L2N.takes_of rfl rfl rfl rfl) (pa_cons (pv 0) pa_nil)))
      (pss_cons (ps_expr (pe_clX q_need_fraction hr (by decide) (by rfl) (L2N.takes_of rfl rfl rfl rfl) (pa_cons (pv 1) pa_nil)))
      (PSs.nox (pss_one (ps_ret (pe_cl k_sum_of hr (by decide) (by rfl) (pa_cons (pv 0) (pa_cons (pe_tup (pa_cons (pe_op oSub pe_int (pe_ix (kIx K) (pv 1) pe_int (fun _ _ => rfl))) (pa_cons (pe_ix (kIx K) (pv 1) pe_int (fun _ _ => rfl)) pa_nil))) pa_nil)))))))), fun args m R X h G0 hT => ?_⟩), hm, F.kp, F.binds (ps := ["one", "other"]) fun _ _ _ _ _ _ us hl => match us, hl with | [_, _], _ => rfl⟩
  ·
    exact fnR_len h
  ·
    obtain ⟨ds, rfl, hl, i, hi, hX⟩ := h
    match ds, hl, hi with
    | [x, y], _, hi =>
      obtain ⟨hx, hy, hb, rfl⟩ := hi
      refine wx_seq (wx_drop (evx_call (hT _) ?_))
      walk_at "go"
      refine ⟨[x], rfl, rfl, hx, fun h1 => ?_, fun h1 => hX⟩
      have h1 : isFrac x = true := h1
      rw [h1, Bool.true_and] at hb
      refine wx_seq (wx_drop (evx_call (hT _) ?_))
      walk_at "go"
      refine ⟨[y], rfl, rfl, hy, fun h2 => ?_, fun h2 => hX⟩
      have h2 : isFrac y = true := h2
      rw [h2] at hb; cases hb
abbrev s_multiplied : Stmt := topS 23
theorem sc_multiplied : FnScope ["one", "other"] ["one", "other"] (defScope s_multiplied) := ⟨rfl, rfl, rfl, by decide +kernel, rfl, by decide +kernel, by decide +kernel⟩
theorem ok_multiplied {a : Addr} {fd : FuncData} (F : Fun K "multiplied" "multiplied" s_multiplied a fd) (hm : mg "multiplied" = some (.ref a)) (k_times_of : Cl P w K mg base 3 "times_of" f_timesOf) (q_need_fraction : ClX P w K mg base 4 "need_fraction" (fnC [c_NoShares, c_NoKind, c_NoNumber, c_NoNeeds, c_TooMany, (0 : Addr), (0 : Addr), c_NoText] 1 2 bFrac preFrac)) :
    ClX P w K mg base 5 "multiplied" (fnR [c_NoShares, c_NoKind, c_NoNumber, c_NoNeeds, c_TooMany, (0 : Addr), (0 : Addr), c_NoText] 2 rFr2) := by
  refine ⟨a, fd, ["one", "other"], fnX_ok F sc_multiplied (fun args m R X h => ?_) (fun cdv A outer s H E hr => ⟨_, (pss_cons (ps_expr (pe_clX q_need_fraction hr (by decide) (by rfl) (L2N.takes_of rfl rfl rfl rfl) (pa_cons (pv 0) pa_nil)))
      (pss_cons (ps_expr (pe_clX q_need_fraction hr (by decide) (by rfl) (L2N.takes_of rfl rfl rfl rfl) (pa_cons (pv 1) pa_nil)))
      (PSs.nox (pss_one (ps_ret (pe_cl k_times_of hr (by decide) (by rfl) (pa_cons (pv 0) (pa_cons (pv 1) pa_nil)))))))), fun args m R X h G0 hT => ?_⟩), hm, F.kp, F.binds (ps := ["one", "other"]) fun _ _ _ _ _ _ us hl => match us, hl with | [_, _], _ => rfl⟩
  ·
    exact fnR_len h
  ·
    obtain ⟨ds, rfl, hl, i, hi, hX⟩ := h
    match ds, hl, hi with
    | [x, y], _, hi =>
      obtain ⟨hx, hy, hb, rfl⟩ := hi
      refine wx_seq (wx_drop (evx_call (hT _) ?_))
      walk_at "go"
      refine ⟨[x], rfl, rfl, hx, fun h1 => ?_, fun h1 => hX⟩
      have h1 : isFrac x = true := h1
      rw [h1, Bool.true_and] at hb
      refine wx_seq (wx_drop (evx_call (hT _) ?_))
      walk_at "go"
      refine ⟨[y], rfl, rfl, hy, fun h2 => ?_, fun h2 => hX⟩
      have h2 : isFrac y = true := h2
      rw [h2] at hb; cases hb
abbrev s_is_less : Stmt := topS 24
theorem sc_is_less : FnScope ["one", "other"] ["one", "other"] (defScope s_is_less) := ⟨rfl, rfl, rfl, by decide +kernel, rfl, by decide +kernel, by decide +kernel⟩
theorem ok_is_less {a : Addr} {fd : FuncData} (F : Fun K "is_less" "is_less" s_is_less a fd) (hm : mg "is_less" = some (.ref a)) (k_below : Cl P w K mg base 1 "below" f_never) (q_need_fraction : ClX P w K mg base 4 "need_fraction" (fnC [c_NoShares, c_NoKind, c_NoNumber, c_NoNeeds, c_TooMany, (0 : Addr), (0 : Addr), c_NoText] 1 2 bFrac preFrac)) :
    ClX P w K mg base 5 "is_less" (fnR [c_NoShares, c_NoKind, c_NoNumber, c_NoNeeds, c_TooMany, (0 : Addr), (0 : Addr), c_NoText] 2 rFr2) := by
  refine ⟨a, fd, ["one", "other"], fnX_ok F sc_is_less (fun args m R X h => ?_) (fun cdv A outer s H E hr => ⟨_, (pss_cons (ps_expr (pe_clX q_need_fraction hr (by decide) (by rfl) (L2N.takes_of rfl rfl rfl rfl) (pa_cons (pv 0) pa_nil)))
      (pss_cons (ps_expr (pe_clX q_need_fraction hr (by decide) (by rfl) (L2N.takes_of rfl rfl rfl rfl) (pa_cons (pv 1) pa_nil)))
      (PSs.nox (pss_one (ps_ret (pe_cl k_below hr (by decide) (by rfl) (pa_cons (pv 0) (pa_cons (pv 1) pa_nil)))))))), fun args m R X h G0 hT => ?_⟩), hm, F.kp, F.binds (ps := ["one", "other"]) fun _ _ _ _ _ _ us hl => match us, hl with | [_, _], _ => rfl⟩
  ·
    exact fnR_len h
  ·
    obtain ⟨ds, rfl, hl, i, hi, hX⟩ := h
    match ds, hl, hi with
    | [x, y], _, hi =>
      obtain ⟨hx, hy, hb, rfl⟩ := hi
      refine wx_seq (wx_drop (evx_call (hT _) ?_))
      walk_at "go"
      refine ⟨[x], rfl, rfl, hx, fun h1 => ?_, fun h1 => hX⟩
      have h1 : isFrac x = true := h1
      rw [h1, Bool.true_and] at hb
      refine wx_seq (wx_drop (evx_call (hT _) ?_))
      walk_at "go"
      refine ⟨[y], rfl, rfl, hy, fun h2 => ?_, fun h2 => hX⟩
      have h2 : isFrac y = true := h2
      rw [h2] at hb; cases hb
abbrev s_needs_share : Stmt := topS 47
theorem sc_needs_share : FnScope ["shares", "needs", "number", "cases", "turn", "later", "here", "kind", "one", "there"] ["shares", "needs", "number"] (defScope s_needs_share) := ⟨rfl, rfl, rfl, by decide +kernel, rfl, by decide +kernel, by decide +kernel⟩
theorem fok_needs_share {a : Addr} {fd : FuncData} (F : Fun K "needs_share" "needs_share" s_needs_share a fd) (hm : mg "needs_share" = some (.ref a)) (z_range : mg "range" = none) (z_enumerate : mg "enumerate" = none) (z_sum : mg "sum" = none) (z_len : mg "len" = none) (c_MOST_DRAWS_needs : ∃ t, mg "MOST_DRAWS_needs" = some (.int 8 t)) (k_need_needs : Cl P w K mg base 4 "need_needs" f_needNeeds) (k_need_number : Cl P w K mg base 2 "need_number" f_needNumber) (k_need_few : Cl P w K mg base 1 "need_few" f_needFew) (k_one_less : Cl P w K mg base 1 "one_less" f_oneLess) (k_made : Cl P w K mg base 2 "made" f_made) (k_raised : Cl P w K mg base 1 "raised" f_raised) :
    FnOk P w K mg base CX0 5 a fd ["shares", "needs", "number"] (spD K f_needsShare) := by
  refine fn_ok F sc_needs_share (fun args m R h => ?_) (fun cdv A outer s H E hr => ⟨_, (pss_cons (ps_expr (pe_cl k_need_needs hr (by decide) (by rfl) (pa_cons (pv 0) (pa_cons (pv 1) pa_nil))))
      (pss_cons (ps_expr (pe_cl k_need_number hr (by decide) (by rfl) (pa_cons (pv 2) (pa_cons pe_int (pa_cons (pe_gi c_MOST_DRAWS_needs (by rfl)) pa_nil)))))
      (pss_cons (ps_expr (pe_cl k_need_few hr (by decide) (by rfl) (pa_cons (pv 1) pa_nil)))
      (pss_cons (ps_set (i := 3) sc_needs_share.nd rfl (by first | exact Or.inl rfl | exact Or.inr rfl) (pe_disp1 hr (pv 1) pe_int))
      (pss_cons (ps_for PassesOwn.never rfl (pi_range1 (by rfl) z_range (pa_cons (pv 2) pa_nil)) (pg_name (i := 4) sc_needs_share.nd rfl (by first | exact Or.inl rfl | exact Or.inr rfl)) (pss_cons (ps_set (i := 5) sc_needs_share.nd rfl (by first | exact Or.inl rfl | exact Or.inr rfl) pe_dnewT)
      (pss_cons (ps_lock (ps_for PassesOwn.never rfl (pi_keys (pv 3)) (pg_name (i := 6) sc_needs_share.nd rfl (by first | exact Or.inl rfl | exact Or.inr rfl)) (pss_one (ps_for PassesOwn.never rfl (pi_enumT K (by rfl) z_enumerate (pa_cons (pv 0) pa_nil)) (kgT K (pg_tup (n := 2) rfl (pgs_cons (pg_name (i := 7) sc_needs_share.nd rfl (by first | exact Or.inl rfl | exact Or.inr rfl)) (pgs_cons (pg_name (i := 8) sc_needs_share.nd rfl (by first | exact Or.inl rfl | exact Or.inr rfl)) pgs_nil)))) (pss_cons (ps_set (i := 9) sc_needs_share.nd rfl (by first | exact Or.inl rfl | exact Or.inr rfl) (pe_cl k_one_less hr (by decide) (by rfl) (pa_cons (pv 6) (pa_cons (pv 7) pa_nil))))
      (pss_one (ps_dput (hu_of hr) (pv 5) (pv 9) (pe_op (kAdd K) (pe_dget2 (hu_of hr) (pv 5) (pv 9) pe_int ⟨rfl, rfl, rfl, rfl⟩) (pe_op (kMul K) (pe_dget (hu_of hr) (pv 3) (pv 6) (fun _ _ => rfl)) (pv 8))) rfl)))))))
      (pss_one (ps_set (i := 3) sc_needs_share.nd rfl (by first | exact Or.inl rfl | exact Or.inr rfl) (pv 5))))))
      (pss_one (ps_ret (pe_cl k_made hr (by decide) (by rfl) (pa_cons (pe_dget2 (hu_of hr) (pv 3) (pe_op (kMul K) (pe_tup (pa_cons pe_int pa_nil)) (pe_callB (kLen K) (by rfl) z_len (by decide +kernel) (pa_cons (pv 1) pa_nil))) pe_int ⟨rfl, rfl, rfl, rfl⟩) (pa_cons (pe_cl k_raised hr (by decide) (by rfl) (pa_cons (pe_callB (kSum K) (by rfl) z_sum (by decide +kernel) (pa_cons (pv 0) pa_nil)) (pa_cons (pv 2) pa_nil))) pa_nil)))))))))), fun args m R h => ?_⟩)
  ·
    obtain ⟨_, _, _, rfl, _⟩ := h; rfl
  ·
    obtain ⟨ss, v, n, rfl, hs, hv, h64, hn, q⟩ := h
    have hfew := hs.few
    have h1 := hs.pos
    have hsum := shares_sum hs
    have hvl := hv.len
    walk_at "go"
    refine ⟨hs, right_of hv, ?_⟩
    walk_at "go"
    refine ⟨_, _, _, rfl, by omega, by omega, ?_⟩
    walk_at "go"
    refine ⟨by omega, hv.few, h64, ?_⟩
    refine w_seq (w_asg (ev_disp1 fun p hp => ?_))
    refine ev_var rfl (fun h => nomatch h) ⟨_, rfl, ev_cI ⟨put_same, ?_⟩⟩
    rw [put_put]
    have e0 : [(kI (kn v), Val.d (.int 1))] = dI (tabI (fun s => if s = v then 1 else 0) [v]) := by
      show _ = [(kI (kn v), Val.d (.int (if v = v then 1 else 0)))]
      rw [if_pos rfl]
    rw [e0]
    refine w_seq (w_forR1 (n := n) ?_ (by omega) (fun i r' m' => ∃ p F l y4 y5 y6 y7 y8 y9, m p = none ∧ TabG ss.length F l ∧ (∀ φ, totF F l φ = stepN ss i φ v) ∧ m' = put m p (.dT (dI (tabI F l))) ∧ r' = [.d (tupI ss), .t (kn v), .d (.int (n : Int)), .v (.ref p), y4, y5, y6, y7, y8, y9]) ⟨p, _, [v], _, _, _, _, _, _, hp, ⟨by simp, fun s hs' => by rw [List.mem_singleton.mp hs']; exact hv, fun s hs' => if_neg fun e => hs' (List.mem_singleton.mpr e), fun s => by show 0 ≤ (if s = v then (1 : Int) else 0); split <;> decide⟩, fun φ => by simp [totF, stepN], rfl, rfl⟩ ?_ ?_)
    · walk_at "go"
      exact ⟨rfl, rfl⟩
    · rintro i r' m' hi ⟨p, F, l, y4, y5, y6, y7, y8, y9, hp, hT, hF, rfl, rfl⟩
      refine w_seq (w_asg (ev_dnew fun qd hqd => ?_))
      have hqp : p ≠ qd := ne_of_get (m := put m p (.dT (dI (tabI F l)))) put_same hqd
      have hqm : m qd = none := by rw [put_ne hqp.symm] at hqd; exact hqd
      refine w_seq (w_forD (p := p) (kvs := tabI F l) (by rw [put_ne hqp]; exact put_same) (fun od es => ev_var rfl (fun h => nomatch h) ⟨rfl, rfl⟩)
        (fun j r' m' => ∃ lk G y6 y7 y8 y9, TabG ss.length G lk ∧ (∀ φ, totF G lk φ = totF F (l.take j) (stpN ss φ)) ∧ m' = put (put m p (.dT (dI (tabI F l)))) qd (.dT (dI (tabI G lk))) ∧ r' = [.d (tupI ss), .t (kn v), .d (.int (n : Int)), .v (.ref p), .d (.int (i : Int)), .v (.ref qd), y6, y7, y8, y9])
        ⟨[], fun _ => 0, _, _, _, _, ⟨List.Pairwise.nil, (fun _ h => nomatch h), (fun _ _ => rfl), fun _ => Int.le_refl _⟩, (fun φ => rfl), rfl, rfl⟩ ?_ ?_)
      · rintro j k z r2 m2 od es hk ⟨lk, G, y6, y7, y8, y9, hTG, hG, rfl, rfl⟩ _
        obtain ⟨s, hsj, rfl, rfl⟩ : ∃ s, l[j]? = some s ∧ kn s = k ∧ Val.d (.int (F s)) = z := by
          unfold tabI at hk
          rw [List.getElem?_map] at hk
          cases hx : l[j]? with
          | none => rw [hx] at hk; cases hk
          | some s => rw [hx] at hk; cases hk; exact ⟨s, rfl, rfl, rfl⟩
        have hsl := List.mem_of_getElem? hsj
        have hsv := hT.nv s hsl
        have hwalk : ∀ (G : List Nat → Int) (lk : List (List Nat)), put (put (put m p (.dT (dI (tabI F l)))) qd (.dT (dI (tabI G lk)))) p (.lk od es (dI (tabI F l))) qd = some (.dT (dI (tabI G lk))) := fun G lk => by rw [put_ne hqp.symm]; exact put_same
        refine Wp.imp (w_forEt (xs := ss) (f := PyData.int) ?_ (fun x r3 m3 => ∃ lk G y7 y8 y9, TabG ss.length G lk ∧ (∀ φ, totF G lk φ = totF F (l.take j) (stpN ss φ) + F s * sg x fun k => ss.getD k 0 * φ (lessV s k)) ∧ m3 = put (put (put m p (.dT (dI (tabI F l)))) qd (.dT (dI (tabI G lk)))) p (.lk od es (dI (tabI F l))) ∧ r3 = [.d (tupI ss), .t (kn v), .d (.int (n : Int)), .v (.ref p), .d (.int (i : Int)), .v (.ref qd), .t (kn s), y7, y8, y9])
          ⟨lk, G, _, _, _, hTG, (fun φ => by rw [hG, sg_zero, Int.mul_zero, Int.add_zero]), rfl, rfl⟩ ?_ (N := fun r3 m3 => ∃ lk G y7 y8 y9, TabG ss.length G lk ∧ (∀ φ, totF G lk φ = totF F (l.take j) (stpN ss φ) + F s * sg ss.length fun k => ss.getD k 0 * φ (lessV s k)) ∧ m3 = put (put (put m p (.dT (dI (tabI F l)))) qd (.dT (dI (tabI G lk)))) p (.lk od es (dI (tabI F l))) ∧ r3 = [.d (tupI ss), .t (kn v), .d (.int (n : Int)), .v (.ref p), .d (.int (i : Int)), .v (.ref qd), .t (kn s), y7, y8, y9]) (fun _ _ h => h) (E := fun _ _ => False)) (fun r3 m3 => ?_) (fun _ _ h => h.elim)
        · walk_at "go"
          exact ⟨rfl, rfl⟩
        · rintro x one r3 m3 hx ⟨lk, G, y7, y8, y9, hTG, hG, rfl, rfl⟩
          have hxl : x < ss.length := (List.getElem?_eq_some_iff.mp hx).1
          have hone : ss.getD x 0 = one := by rw [List.getD_eq_getElem?_getD, hx]; rfl
          have hb9 := getD_bounds hs x
          rw [hone] at hb9
          have hGb := tabG_bt hs hT (show i ≤ 8 by omega) hF s
          have hlv := hsv.less hxl
          have hFn := hT.nn s
          refine w_seq (w_asg (ev_call (eva_cons (ev_var rfl (fun h => nomatch h) (eva_cons (ev_var rfl (fun h => nomatch h) (eva_nil ⟨s, x, rfl, by rw [hsv.len]; exact hxl, by rw [hsv.len]; omega, ?_⟩)))))))
          refine w_dputV (ns := kn (lessV s x)) rfl ?_
          refine ev_op (ev_dget2V (ns := kn (lessV s x)) rfl ?_)
          refine ev_var rfl (fun h => nomatch h) ⟨qd, _, rfl, Or.inl (hwalk G lk), ?_⟩
          walk_at "go"
          refine ⟨_, Or.inl (hwalk G lk), ?_⟩
          rw [getV_tabI hTG.off]
          refine ev_op (ev_dgetV (ns := kn s) rfl ?_)
          refine ev_var rfl (fun h => nomatch h) ⟨p, _, _, rfl, Or.inr ⟨od, es, put_same⟩, getV_tabI_mem hsl, ?_⟩
          walk_at "go"
          refine o2_mulI (hGb.cmul (b := 6) (bt_lit (n := 6) (by show one.natAbs < 64; omega) (by decide)) (by decide)) ?_
          refine o2_addI ?_
          refine ev_var rfl (fun h => nomatch h) ⟨qd, _, rfl, hwalk G lk, ?_, ?_⟩
          · have := hTG.len hfew
            show ((tabI G lk).map _).length < 100000
            rw [List.length_map]
            unfold tabI
            rw [List.length_map]; omega
          · rw [putV_tabI]
            refine ⟨_, _, _, _, _, hTG.add hlv (x := F s * one) (Int.mul_nonneg hFn hb9.1), fun φ => ?_, ?_, rfl⟩
            · rw [tot_add hTG.nd hTG.off, hG, sg_succ, hone, Int.mul_add, Int.add_assoc, Int.mul_assoc]
            · rw [put_comm hqp, put_put]
        · rintro ⟨lk, G, y7, y8, y9, hTG, hG, rfl, rfl⟩
          refine ⟨put_same, lk, G, _, _, _, _, hTG, fun φ => ?_, ?_, rfl⟩
          · rw [hG, take_one hsj, tot_snoc]
            rfl
          · rw [put_put, put_comm hqp.symm, put_put]
      · rintro r2 m2 ⟨lk, G, y6, y7, y8, y9, hTG, hG, rfl, rfl⟩
        have hl : (tabI F l).length = l.length := List.length_map ..
        rw [hl, List.take_length] at hG
        refine w_less (m' := put m qd (.dT (dI (tabI G lk)))) (fun a o h => ?_) ?_
        · by_cases ha : a = qd
          · subst ha; rw [put_same] at h ⊢; exact h
          · rw [put_ne ha] at h ⊢
            rw [put_ne (ne_of_get h hp)]; exact h
        walk_at "go"
        exact ⟨qd, G, lk, _, _, _, _, _, _, hqm, hTG, fun φ => by rw [hG, hF]; rfl, rfl, rfl⟩
    · rintro r' m' ⟨p, F, l, y4, y5, y6, y7, y8, y9, hp, hT, hF, rfl, rfl⟩
      have hz : F (List.replicate ss.length 0) = uN ss n v := by
        rw [← hT.none, hF]
        have e : (fun s : List Nat => if s = List.replicate s.length 0 then (1 : Int) else 0) = uN ss 0 := rfl
        rw [e, step_uN]
        rfl
      refine w_ret (ev_forget (ev_call (eva_cons (ev_dget2 ?_))))
      refine ev_var rfl (fun h => nomatch h) ⟨p, _, rfl, Or.inl put_same, ?_⟩
      refine ev_op (ev_tupT (eva_cons (ev_cI (eva_nil ⟨[_], rfl, by show 1 ≤ 100000; decide, ?_⟩))))
      walk_at "go"
      refine o2_mulTt (n := v.length) (by omega) (by omega) ?_
      refine ⟨_, rfl, ev_cI ⟨_, Or.inl put_same, ?_⟩⟩
      have e2 : List.replicate v.length (0 : Int) = kn (List.replicate ss.length 0) := by unfold kn; rw [List.map_replicate, hvl]; rfl
      rw [e2, getV_tabI hT.off, hz]
      walk_at "go"
      refine ⟨by omega, bt_lit (n := 6) (by show _ < 64; omega) (by decide), ?_⟩
      rw [tot_pow hs n]
      walk_at "go"
      refine ⟨t24_pos hs n, (t24_bt hs hn).mono (by decide), m, put_less hp, q⟩
theorem ok_needs_share {a : Addr} {fd : FuncData} (F : Fun K "needs_share" "needs_share" s_needs_share a fd) (hm : mg "needs_share" = some (.ref a)) (o : FnOk P w K mg base CX0 5 a fd ["shares", "needs", "number"] (spD K f_needsShare)) : Cl P w K mg base 5 "needs_share" f_needsShare := ⟨a, fd, ["shares", "needs", "number"], o, hm, F.kp, F.binds (ps := ["shares", "needs", "number"]) fun _ _ _ _ _ _ us hl => match us, hl with | [_, _, _], _ => rfl⟩
theorem okx_needs_share {a : Addr} {fd : FuncData} (F : Fun K "needs_share" "needs_share" s_needs_share a fd) (hm : mg "needs_share" = some (.ref a)) (z_range : mg "range" = none) (z_enumerate : mg "enumerate" = none) (z_sum : mg "sum" = none) (z_len : mg "len" = none) (c_MOST_DRAWS_needs : ∃ t, mg "MOST_DRAWS_needs" = some (.int 8 t)) (k_one_less : Cl P w K mg base 1 "one_less" f_oneLess) (k_made : Cl P w K mg base 2 "made" f_made) (k_raised : Cl P w K mg base 1 "raised" f_raised) (q_need_needs : ClX P w K mg base 4 "need_needs" (fnE [c_NoShares, c_NoKind, c_NoNumber, c_NoNeeds, c_TooMany, (0 : Addr), (0 : Addr), c_NoText] 2 eNeedNeeds anyD)) (q_need_number : ClX P w K mg base 2 "need_number" (fnE [c_NoShares, c_NoKind, c_NoNumber, c_NoNeeds, c_TooMany, (0 : Addr), (0 : Addr), c_NoText] 3 eNeedNumber preNumber)) (q_need_few : ClX P w K mg base 1 "need_few" (fnC [c_NoShares, c_NoKind, c_NoNumber, c_NoNeeds, c_TooMany, (0 : Addr), (0 : Addr), c_NoText] 1 4 bFew preFew)) (o : FnOk P w K mg base CX0 5 a fd ["shares", "needs", "number"] (spD K f_needsShare)) :
    ClX P w K mg base 5 "needs_share" (orX f_needsShare (fnR [c_NoShares, c_NoKind, c_NoNumber, c_NoNeeds, c_TooMany, (0 : Addr), (0 : Addr), c_NoText] 3 rNeedsN)) := by
  refine ⟨a, fd, ["shares", "needs", "number"], fnOk_or o (fnX_ok F sc_needs_share (fun args m R X h => ?_) (fun cdv A outer s H E hr => ⟨_, (pss_cons (ps_expr (pe_clX q_need_needs hr (by decide) (by rfl) (L2N.takes_of rfl rfl rfl rfl) (pa_cons (pv 0) (pa_cons (pv 1) pa_nil))))
      (pss_cons (ps_expr (pe_clX q_need_number hr (by decide) (by rfl) (L2N.takes_of rfl rfl rfl rfl) (pa_cons (pv 2) (pa_cons pe_int (pa_cons (pe_gi c_MOST_DRAWS_needs (by rfl)) pa_nil)))))
      (pss_cons (ps_expr (pe_clX q_need_few hr (by decide) (by rfl) (L2N.takes_of rfl rfl rfl rfl) (pa_cons (pv 1) pa_nil)))
      (PSs.nox (pss_cons (ps_set (i := 3) sc_needs_share.nd rfl (by first | exact Or.inl rfl | exact Or.inr rfl) (pe_disp1 hr (pv 1) pe_int))
      (pss_cons (ps_for PassesOwn.never rfl (pi_range1 (by rfl) z_range (pa_cons (pv 2) pa_nil)) (pg_name (i := 4) sc_needs_share.nd rfl (by first | exact Or.inl rfl | exact Or.inr rfl)) (pss_cons (ps_set (i := 5) sc_needs_share.nd rfl (by first | exact Or.inl rfl | exact Or.inr rfl) pe_dnewT)
      (pss_cons (ps_lock (ps_for PassesOwn.never rfl (pi_keys (pv 3)) (pg_name (i := 6) sc_needs_share.nd rfl (by first | exact Or.inl rfl | exact Or.inr rfl)) (pss_one (ps_for PassesOwn.never rfl (pi_enumT K (by rfl) z_enumerate (pa_cons (pv 0) pa_nil)) (kgT K (pg_tup (n := 2) rfl (pgs_cons (pg_name (i := 7) sc_needs_share.nd rfl (by first | exact Or.inl rfl | exact Or.inr rfl)) (pgs_cons (pg_name (i := 8) sc_needs_share.nd rfl (by first | exact Or.inl rfl | exact Or.inr rfl)) pgs_nil)))) (pss_cons (ps_set (i := 9) sc_needs_share.nd rfl (by first | exact Or.inl rfl | exact Or.inr rfl) (pe_cl k_one_less hr (by decide) (by rfl) (pa_cons (pv 6) (pa_cons (pv 7) pa_nil))))
      (pss_one (ps_dput (hu_of hr) (pv 5) (pv 9) (pe_op (kAdd K) (pe_dget2 (hu_of hr) (pv 5) (pv 9) pe_int ⟨rfl, rfl, rfl, rfl⟩) (pe_op (kMul K) (pe_dget (hu_of hr) (pv 3) (pv 6) (fun _ _ => rfl)) (pv 8))) rfl)))))))
      (pss_one (ps_set (i := 3) sc_needs_share.nd rfl (by first | exact Or.inl rfl | exact Or.inr rfl) (pv 5))))))
      (pss_one (ps_ret (pe_cl k_made hr (by decide) (by rfl) (pa_cons (pe_dget2 (hu_of hr) (pv 3) (pe_op (kMul K) (pe_tup (pa_cons pe_int pa_nil)) (pe_callB (kLen K) (by rfl) z_len (by decide +kernel) (pa_cons (pv 1) pa_nil))) pe_int ⟨rfl, rfl, rfl, rfl⟩) (pa_cons (pe_cl k_raised hr (by decide) (by rfl) (pa_cons (pe_callB (kSum K) (by rfl) z_sum (by decide +kernel) (pa_cons (pv 0) pa_nil)) (pa_cons (pv 2) pa_nil))) pa_nil))))))))))), fun args m R X h G0 hT => ?_⟩)), hm, F.kp, F.binds (ps := ["shares", "needs", "number"]) fun _ _ _ _ _ _ us hl => match us, hl with | [_, _, _], _ => rfl⟩
  ·
    exact fnR_len h
  ·
    obtain ⟨ds, rfl, hl, i, hi, hX⟩ := h
    match ds, hl, hi with
    | [sh, one, other], _, hi =>
      refine wx_seq (wx_drop (evx_call (hT _) ?_))
      walk_at "go"
      refine ⟨[sh, one], rfl, rfl, trivial, fun d hd => ?_, fun j hj => ?_⟩
      rotate_left
      · obtain rfl := (st_needs hi).1 j hj
        exact hX
      obtain ⟨ss, v, rfl, hs, hv, rfl, hq⟩ := (st_needs hi).2 d hd
      have h5 := hs.few
      refine wx_seq (wx_drop (evx_call (hT _) ?_))
      walk_at "go"
      refine ⟨[other, .int 0, .int 8], rfl, rfl, trivial, fun d hd => ?_, fun j hj => ?_⟩
      rotate_left
      · obtain ⟨hx, rfl⟩ := nNumber_no hj
        rcases hq with ⟨_, rfl⟩ | ⟨hn, _⟩
        · exact hX
        · rw [hn] at hx; cases hx
      have hb := nNumber_ok hd
      rcases hq with ⟨hn, _⟩ | ⟨_, h64, rfl⟩
      · rw [hn] at hb; cases hb
      refine wx_seq (wx_drop (evx_call (hT _) ?_))
      walk_at "go"
      refine ⟨[.tuple ((kn v).map PyData.int)], rfl, rfl, ⟨v, rfl, by rw [hv.len]; exact h5, hv.few⟩, fun hb => absurd hb (bFew_no h64), fun _ => hX⟩
abbrev s_paper_of_papers : Stmt := topS 52
theorem ok_paper_of_papers {a : Addr} {fd : FuncData} (F : Fun K "paper_of" "paper_of" s_paper_of_papers a fd) (hm : mg "paper_of_papers" = some (.ref a)) : Cl P w K mg base 5 "paper_of_papers" f_never := cl_zeroN F (fun _ _ _ h => h) hm (F.binds (ps := ["shares"]) fun _ _ _ _ _ _ us hl => match us, hl with | [_], _ => rfl)
abbrev s_due_pairs : Stmt := topS 55
theorem ok_due_pairs {a : Addr} {fd : FuncData} (F : Fun K "due_pairs" "due_pairs" s_due_pairs a fd) (hm : mg "due_pairs" = some (.ref a)) : Cl P w K mg base 5 "due_pairs" f_never := cl_zero F (fun _ _ _ h => h) hm (F.binds (ps := ["thing", "shares"]) fun _ _ _ _ _ _ us hl => match us, hl with | [_, _], _ => rfl)
abbrev s_pack_mean : Stmt := topS 79
theorem sc_pack_mean : FnScope ["many", "size"] ["many", "size"] (defScope s_pack_mean) := ⟨rfl, rfl, rfl, by decide +kernel, rfl, by decide +kernel, by decide +kernel⟩
theorem ok_pack_mean {a : Addr} {fd : FuncData} (F : Fun K "pack_mean" "pack_mean" s_pack_mean a fd) (hm : mg "pack_mean" = some (.ref a)) (k_paper_of_packs : Cl P w K mg base 4 "paper_of_packs" f_never) (q_need_pack : ClX P w K mg base 3 "need_pack" (fnC [c_NoShares, c_NoKind, c_NoNumber, c_NoNeeds, c_TooMany, (0 : Addr), (0 : Addr), c_NoText] 2 2 bPack anyD)) :
    ClX P w K mg base 5 "pack_mean" (fnR [c_NoShares, c_NoKind, c_NoNumber, c_NoNeeds, c_TooMany, (0 : Addr), (0 : Addr), c_NoText] 2 rPk2) := by
  refine ⟨a, fd, ["many", "size"], fnX_ok F sc_pack_mean (fun args m R X h => ?_) (fun cdv A outer s H E hr => ⟨_, (pss_cons (ps_expr (pe_clX q_need_pack hr (by decide) (by rfl) (L2N.takes_of rfl rfl rfl rfl) (pa_cons (pv 0) (pa_cons (pv 1) pa_nil))))
      (PSs.nox (pss_one (ps_ret (pe_ix (kIx K) (pe_cl k_paper_of_packs hr (by decide) (by rfl) (pa_cons (pv 0) (pa_cons (pv 1) pa_nil))) (pv 0) (fun _ _ => rfl)))))), fun args m R X h G0 hT => ?_⟩), hm, F.kp, F.binds (ps := ["many", "size"]) fun _ _ _ _ _ _ us hl => match us, hl with | [_, _], _ => rfl⟩
  ·
    exact fnR_len h
  ·
    obtain ⟨ds, rfl, hl, i, hi, hX⟩ := h
    match ds, hl, hi with
    | [a, s], _, hi =>
      obtain ⟨hb, rfl⟩ := hi
      refine wx_seq (wx_drop (evx_call (hT _) ?_))
      walk_at "go"
      refine ⟨[a, s], rfl, rfl, trivial, fun h1 => ?_, fun h1 => hX⟩
      have h1 : okPk a s = true := h1
      rw [h1] at hb; cases hb
abbrev s_is_pack_paper : Stmt := topS 80
theorem sc_is_pack_paper : FnScope ["thing", "many", "size", "one"] ["thing", "many", "size"] (defScope s_is_pack_paper) := ⟨rfl, rfl, rfl, by decide +kernel, rfl, by decide +kernel, by decide +kernel⟩
theorem ok_is_pack_paper {a : Addr} {fd : FuncData} (F : Fun K "is_pack_paper" "is_pack_paper" s_is_pack_paper a fd) (hm : mg "is_pack_paper" = some (.ref a)) (z_all : mg "all" = none) (z_isinstance : mg "isinstance" = none) (z_list : mg "list" = none) (k_paper_of_packs : Cl P w K mg base 4 "paper_of_packs" f_never) (k_is_fraction : Cl P w K mg base 3 "is_fraction" f_isFrac) (q_need_pack : ClX P w K mg base 3 "need_pack" (fnC [c_NoShares, c_NoKind, c_NoNumber, c_NoNeeds, c_TooMany, (0 : Addr), (0 : Addr), c_NoText] 2 2 bPack anyD)) :
    ClX P w K mg base 5 "is_pack_paper" (fnR [c_NoShares, c_NoKind, c_NoNumber, c_NoNeeds, c_TooMany, (0 : Addr), (0 : Addr), c_NoText] 3 rPkI) := by
  refine ⟨a, fd, ["thing", "many", "size"], fnX_ok F sc_is_pack_paper (fun args m R X h => ?_) (fun cdv A outer s H E hr => ⟨_, (pss_cons (ps_expr (pe_clX q_need_pack hr (by decide) (by rfl) (L2N.takes_of rfl rfl rfl rfl) (pa_cons (pv 1) (pa_cons (pv 2) pa_nil))))
      (PSs.nox (pss_one (ps_ret (pe_and (pe_callB (kIsi K) (by rfl) z_isinstance (by decide +kernel) (pa_cons (pv 0) (pa_cons (pe_bltn (v := .ty "list") (by rfl) z_list (by decide +kernel) rfl) pa_nil))) (pe_and (pe_callB (kAll K) (by rfl) z_all (by decide +kernel) (pa_cons (pe_lc (own := [("one", 3)]) rfl sc_is_pack_paper.nd (kiL K (pv 0)) (blkOk_by (own := [("one", 3)]) (N := ["thing", "many", "size", "one"]) (sc := defScope s_is_pack_paper) (by decide +kernel)) (fun _ _ _ _ _ => (pg_name (i := 3) sc_is_pack_paper.nd rfl (by first | exact Or.inl rfl | exact Or.inr rfl))) (fun _ _ _ _ _ => pts_nil) (fun _ _ _ _ _ => (pe_cl k_is_fraction hr (by decide) (by rfl) (pa_cons (pv 3) pa_nil)))) pa_nil)) (pe_one (pe_cmpR (kEq K hr) (pv 0) (pe_cl k_paper_of_packs hr (by decide) (by rfl) (pa_cons (pv 1) (pa_cons (pv 2) pa_nil))) (nomark _))))))))), fun args m R X h G0 hT => ?_⟩), hm, F.kp, F.binds (ps := ["thing", "many", "size"]) fun _ _ _ _ _ _ us hl => match us, hl with | [_, _, _], _ => rfl⟩
  ·
    exact fnR_len h
  ·
    obtain ⟨ds, rfl, hl, i, hi, hX⟩ := h
    match ds, hl, hi with
    | [t, a, s], _, hi =>
      obtain ⟨hb, rfl⟩ := hi
      refine wx_seq (wx_drop (evx_call (hT _) ?_))
      walk_at "go"
      refine ⟨[a, s], rfl, rfl, trivial, fun h1 => ?_, fun h1 => hX⟩
      have h1 : okPk a s = true := h1
      rw [h1] at hb; cases hb
abbrev s_pack_paper : Stmt := topS 81
theorem sc_pack_paper : FnScope ["many", "size"] ["many", "size"] (defScope s_pack_paper) := ⟨rfl, rfl, rfl, by decide +kernel, rfl, by decide +kernel, by decide +kernel⟩
theorem ok_pack_paper {a : Addr} {fd : FuncData} (F : Fun K "pack_paper" "pack_paper" s_pack_paper a fd) (hm : mg "pack_paper" = some (.ref a)) (k_paper_of_packs : Cl P w K mg base 4 "paper_of_packs" f_never) (q_need_pack : ClX P w K mg base 3 "need_pack" (fnC [c_NoShares, c_NoKind, c_NoNumber, c_NoNeeds, c_TooMany, (0 : Addr), (0 : Addr), c_NoText] 2 2 bPack anyD)) :
    ClX P w K mg base 5 "pack_paper" (fnR [c_NoShares, c_NoKind, c_NoNumber, c_NoNeeds, c_TooMany, (0 : Addr), (0 : Addr), c_NoText] 2 rPk2) := by
  refine ⟨a, fd, ["many", "size"], fnX_ok F sc_pack_paper (fun args m R X h => ?_) (fun cdv A outer s H E hr => ⟨_, (pss_cons (ps_expr (pe_clX q_need_pack hr (by decide) (by rfl) (L2N.takes_of rfl rfl rfl rfl) (pa_cons (pv 0) (pa_cons (pv 1) pa_nil))))
      (PSs.nox (pss_one (ps_ret (pe_cl k_paper_of_packs hr (by decide) (by rfl) (pa_cons (pv 0) (pa_cons (pv 1) pa_nil))))))), fun args m R X h G0 hT => ?_⟩), hm, F.kp, F.binds (ps := ["many", "size"]) fun _ _ _ _ _ _ us hl => match us, hl with | [_, _], _ => rfl⟩
  ·
    exact fnR_len h
  ·
    obtain ⟨ds, rfl, hl, i, hi, hX⟩ := h
    match ds, hl, hi with
    | [a, s], _, hi =>
      obtain ⟨hb, rfl⟩ := hi
      refine wx_seq (wx_drop (evx_call (hT _) ?_))
      walk_at "go"
      refine ⟨[a, s], rfl, rfl, trivial, fun h1 => ?_, fun h1 => hX⟩
      have h1 : okPk a s = true := h1
      rw [h1] at hb; cases hb
abbrev s_is_time_paper : Stmt := topS 56
theorem sc_is_time_paper : FnScope ["thing", "shares", "one", "due"] ["thing", "shares"] (defScope s_is_time_paper) := ⟨rfl, rfl, rfl, by decide +kernel, rfl, by decide +kernel, by decide +kernel⟩
theorem ok_is_time_paper {a : Addr} {fd : FuncData} (F : Fun K "is_time_paper" "is_time_paper" s_is_time_paper a fd) (hm : mg "is_time_paper" = some (.ref a)) (z_all : mg "all" = none) (k_due_pairs : Cl P w K mg base 5 "due_pairs" f_never) (k_is_paper : Cl P w K mg base 4 "is_paper" f_never) (q_need_shares : ClX P w K mg base 3 "need_shares" (fnE [c_NoShares, c_NoKind, c_NoNumber, c_NoNeeds, c_TooMany, (0 : Addr), (0 : Addr), c_NoText] 1 eNeedShares anyD)) :
    ClX P w K mg base 6 "is_time_paper" (fnR [c_NoShares, c_NoKind, c_NoNumber, c_NoNeeds, c_TooMany, (0 : Addr), (0 : Addr), c_NoText] 2 rS2) := by
  refine ⟨a, fd, ["thing", "shares"], fnX_ok F sc_is_time_paper (fun args m R X h => ?_) (fun cdv A outer s H E hr => ⟨_, (pss_cons (ps_expr (pe_clX q_need_shares hr (by decide) (by rfl) (L2N.takes_of rfl rfl rfl rfl) (pa_cons (pv 1) pa_nil)))
      (PSs.nox (pss_one (ps_ret (pe_and (pe_cl k_is_paper hr (by decide) (by rfl) (pa_cons (pv 0) (pa_cons (pv 1) pa_nil))) (pe_one (pe_callB (kAll K) (by rfl) z_all (by decide +kernel) (pa_cons (pe_lc (own := [("one", 2), ("due", 3)]) rfl sc_is_time_paper.nd (kiT K (pe_cl k_due_pairs hr (by decide) (by rfl) (pa_cons (pv 0) (pa_cons (pv 1) pa_nil)))) (blkOk_by (own := [("one", 2), ("due", 3)]) (N := ["thing", "shares", "one", "due"]) (sc := defScope s_is_time_paper) (by decide +kernel)) (fun _ _ _ _ _ => (kgT K (pg_tup (n := 2) rfl (pgs_cons (pg_name (i := 2) sc_is_time_paper.nd rfl (by first | exact Or.inl rfl | exact Or.inr rfl)) (pgs_cons (pg_name (i := 3) sc_is_time_paper.nd rfl (by first | exact Or.inl rfl | exact Or.inr rfl)) pgs_nil))))) (fun _ _ _ _ _ => pts_nil) (fun _ _ _ _ _ => (pe_cmpR (kEq K hr) (pv 2) (pv 3) (nomark _)))) pa_nil)))))))), fun args m R X h G0 hT => ?_⟩), hm, F.kp, F.binds (ps := ["thing", "shares"]) fun _ _ _ _ _ _ us hl => match us, hl with | [_, _], _ => rfl⟩
  ·
    exact fnR_len h
  ·
    obtain ⟨ds, rfl, hl, i, hi, hX⟩ := h
    match ds, hl, hi with
    | [one, sh], _, hi =>
      refine wx_seq (wx_drop (evx_call (hT _) ?_))
      walk_at "go"
      refine ⟨[sh], rfl, rfl, trivial, fun d hd => ?_, fun j hj => ?_⟩
      rotate_left
      · obtain rfl := (st_no hi).1 j hj
        exact hX
      exact absurd hd ((st_no hi).2 d)
abbrev s_time_paper : Stmt := topS 57
theorem sc_time_paper : FnScope ["shares"] ["shares"] (defScope s_time_paper) := ⟨rfl, rfl, rfl, by decide +kernel, rfl, by decide +kernel, by decide +kernel⟩
theorem ok_time_paper {a : Addr} {fd : FuncData} (F : Fun K "time_paper" "time_paper" s_time_paper a fd) (hm : mg "time_paper" = some (.ref a)) (k_paper_of_papers : Cl P w K mg base 5 "paper_of_papers" f_never) (q_need_shares : ClX P w K mg base 3 "need_shares" (fnE [c_NoShares, c_NoKind, c_NoNumber, c_NoNeeds, c_TooMany, (0 : Addr), (0 : Addr), c_NoText] 1 eNeedShares anyD)) :
    ClX P w K mg base 6 "time_paper" (fnR [c_NoShares, c_NoKind, c_NoNumber, c_NoNeeds, c_TooMany, (0 : Addr), (0 : Addr), c_NoText] 1 rS1) := by
  refine ⟨a, fd, ["shares"], fnX_ok F sc_time_paper (fun args m R X h => ?_) (fun cdv A outer s H E hr => ⟨_, (pss_cons (ps_expr (pe_clX q_need_shares hr (by decide) (by rfl) (L2N.takes_of rfl rfl rfl rfl) (pa_cons (pv 0) pa_nil)))
      (PSs.nox (pss_one (ps_ret (pe_cl k_paper_of_papers hr (by decide) (by rfl) (pa_cons (pv 0) pa_nil)))))), fun args m R X h G0 hT => ?_⟩), hm, F.kp, F.binds (ps := ["shares"]) fun _ _ _ _ _ _ us hl => match us, hl with | [_], _ => rfl⟩
  ·
    exact fnR_len h
  ·
    obtain ⟨ds, rfl, hl, i, hi, hX⟩ := h
    match ds, hl, hi with
    | [sh], _, hi =>
      refine wx_seq (wx_drop (evx_call (hT _) ?_))
      walk_at "go"
      refine ⟨[sh], rfl, rfl, trivial, fun d hd => ?_, fun j hj => ?_⟩
      rotate_left
      · obtain rfl := (st_no hi).1 j hj
        exact hX
      exact absurd hd ((st_no hi).2 d)
abbrev s_over_bound : Stmt := topS 58
theorem sc_over_bound : FnScope ["thing", "shares", "one", "due"] ["thing", "shares"] (defScope s_over_bound) := ⟨rfl, rfl, rfl, by decide +kernel, rfl, by decide +kernel, by decide +kernel⟩
theorem ok_over_bound {a : Addr} {fd : FuncData} (F : Fun K "over_bound" "over_bound" s_over_bound a fd) (hm : mg "over_bound" = some (.ref a)) (z_any : mg "any" = none) (z_range : mg "range" = none) (z_len : mg "len" = none) (z_tuple : mg "tuple" = none) (k_due_pairs : Cl P w K mg base 5 "due_pairs" f_never) (k_below : Cl P w K mg base 1 "below" f_never) (k_is_paper : Cl P w K mg base 4 "is_paper" f_never) (q_need_shares : ClX P w K mg base 3 "need_shares" (fnE [c_NoShares, c_NoKind, c_NoNumber, c_NoNeeds, c_TooMany, (0 : Addr), (0 : Addr), c_NoText] 1 eNeedShares anyD)) :
    ClX P w K mg base 6 "over_bound" (fnR [c_NoShares, c_NoKind, c_NoNumber, c_NoNeeds, c_TooMany, (0 : Addr), (0 : Addr), c_NoText] 2 rS2) := by
  refine ⟨a, fd, ["thing", "shares"], fnX_ok F sc_over_bound (fun args m R X h => ?_) (fun cdv A outer s H E hr => ⟨_, (pss_cons (ps_expr (pe_clX q_need_shares hr (by decide) (by rfl) (L2N.takes_of rfl rfl rfl rfl) (pa_cons (pv 1) pa_nil)))
      (PSs.nox (pss_cons (ps_if (PW.pt (pw_or (pt_not (pt_val (pe_cl k_is_paper hr (by decide) (by rfl) (pa_cons (pv 0) (pa_cons (pv 1) pa_nil))))) (pw_or1 (pt_val (pe_callB (kAny K) (by rfl) z_any (by decide +kernel) (pa_cons (pe_lc (own := [("one", 2), ("due", 3)]) rfl sc_over_bound.nd (kiT K (pe_cl k_due_pairs hr (by decide) (by rfl) (pa_cons (pv 0) (pa_cons (pv 1) pa_nil)))) (blkOk_by (own := [("one", 2), ("due", 3)]) (N := ["thing", "shares", "one", "due"]) (sc := defScope s_over_bound) (by decide +kernel)) (fun _ _ _ _ _ => (kgT K (pg_tup (n := 2) rfl (pgs_cons (pg_name (i := 2) sc_over_bound.nd rfl (by first | exact Or.inl rfl | exact Or.inr rfl)) (pgs_cons (pg_name (i := 3) sc_over_bound.nd rfl (by first | exact Or.inl rfl | exact Or.inr rfl)) pgs_nil))))) (fun _ _ _ _ _ => pts_nil) (fun _ _ _ _ _ => (pe_cl k_below hr (by decide) (by rfl) (pa_cons (pv 2) (pa_cons (pv 3) pa_nil))))) pa_nil)))))) (pss_one (ps_ret pe_non)) pss_nil)
      (pss_one (ps_ret (pe_ix (kIx K) (pv 0) (pe_tupRg rfl (by rfl) z_tuple (prg_1 (by rfl) z_range (pe_callB (kLen K) (by rfl) z_len (by decide +kernel) (pa_cons (pv 1) pa_nil)))) (fun _ _ => rfl))))))), fun args m R X h G0 hT => ?_⟩), hm, F.kp, F.binds (ps := ["thing", "shares"]) fun _ _ _ _ _ _ us hl => match us, hl with | [_, _], _ => rfl⟩
  ·
    exact fnR_len h
  ·
    obtain ⟨ds, rfl, hl, i, hi, hX⟩ := h
    match ds, hl, hi with
    | [one, sh], _, hi =>
      refine wx_seq (wx_drop (evx_call (hT _) ?_))
      walk_at "go"
      refine ⟨[sh], rfl, rfl, trivial, fun d hd => ?_, fun j hj => ?_⟩
      rotate_left
      · obtain rfl := (st_no hi).1 j hj
        exact hX
      exact absurd hd ((st_no hi).2 d)
abbrev s_under_bound : Stmt := topS 59
theorem sc_under_bound : FnScope ["thing", "shares", "one", "due"] ["thing", "shares"] (defScope s_under_bound) := ⟨rfl, rfl, rfl, by decide +kernel, rfl, by decide +kernel, by decide +kernel⟩
theorem ok_under_bound {a : Addr} {fd : FuncData} (F : Fun K "under_bound" "under_bound" s_under_bound a fd) (hm : mg "under_bound" = some (.ref a)) (z_any : mg "any" = none) (z_range : mg "range" = none) (z_len : mg "len" = none) (z_tuple : mg "tuple" = none) (k_due_pairs : Cl P w K mg base 5 "due_pairs" f_never) (k_below : Cl P w K mg base 1 "below" f_never) (k_is_paper : Cl P w K mg base 4 "is_paper" f_never) (q_need_shares : ClX P w K mg base 3 "need_shares" (fnE [c_NoShares, c_NoKind, c_NoNumber, c_NoNeeds, c_TooMany, (0 : Addr), (0 : Addr), c_NoText] 1 eNeedShares anyD)) :
    ClX P w K mg base 6 "under_bound" (fnR [c_NoShares, c_NoKind, c_NoNumber, c_NoNeeds, c_TooMany, (0 : Addr), (0 : Addr), c_NoText] 2 rS2) := by
  refine ⟨a, fd, ["thing", "shares"], fnX_ok F sc_under_bound (fun args m R X h => ?_) (fun cdv A outer s H E hr => ⟨_, (pss_cons (ps_expr (pe_clX q_need_shares hr (by decide) (by rfl) (L2N.takes_of rfl rfl rfl rfl) (pa_cons (pv 1) pa_nil)))
      (PSs.nox (pss_cons (ps_if (PW.pt (pw_or (pt_not (pt_val (pe_cl k_is_paper hr (by decide) (by rfl) (pa_cons (pv 0) (pa_cons (pv 1) pa_nil))))) (pw_or1 (pt_val (pe_callB (kAny K) (by rfl) z_any (by decide +kernel) (pa_cons (pe_lc (own := [("one", 2), ("due", 3)]) rfl sc_under_bound.nd (kiT K (pe_cl k_due_pairs hr (by decide) (by rfl) (pa_cons (pv 0) (pa_cons (pv 1) pa_nil)))) (blkOk_by (own := [("one", 2), ("due", 3)]) (N := ["thing", "shares", "one", "due"]) (sc := defScope s_under_bound) (by decide +kernel)) (fun _ _ _ _ _ => (kgT K (pg_tup (n := 2) rfl (pgs_cons (pg_name (i := 2) sc_under_bound.nd rfl (by first | exact Or.inl rfl | exact Or.inr rfl)) (pgs_cons (pg_name (i := 3) sc_under_bound.nd rfl (by first | exact Or.inl rfl | exact Or.inr rfl)) pgs_nil))))) (fun _ _ _ _ _ => pts_nil) (fun _ _ _ _ _ => (pe_cl k_below hr (by decide) (by rfl) (pa_cons (pv 3) (pa_cons (pv 2) pa_nil))))) pa_nil)))))) (pss_one (ps_ret pe_non)) pss_nil)
      (pss_one (ps_ret (pe_ix (kIx K) (pv 0) (pe_tupRg rfl (by rfl) z_tuple (prg_1 (by rfl) z_range (pe_callB (kLen K) (by rfl) z_len (by decide +kernel) (pa_cons (pv 1) pa_nil)))) (fun _ _ => rfl))))))), fun args m R X h G0 hT => ?_⟩), hm, F.kp, F.binds (ps := ["thing", "shares"]) fun _ _ _ _ _ _ us hl => match us, hl with | [_, _], _ => rfl⟩
  ·
    exact fnR_len h
  ·
    obtain ⟨ds, rfl, hl, i, hi, hX⟩ := h
    match ds, hl, hi with
    | [one, sh], _, hi =>
      refine wx_seq (wx_drop (evx_call (hT _) ?_))
      walk_at "go"
      refine ⟨[sh], rfl, rfl, trivial, fun d hd => ?_, fun j hj => ?_⟩
      rotate_left
      · obtain rfl := (st_no hi).1 j hj
        exact hX
      exact absurd hd ((st_no hi).2 d)
abbrev s_mean_all : Stmt := topS 69
theorem sc_mean_all : FnScope ["shares"] ["shares"] (defScope s_mean_all) := ⟨rfl, rfl, rfl, by decide +kernel, rfl, by decide +kernel, by decide +kernel⟩
theorem ok_mean_all {a : Addr} {fd : FuncData} (F : Fun K "mean_all" "mean_all" s_mean_all a fd) (hm : mg "mean_all" = some (.ref a)) (k_paper_of_papers : Cl P w K mg base 5 "paper_of_papers" f_never) (k_every : Cl P w K mg base 1 "every" f_never) (q_need_shares : ClX P w K mg base 3 "need_shares" (fnE [c_NoShares, c_NoKind, c_NoNumber, c_NoNeeds, c_TooMany, (0 : Addr), (0 : Addr), c_NoText] 1 eNeedShares anyD)) :
    ClX P w K mg base 6 "mean_all" (fnR [c_NoShares, c_NoKind, c_NoNumber, c_NoNeeds, c_TooMany, (0 : Addr), (0 : Addr), c_NoText] 1 rS1) := by
  refine ⟨a, fd, ["shares"], fnX_ok F sc_mean_all (fun args m R X h => ?_) (fun cdv A outer s H E hr => ⟨_, (pss_cons (ps_expr (pe_clX q_need_shares hr (by decide) (by rfl) (L2N.takes_of rfl rfl rfl rfl) (pa_cons (pv 0) pa_nil)))
      (PSs.nox (pss_one (ps_ret (pe_ix (kIx K) (pe_cl k_paper_of_papers hr (by decide) (by rfl) (pa_cons (pv 0) pa_nil)) (pe_cl k_every hr (by decide) (by rfl) (pa_cons (pv 0) pa_nil)) (fun _ _ => rfl)))))), fun args m R X h G0 hT => ?_⟩), hm, F.kp, F.binds (ps := ["shares"]) fun _ _ _ _ _ _ us hl => match us, hl with | [_], _ => rfl⟩
  ·
    exact fnR_len h
  ·
    obtain ⟨ds, rfl, hl, i, hi, hX⟩ := h
    match ds, hl, hi with
    | [sh], _, hi =>
      refine wx_seq (wx_drop (evx_call (hT _) ?_))
      walk_at "go"
      refine ⟨[sh], rfl, rfl, trivial, fun d hd => ?_, fun j hj => ?_⟩
      rotate_left
      · obtain rfl := (st_no hi).1 j hj
        exact hX
      exact absurd hd ((st_no hi).2 d)
abbrev s__law_by_numbers : Stmt := topS 93
theorem sc__law_by_numbers : FnScope ["_law_kind", "_law_one", "_law_other"] ["_law_kind", "_law_one", "_law_other"] (defScope s__law_by_numbers) := ⟨rfl, rfl, rfl, by decide +kernel, rfl, by decide +kernel, by decide +kernel⟩
theorem ok__law_by_numbers {a : Addr} {fd : FuncData} (F : Fun K "_law_by_numbers" "_law_by_numbers" s__law_by_numbers a fd) (hm : mg "_law_by_numbers" = some (.ref a)) (q_lowest : ClX P w K mg base 3 "lowest" (fnR [c_NoShares, c_NoKind, c_NoNumber, c_NoNeeds, c_TooMany, (0 : Addr), (0 : Addr), c_NoText] 2 rLow)) (q_added : ClX P w K mg base 5 "added" (fnR [c_NoShares, c_NoKind, c_NoNumber, c_NoNeeds, c_TooMany, (0 : Addr), (0 : Addr), c_NoText] 2 rFr2)) (q_lessened : ClX P w K mg base 5 "lessened" (fnR [c_NoShares, c_NoKind, c_NoNumber, c_NoNeeds, c_TooMany, (0 : Addr), (0 : Addr), c_NoText] 2 rFr2)) (q_multiplied : ClX P w K mg base 5 "multiplied" (fnR [c_NoShares, c_NoKind, c_NoNumber, c_NoNeeds, c_TooMany, (0 : Addr), (0 : Addr), c_NoText] 2 rFr2)) (q_is_less : ClX P w K mg base 5 "is_less" (fnR [c_NoShares, c_NoKind, c_NoNumber, c_NoNeeds, c_TooMany, (0 : Addr), (0 : Addr), c_NoText] 2 rFr2)) :
    ClX P w K mg base 6 "_law_by_numbers" (f_byNum [c_NoShares, c_NoKind, c_NoNumber, c_NoNeeds, c_TooMany, (0 : Addr), (0 : Addr), c_NoText]) := by
  refine ⟨a, fd, ["_law_kind", "_law_one", "_law_other"], fnX_ok F sc__law_by_numbers (fun args m R X h => ?_) (fun cdv A outer s H E hr => ⟨_, (pss_one (ps_if (pt_cmpR (kEq K hr) (pv 0) pe_int (nomark _)) (pss_one (ps_expr (pe_clX q_lowest hr (by decide) (by rfl) (L2N.takes_of rfl rfl rfl rfl) (pa_cons (pv 1) (pa_cons (pv 2) pa_nil))))) (pss_one (ps_if (pt_cmpR (kEq K hr) (pv 0) pe_int (nomark _)) (pss_one (ps_expr (pe_clX q_added hr (by decide) (by rfl) (L2N.takes_of rfl rfl rfl rfl) (pa_cons (pv 1) (pa_cons (pv 2) pa_nil))))) (pss_one (ps_if (pt_cmpR (kEq K hr) (pv 0) pe_int (nomark _)) (pss_one (ps_expr (pe_clX q_lessened hr (by decide) (by rfl) (L2N.takes_of rfl rfl rfl rfl) (pa_cons (pv 1) (pa_cons (pv 2) pa_nil))))) (pss_one (ps_if (pt_cmpR (kEq K hr) (pv 0) pe_int (nomark _)) (pss_one (ps_expr (pe_clX q_multiplied hr (by decide) (by rfl) (L2N.takes_of rfl rfl rfl rfl) (pa_cons (pv 1) (pa_cons (pv 2) pa_nil))))) (pss_one (ps_expr (pe_clX q_is_less hr (by decide) (by rfl) (L2N.takes_of rfl rfl rfl rfl) (pa_cons (pv 1) (pa_cons (pv 2) pa_nil))))))))))))), fun args m R X h G0 hT => ?_⟩), hm, F.kp, F.binds (ps := ["_law_kind", "_law_one", "_law_other"]) fun _ _ _ _ _ _ us hl => match us, hl with | [_, _, _], _ => rfl⟩
  ·
    obtain ⟨_, _, _, _, rfl, _⟩ := h; rfl
  ·
    obtain ⟨k, x, y, i, rfl, hk, hi, hX⟩ := h
    have : k = 0 ∨ k = 1 ∨ k = 2 ∨ k = 3 ∨ k = 4 := by omega
    rcases this with rfl | rfl | rfl | rfl | rfl
    · refine wx_if ?_
      walk_at "go"
      refine br_t rfl (wx_drop (evx_call (hT _) ?_))
      walk_at "go"
      exact ⟨[x, y], rfl, rfl, i, hi, hX⟩
    · refine wx_if ?_
      walk_at "go"
      refine br_f rfl (wx_if ?_)
      walk_at "go"
      refine br_t rfl (wx_drop (evx_call (hT _) ?_))
      walk_at "go"
      exact ⟨[x, y], rfl, rfl, i, hi, hX⟩
    · refine wx_if ?_
      walk_at "go"
      refine br_f rfl (wx_if ?_)
      walk_at "go"
      refine br_f rfl (wx_if ?_)
      walk_at "go"
      refine br_t rfl (wx_drop (evx_call (hT _) ?_))
      walk_at "go"
      exact ⟨[x, y], rfl, rfl, i, hi, hX⟩
    · refine wx_if ?_
      walk_at "go"
      refine br_f rfl (wx_if ?_)
      walk_at "go"
      refine br_f rfl (wx_if ?_)
      walk_at "go"
      refine br_f rfl (wx_if ?_)
      walk_at "go"
      refine br_t rfl (wx_drop (evx_call (hT _) ?_))
      walk_at "go"
      exact ⟨[x, y], rfl, rfl, i, hi, hX⟩
    · refine wx_if ?_
      walk_at "go"
      refine br_f rfl (wx_if ?_)
      walk_at "go"
      refine br_f rfl (wx_if ?_)
      walk_at "go"
      refine br_f rfl (wx_if ?_)
      walk_at "go"
      refine br_f rfl (wx_drop (evx_call (hT _) ?_))
      walk_at "go"
      exact ⟨[x, y], rfl, rfl, i, hi, hX⟩
abbrev s__law_by_packs : Stmt := topS 94
theorem sc__law_by_packs : FnScope ["_law_kind", "_law_many", "_law_size", "_law_number"] ["_law_kind", "_law_many", "_law_size", "_law_number"] (defScope s__law_by_packs) := ⟨rfl, rfl, rfl, by decide +kernel, rfl, by decide +kernel, by decide +kernel⟩
theorem ok__law_by_packs {a : Addr} {fd : FuncData} (F : Fun K "_law_by_packs" "_law_by_packs" s__law_by_packs a fd) (hm : mg "_law_by_packs" = some (.ref a)) (q_pack_many : ClX P w K mg base 4 "pack_many" (fnR [c_NoShares, c_NoKind, c_NoNumber, c_NoNeeds, c_TooMany, (0 : Addr), (0 : Addr), c_NoText] 2 rPk2)) (q_pack_mean : ClX P w K mg base 5 "pack_mean" (fnR [c_NoShares, c_NoKind, c_NoNumber, c_NoNeeds, c_TooMany, (0 : Addr), (0 : Addr), c_NoText] 2 rPk2)) (q_pack_paper : ClX P w K mg base 5 "pack_paper" (fnR [c_NoShares, c_NoKind, c_NoNumber, c_NoNeeds, c_TooMany, (0 : Addr), (0 : Addr), c_NoText] 2 rPk2)) (q_is_pack_paper : ClX P w K mg base 5 "is_pack_paper" (fnR [c_NoShares, c_NoKind, c_NoNumber, c_NoNeeds, c_TooMany, (0 : Addr), (0 : Addr), c_NoText] 3 rPkI)) (q_pack_cases : ClX P w K mg base 4 "pack_cases" (fnR [c_NoShares, c_NoKind, c_NoNumber, c_NoNeeds, c_TooMany, (0 : Addr), (0 : Addr), c_NoText] 3 rPkC)) :
    ClX P w K mg base 6 "_law_by_packs" (f_byPk [c_NoShares, c_NoKind, c_NoNumber, c_NoNeeds, c_TooMany, (0 : Addr), (0 : Addr), c_NoText]) := by
  refine ⟨a, fd, ["_law_kind", "_law_many", "_law_size", "_law_number"], fnX_ok F sc__law_by_packs (fun args m R X h => ?_) (fun cdv A outer s H E hr => ⟨_, (pss_one (ps_if (pt_cmpR (kEq K hr) (pv 0) pe_int (nomark _)) (pss_one (ps_expr (pe_clX q_pack_many hr (by decide) (by rfl) (L2N.takes_of rfl rfl rfl rfl) (pa_cons (pv 1) (pa_cons (pv 2) pa_nil))))) (pss_one (ps_if (pt_cmpR (kEq K hr) (pv 0) pe_int (nomark _)) (pss_one (ps_expr (pe_clX q_pack_mean hr (by decide) (by rfl) (L2N.takes_of rfl rfl rfl rfl) (pa_cons (pv 1) (pa_cons (pv 2) pa_nil))))) (pss_one (ps_if (pt_cmpR (kEq K hr) (pv 0) pe_int (nomark _)) (pss_one (ps_expr (pe_clX q_pack_paper hr (by decide) (by rfl) (L2N.takes_of rfl rfl rfl rfl) (pa_cons (pv 1) (pa_cons (pv 2) pa_nil))))) (pss_one (ps_if (pt_cmpR (kEq K hr) (pv 0) pe_int (nomark _)) (pss_one (ps_expr (pe_clX q_is_pack_paper hr (by decide) (by rfl) (L2N.takes_of rfl rfl rfl rfl) (pa_cons pe_non (pa_cons (pv 1) (pa_cons (pv 2) pa_nil)))))) (pss_one (ps_expr (pe_clX q_pack_cases hr (by decide) (by rfl) (L2N.takes_of rfl rfl rfl rfl) (pa_cons (pv 1) (pa_cons (pv 2) (pa_cons (pv 3) pa_nil)))))))))))))), fun args m R X h G0 hT => ?_⟩), hm, F.kp, F.binds (ps := ["_law_kind", "_law_many", "_law_size", "_law_number"]) fun _ _ _ _ _ _ us hl => match us, hl with | [_, _, _, _], _ => rfl⟩
  ·
    obtain ⟨_, _, _, _, _, rfl, _⟩ := h; rfl
  ·
    obtain ⟨k, a, s, n, i, rfl, hk, hi, hX⟩ := h
    have : k = 0 ∨ k = 1 ∨ k = 2 ∨ k = 3 ∨ k = 4 := by omega
    rcases this with rfl | rfl | rfl | rfl | rfl
    · refine wx_if ?_
      walk_at "go"
      refine br_t rfl (wx_drop (evx_call (hT _) ?_))
      walk_at "go"
      exact ⟨[a, s], rfl, rfl, i, hi, hX⟩
    · refine wx_if ?_
      walk_at "go"
      refine br_f rfl (wx_if ?_)
      walk_at "go"
      refine br_t rfl (wx_drop (evx_call (hT _) ?_))
      walk_at "go"
      exact ⟨[a, s], rfl, rfl, i, hi, hX⟩
    · refine wx_if ?_
      walk_at "go"
      refine br_f rfl (wx_if ?_)
      walk_at "go"
      refine br_f rfl (wx_if ?_)
      walk_at "go"
      refine br_t rfl (wx_drop (evx_call (hT _) ?_))
      walk_at "go"
      exact ⟨[a, s], rfl, rfl, i, hi, hX⟩
    · refine wx_if ?_
      walk_at "go"
      refine br_f rfl (wx_if ?_)
      walk_at "go"
      refine br_f rfl (wx_if ?_)
      walk_at "go"
      refine br_f rfl (wx_if ?_)
      walk_at "go"
      refine br_t rfl (wx_drop (evx_call (hT _) ?_))
      walk_at "go"
      exact ⟨[.none, a, s], rfl, rfl, i, hi, hX⟩
    · refine wx_if ?_
      walk_at "go"
      refine br_f rfl (wx_if ?_)
      walk_at "go"
      refine br_f rfl (wx_if ?_)
      walk_at "go"
      refine br_f rfl (wx_if ?_)
      walk_at "go"
      refine br_f rfl (wx_drop (evx_call (hT _) ?_))
      walk_at "go"
      exact ⟨[a, s, n], rfl, rfl, i, hi, hX⟩
abbrev s_mean_of : Stmt := topS 45
theorem sc_mean_of : FnScope ["shares", "needs", "known", "left", "found", "kind"] ["shares", "needs", "known"] (defScope s_mean_of) := ⟨rfl, rfl, rfl, by decide +kernel, rfl, by decide +kernel, by decide +kernel⟩
theorem st_mean_of {k d : Nat} (hk : 3 ≤ k) {a : Addr} {fd : FuncData} (F : Fun K "mean_of" "mean_of" s_mean_of a fd) (hm : mg "mean_of" = some (.ref a)) (z_range : mg "range" = none) (z_len : mg "len" = none) (z_sum : mg "sum" = none) (k_sum_of : Cl P w K mg base 3 "sum_of" f_sumOf) (k_times_of : Cl P w K mg base 3 "times_of" f_timesOf) (k_one_less : Cl P w K mg base 1 "one_less" f_oneLess) (k_mean_of : Cl P w K mg base k "mean_of" (f_meanOf d)) :
    Cl P w K mg base (k + 1) "mean_of" (f_meanOf (d + 1)) := by
  refine ⟨a, fd, ["shares", "needs", "known"], fn_ok F sc_mean_of (fun args m R h => ?_) (fun cdv A outer s H E hr => ⟨_, (pss_cons (ps_if (pt_cmp (pc_dnotin (hu_of hr) (pv 1) (pv 2))) (pss_cons (ps_setLc (i := 3) (own := [("kind", 5)]) rfl sc_mean_of.nd rfl rfl (sw_true rfl rfl rfl (by decide +kernel)) (pi_range1 (by rfl) z_range (pa_cons (pe_callB (kLen K) (by rfl) z_len (by decide +kernel) (pa_cons (pv 1) pa_nil)) pa_nil)) (blkOk_by (own := [("kind", 5)]) (N := ["shares", "needs", "known", "left", "found", "kind"]) (sc := defScope s_mean_of) (by decide +kernel)) (fun _ _ _ _ _ => (pg_name (i := 5) sc_mean_of.nd rfl (by first | exact Or.inl rfl | exact Or.inr rfl))) (fun _ _ _ _ _ => (pts_one (pt_cmpR oGt (pe_ix (kIx K) (pv 1) (pv 5) (fun _ _ => rfl)) pe_int (nomark _)))) (fun _ _ _ _ _ => (pv 5)))
      (pss_cons (ps_set (i := 4) sc_mean_of.nd rfl (by first | exact Or.inl rfl | exact Or.inr rfl) (pe_tup (pa_cons (pe_callB (kSum K) (by rfl) z_sum (by decide +kernel) (pa_cons (pv 0) pa_nil)) (pa_cons pe_int pa_nil))))
      (pss_cons (ps_for PassesOwn.never rfl (kiL K (pv 3)) (pg_name (i := 5) sc_mean_of.nd rfl (by first | exact Or.inl rfl | exact Or.inr rfl)) (pss_one (ps_set (i := 4) sc_mean_of.nd rfl (by first | exact Or.inl rfl | exact Or.inr rfl) (pe_cl k_sum_of hr (by omega) (by rfl) (pa_cons (pv 4) (pa_cons (pe_cl k_times_of hr (by omega) (by rfl) (pa_cons (pe_tup (pa_cons (pe_ix (kIx K) (pv 0) (pv 5) (fun _ _ => rfl)) (pa_cons pe_int pa_nil))) (pa_cons (pe_cl k_mean_of hr (by omega) (by rfl) (pa_cons (pv 0) (pa_cons (pe_cl k_one_less hr (by omega) (by rfl) (pa_cons (pv 1) (pa_cons (pv 5) pa_nil))) (pa_cons (pv 2) pa_nil)))) pa_nil))) pa_nil))))))
      (pss_one (ps_dput (hu_of hr) (pv 2) (pv 1) (pe_cl k_times_of hr (by omega) (by rfl) (pa_cons (pv 4) (pa_cons (pe_tup (pa_cons pe_int (pa_cons (pe_callB (kSum K) (by rfl) z_sum (by decide +kernel) (pa_cons (pe_lc (own := [("kind", 5)]) rfl sc_mean_of.nd (kiL K (pv 3)) (blkOk_by (own := [("kind", 5)]) (N := ["shares", "needs", "known", "left", "found", "kind"]) (sc := defScope s_mean_of) (by decide +kernel)) (fun _ _ _ _ _ => (pg_name (i := 5) sc_mean_of.nd rfl (by first | exact Or.inl rfl | exact Or.inr rfl))) (fun _ _ _ _ _ => pts_nil) (fun _ _ _ _ _ => (pe_ix (kIx K) (pv 0) (pv 5) (fun _ _ => rfl)))) pa_nil)) pa_nil))) pa_nil))) rfl))))) pss_nil)
      (pss_one (ps_ret (pe_dget (hu_of hr) (pv 2) (pv 1) (fun _ _ => rfl))))), fun args m R h => ?_⟩), hm, F.kp, F.binds (ps := ["shares", "needs", "known"]) fun _ _ _ _ _ _ us hl => match us, hl with | [_, _, _], _ => rfl⟩
  ·
    obtain ⟨_, _, _, _, rfl, _⟩ := h; rfl
  ·
    obtain ⟨ss, v, p, l, rfl, hs, hv, hd, h9, ht, hm, q⟩ := h
    have hfew := hs.few
    have hsum := shares_sum hs
    have hS := supp_allS hv
    have hk := supp_kinds hv
    have hl5 : (suppV v).length ≤ 5 := Nat.le_trans (allS_mem _ _ hS).1 hfew
    refine w_seq (Wp.imp (N := fun r' m' => ∃ l' y3 y4 y5, TabN ss.length l' ∧ v ∈ l' ∧ r' = [.d (tupI ss), .t (kn v), .v (.ref p), y3, y4, y5] ∧ m' = put m p (.dT (tabT (mnN ss) l'))) (E := fun _ _ => False) (w_if (evt_B (ev_dnotin ?_))) ?_ (fun _ _ h => h.elim))
    · refine ev_var rfl (fun h => nomatch h) ⟨_, rfl, ?_⟩
      refine ev_var rfl (fun h => nomatch h) ⟨p, _, rfl, Or.inl hm, ?_⟩
      refine ⟨_, rfl, ?_⟩
      by_cases hin : v ∈ l
      · refine br_f (by rw [getV_tab hin]; rfl) ?_
        exact w_next ⟨l, _, _, _, ht, hin, rfl, (put_self hm).symm⟩
      · refine br_t (by rw [getV_tabNo hin]; rfl) ?_
        have hne : suppV v ≠ [] := fun e => hin (by rw [supp_nil e, hv.len]; exact ht.zero)
        walk_at "go"
        refine ev_filR1 (n := v.length) ?_ (by rw [hv.len]; omega) (fun k => decide (0 < v.getD k 0)) intN (fun i m2 hi hx => ?_) (fun i m2 hi hx hq => ?_) ?_
        · walk_at "go"
          exact ⟨rfl, rfl⟩
        · walk_at "go"
          refine o2_ixT (kn_at hi) ?_
          walk_at "go"
          exact ⟨by rw [decide_eq_decide]; omega, rfl⟩
        · walk_at "go"
          exact ⟨rfl, rfl⟩
        walk_at "go"
        refine w_forLf (xs := suppV v) (f := intN) ?_ (fun i r' m' => ∃ l' y5, TabN ss.length l' ∧ m' = put m p (.dT (tabT (mnN ss) l')) ∧ r' = [.d (tupI ss), .t (kn v), .v (.ref p), .d (.list ((suppV v).map intN)), .d (frac (accN ss (mnN ss) v ((suppV v).take i))), y5]) ⟨l, _, ht, (put_self hm).symm, rfl⟩ ?_ ?_
        · walk_at "go"
          exact ⟨rfl, rfl⟩
        · rintro i k r' m' hi ⟨l1, y5, ht1, rfl, rfl⟩
          have hks := List.mem_of_getElem? hi
          obtain ⟨b1, b2⟩ := supp_mem.mp hks
          have hkl : k < ss.length := by rw [← hv.len]; exact b1
          have hls := lessV_sum b1 b2
          have hnv := hv.less hkl
          have hb9 := getD_bounds hs k
          have hw : FrB (((ss.getD k 0 : Int)) : Rat) 8 := ⟨bt_lit (n := 8) (by show (ss.getD k 0).natAbs < 256; omega) (by decide), bt_lit (n := 1) (by show 1 < 2; decide) (by decide)⟩
          have hf := mnN_fr hs hnv (by omega)
          have ha := accN_fr hs (l := (suppV v).take i) hv h9 (fun x hx => List.mem_of_mem_take hx) (by rw [List.length_take]; omega)
          walk_at "go"
          refine o2_ixT (tupI_at hkl) ?_
          refine eva_cons (ev_cI (eva_nil ⟨[_, _], rfl, by show 2 ≤ 100000; decide, ?_⟩))
          refine eva_cons (ev_call (eva_cons ?_))
          refine ev_var rfl (fun h => nomatch h) (eva_cons (ev_call (eva_cons (ev_var rfl (fun h => nomatch h) ?_))))
          refine eva_cons (ev_var rfl (fun h => nomatch h) (eva_nil ⟨v, k, rfl, b1, by rw [hv.len]; omega, ?_⟩))
          refine eva_cons (ev_var rfl (fun h => nomatch h) (eva_nil ⟨ss, lessV v k, p, l1, rfl, hs, hnv, by omega, by omega, ht1, put_same, fun l2 ht2 _ => ?_⟩))
          refine eva_nil ⟨((ss.getD k 0 : Int) : Rat), mnN ss (lessV v k), rfl, hw.mono (by decide), hf.mono (by decide), eva_nil ⟨_, _, rfl, ha.mono (by decide), (hw.mul hf (c := 1950) (by decide)).mono (by decide), l2, .d (intN k), ht2, put_put, ?_⟩⟩
          rw [take_one hi, accN_snoc]
          rfl
        · rintro r' m' ⟨l1, y5, ht1, rfl, rfl⟩
          have ha := accN_fr hs (l := suppV v) hv h9 (fun x hx => hx) hl5
          obtain ⟨g1, g2, g3⟩ := sum_ok hs hS hne
          rw [List.take_length]
          refine w_dputV (ns := kn v) rfl ?_
          walk_at "go"
          refine ev_mapLf (xs := suppV v) (f := intN) ?_ (by omega) (fun k => .int (ss.getD k 0)) (fun k m2 hk2 hx => ?_) ?_
          · walk_at "go"
            exact ⟨rfl, rfl⟩
          · walk_at "go"
            exact o2_ixT (tupI_at (hk.lt k hk2)) ⟨rfl, rfl⟩
          walk_at "dl1"
          have es : (suppV v).map (fun k => PyData.int (ss.getD k 0)) = ((suppV v).map fun k => ss.getD k 0).map PyData.int := by rw [List.map_map]; rfl
          rw [es]
          refine on_sumL ?_
          have hsm : ((suppV v).map fun k => ss.getD k 0).sum = sumP ss (suppV v) := rfl
          rw [hsm]
          walk_at "go"
          have ho : FrB (mkRat 1 (sumP ss (suppV v)).toNat) 8 := frB_mk (bt_lit (n := 1) (by decide) (by decide)) (bt_lit (n := 8) (by show _ < 256; omega) (by decide)) (by omega)
          refine ⟨_, mkRat 1 (sumP ss (suppV v)).toNat, ?_, ha.mono (by decide), ho.mono (by decide), ?_⟩
          · rw [frac_unit (by omega), g3]
          obtain ⟨l2, c1, c2, c3⟩ := tabN_put (f := mnN ss) ht1 hv
          rw [mnN_step, if_neg hne] at c3
          walk_at "go"
          refine ⟨p, _, rfl, put_same, ?_, l2, _, _, _, c1, c2, rfl, ?_⟩
          · rw [tab_len]; have := ht1.len hfew; omega
          rw [put_put, c3]
    · rintro r' m' ⟨l', y3, y4, y5, ht', hin, rfl, rfl⟩
      refine w_ret (ev_dgetV (ns := kn v) rfl ?_)
      exact ev_var rfl (fun h => nomatch h) ⟨p, _, _, rfl, Or.inl put_same, getV_tab hin, q l' ht' hin⟩
theorem ok_mean_of {a : Addr} {fd : FuncData} (F : Fun K "mean_of" "mean_of" s_mean_of a fd) (hm : mg "mean_of" = some (.ref a)) (z_range : mg "range" = none) (z_len : mg "len" = none) (z_sum : mg "sum" = none) (k_sum_of : Cl P w K mg base 3 "sum_of" f_sumOf) (k_times_of : Cl P w K mg base 3 "times_of" f_timesOf) (k_one_less : Cl P w K mg base 1 "one_less" f_oneLess) :
    Cl P w K mg base 13 "mean_of" (f_meanOf 10) := by
  have r0 : Cl P w K mg base 3 "mean_of" (f_meanOf 0) := cl_zero F (fun args m R ⟨_, _, _, _, _, _, _, h, _⟩ => absurd h (Nat.not_lt_zero _)) hm (F.binds (ps := ["shares", "needs", "known"]) fun _ _ _ _ _ _ us hl => match us, hl with | [_, _, _], _ => rfl)
  have r1 := st_mean_of (by decide) F hm z_range z_len z_sum k_sum_of k_times_of k_one_less r0
  have r2 := st_mean_of (by decide) F hm z_range z_len z_sum k_sum_of k_times_of k_one_less r1
  have r3 := st_mean_of (by decide) F hm z_range z_len z_sum k_sum_of k_times_of k_one_less r2
  have r4 := st_mean_of (by decide) F hm z_range z_len z_sum k_sum_of k_times_of k_one_less r3
  have r5 := st_mean_of (by decide) F hm z_range z_len z_sum k_sum_of k_times_of k_one_less r4
  have r6 := st_mean_of (by decide) F hm z_range z_len z_sum k_sum_of k_times_of k_one_less r5
  have r7 := st_mean_of (by decide) F hm z_range z_len z_sum k_sum_of k_times_of k_one_less r6
  have r8 := st_mean_of (by decide) F hm z_range z_len z_sum k_sum_of k_times_of k_one_less r7
  have r9 := st_mean_of (by decide) F hm z_range z_len z_sum k_sum_of k_times_of k_one_less r8
  have r10 := st_mean_of (by decide) F hm z_range z_len z_sum k_sum_of k_times_of k_one_less r9
  exact r10
abbrev s_any_of : Stmt := topS 48
theorem sc_any_of : FnScope ["shares", "needs", "known", "found", "kind", "one"] ["shares", "needs", "known"] (defScope s_any_of) := ⟨rfl, rfl, rfl, by decide +kernel, rfl, by decide +kernel, by decide +kernel⟩
theorem st_any_of {k d : Nat} (hk : 3 ≤ k) {a : Addr} {fd : FuncData} (F : Fun K "any_of" "any_of" s_any_of a fd) (hm : mg "any_of" = some (.ref a)) (z_sum : mg "sum" = none) (z_enumerate : mg "enumerate" = none) (c_NOUGHT : ∃ a, mg "NOUGHT" = some (.ref a) ∧ ∀ G, Rp K G (.tuple [.int 0, .int 1]) (.ref a)) (k_sum_of : Cl P w K mg base 3 "sum_of" f_sumOf) (k_times_of : Cl P w K mg base 3 "times_of" f_timesOf) (k_one_less : Cl P w K mg base 1 "one_less" f_oneLess) (k_any_of : Cl P w K mg base k "any_of" (f_anyOf d)) :
    Cl P w K mg base (k + 1) "any_of" (f_anyOf (d + 1)) := by
  obtain ⟨a_NOUGHT, h_NOUGHT, d_NOUGHT⟩ := c_NOUGHT
  refine ⟨a, fd, ["shares", "needs", "known"], fn_ok F sc_any_of (fun args m R h => ?_) (fun cdv A outer s H E hr => ⟨_, (pss_cons (ps_if (pt_cmpR (oInS K) pe_int (pv 1) rfl) (pss_one (ps_ret (pe_glob (v := V.ref a_NOUGHT) (by rfl) h_NOUGHT rfl))) pss_nil)
      (pss_cons (ps_if (pt_cmp (pc_dnotin (hu_of hr) (pv 1) (pv 2))) (pss_cons (ps_set (i := 3) sc_any_of.nd rfl (by first | exact Or.inl rfl | exact Or.inr rfl) (pe_tup (pa_cons (pe_callB (kSum K) (by rfl) z_sum (by decide +kernel) (pa_cons (pv 0) pa_nil)) (pa_cons pe_int pa_nil))))
      (pss_cons (ps_for PassesOwn.never rfl (pi_enumT K (by rfl) z_enumerate (pa_cons (pv 0) pa_nil)) (kgT K (pg_tup (n := 2) rfl (pgs_cons (pg_name (i := 4) sc_any_of.nd rfl (by first | exact Or.inl rfl | exact Or.inr rfl)) (pgs_cons (pg_name (i := 5) sc_any_of.nd rfl (by first | exact Or.inl rfl | exact Or.inr rfl)) pgs_nil)))) (pss_one (ps_set (i := 3) sc_any_of.nd rfl (by first | exact Or.inl rfl | exact Or.inr rfl) (pe_cl k_sum_of hr (by omega) (by rfl) (pa_cons (pv 3) (pa_cons (pe_cl k_times_of hr (by omega) (by rfl) (pa_cons (pe_tup (pa_cons (pv 5) (pa_cons pe_int pa_nil))) (pa_cons (pe_cl k_any_of hr (by omega) (by rfl) (pa_cons (pv 0) (pa_cons (pe_cl k_one_less hr (by omega) (by rfl) (pa_cons (pv 1) (pa_cons (pv 4) pa_nil))) (pa_cons (pv 2) pa_nil)))) pa_nil))) pa_nil))))))
      (pss_one (ps_dput (hu_of hr) (pv 2) (pv 1) (pe_cl k_times_of hr (by omega) (by rfl) (pa_cons (pv 3) (pa_cons (pe_tup (pa_cons pe_int (pa_cons (pe_callB (kSum K) (by rfl) z_sum (by decide +kernel) (pa_cons (pv 0) pa_nil)) pa_nil))) pa_nil))) rfl)))) pss_nil)
      (pss_one (ps_ret (pe_dget (hu_of hr) (pv 2) (pv 1) (fun _ _ => rfl)))))), fun args m R h => ?_⟩), hm, F.kp, F.binds (ps := ["shares", "needs", "known"]) fun _ _ _ _ _ _ us hl => match us, hl with | [_, _, _], _ => rfl⟩
  ·
    obtain ⟨_, _, _, _, rfl, _⟩ := h; rfl
  ·
    obtain ⟨ss, v, p, l, rfl, hs, hv, hd, h9, ht, hm, q⟩ := h
    have hfew := hs.few
    have h1 := hs.pos
    have hsum := shares_sum hs
    have hvl := hv.len
    walk_at "go"
    refine o2_inN (ks := v) (i := 0) ?_
    walk_at "go"
    by_cases h0 : 0 ∈ v
    · refine br_t (decide_eq_true h0) (w_ret (ev_cG d_NOUGHT ?_))
      have e : anN ss v = 0 := by rw [anN_step hs hvl, if_pos h0]
      have q2 := q l ht
      rw [e, put_self hm] at q2
      exact q2
    refine br_f (decide_eq_false h0) (w_next ?_)
    refine w_seq (Wp.imp (N := fun r' m' => ∃ l' y3 y4 y5, TabA ss.length l' ∧ v ∈ l' ∧ r' = [.d (tupI ss), .t (kn v), .v (.ref p), y3, y4, y5] ∧ m' = put m p (.dT (tabT (anN ss) l'))) (E := fun _ _ => False) (w_if (evt_B (ev_dnotin ?_))) ?_ (fun _ _ h => h.elim))
    · refine ev_var rfl (fun h => nomatch h) ⟨_, rfl, ?_⟩
      refine ev_var rfl (fun h => nomatch h) ⟨p, _, rfl, Or.inl hm, ?_⟩
      refine ⟨_, rfl, ?_⟩
      by_cases hin : v ∈ l
      · refine br_f (by rw [getV_tab hin]; rfl) ?_
        exact w_next ⟨l, _, _, _, ht, hin, rfl, (put_self hm).symm⟩
      · refine br_t (by rw [getV_tabNo hin]; rfl) ?_
        walk_at "go"
        refine w_forEt (xs := ss) (f := PyData.int) ?_ (fun i r' m' => ∃ l' y4 y5, TabA ss.length l' ∧ m' = put m p (.dT (tabT (anN ss) l')) ∧ r' = [.d (tupI ss), .t (kn v), .v (.ref p), .d (frac (accN ss (anN ss) v ((List.range ss.length).take i))), y4, y5]) ⟨l, _, _, ht, (put_self hm).symm, rfl⟩ ?_ ?_
        · walk_at "go"
          exact ⟨rfl, rfl⟩
        · rintro k one r' m' hk ⟨l1, y4, y5, ht1, rfl, rfl⟩
          have hkl : k < ss.length := (List.getElem?_eq_some_iff.mp hk).1
          have hone : ss.getD k 0 = one := by rw [List.getD_eq_getElem?_getD, hk]; rfl
          have hb9 := getD_bounds hs k
          rw [hone] at hb9
          have hls := lessV_sum (v := v) (k := k) (by omega) (pos_of h0 (by omega))
          have hnv := hv.less hkl
          have hw : FrB ((one : Int) : Rat) 8 := ⟨bt_lit (n := 8) (by show one.natAbs < 256; omega) (by decide), bt_lit (n := 1) (by show 1 < 2; decide) (by decide)⟩
          have hf := anN_fr hs hnv.len (by omega)
          have ha := anA_fr hs hvl h0 h9 k
          refine w_asg (ev_call (eva_cons (ev_var rfl (fun h => nomatch h) (eva_cons (ev_call (eva_cons (ev_tup (eva_cons (ev_var rfl (fun h => nomatch h) (eva_cons (ev_cI (eva_nil ⟨[_, _], rfl, by show 2 ≤ 100000; decide, ?_⟩))))))))))))
          refine eva_cons (ev_call (eva_cons ?_))
          refine ev_var rfl (fun h => nomatch h) (eva_cons (ev_call (eva_cons (ev_var rfl (fun h => nomatch h) ?_))))
          refine eva_cons (ev_var rfl (fun h => nomatch h) (eva_nil ⟨v, k, rfl, by omega, by omega, ?_⟩))
          refine eva_cons (ev_var rfl (fun h => nomatch h) (eva_nil ⟨ss, lessV v k, p, l1, rfl, hs, hnv, by omega, by omega, ht1, put_same, fun l2 ht2 => ?_⟩))
          refine eva_nil ⟨((one : Int) : Rat), anN ss (lessV v k), rfl, hw.mono (by decide), hf.mono (by decide), eva_nil ⟨_, _, rfl, ha.mono (by decide), (hw.mul hf (c := 300) (by decide)).mono (by decide), l2, .d (.int (k : Int)), .d (.int one), ht2, put_put, ?_⟩⟩
          rw [take_one (d := k) (by rw [List.getElem?_range hkl]), accN_snoc, hone]
          rfl
        · rintro r' m' ⟨l1, y4, y5, ht1, rfl, rfl⟩
          have ha := anA_fr hs hvl h0 h9 ss.length
          have et : (List.range ss.length).take ss.length = List.range ss.length := List.take_of_length_le (by rw [List.length_range]; exact Nat.le_refl _)
          rw [et] at ha ⊢
          refine w_dputV (ns := kn v) rfl ?_
          walk_at "go"
          have ho : FrB (mkRat 1 ss.sum.toNat) 8 := frB_mk (bt_lit (n := 1) (by decide) (by decide)) (bt_lit (n := 8) (by show _ < 256; omega) (by decide)) (by omega)
          refine ⟨_, mkRat 1 ss.sum.toNat, ?_, ha.mono (by decide), ho.mono (by decide), ?_⟩
          · rw [frac_unit (by omega), show ((ss.sum.toNat : Nat) : Int) = ss.sum by omega]
          obtain ⟨l2, c1, c2, c3⟩ := tabA_put (f := anN ss) ht1 hv
          rw [anN_step hs hvl, if_neg h0] at c3
          walk_at "go"
          refine ⟨p, _, rfl, put_same, ?_, l2, _, _, _, c1, c2, rfl, ?_⟩
          · rw [tab_len]; have := ht1.len hfew; omega
          rw [put_put, c3]
    · rintro r' m' ⟨l', y3, y4, y5, ht', hin, rfl, rfl⟩
      refine w_ret (ev_dgetV (ns := kn v) rfl ?_)
      exact ev_var rfl (fun h => nomatch h) ⟨p, _, _, rfl, Or.inl put_same, getV_tab hin, q l' ht'⟩
theorem ok_any_of {a : Addr} {fd : FuncData} (F : Fun K "any_of" "any_of" s_any_of a fd) (hm : mg "any_of" = some (.ref a)) (z_sum : mg "sum" = none) (z_enumerate : mg "enumerate" = none) (c_NOUGHT : ∃ a, mg "NOUGHT" = some (.ref a) ∧ ∀ G, Rp K G (.tuple [.int 0, .int 1]) (.ref a)) (k_sum_of : Cl P w K mg base 3 "sum_of" f_sumOf) (k_times_of : Cl P w K mg base 3 "times_of" f_timesOf) (k_one_less : Cl P w K mg base 1 "one_less" f_oneLess) :
    Cl P w K mg base 13 "any_of" (f_anyOf 10) := by
  have r0 : Cl P w K mg base 3 "any_of" (f_anyOf 0) := cl_zero F (fun args m R ⟨_, _, _, _, _, _, _, h, _⟩ => absurd h (Nat.not_lt_zero _)) hm (F.binds (ps := ["shares", "needs", "known"]) fun _ _ _ _ _ _ us hl => match us, hl with | [_, _, _], _ => rfl)
  have r1 := st_any_of (by decide) F hm z_sum z_enumerate c_NOUGHT k_sum_of k_times_of k_one_less r0
  have r2 := st_any_of (by decide) F hm z_sum z_enumerate c_NOUGHT k_sum_of k_times_of k_one_less r1
  have r3 := st_any_of (by decide) F hm z_sum z_enumerate c_NOUGHT k_sum_of k_times_of k_one_less r2
  have r4 := st_any_of (by decide) F hm z_sum z_enumerate c_NOUGHT k_sum_of k_times_of k_one_less r3
  have r5 := st_any_of (by decide) F hm z_sum z_enumerate c_NOUGHT k_sum_of k_times_of k_one_less r4
  have r6 := st_any_of (by decide) F hm z_sum z_enumerate c_NOUGHT k_sum_of k_times_of k_one_less r5
  have r7 := st_any_of (by decide) F hm z_sum z_enumerate c_NOUGHT k_sum_of k_times_of k_one_less r6
  have r8 := st_any_of (by decide) F hm z_sum z_enumerate c_NOUGHT k_sum_of k_times_of k_one_less r7
  have r9 := st_any_of (by decide) F hm z_sum z_enumerate c_NOUGHT k_sum_of k_times_of k_one_less r8
  have r10 := st_any_of (by decide) F hm z_sum z_enumerate c_NOUGHT k_sum_of k_times_of k_one_less r9
  exact r10
abbrev s_mean_needs : Stmt := topS 46
theorem sc_mean_needs : FnScope ["shares", "needs"] ["shares", "needs"] (defScope s_mean_needs) := ⟨rfl, rfl, rfl, by decide +kernel, rfl, by decide +kernel, by decide +kernel⟩
theorem fok_mean_needs {a : Addr} {fd : FuncData} (F : Fun K "mean_needs" "mean_needs" s_mean_needs a fd) (hm : mg "mean_needs" = some (.ref a)) (z_len : mg "len" = none) (c_NOUGHT : ∃ a, mg "NOUGHT" = some (.ref a) ∧ ∀ G, Rp K G (.tuple [.int 0, .int 1]) (.ref a)) (k_need_needs : Cl P w K mg base 4 "need_needs" f_needNeeds) (k_need_few : Cl P w K mg base 1 "need_few" f_needFew) (k_mean_of : Cl P w K mg base 13 "mean_of" (f_meanOf 10)) :
    FnOk P w K mg base CX0 14 a fd ["shares", "needs"] (spD K f_meanNeeds) := by
  obtain ⟨a_NOUGHT, h_NOUGHT, d_NOUGHT⟩ := c_NOUGHT
  refine fn_ok F sc_mean_needs (fun args m R h => ?_) (fun cdv A outer s H E hr => ⟨_, (pss_cons (ps_expr (pe_cl k_need_needs hr (by decide) (by rfl) (pa_cons (pv 0) (pa_cons (pv 1) pa_nil))))
      (pss_cons (ps_expr (pe_cl k_need_few hr (by decide) (by rfl) (pa_cons (pv 1) pa_nil)))
      (pss_one (ps_ret (pe_cl k_mean_of hr (by decide) (by rfl) (pa_cons (pv 0) (pa_cons (pv 1) (pa_cons (pe_disp1 hr (pe_op (kMul K) (pe_tup (pa_cons pe_int pa_nil)) (pe_callB (kLen K) (by rfl) z_len (by decide +kernel) (pa_cons (pv 1) pa_nil))) (pe_glob (v := V.ref a_NOUGHT) (by rfl) h_NOUGHT rfl)) pa_nil)))))))), fun args m R h => ?_⟩)
  ·
    obtain ⟨_, _, rfl, _⟩ := h; rfl
  ·
    obtain ⟨ss, v, rfl, hs, hv, h64, q⟩ := h
    have h5 := hs.few
    have h1 := hs.pos
    have h9 := few_sum h5 hv h64
    walk_at "go"
    refine ⟨hs, right_of hv, ?_⟩
    walk_at "go"
    refine ⟨by rw [hv.len]; omega, hv.few, h64, ?_⟩
    refine w_ret (ev_forget (ev_call (eva_cons (ev_var rfl (fun h => nomatch h) (eva_cons (ev_var rfl (fun h => nomatch h) (eva_cons (ev_disp1 fun p hp => ?_))))))))
    refine ev_op (ev_tupT (eva_cons (ev_cI (eva_nil ⟨[_], rfl, by show 1 ≤ 100000; decide, ?_⟩))))
    walk_at "go"
    refine o2_mulTt (n := v.length) (by rw [hv.len]; omega) (by rw [hv.len]; omega) ?_
    refine ⟨_, rfl, ev_cG d_NOUGHT ⟨put_same, ?_⟩⟩
    rw [put_put]
    refine eva_nil ⟨ss, v, p, [List.replicate ss.length 0], rfl, hs, hv, by omega, h9, ⟨by simp, fun u hu => ?_, List.mem_singleton.mpr rfl⟩, ?_, fun l' _ _ => ⟨m, ?_, q⟩⟩
    · rw [List.mem_singleton.mp hu]
      exact ⟨List.length_replicate, fun x hx => by rw [List.eq_of_mem_replicate hx]; omega⟩
    · rw [put_same]
      have e : mnN ss (List.replicate ss.length 0) = 0 := by rw [mnN_step, if_pos (supp_zero _)]
      unfold tabT
      rw [List.map_singleton, e, hv.len]
      have e2 : kn (List.replicate ss.length 0) = List.replicate ss.length 0 := by unfold kn; rw [List.map_replicate]; rfl
      rw [e2]
      rfl
    · intro a o ha
      by_cases e : a = p
      · subst e; rw [hp] at ha; cases ha
      · rw [put_ne e, put_ne e]; exact ha
theorem ok_mean_needs {a : Addr} {fd : FuncData} (F : Fun K "mean_needs" "mean_needs" s_mean_needs a fd) (hm : mg "mean_needs" = some (.ref a)) (o : FnOk P w K mg base CX0 14 a fd ["shares", "needs"] (spD K f_meanNeeds)) : Cl P w K mg base 14 "mean_needs" f_meanNeeds := ⟨a, fd, ["shares", "needs"], o, hm, F.kp, F.binds (ps := ["shares", "needs"]) fun _ _ _ _ _ _ us hl => match us, hl with | [_, _], _ => rfl⟩
theorem okx_mean_needs {a : Addr} {fd : FuncData} (F : Fun K "mean_needs" "mean_needs" s_mean_needs a fd) (hm : mg "mean_needs" = some (.ref a)) (z_len : mg "len" = none) (c_NOUGHT : ∃ a, mg "NOUGHT" = some (.ref a) ∧ ∀ G, Rp K G (.tuple [.int 0, .int 1]) (.ref a)) (k_mean_of : Cl P w K mg base 13 "mean_of" (f_meanOf 10)) (q_need_needs : ClX P w K mg base 4 "need_needs" (fnE [c_NoShares, c_NoKind, c_NoNumber, c_NoNeeds, c_TooMany, (0 : Addr), (0 : Addr), c_NoText] 2 eNeedNeeds anyD)) (q_need_few : ClX P w K mg base 1 "need_few" (fnC [c_NoShares, c_NoKind, c_NoNumber, c_NoNeeds, c_TooMany, (0 : Addr), (0 : Addr), c_NoText] 1 4 bFew preFew)) (o : FnOk P w K mg base CX0 14 a fd ["shares", "needs"] (spD K f_meanNeeds)) :
    ClX P w K mg base 14 "mean_needs" (orX f_meanNeeds (fnR [c_NoShares, c_NoKind, c_NoNumber, c_NoNeeds, c_TooMany, (0 : Addr), (0 : Addr), c_NoText] 2 rNeeds)) := by
  obtain ⟨a_NOUGHT, h_NOUGHT, d_NOUGHT⟩ := c_NOUGHT
  refine ⟨a, fd, ["shares", "needs"], fnOk_or o (fnX_ok F sc_mean_needs (fun args m R X h => ?_) (fun cdv A outer s H E hr => ⟨_, (pss_cons (ps_expr (pe_clX q_need_needs hr (by decide) (by rfl) (L2N.takes_of rfl rfl rfl rfl) (pa_cons (pv 0) (pa_cons (pv 1) pa_nil))))
      (pss_cons (ps_expr (pe_clX q_need_few hr (by decide) (by rfl) (L2N.takes_of rfl rfl rfl rfl) (pa_cons (pv 1) pa_nil)))
      (PSs.nox (pss_one (ps_ret (pe_cl k_mean_of hr (by decide) (by rfl) (pa_cons (pv 0) (pa_cons (pv 1) (pa_cons (pe_disp1 hr (pe_op (kMul K) (pe_tup (pa_cons pe_int pa_nil)) (pe_callB (kLen K) (by rfl) z_len (by decide +kernel) (pa_cons (pv 1) pa_nil))) (pe_glob (v := V.ref a_NOUGHT) (by rfl) h_NOUGHT rfl)) pa_nil))))))))), fun args m R X h G0 hT => ?_⟩)), hm, F.kp, F.binds (ps := ["shares", "needs"]) fun _ _ _ _ _ _ us hl => match us, hl with | [_, _], _ => rfl⟩
  ·
    exact fnR_len h
  ·
    obtain ⟨ds, rfl, hl, i, hi, hX⟩ := h
    match ds, hl, hi with
    | [sh, one], _, hi =>
      refine wx_seq (wx_drop (evx_call (hT _) ?_))
      walk_at "go"
      refine ⟨[sh, one], rfl, rfl, trivial, fun d hd => ?_, fun j hj => ?_⟩
      rotate_left
      · obtain rfl := (st_needs hi).1 j hj
        exact hX
      obtain ⟨ss, v, rfl, hs, hv, rfl, hq⟩ := (st_needs hi).2 d hd
      have h5 := hs.few
      obtain ⟨h64, rfl⟩ := hq
      refine wx_seq (wx_drop (evx_call (hT _) ?_))
      walk_at "go"
      refine ⟨[.tuple ((kn v).map PyData.int)], rfl, rfl, ⟨v, rfl, by rw [hv.len]; exact h5, hv.few⟩, fun hb => absurd hb (bFew_no h64), fun _ => hX⟩
abbrev s_mean_any : Stmt := topS 49
theorem sc_mean_any : FnScope ["shares", "needs"] ["shares", "needs"] (defScope s_mean_any) := ⟨rfl, rfl, rfl, by decide +kernel, rfl, by decide +kernel, by decide +kernel⟩
theorem fok_mean_any {a : Addr} {fd : FuncData} (F : Fun K "mean_any" "mean_any" s_mean_any a fd) (hm : mg "mean_any" = some (.ref a)) (k_need_needs : Cl P w K mg base 4 "need_needs" f_needNeeds) (k_need_few : Cl P w K mg base 1 "need_few" f_needFew) (k_any_of : Cl P w K mg base 13 "any_of" (f_anyOf 10)) :
    FnOk P w K mg base CX0 14 a fd ["shares", "needs"] (spD K f_meanAny) := by
  refine fn_ok F sc_mean_any (fun args m R h => ?_) (fun cdv A outer s H E hr => ⟨_, (pss_cons (ps_expr (pe_cl k_need_needs hr (by decide) (by rfl) (pa_cons (pv 0) (pa_cons (pv 1) pa_nil))))
      (pss_cons (ps_expr (pe_cl k_need_few hr (by decide) (by rfl) (pa_cons (pv 1) pa_nil)))
      (pss_one (ps_ret (pe_cl k_any_of hr (by decide) (by rfl) (pa_cons (pv 0) (pa_cons (pv 1) (pa_cons pe_dnewT pa_nil)))))))), fun args m R h => ?_⟩)
  ·
    obtain ⟨_, _, rfl, _⟩ := h; rfl
  ·
    obtain ⟨ss, v, rfl, hs, hv, h64, q⟩ := h
    have h5 := hs.few
    have h9 := few_sum h5 hv h64
    walk_at "go"
    refine ⟨hs, right_of hv, ?_⟩
    walk_at "go"
    refine ⟨by rw [hv.len]; omega, hv.few, h64, ?_⟩
    refine w_ret (ev_forget (ev_call (eva_cons (ev_var rfl (fun h => nomatch h) (eva_cons (ev_var rfl (fun h => nomatch h) (eva_cons (ev_dnew fun p hp => ?_))))))))
    refine eva_nil ⟨ss, v, p, [], rfl, hs, hv, by omega, h9, ⟨List.nodup_nil, (fun _ h => nomatch h)⟩, put_same, fun l' _ => ⟨m, fun a o ha => ?_, q⟩⟩
    rw [put_put, put_ne (ne_of_get ha hp)]; exact ha
theorem ok_mean_any {a : Addr} {fd : FuncData} (F : Fun K "mean_any" "mean_any" s_mean_any a fd) (hm : mg "mean_any" = some (.ref a)) (o : FnOk P w K mg base CX0 14 a fd ["shares", "needs"] (spD K f_meanAny)) : Cl P w K mg base 14 "mean_any" f_meanAny := ⟨a, fd, ["shares", "needs"], o, hm, F.kp, F.binds (ps := ["shares", "needs"]) fun _ _ _ _ _ _ us hl => match us, hl with | [_, _], _ => rfl⟩
theorem okx_mean_any {a : Addr} {fd : FuncData} (F : Fun K "mean_any" "mean_any" s_mean_any a fd) (hm : mg "mean_any" = some (.ref a)) (k_any_of : Cl P w K mg base 13 "any_of" (f_anyOf 10)) (q_need_needs : ClX P w K mg base 4 "need_needs" (fnE [c_NoShares, c_NoKind, c_NoNumber, c_NoNeeds, c_TooMany, (0 : Addr), (0 : Addr), c_NoText] 2 eNeedNeeds anyD)) (q_need_few : ClX P w K mg base 1 "need_few" (fnC [c_NoShares, c_NoKind, c_NoNumber, c_NoNeeds, c_TooMany, (0 : Addr), (0 : Addr), c_NoText] 1 4 bFew preFew)) (o : FnOk P w K mg base CX0 14 a fd ["shares", "needs"] (spD K f_meanAny)) :
    ClX P w K mg base 14 "mean_any" (orX f_meanAny (fnR [c_NoShares, c_NoKind, c_NoNumber, c_NoNeeds, c_TooMany, (0 : Addr), (0 : Addr), c_NoText] 2 rNeeds)) := by
  refine ⟨a, fd, ["shares", "needs"], fnOk_or o (fnX_ok F sc_mean_any (fun args m R X h => ?_) (fun cdv A outer s H E hr => ⟨_, (pss_cons (ps_expr (pe_clX q_need_needs hr (by decide) (by rfl) (L2N.takes_of rfl rfl rfl rfl) (pa_cons (pv 0) (pa_cons (pv 1) pa_nil))))
      (pss_cons (ps_expr (pe_clX q_need_few hr (by decide) (by rfl) (L2N.takes_of rfl rfl rfl rfl) (pa_cons (pv 1) pa_nil)))
      (PSs.nox (pss_one (ps_ret (pe_cl k_any_of hr (by decide) (by rfl) (pa_cons (pv 0) (pa_cons (pv 1) (pa_cons pe_dnewT pa_nil))))))))), fun args m R X h G0 hT => ?_⟩)), hm, F.kp, F.binds (ps := ["shares", "needs"]) fun _ _ _ _ _ _ us hl => match us, hl with | [_, _], _ => rfl⟩
  ·
    exact fnR_len h
  ·
    obtain ⟨ds, rfl, hl, i, hi, hX⟩ := h
    match ds, hl, hi with
    | [sh, one], _, hi =>
      refine wx_seq (wx_drop (evx_call (hT _) ?_))
      walk_at "go"
      refine ⟨[sh, one], rfl, rfl, trivial, fun d hd => ?_, fun j hj => ?_⟩
      rotate_left
      · obtain rfl := (st_needs hi).1 j hj
        exact hX
      obtain ⟨ss, v, rfl, hs, hv, rfl, hq⟩ := (st_needs hi).2 d hd
      have h5 := hs.few
      obtain ⟨h64, rfl⟩ := hq
      refine wx_seq (wx_drop (evx_call (hT _) ?_))
      walk_at "go"
      refine ⟨[.tuple ((kn v).map PyData.int)], rfl, rfl, ⟨v, rfl, by rw [hv.len]; exact h5, hv.few⟩, fun hb => absurd hb (bFew_no h64), fun _ => hX⟩
abbrev s__law_by_shares : Stmt := topS 92
theorem sc__law_by_shares : FnScope ["_law_kind", "_law_shares", "_law_one", "_law_other"] ["_law_kind", "_law_shares", "_law_one", "_law_other"] (defScope s__law_by_shares) := ⟨rfl, rfl, rfl, by decide +kernel, rfl, by decide +kernel, by decide +kernel⟩
theorem ok__law_by_shares {a : Addr} {fd : FuncData} (F : Fun K "_law_by_shares" "_law_by_shares" s__law_by_shares a fd) (hm : mg "_law_by_shares" = some (.ref a)) (q_total : ClX P w K mg base 4 "total" (fnR [c_NoShares, c_NoKind, c_NoNumber, c_NoNeeds, c_TooMany, (0 : Addr), (0 : Addr), c_NoText] 1 rS1)) (q_show : ClX P w K mg base 4 "show" (fnR [c_NoShares, c_NoKind, c_NoNumber, c_NoNeeds, c_TooMany, (0 : Addr), (0 : Addr), c_NoText] 1 rS1)) (q_mean_all : ClX P w K mg base 6 "mean_all" (fnR [c_NoShares, c_NoKind, c_NoNumber, c_NoNeeds, c_TooMany, (0 : Addr), (0 : Addr), c_NoText] 1 rS1)) (q_time_paper : ClX P w K mg base 6 "time_paper" (fnR [c_NoShares, c_NoKind, c_NoNumber, c_NoNeeds, c_TooMany, (0 : Addr), (0 : Addr), c_NoText] 1 rS1)) (q_is_time_paper : ClX P w K mg base 6 "is_time_paper" (fnR [c_NoShares, c_NoKind, c_NoNumber, c_NoNeeds, c_TooMany, (0 : Addr), (0 : Addr), c_NoText] 2 rS2)) (q_over_bound : ClX P w K mg base 6 "over_bound" (fnR [c_NoShares, c_NoKind, c_NoNumber, c_NoNeeds, c_TooMany, (0 : Addr), (0 : Addr), c_NoText] 2 rS2)) (q_under_bound : ClX P w K mg base 6 "under_bound" (fnR [c_NoShares, c_NoKind, c_NoNumber, c_NoNeeds, c_TooMany, (0 : Addr), (0 : Addr), c_NoText] 2 rS2)) (q_are_needs : ClX P w K mg base 4 "are_needs" (orX f_areNeeds (fnR [c_NoShares, c_NoKind, c_NoNumber, c_NoNeeds, c_TooMany, (0 : Addr), (0 : Addr), c_NoText] 2 rS2))) (q_part : ClX P w K mg base 4 "part" (fnR [c_NoShares, c_NoKind, c_NoNumber, c_NoNeeds, c_TooMany, (0 : Addr), (0 : Addr), c_NoText] 2 rPart)) (q_just_cases : ClX P w K mg base 4 "just_cases" (fnR [c_NoShares, c_NoKind, c_NoNumber, c_NoNeeds, c_TooMany, (0 : Addr), (0 : Addr), c_NoText] 3 rJust)) (q_all_share : ClX P w K mg base 4 "all_share" (fnR [c_NoShares, c_NoKind, c_NoNumber, c_NoNeeds, c_TooMany, (0 : Addr), (0 : Addr), c_NoText] 2 rNum12)) (q_last_share : ClX P w K mg base 4 "last_share" (fnR [c_NoShares, c_NoKind, c_NoNumber, c_NoNeeds, c_TooMany, (0 : Addr), (0 : Addr), c_NoText] 2 rNum12)) (q_lacking : ClX P w K mg base 4 "lacking" (fnR [c_NoShares, c_NoKind, c_NoNumber, c_NoNeeds, c_TooMany, (0 : Addr), (0 : Addr), c_NoText] 2 rNum12)) (q_mean_needs : ClX P w K mg base 14 "mean_needs" (orX f_meanNeeds (fnR [c_NoShares, c_NoKind, c_NoNumber, c_NoNeeds, c_TooMany, (0 : Addr), (0 : Addr), c_NoText] 2 rNeeds))) (q_needs_share : ClX P w K mg base 5 "needs_share" (orX f_needsShare (fnR [c_NoShares, c_NoKind, c_NoNumber, c_NoNeeds, c_TooMany, (0 : Addr), (0 : Addr), c_NoText] 3 rNeedsN))) (q_mean_any : ClX P w K mg base 14 "mean_any" (orX f_meanAny (fnR [c_NoShares, c_NoKind, c_NoNumber, c_NoNeeds, c_TooMany, (0 : Addr), (0 : Addr), c_NoText] 2 rNeeds))) :
    ClX P w K mg base 15 "_law_by_shares" (f_bySh [c_NoShares, c_NoKind, c_NoNumber, c_NoNeeds, c_TooMany, (0 : Addr), (0 : Addr), c_NoText]) := by
  refine ⟨a, fd, ["_law_kind", "_law_shares", "_law_one", "_law_other"], fnX_ok F sc__law_by_shares (fun args m R X h => ?_) (fun cdv A outer s H E hr => ⟨_, (pss_one (ps_if (pt_cmpR (kEq K hr) (pv 0) pe_int (nomark _)) (pss_one (ps_expr (pe_clX q_total hr (by decide) (by rfl) (L2N.takes_of rfl rfl rfl rfl) (pa_cons (pv 1) pa_nil)))) (pss_one (ps_if (pt_cmpR (kEq K hr) (pv 0) pe_int (nomark _)) (pss_one (ps_expr (pe_clX q_show hr (by decide) (by rfl) (L2N.takes_of rfl rfl rfl rfl) (pa_cons (pv 1) pa_nil)))) (pss_one (ps_if (pt_cmpR (kEq K hr) (pv 0) pe_int (nomark _)) (pss_one (ps_expr (pe_clX q_mean_all hr (by decide) (by rfl) (L2N.takes_of rfl rfl rfl rfl) (pa_cons (pv 1) pa_nil)))) (pss_one (ps_if (pt_cmpR (kEq K hr) (pv 0) pe_int (nomark _)) (pss_one (ps_expr (pe_clX q_time_paper hr (by decide) (by rfl) (L2N.takes_of rfl rfl rfl rfl) (pa_cons (pv 1) pa_nil)))) (pss_one (ps_if (pt_cmpR (kEq K hr) (pv 0) pe_int (nomark _)) (pss_one (ps_expr (pe_clX q_is_time_paper hr (by decide) (by rfl) (L2N.takes_of rfl rfl rfl rfl) (pa_cons (pv 2) (pa_cons (pv 1) pa_nil))))) (pss_one (ps_if (pt_cmpR (kEq K hr) (pv 0) pe_int (nomark _)) (pss_one (ps_expr (pe_clX q_over_bound hr (by decide) (by rfl) (L2N.takes_of rfl rfl rfl rfl) (pa_cons (pv 2) (pa_cons (pv 1) pa_nil))))) (pss_one (ps_if (pt_cmpR (kEq K hr) (pv 0) pe_int (nomark _)) (pss_one (ps_expr (pe_clX q_under_bound hr (by decide) (by rfl) (L2N.takes_of rfl rfl rfl rfl) (pa_cons (pv 2) (pa_cons (pv 1) pa_nil))))) (pss_one (ps_if (pt_cmpR (kEq K hr) (pv 0) pe_int (nomark _)) (pss_one (ps_expr (pe_clX q_are_needs hr (by decide) (by rfl) (L2N.takes_of rfl rfl rfl rfl) (pa_cons (pv 2) (pa_cons (pv 1) pa_nil))))) (pss_one (ps_if (pt_cmpR (kEq K hr) (pv 0) pe_int (nomark _)) (pss_one (ps_expr (pe_clX q_part hr (by decide) (by rfl) (L2N.takes_of rfl rfl rfl rfl) (pa_cons (pv 1) (pa_cons (pv 2) pa_nil))))) (pss_one (ps_if (pt_cmpR (kEq K hr) (pv 0) pe_int (nomark _)) (pss_one (ps_expr (pe_clX q_just_cases hr (by decide) (by rfl) (L2N.takes_of rfl rfl rfl rfl) (pa_cons (pv 1) (pa_cons (pv 2) (pa_cons (pv 3) pa_nil)))))) (pss_one (ps_if (pt_cmpR (kEq K hr) (pv 0) pe_int (nomark _)) (pss_one (ps_expr (pe_clX q_all_share hr (by decide) (by rfl) (L2N.takes_of rfl rfl rfl rfl) (pa_cons (pv 1) (pa_cons (pv 2) pa_nil))))) (pss_one (ps_if (pt_cmpR (kEq K hr) (pv 0) pe_int (nomark _)) (pss_one (ps_expr (pe_clX q_last_share hr (by decide) (by rfl) (L2N.takes_of rfl rfl rfl rfl) (pa_cons (pv 1) (pa_cons (pv 2) pa_nil))))) (pss_one (ps_if (pt_cmpR (kEq K hr) (pv 0) pe_int (nomark _)) (pss_one (ps_expr (pe_clX q_lacking hr (by decide) (by rfl) (L2N.takes_of rfl rfl rfl rfl) (pa_cons (pv 1) (pa_cons (pv 2) pa_nil))))) (pss_one (ps_if (pt_cmpR (kEq K hr) (pv 0) pe_int (nomark _)) (pss_one (ps_expr (pe_clX q_mean_needs hr (by decide) (by rfl) (L2N.takes_of rfl rfl rfl rfl) (pa_cons (pv 1) (pa_cons (pv 2) pa_nil))))) (pss_one (ps_if (pt_cmpR (kEq K hr) (pv 0) pe_int (nomark _)) (pss_one (ps_expr (pe_clX q_needs_share hr (by decide) (by rfl) (L2N.takes_of rfl rfl rfl rfl) (pa_cons (pv 1) (pa_cons (pv 2) (pa_cons (pv 3) pa_nil)))))) (pss_one (ps_expr (pe_clX q_mean_any hr (by decide) (by rfl) (L2N.takes_of rfl rfl rfl rfl) (pa_cons (pv 1) (pa_cons (pv 2) pa_nil))))))))))))))))))))))))))))))))))), fun args m R X h G0 hT => ?_⟩), hm, F.kp, F.binds (ps := ["_law_kind", "_law_shares", "_law_one", "_law_other"]) fun _ _ _ _ _ _ us hl => match us, hl with | [_, _, _, _], _ => rfl⟩
  ·
    rcases h with ⟨_, _, _, _, _, rfl, _⟩ | ⟨_, _, _, rfl, _⟩ | ⟨_, _, _, rfl, _⟩ <;> rfl
  ·
    rcases h with ⟨k, sh, one, other, i, rfl, hk, hi, hX⟩ | ⟨k, ss, v, rfl, hk, hs, hv, h64, q⟩ | ⟨ss, one, other, rfl, hs, q⟩
    · have : k = 0 ∨ k = 1 ∨ k = 2 ∨ k = 3 ∨ k = 4 ∨ k = 5 ∨ k = 6 ∨ k = 7 ∨ k = 8 ∨ k = 9 ∨ k = 10 ∨ k = 11 ∨ k = 12 ∨ k = 13 ∨ k = 14 ∨ k = 15 := by omega
      rcases this with rfl | rfl | rfl | rfl | rfl | rfl | rfl | rfl | rfl | rfl | rfl | rfl | rfl | rfl | rfl | rfl
      · refine wx_if ?_
        walk_at "go"
        refine br_t rfl (wx_drop (evx_call (hT _) ?_))
        walk_at "go"
        exact ⟨[sh], rfl, rfl, i, hi, hX⟩
      · refine wx_if ?_
        walk_at "go"
        refine br_f rfl (wx_if ?_)
        walk_at "go"
        refine br_t rfl (wx_drop (evx_call (hT _) ?_))
        walk_at "go"
        exact ⟨[sh], rfl, rfl, i, hi, hX⟩
      · refine wx_if ?_
        walk_at "go"
        refine br_f rfl (wx_if ?_)
        walk_at "go"
        refine br_f rfl (wx_if ?_)
        walk_at "go"
        refine br_t rfl (wx_drop (evx_call (hT _) ?_))
        walk_at "go"
        exact ⟨[sh], rfl, rfl, i, hi, hX⟩
      · refine wx_if ?_
        walk_at "go"
        refine br_f rfl (wx_if ?_)
        walk_at "go"
        refine br_f rfl (wx_if ?_)
        walk_at "go"
        refine br_f rfl (wx_if ?_)
        walk_at "go"
        refine br_t rfl (wx_drop (evx_call (hT _) ?_))
        walk_at "go"
        exact ⟨[sh], rfl, rfl, i, hi, hX⟩
      · refine wx_if ?_
        walk_at "go"
        refine br_f rfl (wx_if ?_)
        walk_at "go"
        refine br_f rfl (wx_if ?_)
        walk_at "go"
        refine br_f rfl (wx_if ?_)
        walk_at "go"
        refine br_f rfl (wx_if ?_)
        walk_at "go"
        refine br_t rfl (wx_drop (evx_call (hT _) ?_))
        walk_at "go"
        exact ⟨[one, sh], rfl, rfl, i, hi, hX⟩
      · refine wx_if ?_
        walk_at "go"
        refine br_f rfl (wx_if ?_)
        walk_at "go"
        refine br_f rfl (wx_if ?_)
        walk_at "go"
        refine br_f rfl (wx_if ?_)
        walk_at "go"
        refine br_f rfl (wx_if ?_)
        walk_at "go"
        refine br_f rfl (wx_if ?_)
        walk_at "go"
        refine br_t rfl (wx_drop (evx_call (hT _) ?_))
        walk_at "go"
        exact ⟨[one, sh], rfl, rfl, i, hi, hX⟩
      · refine wx_if ?_
        walk_at "go"
        refine br_f rfl (wx_if ?_)
        walk_at "go"
        refine br_f rfl (wx_if ?_)
        walk_at "go"
        refine br_f rfl (wx_if ?_)
        walk_at "go"
        refine br_f rfl (wx_if ?_)
        walk_at "go"
        refine br_f rfl (wx_if ?_)
        walk_at "go"
        refine br_f rfl (wx_if ?_)
        walk_at "go"
        refine br_t rfl (wx_drop (evx_call (hT _) ?_))
        walk_at "go"
        exact ⟨[one, sh], rfl, rfl, i, hi, hX⟩
      · refine wx_if ?_
        walk_at "go"
        refine br_f rfl (wx_if ?_)
        walk_at "go"
        refine br_f rfl (wx_if ?_)
        walk_at "go"
        refine br_f rfl (wx_if ?_)
        walk_at "go"
        refine br_f rfl (wx_if ?_)
        walk_at "go"
        refine br_f rfl (wx_if ?_)
        walk_at "go"
        refine br_f rfl (wx_if ?_)
        walk_at "go"
        refine br_f rfl (wx_if ?_)
        walk_at "go"
        refine br_t rfl (wx_drop (evx_call (hT _) ?_))
        walk_at "go"
        exact Or.inr ⟨[one, sh], rfl, rfl, i, hi, hX⟩
      · refine wx_if ?_
        walk_at "go"
        refine br_f rfl (wx_if ?_)
        walk_at "go"
        refine br_f rfl (wx_if ?_)
        walk_at "go"
        refine br_f rfl (wx_if ?_)
        walk_at "go"
        refine br_f rfl (wx_if ?_)
        walk_at "go"
        refine br_f rfl (wx_if ?_)
        walk_at "go"
        refine br_f rfl (wx_if ?_)
        walk_at "go"
        refine br_f rfl (wx_if ?_)
        walk_at "go"
        refine br_f rfl (wx_if ?_)
        walk_at "go"
        refine br_t rfl (wx_drop (evx_call (hT _) ?_))
        walk_at "go"
        exact ⟨[sh, one], rfl, rfl, i, hi, hX⟩
      · refine wx_if ?_
        walk_at "go"
        refine br_f rfl (wx_if ?_)
        walk_at "go"
        refine br_f rfl (wx_if ?_)
        walk_at "go"
        refine br_f rfl (wx_if ?_)
        walk_at "go"
        refine br_f rfl (wx_if ?_)
        walk_at "go"
        refine br_f rfl (wx_if ?_)
        walk_at "go"
        refine br_f rfl (wx_if ?_)
        walk_at "go"
        refine br_f rfl (wx_if ?_)
        walk_at "go"
        refine br_f rfl (wx_if ?_)
        walk_at "go"
        refine br_f rfl (wx_if ?_)
        walk_at "go"
        refine br_t rfl (wx_drop (evx_call (hT _) ?_))
        walk_at "go"
        exact ⟨[sh, one, other], rfl, rfl, i, hi, hX⟩
      · refine wx_if ?_
        walk_at "go"
        refine br_f rfl (wx_if ?_)
        walk_at "go"
        refine br_f rfl (wx_if ?_)
        walk_at "go"
        refine br_f rfl (wx_if ?_)
        walk_at "go"
        refine br_f rfl (wx_if ?_)
        walk_at "go"
        refine br_f rfl (wx_if ?_)
        walk_at "go"
        refine br_f rfl (wx_if ?_)
        walk_at "go"
        refine br_f rfl (wx_if ?_)
        walk_at "go"
        refine br_f rfl (wx_if ?_)
        walk_at "go"
        refine br_f rfl (wx_if ?_)
        walk_at "go"
        refine br_f rfl (wx_if ?_)
        walk_at "go"
        refine br_t rfl (wx_drop (evx_call (hT _) ?_))
        walk_at "go"
        exact ⟨[sh, one], rfl, rfl, i, hi, hX⟩
      · refine wx_if ?_
        walk_at "go"
        refine br_f rfl (wx_if ?_)
        walk_at "go"
        refine br_f rfl (wx_if ?_)
        walk_at "go"
        refine br_f rfl (wx_if ?_)
        walk_at "go"
        refine br_f rfl (wx_if ?_)
        walk_at "go"
        refine br_f rfl (wx_if ?_)
        walk_at "go"
        refine br_f rfl (wx_if ?_)
        walk_at "go"
        refine br_f rfl (wx_if ?_)
        walk_at "go"
        refine br_f rfl (wx_if ?_)
        walk_at "go"
        refine br_f rfl (wx_if ?_)
        walk_at "go"
        refine br_f rfl (wx_if ?_)
        walk_at "go"
        refine br_f rfl (wx_if ?_)
        walk_at "go"
        refine br_t rfl (wx_drop (evx_call (hT _) ?_))
        walk_at "go"
        exact ⟨[sh, one], rfl, rfl, i, hi, hX⟩
      · refine wx_if ?_
        walk_at "go"
        refine br_f rfl (wx_if ?_)
        walk_at "go"
        refine br_f rfl (wx_if ?_)
        walk_at "go"
        refine br_f rfl (wx_if ?_)
        walk_at "go"
        refine br_f rfl (wx_if ?_)
        walk_at "go"
        refine br_f rfl (wx_if ?_)
        walk_at "go"
        refine br_f rfl (wx_if ?_)
        walk_at "go"
        refine br_f rfl (wx_if ?_)
        walk_at "go"
        refine br_f rfl (wx_if ?_)
        walk_at "go"
        refine br_f rfl (wx_if ?_)
        walk_at "go"
        refine br_f rfl (wx_if ?_)
        walk_at "go"
        refine br_f rfl (wx_if ?_)
        walk_at "go"
        refine br_f rfl (wx_if ?_)
        walk_at "go"
        refine br_t rfl (wx_drop (evx_call (hT _) ?_))
        walk_at "go"
        exact ⟨[sh, one], rfl, rfl, i, hi, hX⟩
      · refine wx_if ?_
        walk_at "go"
        refine br_f rfl (wx_if ?_)
        walk_at "go"
        refine br_f rfl (wx_if ?_)
        walk_at "go"
        refine br_f rfl (wx_if ?_)
        walk_at "go"
        refine br_f rfl (wx_if ?_)
        walk_at "go"
        refine br_f rfl (wx_if ?_)
        walk_at "go"
        refine br_f rfl (wx_if ?_)
        walk_at "go"
        refine br_f rfl (wx_if ?_)
        walk_at "go"
        refine br_f rfl (wx_if ?_)
        walk_at "go"
        refine br_f rfl (wx_if ?_)
        walk_at "go"
        refine br_f rfl (wx_if ?_)
        walk_at "go"
        refine br_f rfl (wx_if ?_)
        walk_at "go"
        refine br_f rfl (wx_if ?_)
        walk_at "go"
        refine br_f rfl (wx_if ?_)
        walk_at "go"
        refine br_t rfl (wx_drop (evx_call (hT _) ?_))
        walk_at "go"
        exact Or.inr ⟨[sh, one], rfl, rfl, i, hi, hX⟩
      · refine wx_if ?_
        walk_at "go"
        refine br_f rfl (wx_if ?_)
        walk_at "go"
        refine br_f rfl (wx_if ?_)
        walk_at "go"
        refine br_f rfl (wx_if ?_)
        walk_at "go"
        refine br_f rfl (wx_if ?_)
        walk_at "go"
        refine br_f rfl (wx_if ?_)
        walk_at "go"
        refine br_f rfl (wx_if ?_)
        walk_at "go"
        refine br_f rfl (wx_if ?_)
        walk_at "go"
        refine br_f rfl (wx_if ?_)
        walk_at "go"
        refine br_f rfl (wx_if ?_)
        walk_at "go"
        refine br_f rfl (wx_if ?_)
        walk_at "go"
        refine br_f rfl (wx_if ?_)
        walk_at "go"
        refine br_f rfl (wx_if ?_)
        walk_at "go"
        refine br_f rfl (wx_if ?_)
        walk_at "go"
        refine br_f rfl (wx_if ?_)
        walk_at "go"
        refine br_t rfl (wx_drop (evx_call (hT _) ?_))
        walk_at "go"
        exact Or.inr ⟨[sh, one, other], rfl, rfl, i, hi, hX⟩
      · refine wx_if ?_
        walk_at "go"
        refine br_f rfl (wx_if ?_)
        walk_at "go"
        refine br_f rfl (wx_if ?_)
        walk_at "go"
        refine br_f rfl (wx_if ?_)
        walk_at "go"
        refine br_f rfl (wx_if ?_)
        walk_at "go"
        refine br_f rfl (wx_if ?_)
        walk_at "go"
        refine br_f rfl (wx_if ?_)
        walk_at "go"
        refine br_f rfl (wx_if ?_)
        walk_at "go"
        refine br_f rfl (wx_if ?_)
        walk_at "go"
        refine br_f rfl (wx_if ?_)
        walk_at "go"
        refine br_f rfl (wx_if ?_)
        walk_at "go"
        refine br_f rfl (wx_if ?_)
        walk_at "go"
        refine br_f rfl (wx_if ?_)
        walk_at "go"
        refine br_f rfl (wx_if ?_)
        walk_at "go"
        refine br_f rfl (wx_if ?_)
        walk_at "go"
        refine br_f rfl (wx_drop (evx_call (hT _) ?_))
        walk_at "go"
        exact Or.inr ⟨[sh, one], rfl, rfl, i, hi, hX⟩
    · rcases hk with rfl | rfl | rfl | rfl
      · refine wx_if ?_
        walk_at "go"
        refine br_f rfl (wx_if ?_)
        walk_at "go"
        refine br_f rfl (wx_if ?_)
        walk_at "go"
        refine br_f rfl (wx_if ?_)
        walk_at "go"
        refine br_f rfl (wx_if ?_)
        walk_at "go"
        refine br_f rfl (wx_if ?_)
        walk_at "go"
        refine br_f rfl (wx_if ?_)
        walk_at "go"
        refine br_f rfl (wx_if ?_)
        walk_at "go"
        refine br_t rfl (wx_drop (evx_call (hT _) ?_))
        walk_at "go"
        exact Or.inl ⟨_, ss, rfl, hs, q⟩
      · refine wx_if ?_
        walk_at "go"
        refine br_f rfl (wx_if ?_)
        walk_at "go"
        refine br_f rfl (wx_if ?_)
        walk_at "go"
        refine br_f rfl (wx_if ?_)
        walk_at "go"
        refine br_f rfl (wx_if ?_)
        walk_at "go"
        refine br_f rfl (wx_if ?_)
        walk_at "go"
        refine br_f rfl (wx_if ?_)
        walk_at "go"
        refine br_f rfl (wx_if ?_)
        walk_at "go"
        refine br_f rfl (wx_if ?_)
        walk_at "go"
        refine br_f rfl (wx_if ?_)
        walk_at "go"
        refine br_f rfl (wx_if ?_)
        walk_at "go"
        refine br_f rfl (wx_if ?_)
        walk_at "go"
        refine br_f rfl (wx_if ?_)
        walk_at "go"
        refine br_f rfl (wx_if ?_)
        walk_at "go"
        refine br_t rfl (wx_drop (evx_call (hT _) ?_))
        refine eva_cons (ev_var rfl (fun h => nomatch h) (eva_cons (ev_var rfl (fun h => nomatch h) (eva_nil ?_))))
        exact Or.inl ⟨ss, v, rfl, hs, hv, h64, q⟩
      · refine wx_if ?_
        walk_at "go"
        refine br_f rfl (wx_if ?_)
        walk_at "go"
        refine br_f rfl (wx_if ?_)
        walk_at "go"
        refine br_f rfl (wx_if ?_)
        walk_at "go"
        refine br_f rfl (wx_if ?_)
        walk_at "go"
        refine br_f rfl (wx_if ?_)
        walk_at "go"
        refine br_f rfl (wx_if ?_)
        walk_at "go"
        refine br_f rfl (wx_if ?_)
        walk_at "go"
        refine br_f rfl (wx_if ?_)
        walk_at "go"
        refine br_f rfl (wx_if ?_)
        walk_at "go"
        refine br_f rfl (wx_if ?_)
        walk_at "go"
        refine br_f rfl (wx_if ?_)
        walk_at "go"
        refine br_f rfl (wx_if ?_)
        walk_at "go"
        refine br_f rfl (wx_if ?_)
        walk_at "go"
        refine br_f rfl (wx_if ?_)
        walk_at "go"
        refine br_t rfl (wx_drop (evx_call (hT _) ?_))
        refine eva_cons (ev_var rfl (fun h => nomatch h) (eva_cons (ev_var rfl (fun h => nomatch h) (eva_cons (ev_var rfl (fun h => nomatch h) (eva_nil ?_))))))
        exact Or.inl ⟨ss, v, 3, rfl, hs, hv, h64, by decide, q⟩
      · refine wx_if ?_
        walk_at "go"
        refine br_f rfl (wx_if ?_)
        walk_at "go"
        refine br_f rfl (wx_if ?_)
        walk_at "go"
        refine br_f rfl (wx_if ?_)
        walk_at "go"
        refine br_f rfl (wx_if ?_)
        walk_at "go"
        refine br_f rfl (wx_if ?_)
        walk_at "go"
        refine br_f rfl (wx_if ?_)
        walk_at "go"
        refine br_f rfl (wx_if ?_)
        walk_at "go"
        refine br_f rfl (wx_if ?_)
        walk_at "go"
        refine br_f rfl (wx_if ?_)
        walk_at "go"
        refine br_f rfl (wx_if ?_)
        walk_at "go"
        refine br_f rfl (wx_if ?_)
        walk_at "go"
        refine br_f rfl (wx_if ?_)
        walk_at "go"
        refine br_f rfl (wx_if ?_)
        walk_at "go"
        refine br_f rfl (wx_if ?_)
        walk_at "go"
        refine br_f rfl (wx_drop (evx_call (hT _) ?_))
        refine eva_cons (ev_var rfl (fun h => nomatch h) (eva_cons (ev_var rfl (fun h => nomatch h) (eva_nil ?_))))
        exact Or.inl ⟨ss, v, rfl, hs, hv, h64, q⟩
    · refine wx_if ?_
      walk_at "go"
      refine br_f rfl (wx_if ?_)
      walk_at "go"
      refine br_f rfl (wx_if ?_)
      walk_at "go"
      refine br_f rfl (wx_if ?_)
      walk_at "go"
      refine br_f rfl (wx_if ?_)
      walk_at "go"
      refine br_f rfl (wx_if ?_)
      walk_at "go"
      refine br_f rfl (wx_if ?_)
      walk_at "go"
      refine br_f rfl (wx_if ?_)
      walk_at "go"
      refine br_t rfl (wx_drop (evx_call (hT _) ?_))
      walk_at "go"
      exact Or.inl ⟨_, ss, rfl, hs, q⟩
abbrev s__law_said : Stmt := topS 95
theorem sc__law_said : FnScope ["_law_part_of", "_law_kind", "_law_one", "_law_other", "_law_last", "_law_e"] ["_law_part_of", "_law_kind", "_law_one", "_law_other", "_law_last"] (defScope s__law_said) := ⟨rfl, rfl, rfl, by decide +kernel, rfl, by decide +kernel, by decide +kernel⟩
theorem ok__law_said {a : Addr} {fd : FuncData} (F : Fun K "_law_said" "_law_said" s__law_said a fd) (hm : mg "_law_said" = some (.ref a)) (k__law_marks : ClP P w K mg base 1 "_law_marks" (okL K [c_NoShares, c_NoKind, c_NoNumber, c_NoNeeds, c_TooMany, c_NoText] c_GatherError) (f_marksN K [c_NoShares, c_NoKind, c_NoNumber, c_NoNeeds, c_TooMany, c_NoText] c_GatherError)) (q__law_by_shares : ClX P w K mg base 15 "_law_by_shares" (f_bySh [c_NoShares, c_NoKind, c_NoNumber, c_NoNeeds, c_TooMany, (0 : Addr), (0 : Addr), c_NoText])) (q__law_by_numbers : ClX P w K mg base 6 "_law_by_numbers" (f_byNum [c_NoShares, c_NoKind, c_NoNumber, c_NoNeeds, c_TooMany, (0 : Addr), (0 : Addr), c_NoText])) (q__law_by_packs : ClX P w K mg base 6 "_law_by_packs" (f_byPk [c_NoShares, c_NoKind, c_NoNumber, c_NoNeeds, c_TooMany, (0 : Addr), (0 : Addr), c_NoText])) (g_GatherError : mg "GatherError" = some (.ref c_GatherError)) (e_NoShares : XL K [c_NoShares, c_NoKind, c_NoNumber, c_NoNeeds, c_TooMany, c_NoText] c_GatherError 0 c_NoShares) (e_NoKind : XL K [c_NoShares, c_NoKind, c_NoNumber, c_NoNeeds, c_TooMany, c_NoText] c_GatherError 1 c_NoKind) (e_NoNumber : XL K [c_NoShares, c_NoKind, c_NoNumber, c_NoNeeds, c_TooMany, c_NoText] c_GatherError 2 c_NoNumber) (e_NoNeeds : XL K [c_NoShares, c_NoKind, c_NoNumber, c_NoNeeds, c_TooMany, c_NoText] c_GatherError 3 c_NoNeeds) (e_TooMany : XL K [c_NoShares, c_NoKind, c_NoNumber, c_NoNeeds, c_TooMany, c_NoText] c_GatherError 4 c_TooMany) :
    Cl P w K mg base 16 "_law_said" f_said05 := by
  refine ⟨a, fd, ["_law_part_of", "_law_kind", "_law_one", "_law_other", "_law_last"], fn_ok F sc__law_said (fun args m R h => ?_) (fun cdv A outer s H E hr => ⟨_, (pss_cons (ps_tryA (i := 5) (L2N.ps_try_as rfl rfl sc__law_said.nd rfl rfl ⟨by rfl, by decide, .inl g_GatherError⟩ takesN0 (fun W pn xe tk _ => (pss_one (ps_if (pt_cmpR (kEq K hr) (pv 0) pe_int (nomark _)) (pss_one (ps_expr (pe_clX q__law_by_shares hr (by decide) (by rfl) tk (pa_cons (pv 1) (pa_cons (pv 2) (pa_cons (pv 3) (pa_cons (pv 4) pa_nil))))))) (pss_one (ps_if (pt_cmpR (kEq K hr) (pv 0) pe_int (nomark _)) (pss_one (ps_expr (pe_clX q__law_by_numbers hr (by decide) (by rfl) tk (pa_cons (pv 1) (pa_cons (pv 2) (pa_cons (pv 3) pa_nil)))))) (pss_one (ps_expr (pe_clX q__law_by_packs hr (by decide) (by rfl) tk (pa_cons (pv 1) (pa_cons (pv 2) (pa_cons (pv 3) (pa_cons (pv 4) pa_nil)))))))))))) (fun a oe cls d pn hz hf => pss_noD fun hd => (pss_one (ps_ret (pe_clP k__law_marks (roomM hr) (by decide) (sees_suite hz hf hd) (by rfl) (pa_cons (pv 5) pa_nil)))))))
      (pss_one (ps_ret pe_str))), fun args m R h => ?_⟩), hm, F.kp, F.binds (ps := ["_law_part_of", "_law_kind", "_law_one", "_law_other", "_law_last"]) fun _ _ _ _ _ _ us hl => match us, hl with | [_, _, _, _, _], _ => rfl⟩
  ·
    rcases h with ⟨_, _, _, _, _, rfl, _⟩ | ⟨_, _, _, rfl, _⟩ | ⟨_, _, _, rfl, _⟩ | ⟨_, _, _, _, rfl, _⟩ | ⟨_, _, _, _, rfl, _⟩ <;> rfl
  ·
    obtain ⟨a0, a1, a2, a3, a4, rfl⟩ : ∃ a0 a1 a2 a3 a4, args = [a0, a1, a2, a3, a4] := by
      rcases h with ⟨_, _, _, _, _, rfl, _⟩ | ⟨_, _, _, rfl, _⟩ | ⟨_, _, _, rfl, _⟩ | ⟨_, _, _, _, rfl, _⟩ | ⟨_, _, _, _, rfl, _⟩ <;> exact ⟨_, _, _, _, _, rfl⟩
    refine w_seq (w_tryA (fun C m' => m' = m ∧ ∃ i, i < 5 ∧ C = [c_NoShares, c_NoKind, c_NoNumber, c_NoNeeds, c_TooMany, (0 : Addr), (0 : Addr), c_NoText].getD i 0 ∧ R (.d (.str (markS i))) m) (fun W G0 hT => ?_) (fun C m' hC => ?_))
    · rcases h with ⟨k, sh, one, other, i, hh, hk, hi, hi5, q⟩ | ⟨k, ss, v, hh, hk, hs, hv, h64, q⟩ | ⟨ss, one, other, hh, hs, q⟩ | ⟨k, x, y, z, hh, hk, hi, q⟩ | ⟨k, a, s, n, hh, hk, hi, q⟩ <;> cases hh
      · refine wx_if ?_
        walk_at "go"
        refine br_t rfl (wx_drop (evx_call hT ?_))
        walk_at "go"
        exact Or.inl ⟨k, sh, one, other, i, rfl, hk, hi, rfl, i, hi5, rfl, q⟩
      · refine wx_if ?_
        walk_at "go"
        refine br_t rfl (wx_drop (evx_call hT ?_))
        refine eva_cons (ev_var rfl (fun h => nomatch h) (eva_cons (ev_var rfl (fun h => nomatch h) (eva_cons (ev_var rfl (fun h => nomatch h) (eva_cons (ev_var rfl (fun h => nomatch h) (eva_nil ?_))))))))
        exact Or.inr (Or.inl ⟨k, ss, v, rfl, hk, hs, hv, h64, w_ret (ev_cS q)⟩)
      · refine wx_if ?_
        walk_at "go"
        refine br_t rfl (wx_drop (evx_call hT ?_))
        walk_at "go"
        exact Or.inr (Or.inr ⟨ss, one, other, rfl, hs, w_ret (ev_cS q)⟩)
      · refine wx_if ?_
        walk_at "go"
        refine br_f rfl (wx_if ?_)
        walk_at "go"
        refine br_t rfl (wx_drop (evx_call hT ?_))
        walk_at "go"
        exact ⟨k, x, y, 2, rfl, hk, hi, rfl, 2, by decide, rfl, q⟩
      · refine wx_if ?_
        walk_at "go"
        refine br_f rfl (wx_if ?_)
        walk_at "go"
        refine br_f rfl (wx_drop (evx_call hT ?_))
        walk_at "go"
        exact ⟨k, a, s, n, 2, rfl, hk, hi, rfl, 2, by decide, rfl, q⟩
    · obtain ⟨rfl, i, hi, rfl, q⟩ := hC
      have hX : XL K [c_NoShares, c_NoKind, c_NoNumber, c_NoNeeds, c_TooMany, c_NoText] c_GatherError i ([c_NoShares, c_NoKind, c_NoNumber, c_NoNeeds, c_TooMany, (0 : Addr), (0 : Addr), c_NoText].getD i 0) := by
        have h7 : i = 0 ∨ i = 1 ∨ i = 2 ∨ i = 3 ∨ i = 4 := by omega
        rcases h7 with rfl | rfl | rfl | rfl | rfl
        · exact e_NoShares
        · exact e_NoKind
        · exact e_NoNumber
        · exact e_NoNeeds
        · exact e_TooMany
      refine ⟨hX.em, fun a => w_noD (w_ret (ev_callP ⟨i, hX⟩ (eva_cons (ev_var rfl (fun h => nomatch h) (eva_nil ⟨i, hX, by omega, rfl, rfl, q⟩)))))⟩
abbrev s__law_shares_right : Stmt := topS 96
theorem sc__law_shares_right : FnScope ["_law_box_here", "_law_shares", "_law_many", "_law_some", "_law_kinds", "_law_number", "_law_odd", "_law_kind"] ["_law_box_here", "_law_shares"] (defScope s__law_shares_right) := ⟨rfl, rfl, rfl, by decide +kernel, rfl, by decide +kernel, by decide +kernel⟩
theorem ok__law_shares_right {a : Addr} {fd : FuncData} (F : Fun K "_law_shares_right" "_law_shares_right" s__law_shares_right a fd) (hm : mg "_law_shares_right" = some (.ref a)) (z_len : mg "len" = none) (k__law_take : Cl P w K mg base 1 "_law_take" f_take) (k__law_said : Cl P w K mg base 16 "_law_said" f_said05) :
    Cl P w K mg base 17 "_law_shares_right" f_shRight := by
  refine ⟨a, fd, ["_law_box_here", "_law_shares"], fn_ok F sc__law_shares_right (fun args m R h => ?_) (fun cdv A outer s H E hr => ⟨_, (pss_cons (ps_set (i := 2) sc__law_shares_right.nd rfl (by first | exact Or.inl rfl | exact Or.inr rfl) (pe_callB (kLen K) (by rfl) z_len (by decide +kernel) (pa_cons (pv 1) pa_nil)))
      (pss_cons (ps_set (i := 3) sc__law_shares_right.nd rfl (by first | exact Or.inl rfl | exact Or.inr rfl) (pe_lst (pa_cons pe_non (pa_cons (pe_tup (pa_cons pe_int (pa_cons pe_int pa_nil))) (pa_cons (pe_tup (pa_cons pe_int (pa_cons pe_int pa_nil))) (pa_cons (pe_lst (pa_cons pe_int pa_nil)) (pa_cons (pe_tup (pa_cons pe_int (pa_cons (pv 2) pa_nil))) (pa_cons (pe_tup (pa_cons (pe_un oNeg pe_int) pa_nil)) (pa_cons pe_int (pa_cons pe_str (pa_cons (pe_tup (pa_cons pe_bl pa_nil)) (pa_cons (pe_tup (pa_cons pe_int (pa_cons pe_non pa_nil))) pa_nil))))))))))))
      (pss_cons (ps_set (i := 4) sc__law_shares_right.nd rfl (by first | exact Or.inl rfl | exact Or.inr rfl) (pe_ix (kIx K) (pv 3) (pe_cl k__law_take hr (by decide) (by rfl) (pa_cons (pv 0) (pa_cons pe_int pa_nil))) (fun _ _ => rfl)))
      (pss_cons (ps_if (PW.pt (pw_or (pt_cmpR (kNe K hr) (pe_cl k__law_said hr (by decide) (by rfl) (pa_cons pe_int (pa_cons pe_int (pa_cons (pv 1) (pa_cons (pv 4) (pa_cons pe_non pa_nil)))))) pe_str (nomark _)) (pw_or1 (pt_cmpR (kNe K hr) (pe_cl k__law_said hr (by decide) (by rfl) (pa_cons pe_int (pa_cons pe_int (pa_cons (pv 1) (pa_cons (pv 4) (pa_cons pe_non pa_nil)))))) pe_str (nomark _))))) (pss_one (ps_ret pe_bl)) pss_nil)
      (pss_cons (ps_set (i := 5) sc__law_shares_right.nd rfl (by first | exact Or.inl rfl | exact Or.inr rfl) (pe_ix (kIx K) (pe_lst (pa_cons pe_int (pa_cons (pe_un oNeg pe_int) (pa_cons pe_bl (pa_cons pe_non (pa_cons pe_str (pa_cons (pe_tup (pa_cons pe_int pa_nil)) (pa_cons (pe_op oPow pe_int pe_int) (pa_cons (pe_op (kAdd K) pe_int (pe_cl k__law_take hr (by decide) (by rfl) (pa_cons (pv 0) (pa_cons pe_int pa_nil)))) pa_nil))))))))) (pe_cl k__law_take hr (by decide) (by rfl) (pa_cons (pv 0) (pa_cons pe_int pa_nil))) (fun _ _ => rfl)))
      (pss_cons (ps_if (pt_cmpR (kNe K hr) (pe_lc (own := [("_law_kind", 7)]) rfl sc__law_shares_right.nd (kiT K (pe_tup (pa_cons pe_int (pa_cons pe_int (pa_cons pe_int pa_nil))))) (blkOk_by (own := [("_law_kind", 7)]) (N := ["_law_box_here", "_law_shares", "_law_many", "_law_some", "_law_kinds", "_law_number", "_law_odd", "_law_kind"]) (sc := defScope s__law_shares_right) (by decide +kernel)) (fun _ _ _ _ _ => (pg_name (i := 7) sc__law_shares_right.nd rfl (by first | exact Or.inl rfl | exact Or.inr rfl))) (fun _ _ _ _ _ => pts_nil) (fun _ _ _ _ _ => (pe_cl k__law_said hr (by decide) (by rfl) (pa_cons pe_int (pa_cons (pv 7) (pa_cons (pv 1) (pa_cons (pv 5) (pa_cons pe_non pa_nil)))))))) (pe_op (kMul K) (pe_lst (pa_cons pe_str pa_nil)) pe_int) (nomark _)) (pss_one (ps_ret pe_bl)) pss_nil)
      (pss_cons (ps_for PassesOwn.never rfl (kiL K (pe_lst (pa_cons (pe_tup (pa_cons (pe_lst (pa_cons pe_int pa_nil)) pa_nil)) (pa_cons (pe_tup (pa_cons pe_int (pa_cons pe_dnewT pa_nil))) (pa_cons (pe_tup (pa_cons (pe_tup (pa_cons pe_int pa_nil)) pa_nil)) pa_nil))))) (pg_name (i := 6) sc__law_shares_right.nd rfl (by first | exact Or.inl rfl | exact Or.inr rfl)) (pss_one (ps_if (pt_cmpR (kNe K hr) (pe_lc (own := [("_law_kind", 7)]) rfl sc__law_shares_right.nd (kiT K (pe_tup (pa_cons pe_int (pa_cons pe_int pa_nil)))) (blkOk_by (own := [("_law_kind", 7)]) (N := ["_law_box_here", "_law_shares", "_law_many", "_law_some", "_law_kinds", "_law_number", "_law_odd", "_law_kind"]) (sc := defScope s__law_shares_right) (by decide +kernel)) (fun _ _ _ _ _ => (pg_name (i := 7) sc__law_shares_right.nd rfl (by first | exact Or.inl rfl | exact Or.inr rfl))) (fun _ _ _ _ _ => pts_nil) (fun _ _ _ _ _ => (pe_cl k__law_said hr (by decide) (by rfl) (pa_cons pe_int (pa_cons (pv 7) (pa_cons (pv 1) (pa_cons (pv 6) (pa_cons pe_int pa_nil)))))))) (pe_op (kMul K) (pe_lst (pa_cons pe_str pa_nil)) pe_int) (nomark _)) (pss_one (ps_ret pe_bl)) pss_nil)))
      (pss_cons (ps_for PassesOwn.never rfl (kiL K (pe_lst (pa_cons (pe_lst (pa_cons pe_int pa_nil)) (pa_cons pe_dnewT (pa_cons (pe_lst (pa_cons (pe_lst (pa_cons pe_int pa_nil)) pa_nil)) pa_nil))))) (pg_name (i := 6) sc__law_shares_right.nd rfl (by first | exact Or.inl rfl | exact Or.inr rfl)) (pss_cons (ps_if (pt_cmpR (kNe K hr) (pe_lc (own := [("_law_kind", 7)]) rfl sc__law_shares_right.nd (kiT K (pe_tup (pa_cons pe_int (pa_cons pe_int (pa_cons pe_int pa_nil))))) (blkOk_by (own := [("_law_kind", 7)]) (N := ["_law_box_here", "_law_shares", "_law_many", "_law_some", "_law_kinds", "_law_number", "_law_odd", "_law_kind"]) (sc := defScope s__law_shares_right) (by decide +kernel)) (fun _ _ _ _ _ => (pg_name (i := 7) sc__law_shares_right.nd rfl (by first | exact Or.inl rfl | exact Or.inr rfl))) (fun _ _ _ _ _ => pts_nil) (fun _ _ _ _ _ => (pe_cl k__law_said hr (by decide) (by rfl) (pa_cons pe_int (pa_cons (pv 7) (pa_cons (pv 1) (pa_cons (pv 6) (pa_cons pe_non pa_nil)))))))) (pe_op (kMul K) (pe_lst (pa_cons pe_str pa_nil)) pe_int) (nomark _)) (pss_one (ps_ret pe_bl)) pss_nil)
      (pss_one (ps_if (pt_cmpR (kNe K hr) (pe_cl k__law_said hr (by decide) (by rfl) (pa_cons pe_int (pa_cons pe_int (pa_cons (pv 1) (pa_cons (pe_tup (pa_cons pe_int pa_nil)) (pa_cons (pv 6) pa_nil)))))) pe_str (nomark _)) (pss_one (ps_ret pe_bl)) pss_nil))))
      (pss_one (ps_ret (pe_cmpR (kEq K hr) (pe_cl k__law_said hr (by decide) (by rfl) (pa_cons pe_int (pa_cons pe_int (pa_cons (pv 1) (pa_cons (pe_tup (pa_cons pe_int pa_nil)) (pa_cons (pv 5) pa_nil)))))) pe_str (nomark _)))))))))))), fun args m R h => ?_⟩), hm, F.kp, F.binds (ps := ["_law_box_here", "_law_shares"]) fun _ _ _ _ _ _ us hl => match us, hl with | [_, _], _ => rfl⟩
  ·
    obtain ⟨_, _, rfl, _⟩ := h; rfl
  ·
    obtain ⟨p, ss, rfl, hp, hs, q⟩ := h
    have h1 := hs.pos
    have h5 := hs.few
    repeat (first | with_reducible refine ev_lstMulD ?_ | with_reducible refine ev_lstD ?_ | with_reducible refine ev_dnewD ?_ | walk_at "dl" | (refine ⟨[_, _, _, _, _, _], rfl, (by show 6 ≤ 100000; decide), ?_⟩) | (refine ⟨[_, _, _, _, _, _, _], rfl, (by show 7 ≤ 100000; decide), ?_⟩) | (refine ⟨[_, _, _, _, _, _, _, _], rfl, (by show 8 ≤ 100000; decide), ?_⟩) | (refine ⟨[_, _, _, _, _, _, _, _, _], rfl, (by show 9 ≤ 100000; decide), ?_⟩) | (refine ⟨[_, _, _, _, _, _, _, _, _, _], rfl, (by show 10 ≤ 100000; decide), ?_⟩) | (refine ⟨[_, _, _, _, _, _, _, _, _, _, _], rfl, (by show 11 ≤ 100000; decide), ?_⟩) | (refine ⟨[_, _, _, _, _, _, _, _, _, _, _, _], rfl, (by show 12 ≤ 100000; decide), ?_⟩) | (refine ⟨[_, _, _, _, _, _, _, _, _, _, _, _, _], rfl, (by show 13 ≤ 100000; decide), ?_⟩) | (refine ⟨[_, _, _, _, _, _, _, _, _, _, _, _, _, _], rfl, (by show 14 ≤ 100000; decide), ?_⟩) | (refine ⟨[_, _, _, _, _, _, _, _, _, _, _, _, _, _, _], rfl, (by show 15 ≤ 100000; decide), ?_⟩))
    refine ⟨hp, by decide, bt_lit (n := 7) (by decide) (by decide), fun z h0 h9 => ?_⟩
    refine o2_ixLx h0 h9 fun d hd => ?_
    obtain ⟨hsd, hk⟩ := bad_kinds h1 hd
    clear hd
    refine w_seq (w_if (evt_or (evt_test (ev_op (ev_call (eva_cons (ev_cI (eva_cons (ev_cI (eva_cons (ev_var rfl (fun h => nomatch h) (eva_cons (ev_var rfl (fun h => nomatch h) (eva_cons (ev_cN (eva_nil (sd_kind (k := 8) (Or.inl rfl) hs hsd hk ?_)))))))))))))))))
    walk_at "go"
    refine br_f rfl ?_
    refine evt_test (ev_op (ev_call (eva_cons (ev_cI (eva_cons (ev_cI (eva_cons (ev_var rfl (fun h => nomatch h) (eva_cons (ev_var rfl (fun h => nomatch h) (eva_cons (ev_cN (eva_nil (sd_kind (k := 9) (Or.inr rfl) hs hsd hk ?_))))))))))))))
    walk_at "go"
    refine br_f rfl (w_next ?_)
    repeat (first | with_reducible refine ev_lstMulD ?_ | with_reducible refine ev_lstD ?_ | with_reducible refine ev_dnewD ?_ | walk_at "dl" | (refine ⟨[_, _, _, _, _, _], rfl, (by show 6 ≤ 100000; decide), ?_⟩) | (refine ⟨[_, _, _, _, _, _, _], rfl, (by show 7 ≤ 100000; decide), ?_⟩) | (refine ⟨[_, _, _, _, _, _, _, _], rfl, (by show 8 ≤ 100000; decide), ?_⟩) | (refine ⟨[_, _, _, _, _, _, _, _, _], rfl, (by show 9 ≤ 100000; decide), ?_⟩) | (refine ⟨[_, _, _, _, _, _, _, _, _, _], rfl, (by show 10 ≤ 100000; decide), ?_⟩) | (refine ⟨[_, _, _, _, _, _, _, _, _, _, _], rfl, (by show 11 ≤ 100000; decide), ?_⟩) | (refine ⟨[_, _, _, _, _, _, _, _, _, _, _, _], rfl, (by show 12 ≤ 100000; decide), ?_⟩) | (refine ⟨[_, _, _, _, _, _, _, _, _, _, _, _, _], rfl, (by show 13 ≤ 100000; decide), ?_⟩) | (refine ⟨[_, _, _, _, _, _, _, _, _, _, _, _, _, _], rfl, (by show 14 ≤ 100000; decide), ?_⟩) | (refine ⟨[_, _, _, _, _, _, _, _, _, _, _, _, _, _, _], rfl, (by show 15 ≤ 100000; decide), ?_⟩))
    refine o2_pow ⟨by decide, by decide, by decide⟩ ?_
    repeat (first | with_reducible refine ev_lstMulD ?_ | with_reducible refine ev_lstD ?_ | with_reducible refine ev_dnewD ?_ | walk_at "dl" | (refine ⟨[_, _, _, _, _, _], rfl, (by show 6 ≤ 100000; decide), ?_⟩) | (refine ⟨[_, _, _, _, _, _, _], rfl, (by show 7 ≤ 100000; decide), ?_⟩) | (refine ⟨[_, _, _, _, _, _, _, _], rfl, (by show 8 ≤ 100000; decide), ?_⟩) | (refine ⟨[_, _, _, _, _, _, _, _, _], rfl, (by show 9 ≤ 100000; decide), ?_⟩) | (refine ⟨[_, _, _, _, _, _, _, _, _, _], rfl, (by show 10 ≤ 100000; decide), ?_⟩) | (refine ⟨[_, _, _, _, _, _, _, _, _, _, _], rfl, (by show 11 ≤ 100000; decide), ?_⟩) | (refine ⟨[_, _, _, _, _, _, _, _, _, _, _, _], rfl, (by show 12 ≤ 100000; decide), ?_⟩) | (refine ⟨[_, _, _, _, _, _, _, _, _, _, _, _, _], rfl, (by show 13 ≤ 100000; decide), ?_⟩) | (refine ⟨[_, _, _, _, _, _, _, _, _, _, _, _, _, _], rfl, (by show 14 ≤ 100000; decide), ?_⟩) | (refine ⟨[_, _, _, _, _, _, _, _, _, _, _, _, _, _, _], rfl, (by show 15 ≤ 100000; decide), ?_⟩))
    refine ⟨hp, by decide, bt_lit (n := 7) (by decide) (by decide), fun w hw0 hw9 => ?_⟩
    repeat (first | with_reducible refine ev_lstMulD ?_ | with_reducible refine ev_lstD ?_ | with_reducible refine ev_dnewD ?_ | walk_at "dl" | (refine ⟨[_, _, _, _, _, _], rfl, (by show 6 ≤ 100000; decide), ?_⟩) | (refine ⟨[_, _, _, _, _, _, _], rfl, (by show 7 ≤ 100000; decide), ?_⟩) | (refine ⟨[_, _, _, _, _, _, _, _], rfl, (by show 8 ≤ 100000; decide), ?_⟩) | (refine ⟨[_, _, _, _, _, _, _, _, _], rfl, (by show 9 ≤ 100000; decide), ?_⟩) | (refine ⟨[_, _, _, _, _, _, _, _, _, _], rfl, (by show 10 ≤ 100000; decide), ?_⟩) | (refine ⟨[_, _, _, _, _, _, _, _, _, _, _], rfl, (by show 11 ≤ 100000; decide), ?_⟩) | (refine ⟨[_, _, _, _, _, _, _, _, _, _, _, _], rfl, (by show 12 ≤ 100000; decide), ?_⟩) | (refine ⟨[_, _, _, _, _, _, _, _, _, _, _, _, _], rfl, (by show 13 ≤ 100000; decide), ?_⟩) | (refine ⟨[_, _, _, _, _, _, _, _, _, _, _, _, _, _], rfl, (by show 14 ≤ 100000; decide), ?_⟩) | (refine ⟨[_, _, _, _, _, _, _, _, _, _, _, _, _, _, _], rfl, (by show 15 ≤ 100000; decide), ?_⟩))
    refine ⟨hp, by decide, bt_lit (n := 7) (by decide) (by decide), fun z h0 h9 => ?_⟩
    refine o2_ixLx h0 h9 fun d2 hd => ?_
    have hnum := bad_num hw0 hd
    clear hd
    refine w_seq (w_if ?_)
    refine evt_test (ev_op (ev_mapTf (xs := [10, 11, 12]) (f := fun k : Nat => PyData.int (k : Int)) ?_ (by decide) (fun _ => .str "number") (fun k m2 hk hx => ?_) ?_))
    · walk_at "go"
      first
      | exact ⟨rfl, rfl⟩
      | exact ⟨[_, _, _, _], rfl, by show 4 ≤ 100000; decide, rfl, rfl⟩
    · have hk : k = 10 ∨ k = 11 ∨ k = 12 := by simpa using hk
      exact ev_call (eva_cons (ev_cI (eva_cons (ev_var rfl (fun h => nomatch h) (eva_cons (ev_var rfl (fun h => nomatch h) (eva_cons (ev_var rfl (fun h => nomatch h) (eva_cons (ev_cN (eva_nil (sd_num hk hs hnum ⟨rfl, rfl⟩))))))))))))
    refine ev_strs (n := 3) (by decide) (o2_neMap rfl ((reps_shaped ⟨3, by decide⟩ ⟨2, by decide⟩).1) ?_)
    walk_at "go"
    
    refine br_f rfl (w_next ?_)
    generalize hL : PyData.list [PyData.none, .tuple [.int 1, .int 0], .tuple [.int 0, .int 0], .list [.int 0], .tuple [.int 0, .int (ss.length : Int)], .tuple [.int (-1)], .int 0, .str "0", .tuple [.bool true], .tuple [.int 0, .none]] = L3
    refine w_seq (w_forL (ds := [.tuple [.list [.int 0]], .tuple [.int 0, .dict []], .tuple [.tuple [.int 0]]]) ?_ (fun i r' m' => m' = m ∧ ∃ y3 y6 y7, r' = [.v (.ref p), .d (tupI ss), .d (.int (ss.length : Int)), y3, .d d, .d d2, y6, y7]) ⟨rfl, _, _, _, rfl⟩ ?_ ?_)
    · repeat (first | with_reducible refine ev_lstMulD ?_ | with_reducible refine ev_lstD ?_ | with_reducible refine ev_dnewD ?_ | walk_at "dl" | (refine ⟨[_, _, _, _, _, _], rfl, (by show 6 ≤ 100000; decide), ?_⟩) | (refine ⟨[_, _, _, _, _, _, _], rfl, (by show 7 ≤ 100000; decide), ?_⟩) | (refine ⟨[_, _, _, _, _, _, _, _], rfl, (by show 8 ≤ 100000; decide), ?_⟩) | (refine ⟨[_, _, _, _, _, _, _, _, _], rfl, (by show 9 ≤ 100000; decide), ?_⟩) | (refine ⟨[_, _, _, _, _, _, _, _, _, _], rfl, (by show 10 ≤ 100000; decide), ?_⟩) | (refine ⟨[_, _, _, _, _, _, _, _, _, _, _], rfl, (by show 11 ≤ 100000; decide), ?_⟩) | (refine ⟨[_, _, _, _, _, _, _, _, _, _, _, _], rfl, (by show 12 ≤ 100000; decide), ?_⟩) | (refine ⟨[_, _, _, _, _, _, _, _, _, _, _, _, _], rfl, (by show 13 ≤ 100000; decide), ?_⟩) | (refine ⟨[_, _, _, _, _, _, _, _, _, _, _, _, _, _], rfl, (by show 14 ≤ 100000; decide), ?_⟩) | (refine ⟨[_, _, _, _, _, _, _, _, _, _, _, _, _, _, _], rfl, (by show 15 ≤ 100000; decide), ?_⟩))
      exact ⟨rfl, rfl⟩
    · rintro i od r' m' hd ⟨rfl, y3, y6, y7, rfl⟩
      obtain ⟨ho1, ho2⟩ := odd_kinds (n := ss.length) (List.mem_of_getElem? hd)
      refine w_if ?_
      refine evt_test (ev_op (ev_mapTf (xs := [8, 9]) (f := fun k : Nat => PyData.int (k : Int)) ?_ (by decide) (fun _ => .str "kind") (fun k m2 hk hx => ?_) ?_))
      · walk_at "go"
        first
        | exact ⟨rfl, rfl⟩
        | exact ⟨[_, _, _, _], rfl, by show 4 ≤ 100000; decide, rfl, rfl⟩
      · have hk : k = 8 ∨ k = 9 := by simpa using hk
        exact ev_call (eva_cons (ev_cI (eva_cons (ev_var rfl (fun h => nomatch h) (eva_cons (ev_var rfl (fun h => nomatch h) (eva_cons (ev_var rfl (fun h => nomatch h) (eva_cons (ev_cI (eva_nil (sd_kind hk hs ho1 ho2 ⟨rfl, rfl⟩))))))))))))
      refine ev_strs (n := 2) (by decide) (o2_neMap rfl ((reps_shaped ⟨2, by decide⟩ ⟨1, by decide⟩).1) ?_)
      walk_at "go"
      exact br_f rfl (w_next ⟨rfl, _, _, _, rfl⟩)
    rintro r' m' ⟨rfl, y3, y6, y7, rfl⟩
    refine w_seq (w_forL (ds := [.list [.int 1], .dict [], .list [.list [.int 0]]]) ?_ (fun i r3 m3 => m3 = m' ∧ ∃ y3 y6 y7, r3 = [.v (.ref p), .d (tupI ss), .d (.int (ss.length : Int)), y3, .d d, .d d2, y6, y7]) ⟨rfl, _, _, _, rfl⟩ ?_ ?_)
    · repeat (first | with_reducible refine ev_lstMulD ?_ | with_reducible refine ev_lstD ?_ | with_reducible refine ev_dnewD ?_ | walk_at "dl" | (refine ⟨[_, _, _, _, _, _], rfl, (by show 6 ≤ 100000; decide), ?_⟩) | (refine ⟨[_, _, _, _, _, _, _], rfl, (by show 7 ≤ 100000; decide), ?_⟩) | (refine ⟨[_, _, _, _, _, _, _, _], rfl, (by show 8 ≤ 100000; decide), ?_⟩) | (refine ⟨[_, _, _, _, _, _, _, _, _], rfl, (by show 9 ≤ 100000; decide), ?_⟩) | (refine ⟨[_, _, _, _, _, _, _, _, _, _], rfl, (by show 10 ≤ 100000; decide), ?_⟩) | (refine ⟨[_, _, _, _, _, _, _, _, _, _, _], rfl, (by show 11 ≤ 100000; decide), ?_⟩) | (refine ⟨[_, _, _, _, _, _, _, _, _, _, _, _], rfl, (by show 12 ≤ 100000; decide), ?_⟩) | (refine ⟨[_, _, _, _, _, _, _, _, _, _, _, _, _], rfl, (by show 13 ≤ 100000; decide), ?_⟩) | (refine ⟨[_, _, _, _, _, _, _, _, _, _, _, _, _, _], rfl, (by show 14 ≤ 100000; decide), ?_⟩) | (refine ⟨[_, _, _, _, _, _, _, _, _, _, _, _, _, _, _], rfl, (by show 15 ≤ 100000; decide), ?_⟩))
      exact ⟨rfl, rfl⟩
    · rintro i od r3 m3 hd ⟨rfl, y3, y6, y7, rfl⟩
      have hon : okNum od 0 12 = false := by
        have hm := List.mem_of_getElem? hd
        simp only [List.mem_cons, List.not_mem_nil, or_false] at hm
        rcases hm with rfl | rfl | rfl <;> rfl
      refine w_seq (w_if ?_)
      refine evt_test (ev_op (ev_mapTf (xs := [10, 11, 12]) (f := fun k : Nat => PyData.int (k : Int)) ?_ (by decide) (fun _ => .str "number") (fun k m2 hk hx => ?_) ?_))
      · walk_at "go"
        first
        | exact ⟨rfl, rfl⟩
        | exact ⟨[_, _, _, _], rfl, by show 4 ≤ 100000; decide, rfl, rfl⟩
      · have hk : k = 10 ∨ k = 11 ∨ k = 12 := by simpa using hk
        exact ev_call (eva_cons (ev_cI (eva_cons (ev_var rfl (fun h => nomatch h) (eva_cons (ev_var rfl (fun h => nomatch h) (eva_cons (ev_var rfl (fun h => nomatch h) (eva_cons (ev_cN (eva_nil (sd_num hk hs hon ⟨rfl, rfl⟩))))))))))))
      refine ev_strs (n := 3) (by decide) (o2_neMap rfl ((reps_shaped ⟨3, by decide⟩ ⟨2, by decide⟩).1) ?_)
      walk_at "go"
      refine br_f rfl (w_next ?_)
      refine w_if (evt_test (ev_op (ev_call ?_)))
      walk_at "go"
      refine sd_just hs hon ?_
      walk_at "go"
      exact br_f rfl (w_next ⟨rfl, _, _, _, rfl⟩)
    rintro r3 m3 ⟨rfl, y3, y6, y7, rfl⟩
    refine w_ret (ev_op (ev_call ?_))
    walk_at "go"
    refine sd_just hs hnum ?_
    walk_at "go"
    exact q
abbrev s__law_needs_right : Stmt := topS 97
theorem sc__law_needs_right : FnScope ["_law_box_here", "_law_shares", "_law_many", "_law_some", "_law_needs", "_law_number", "_law_great", "_law_even", "_law_kind"] ["_law_box_here", "_law_shares"] (defScope s__law_needs_right) := ⟨rfl, rfl, rfl, by decide +kernel, rfl, by decide +kernel, by decide +kernel⟩
theorem ok__law_needs_right {a : Addr} {fd : FuncData} (F : Fun K "_law_needs_right" "_law_needs_right" s__law_needs_right a fd) (hm : mg "_law_needs_right" = some (.ref a)) (z_len : mg "len" = none) (k__law_take : Cl P w K mg base 1 "_law_take" f_take) (k__law_said : Cl P w K mg base 16 "_law_said" f_said05) :
    Cl P w K mg base 17 "_law_needs_right" f_shRight := by
  refine ⟨a, fd, ["_law_box_here", "_law_shares"], fn_ok F sc__law_needs_right (fun args m R h => ?_) (fun cdv A outer s H E hr => ⟨_, (pss_cons (ps_set (i := 2) sc__law_needs_right.nd rfl (by first | exact Or.inl rfl | exact Or.inr rfl) (pe_callB (kLen K) (by rfl) z_len (by decide +kernel) (pa_cons (pv 1) pa_nil)))
      (pss_cons (ps_set (i := 3) sc__law_needs_right.nd rfl (by first | exact Or.inl rfl | exact Or.inr rfl) (pe_lst (pa_cons pe_non (pa_cons (pe_op (kMul K) (pe_tup (pa_cons pe_int pa_nil)) (pe_op (kAdd K) (pv 2) pe_int)) (pa_cons (pe_op (kMul K) (pe_lst (pa_cons pe_int pa_nil)) (pv 2)) (pa_cons (pe_op (kMul K) (pe_tup (pa_cons pe_int pa_nil)) (pv 2)) (pa_cons (pe_op (kMul K) (pe_tup (pa_cons pe_bl pa_nil)) (pv 2)) (pa_cons (pe_op (kMul K) (pe_tup (pa_cons (pe_un oNeg pe_int) pa_nil)) (pv 2)) (pa_cons (pe_op (kMulZ K) (pe_tup (pa_cons pe_int pa_nil)) (pe_op oSub (pv 2) pe_int)) (pa_cons pe_str pa_nil))))))))))
      (pss_cons (ps_set (i := 4) sc__law_needs_right.nd rfl (by first | exact Or.inl rfl | exact Or.inr rfl) (pe_ix (kIx K) (pv 3) (pe_cl k__law_take hr (by decide) (by rfl) (pa_cons (pv 0) (pa_cons pe_int pa_nil))) (fun _ _ => rfl)))
      (pss_cons (ps_if (pt_cmpR (kNe K hr) (pe_lc (own := [("_law_kind", 8)]) rfl sc__law_needs_right.nd (kiT K (pe_tup (pa_cons pe_int (pa_cons pe_int (pa_cons pe_int pa_nil))))) (blkOk_by (own := [("_law_kind", 8)]) (N := ["_law_box_here", "_law_shares", "_law_many", "_law_some", "_law_needs", "_law_number", "_law_great", "_law_even", "_law_kind"]) (sc := defScope s__law_needs_right) (by decide +kernel)) (fun _ _ _ _ _ => (pg_name (i := 8) sc__law_needs_right.nd rfl (by first | exact Or.inl rfl | exact Or.inr rfl))) (fun _ _ _ _ _ => pts_nil) (fun _ _ _ _ _ => (pe_cl k__law_said hr (by decide) (by rfl) (pa_cons pe_int (pa_cons (pv 8) (pa_cons (pv 1) (pa_cons (pv 4) (pa_cons pe_non pa_nil)))))))) (pe_op (kMul K) (pe_lst (pa_cons pe_str pa_nil)) pe_int) (nomark _)) (pss_one (ps_ret pe_bl)) pss_nil)
      (pss_cons (ps_set (i := 5) sc__law_needs_right.nd rfl (by first | exact Or.inl rfl | exact Or.inr rfl) (pe_ix (kIx K) (pe_lst (pa_cons pe_int (pa_cons (pe_un oNeg pe_int) (pa_cons pe_bl (pa_cons pe_non (pa_cons pe_str (pa_cons (pe_tup (pa_cons pe_int pa_nil)) (pa_cons (pe_lst (pa_cons pe_int pa_nil)) (pa_cons pe_dnewT (pa_cons (pe_op oPow pe_int pe_int) pa_nil)))))))))) (pe_cl k__law_take hr (by decide) (by rfl) (pa_cons (pv 0) (pa_cons pe_int pa_nil))) (fun _ _ => rfl)))
      (pss_cons (ps_if (pt_cmpR (kNe K hr) (pe_cl k__law_said hr (by decide) (by rfl) (pa_cons pe_int (pa_cons pe_int (pa_cons (pv 1) (pa_cons (pe_op (kMul K) (pe_tup (pa_cons pe_int pa_nil)) (pv 2)) (pa_cons (pv 5) pa_nil)))))) pe_str (nomark _)) (pss_one (ps_ret pe_bl)) pss_nil)
      (pss_cons (ps_if (pt_cmpR (kNe K hr) (pe_cl k__law_said hr (by decide) (by rfl) (pa_cons pe_int (pa_cons pe_int (pa_cons (pe_op (kMul K) (pe_tup (pa_cons pe_int pa_nil)) pe_int) (pa_cons (pe_op (kMul K) (pe_tup (pa_cons pe_int pa_nil)) pe_int) (pa_cons (pv 5) pa_nil)))))) pe_str (nomark _)) (pss_one (ps_ret pe_bl)) pss_nil)
      (pss_cons (ps_set (i := 3) sc__law_needs_right.nd rfl (by first | exact Or.inl rfl | exact Or.inr rfl) (pe_lst (pa_cons (pe_tup (pa_cons pe_int (pa_cons pe_int (pa_cons pe_int (pa_cons pe_int pa_nil))))) (pa_cons (pe_tup (pa_cons pe_int (pa_cons pe_int (pa_cons pe_int (pa_cons pe_int (pa_cons pe_int pa_nil)))))) (pa_cons (pe_tup (pa_cons pe_int (pa_cons pe_int (pa_cons pe_int (pa_cons pe_int pa_nil))))) (pa_cons (pe_tup (pa_cons pe_int (pa_cons pe_int (pa_cons pe_int (pa_cons pe_int pa_nil))))) (pa_cons (pe_tup (pa_cons pe_int (pa_cons pe_int (pa_cons pe_int (pa_cons pe_int (pa_cons pe_int pa_nil)))))) (pa_cons (pe_tup (pa_cons pe_int (pa_cons pe_int (pa_cons pe_int (pa_cons pe_int (pa_cons pe_int pa_nil)))))) pa_nil))))))))
      (pss_cons (ps_for PassesOwn.never rfl (kiL K (pe_lst (pa_cons (pe_tup (pa_cons pe_int (pa_cons pe_int (pa_cons pe_int (pa_cons pe_int (pa_cons pe_int pa_nil)))))) (pa_cons (pe_tup (pa_cons pe_int (pa_cons pe_int (pa_cons pe_int (pa_cons pe_int (pa_cons pe_int pa_nil)))))) pa_nil)))) (pg_name (i := 4) sc__law_needs_right.nd rfl (by first | exact Or.inl rfl | exact Or.inr rfl)) (pss_one (ps_if (pt_cmpR (kNe K hr) (pe_lc (own := [("_law_kind", 8)]) rfl sc__law_needs_right.nd (kiT K (pe_tup (pa_cons pe_int (pa_cons pe_int (pa_cons pe_int pa_nil))))) (blkOk_by (own := [("_law_kind", 8)]) (N := ["_law_box_here", "_law_shares", "_law_many", "_law_some", "_law_needs", "_law_number", "_law_great", "_law_even", "_law_kind"]) (sc := defScope s__law_needs_right) (by decide +kernel)) (fun _ _ _ _ _ => (pg_name (i := 8) sc__law_needs_right.nd rfl (by first | exact Or.inl rfl | exact Or.inr rfl))) (fun _ _ _ _ _ => pts_nil) (fun _ _ _ _ _ => (pe_cl k__law_said hr (by decide) (by rfl) (pa_cons pe_int (pa_cons (pv 8) (pa_cons (pe_op (kMul K) (pe_tup (pa_cons pe_int pa_nil)) pe_int) (pa_cons (pv 4) (pa_cons pe_int pa_nil)))))))) (pe_op (kMul K) (pe_lst (pa_cons pe_str pa_nil)) pe_int) (nomark _)) (pss_one (ps_ret pe_bl)) pss_nil)))
      (pss_cons (ps_set (i := 6) sc__law_needs_right.nd rfl (by first | exact Or.inl rfl | exact Or.inr rfl) (pe_ix (kIx K) (pv 3) (pe_cl k__law_take hr (by decide) (by rfl) (pa_cons (pv 0) (pa_cons pe_int pa_nil))) (fun _ _ => rfl)))
      (pss_cons (ps_set (i := 7) sc__law_needs_right.nd rfl (by first | exact Or.inl rfl | exact Or.inr rfl) (pe_op (kMul K) (pe_tup (pa_cons pe_int pa_nil)) (pe_callB (kLen K) (by rfl) z_len (by decide +kernel) (pa_cons (pv 6) pa_nil))))
      (pss_cons (ps_if (pt_cmpR (kNe K hr) (pe_lc (own := [("_law_kind", 8)]) rfl sc__law_needs_right.nd (kiT K (pe_tup (pa_cons pe_int (pa_cons pe_int (pa_cons pe_int pa_nil))))) (blkOk_by (own := [("_law_kind", 8)]) (N := ["_law_box_here", "_law_shares", "_law_many", "_law_some", "_law_needs", "_law_number", "_law_great", "_law_even", "_law_kind"]) (sc := defScope s__law_needs_right) (by decide +kernel)) (fun _ _ _ _ _ => (pg_name (i := 8) sc__law_needs_right.nd rfl (by first | exact Or.inl rfl | exact Or.inr rfl))) (fun _ _ _ _ _ => pts_nil) (fun _ _ _ _ _ => (pe_cl k__law_said hr (by decide) (by rfl) (pa_cons pe_int (pa_cons (pv 8) (pa_cons (pv 7) (pa_cons (pv 6) (pa_cons pe_int pa_nil)))))))) (pe_op (kMul K) (pe_lst (pa_cons pe_str pa_nil)) pe_int) (nomark _)) (pss_one (ps_ret pe_bl)) pss_nil)
      (pss_cons (ps_for PassesOwn.never rfl (kiL K (pe_lst (pa_cons (pe_tup (pa_cons pe_int (pa_cons pe_int (pa_cons pe_int pa_nil)))) (pa_cons (pe_tup (pa_cons pe_int (pa_cons pe_int (pa_cons pe_int (pa_cons pe_int pa_nil))))) (pa_cons (pe_tup (pa_cons pe_int (pa_cons pe_int (pa_cons pe_int (pa_cons pe_int (pa_cons pe_int pa_nil)))))) (pa_cons (pe_tup (pa_cons pe_int (pa_cons pe_int (pa_cons pe_int (pa_cons pe_int pa_nil))))) pa_nil)))))) (pg_name (i := 4) sc__law_needs_right.nd rfl (by first | exact Or.inl rfl | exact Or.inr rfl)) (pss_one (ps_if (pt_cmpR (kNe K hr) (pe_lc (own := [("_law_kind", 8)]) rfl sc__law_needs_right.nd (kiT K (pe_tup (pa_cons pe_int (pa_cons pe_int (pa_cons pe_int (pa_cons pe_int pa_nil)))))) (blkOk_by (own := [("_law_kind", 8)]) (N := ["_law_box_here", "_law_shares", "_law_many", "_law_some", "_law_needs", "_law_number", "_law_great", "_law_even", "_law_kind"]) (sc := defScope s__law_needs_right) (by decide +kernel)) (fun _ _ _ _ _ => (pg_name (i := 8) sc__law_needs_right.nd rfl (by first | exact Or.inl rfl | exact Or.inr rfl))) (fun _ _ _ _ _ => pts_nil) (fun _ _ _ _ _ => (pe_cl k__law_said hr (by decide) (by rfl) (pa_cons pe_int (pa_cons (pv 8) (pa_cons (pe_op (kMul K) (pe_tup (pa_cons pe_int pa_nil)) (pe_callB (kLen K) (by rfl) z_len (by decide +kernel) (pa_cons (pv 4) pa_nil))) (pa_cons (pv 4) (pa_cons pe_int pa_nil)))))))) (pe_op (kMul K) (pe_lst (pa_cons pe_str pa_nil)) pe_int) (nomark _)) (pss_one (ps_ret pe_bl)) pss_nil)))
      (pss_one (ps_ret (pe_cmpR (kEq K hr) (pe_cl k__law_said hr (by decide) (by rfl) (pa_cons pe_int (pa_cons pe_int (pa_cons (pv 7) (pa_cons (pv 6) (pa_cons pe_non pa_nil)))))) pe_str (nomark _))))))))))))))))), fun args m R h => ?_⟩), hm, F.kp, F.binds (ps := ["_law_box_here", "_law_shares"]) fun _ _ _ _ _ _ us hl => match us, hl with | [_, _], _ => rfl⟩
  ·
    obtain ⟨_, _, rfl, _⟩ := h; rfl
  ·
    obtain ⟨p, ss, rfl, hp, hs, q⟩ := h
    have h1 := hs.pos
    have h5 := hs.few
    repeat (first | with_reducible refine ev_lstMulD ?_ | with_reducible refine ev_lstD ?_ | with_reducible refine ev_dnewD ?_ | walk_at "dl" | (refine ⟨[_, _, _, _, _, _], rfl, (by show 6 ≤ 100000; decide), ?_⟩) | (refine ⟨[_, _, _, _, _, _, _], rfl, (by show 7 ≤ 100000; decide), ?_⟩) | (refine ⟨[_, _, _, _, _, _, _, _], rfl, (by show 8 ≤ 100000; decide), ?_⟩) | (refine ⟨[_, _, _, _, _, _, _, _, _], rfl, (by show 9 ≤ 100000; decide), ?_⟩) | (refine ⟨[_, _, _, _, _, _, _, _, _, _], rfl, (by show 10 ≤ 100000; decide), ?_⟩) | (refine ⟨[_, _, _, _, _, _, _, _, _, _, _], rfl, (by show 11 ≤ 100000; decide), ?_⟩) | (refine ⟨[_, _, _, _, _, _, _, _, _, _, _, _], rfl, (by show 12 ≤ 100000; decide), ?_⟩) | (refine ⟨[_, _, _, _, _, _, _, _, _, _, _, _, _], rfl, (by show 13 ≤ 100000; decide), ?_⟩) | (refine ⟨[_, _, _, _, _, _, _, _, _, _, _, _, _, _], rfl, (by show 14 ≤ 100000; decide), ?_⟩) | (refine ⟨[_, _, _, _, _, _, _, _, _, _, _, _, _, _, _], rfl, (by show 15 ≤ 100000; decide), ?_⟩))
    rw [show ((ss.length : Int) + 1) = ((ss.length + 1 : Nat) : Int) by omega]
    refine o2_mulT (by simp) (by omega) (by omega) (by decide) ?_
    repeat (first | with_reducible refine ev_lstMulD ?_ | with_reducible refine ev_lstD ?_ | with_reducible refine ev_dnewD ?_ | walk_at "dl" | (refine ⟨[_, _, _, _, _, _], rfl, (by show 6 ≤ 100000; decide), ?_⟩) | (refine ⟨[_, _, _, _, _, _, _], rfl, (by show 7 ≤ 100000; decide), ?_⟩) | (refine ⟨[_, _, _, _, _, _, _, _], rfl, (by show 8 ≤ 100000; decide), ?_⟩) | (refine ⟨[_, _, _, _, _, _, _, _, _], rfl, (by show 9 ≤ 100000; decide), ?_⟩) | (refine ⟨[_, _, _, _, _, _, _, _, _, _], rfl, (by show 10 ≤ 100000; decide), ?_⟩) | (refine ⟨[_, _, _, _, _, _, _, _, _, _, _], rfl, (by show 11 ≤ 100000; decide), ?_⟩) | (refine ⟨[_, _, _, _, _, _, _, _, _, _, _, _], rfl, (by show 12 ≤ 100000; decide), ?_⟩) | (refine ⟨[_, _, _, _, _, _, _, _, _, _, _, _, _], rfl, (by show 13 ≤ 100000; decide), ?_⟩) | (refine ⟨[_, _, _, _, _, _, _, _, _, _, _, _, _, _], rfl, (by show 14 ≤ 100000; decide), ?_⟩) | (refine ⟨[_, _, _, _, _, _, _, _, _, _, _, _, _, _, _], rfl, (by show 15 ≤ 100000; decide), ?_⟩))
    refine ⟨by omega, ?_⟩
    repeat (first | with_reducible refine ev_lstMulD ?_ | with_reducible refine ev_lstD ?_ | with_reducible refine ev_dnewD ?_ | walk_at "dl" | (refine ⟨[_, _, _, _, _, _], rfl, (by show 6 ≤ 100000; decide), ?_⟩) | (refine ⟨[_, _, _, _, _, _, _], rfl, (by show 7 ≤ 100000; decide), ?_⟩) | (refine ⟨[_, _, _, _, _, _, _, _], rfl, (by show 8 ≤ 100000; decide), ?_⟩) | (refine ⟨[_, _, _, _, _, _, _, _, _], rfl, (by show 9 ≤ 100000; decide), ?_⟩) | (refine ⟨[_, _, _, _, _, _, _, _, _, _], rfl, (by show 10 ≤ 100000; decide), ?_⟩) | (refine ⟨[_, _, _, _, _, _, _, _, _, _, _], rfl, (by show 11 ≤ 100000; decide), ?_⟩) | (refine ⟨[_, _, _, _, _, _, _, _, _, _, _, _], rfl, (by show 12 ≤ 100000; decide), ?_⟩) | (refine ⟨[_, _, _, _, _, _, _, _, _, _, _, _, _], rfl, (by show 13 ≤ 100000; decide), ?_⟩) | (refine ⟨[_, _, _, _, _, _, _, _, _, _, _, _, _, _], rfl, (by show 14 ≤ 100000; decide), ?_⟩) | (refine ⟨[_, _, _, _, _, _, _, _, _, _, _, _, _, _, _], rfl, (by show 15 ≤ 100000; decide), ?_⟩))
    refine o2_mulT (by simp) (by omega) (by omega) (by decide) ?_
    repeat (first | with_reducible refine ev_lstMulD ?_ | with_reducible refine ev_lstD ?_ | with_reducible refine ev_dnewD ?_ | walk_at "dl" | (refine ⟨[_, _, _, _, _, _], rfl, (by show 6 ≤ 100000; decide), ?_⟩) | (refine ⟨[_, _, _, _, _, _, _], rfl, (by show 7 ≤ 100000; decide), ?_⟩) | (refine ⟨[_, _, _, _, _, _, _, _], rfl, (by show 8 ≤ 100000; decide), ?_⟩) | (refine ⟨[_, _, _, _, _, _, _, _, _], rfl, (by show 9 ≤ 100000; decide), ?_⟩) | (refine ⟨[_, _, _, _, _, _, _, _, _, _], rfl, (by show 10 ≤ 100000; decide), ?_⟩) | (refine ⟨[_, _, _, _, _, _, _, _, _, _, _], rfl, (by show 11 ≤ 100000; decide), ?_⟩) | (refine ⟨[_, _, _, _, _, _, _, _, _, _, _, _], rfl, (by show 12 ≤ 100000; decide), ?_⟩) | (refine ⟨[_, _, _, _, _, _, _, _, _, _, _, _, _], rfl, (by show 13 ≤ 100000; decide), ?_⟩) | (refine ⟨[_, _, _, _, _, _, _, _, _, _, _, _, _, _], rfl, (by show 14 ≤ 100000; decide), ?_⟩) | (refine ⟨[_, _, _, _, _, _, _, _, _, _, _, _, _, _, _], rfl, (by show 15 ≤ 100000; decide), ?_⟩))
    refine o2_mulT (by simp) (by omega) (by omega) (by decide) ?_
    repeat (first | with_reducible refine ev_lstMulD ?_ | with_reducible refine ev_lstD ?_ | with_reducible refine ev_dnewD ?_ | walk_at "dl" | (refine ⟨[_, _, _, _, _, _], rfl, (by show 6 ≤ 100000; decide), ?_⟩) | (refine ⟨[_, _, _, _, _, _, _], rfl, (by show 7 ≤ 100000; decide), ?_⟩) | (refine ⟨[_, _, _, _, _, _, _, _], rfl, (by show 8 ≤ 100000; decide), ?_⟩) | (refine ⟨[_, _, _, _, _, _, _, _, _], rfl, (by show 9 ≤ 100000; decide), ?_⟩) | (refine ⟨[_, _, _, _, _, _, _, _, _, _], rfl, (by show 10 ≤ 100000; decide), ?_⟩) | (refine ⟨[_, _, _, _, _, _, _, _, _, _, _], rfl, (by show 11 ≤ 100000; decide), ?_⟩) | (refine ⟨[_, _, _, _, _, _, _, _, _, _, _, _], rfl, (by show 12 ≤ 100000; decide), ?_⟩) | (refine ⟨[_, _, _, _, _, _, _, _, _, _, _, _, _], rfl, (by show 13 ≤ 100000; decide), ?_⟩) | (refine ⟨[_, _, _, _, _, _, _, _, _, _, _, _, _, _], rfl, (by show 14 ≤ 100000; decide), ?_⟩) | (refine ⟨[_, _, _, _, _, _, _, _, _, _, _, _, _, _, _], rfl, (by show 15 ≤ 100000; decide), ?_⟩))
    refine o2_mulT (by simp) (by omega) (by omega) (by decide) ?_
    repeat (first | with_reducible refine ev_lstMulD ?_ | with_reducible refine ev_lstD ?_ | with_reducible refine ev_dnewD ?_ | walk_at "dl" | (refine ⟨[_, _, _, _, _, _], rfl, (by show 6 ≤ 100000; decide), ?_⟩) | (refine ⟨[_, _, _, _, _, _, _], rfl, (by show 7 ≤ 100000; decide), ?_⟩) | (refine ⟨[_, _, _, _, _, _, _, _], rfl, (by show 8 ≤ 100000; decide), ?_⟩) | (refine ⟨[_, _, _, _, _, _, _, _, _], rfl, (by show 9 ≤ 100000; decide), ?_⟩) | (refine ⟨[_, _, _, _, _, _, _, _, _, _], rfl, (by show 10 ≤ 100000; decide), ?_⟩) | (refine ⟨[_, _, _, _, _, _, _, _, _, _, _], rfl, (by show 11 ≤ 100000; decide), ?_⟩) | (refine ⟨[_, _, _, _, _, _, _, _, _, _, _, _], rfl, (by show 12 ≤ 100000; decide), ?_⟩) | (refine ⟨[_, _, _, _, _, _, _, _, _, _, _, _, _], rfl, (by show 13 ≤ 100000; decide), ?_⟩) | (refine ⟨[_, _, _, _, _, _, _, _, _, _, _, _, _, _], rfl, (by show 14 ≤ 100000; decide), ?_⟩) | (refine ⟨[_, _, _, _, _, _, _, _, _, _, _, _, _, _, _], rfl, (by show 15 ≤ 100000; decide), ?_⟩))
    rw [show ((ss.length : Int) - 1) = ((ss.length - 1 : Nat) : Int) by omega]
    refine o2_mulZn (by simp) (by omega) (by decide) ?_
    repeat (first | with_reducible refine ev_lstMulD ?_ | with_reducible refine ev_lstD ?_ | with_reducible refine ev_dnewD ?_ | walk_at "dl" | (refine ⟨[_, _, _, _, _, _], rfl, (by show 6 ≤ 100000; decide), ?_⟩) | (refine ⟨[_, _, _, _, _, _, _], rfl, (by show 7 ≤ 100000; decide), ?_⟩) | (refine ⟨[_, _, _, _, _, _, _, _], rfl, (by show 8 ≤ 100000; decide), ?_⟩) | (refine ⟨[_, _, _, _, _, _, _, _, _], rfl, (by show 9 ≤ 100000; decide), ?_⟩) | (refine ⟨[_, _, _, _, _, _, _, _, _, _], rfl, (by show 10 ≤ 100000; decide), ?_⟩) | (refine ⟨[_, _, _, _, _, _, _, _, _, _, _], rfl, (by show 11 ≤ 100000; decide), ?_⟩) | (refine ⟨[_, _, _, _, _, _, _, _, _, _, _, _], rfl, (by show 12 ≤ 100000; decide), ?_⟩) | (refine ⟨[_, _, _, _, _, _, _, _, _, _, _, _, _], rfl, (by show 13 ≤ 100000; decide), ?_⟩) | (refine ⟨[_, _, _, _, _, _, _, _, _, _, _, _, _, _], rfl, (by show 14 ≤ 100000; decide), ?_⟩) | (refine ⟨[_, _, _, _, _, _, _, _, _, _, _, _, _, _, _], rfl, (by show 15 ≤ 100000; decide), ?_⟩))
    refine ⟨hp, by decide, bt_lit (n := 7) (by decide) (by decide), fun z h0 h9 => ?_⟩
    refine o2_ixLx h0 h9 fun d hd => ?_
    have hr := bad_needs h1 hd
    clear hd
    refine w_seq (w_if ?_)
    refine evt_test (ev_op (ev_mapTf (xs := [13, 14, 15]) (f := fun k : Nat => PyData.int (k : Int)) ?_ (by decide) (fun _ => .str "needs") (fun k m2 hk hx => ?_) ?_))
    · walk_at "go"
      first
      | exact ⟨rfl, rfl⟩
      | exact ⟨[_, _, _, _], rfl, by show 4 ≤ 100000; decide, rfl, rfl⟩
    · have hk : k = 13 ∨ k = 14 ∨ k = 15 := by simpa using hk
      exact ev_call (eva_cons (ev_cI (eva_cons (ev_var rfl (fun h => nomatch h) (eva_cons (ev_var rfl (fun h => nomatch h) (eva_cons (ev_var rfl (fun h => nomatch h) (eva_cons (ev_cN (eva_nil (sd_needs hk hs hr ⟨rfl, rfl⟩))))))))))))
    refine ev_strs (n := 3) (by decide) (o2_neMap rfl ((reps_shaped ⟨3, by decide⟩ ⟨3, by decide⟩).1) ?_)
    walk_at "go"
    
    refine br_f rfl (w_next ?_)
    repeat (first | with_reducible refine ev_lstMulD ?_ | with_reducible refine ev_lstD ?_ | with_reducible refine ev_dnewD ?_ | walk_at "dl" | (refine ⟨[_, _, _, _, _, _], rfl, (by show 6 ≤ 100000; decide), ?_⟩) | (refine ⟨[_, _, _, _, _, _, _], rfl, (by show 7 ≤ 100000; decide), ?_⟩) | (refine ⟨[_, _, _, _, _, _, _, _], rfl, (by show 8 ≤ 100000; decide), ?_⟩) | (refine ⟨[_, _, _, _, _, _, _, _, _], rfl, (by show 9 ≤ 100000; decide), ?_⟩) | (refine ⟨[_, _, _, _, _, _, _, _, _, _], rfl, (by show 10 ≤ 100000; decide), ?_⟩) | (refine ⟨[_, _, _, _, _, _, _, _, _, _, _], rfl, (by show 11 ≤ 100000; decide), ?_⟩) | (refine ⟨[_, _, _, _, _, _, _, _, _, _, _, _], rfl, (by show 12 ≤ 100000; decide), ?_⟩) | (refine ⟨[_, _, _, _, _, _, _, _, _, _, _, _, _], rfl, (by show 13 ≤ 100000; decide), ?_⟩) | (refine ⟨[_, _, _, _, _, _, _, _, _, _, _, _, _, _], rfl, (by show 14 ≤ 100000; decide), ?_⟩) | (refine ⟨[_, _, _, _, _, _, _, _, _, _, _, _, _, _, _], rfl, (by show 15 ≤ 100000; decide), ?_⟩))
    refine o2_pow ⟨by decide, by decide, by decide⟩ ?_
    repeat (first | with_reducible refine ev_lstMulD ?_ | with_reducible refine ev_lstD ?_ | with_reducible refine ev_dnewD ?_ | walk_at "dl" | (refine ⟨[_, _, _, _, _, _], rfl, (by show 6 ≤ 100000; decide), ?_⟩) | (refine ⟨[_, _, _, _, _, _, _], rfl, (by show 7 ≤ 100000; decide), ?_⟩) | (refine ⟨[_, _, _, _, _, _, _, _], rfl, (by show 8 ≤ 100000; decide), ?_⟩) | (refine ⟨[_, _, _, _, _, _, _, _, _], rfl, (by show 9 ≤ 100000; decide), ?_⟩) | (refine ⟨[_, _, _, _, _, _, _, _, _, _], rfl, (by show 10 ≤ 100000; decide), ?_⟩) | (refine ⟨[_, _, _, _, _, _, _, _, _, _, _], rfl, (by show 11 ≤ 100000; decide), ?_⟩) | (refine ⟨[_, _, _, _, _, _, _, _, _, _, _, _], rfl, (by show 12 ≤ 100000; decide), ?_⟩) | (refine ⟨[_, _, _, _, _, _, _, _, _, _, _, _, _], rfl, (by show 13 ≤ 100000; decide), ?_⟩) | (refine ⟨[_, _, _, _, _, _, _, _, _, _, _, _, _, _], rfl, (by show 14 ≤ 100000; decide), ?_⟩) | (refine ⟨[_, _, _, _, _, _, _, _, _, _, _, _, _, _, _], rfl, (by show 15 ≤ 100000; decide), ?_⟩))
    refine ⟨hp, by decide, bt_lit (n := 7) (by decide) (by decide), fun z h0 h9 => ?_⟩
    refine o2_ixLx h0 h9 fun d2 hd => ?_
    have hnum : okNum d2 0 8 = false := by
      revert d2
      decide +kernel
    clear hd
    refine w_seq (w_if (evt_test (ev_op (ev_call ?_))))
    walk_at "go"
    refine o2_mulT (by simp) (by omega) (by omega) (by decide) ?_
    rw [ones_kn ss.length]
    walk_at "go"
    refine sd_nn hs (ones_need _) hnum ?_
    walk_at "go"
    refine br_f rfl (w_next ?_)
    refine w_seq (w_if (evt_test (ev_op (ev_call ?_))))
    walk_at "go"
    refine o2_mulT (n := 5) (by simp) (by omega) (by omega) (by decide) ?_
    walk_at "go"
    refine o2_mulT (n := 5) (by simp) (by omega) (by omega) (by decide) ?_
    walk_at "go"
    refine sd_nn (ss := [1, 1, 1, 1, 1]) (v := [3, 3, 3, 3, 3]) (ones_shares (n := 5) (by decide) (by decide)) (need_of [3, 3, 3, 3, 3] (by decide)) hnum ?_
    walk_at "go"
    refine br_f rfl (w_next ?_)
    repeat (first | with_reducible refine ev_lstMulD ?_ | with_reducible refine ev_lstD ?_ | with_reducible refine ev_dnewD ?_ | walk_at "dl" | (refine ⟨[_, _, _, _], rfl, (by show 4 ≤ 100000; decide), ?_⟩) | (refine ⟨[_, _, _, _, _], rfl, (by show 5 ≤ 100000; decide), ?_⟩) | (refine ⟨[_, _, _, _, _, _], rfl, (by show 6 ≤ 100000; decide), ?_⟩) | (refine ⟨[_, _, _, _, _, _, _], rfl, (by show 7 ≤ 100000; decide), ?_⟩) | (refine ⟨[_, _, _, _, _, _, _, _], rfl, (by show 8 ≤ 100000; decide), ?_⟩) | (refine ⟨[_, _, _, _, _, _, _, _, _], rfl, (by show 9 ≤ 100000; decide), ?_⟩) | (refine ⟨[_, _, _, _, _, _, _, _, _, _], rfl, (by show 10 ≤ 100000; decide), ?_⟩) | (refine ⟨[_, _, _, _, _, _, _, _, _, _, _], rfl, (by show 11 ≤ 100000; decide), ?_⟩) | (refine ⟨[_, _, _, _, _, _, _, _, _, _, _, _], rfl, (by show 12 ≤ 100000; decide), ?_⟩) | (refine ⟨[_, _, _, _, _, _, _, _, _, _, _, _, _], rfl, (by show 13 ≤ 100000; decide), ?_⟩) | (refine ⟨[_, _, _, _, _, _, _, _, _, _, _, _, _, _], rfl, (by show 14 ≤ 100000; decide), ?_⟩) | (refine ⟨[_, _, _, _, _, _, _, _, _, _, _, _, _, _, _], rfl, (by show 15 ≤ 100000; decide), ?_⟩))
    refine (w_forL (ds := [.tuple [.int 0, .int 3, .int 3, .int 3, .int 1], .tuple [.int 3, .int 3, .int 3, .int 1, .int 0]]) ?_ (fun i r' m' => m' = m ∧ ∃ y4 y6 y7 y8, r' = [.v (.ref p), .d (tupI ss), .d (.int (ss.length : Int)), .d (.list grtL), y4, .d d2, y6, y7, y8]) ⟨rfl, _, _, _, _, rfl⟩ ?_ ?_)
    · repeat (first | with_reducible refine ev_lstMulD ?_ | with_reducible refine ev_lstD ?_ | with_reducible refine ev_dnewD ?_ | walk_at "dl" | (refine ⟨[_, _, _, _], rfl, (by show 4 ≤ 100000; decide), ?_⟩) | (refine ⟨[_, _, _, _, _], rfl, (by show 5 ≤ 100000; decide), ?_⟩) | (refine ⟨[_, _, _, _, _, _], rfl, (by show 6 ≤ 100000; decide), ?_⟩) | (refine ⟨[_, _, _, _, _, _, _], rfl, (by show 7 ≤ 100000; decide), ?_⟩) | (refine ⟨[_, _, _, _, _, _, _, _], rfl, (by show 8 ≤ 100000; decide), ?_⟩) | (refine ⟨[_, _, _, _, _, _, _, _, _], rfl, (by show 9 ≤ 100000; decide), ?_⟩) | (refine ⟨[_, _, _, _, _, _, _, _, _, _], rfl, (by show 10 ≤ 100000; decide), ?_⟩) | (refine ⟨[_, _, _, _, _, _, _, _, _, _, _], rfl, (by show 11 ≤ 100000; decide), ?_⟩) | (refine ⟨[_, _, _, _, _, _, _, _, _, _, _, _], rfl, (by show 12 ≤ 100000; decide), ?_⟩) | (refine ⟨[_, _, _, _, _, _, _, _, _, _, _, _, _], rfl, (by show 13 ≤ 100000; decide), ?_⟩) | (refine ⟨[_, _, _, _, _, _, _, _, _, _, _, _, _, _], rfl, (by show 14 ≤ 100000; decide), ?_⟩) | (refine ⟨[_, _, _, _, _, _, _, _, _, _, _, _, _, _, _], rfl, (by show 15 ≤ 100000; decide), ?_⟩))
      exact ⟨rfl, rfl⟩
    · rintro i od r' m' hd ⟨rfl, y4, y6, y7, y8, rfl⟩
      obtain ⟨v, rfl, hv, h64⟩ : ∃ v : List Nat, od = .tuple ((kn v).map PyData.int) ∧ NeedV 5 v ∧ 64 < stN v := by
        have hm := List.mem_of_getElem? hd
        simp only [List.mem_cons, List.not_mem_nil, or_false] at hm
        rcases hm with rfl | rfl
        · exact ⟨[0, 3, 3, 3, 1], rfl, need_of [0, 3, 3, 3, 1] (by decide), by decide⟩
        · exact ⟨[3, 3, 3, 1, 0], rfl, need_of [3, 3, 3, 1, 0] (by decide), by decide⟩
      refine w_if ?_
      refine evt_test (ev_op (ev_mapTf (xs := [13, 14, 15]) (f := fun k : Nat => PyData.int (k : Int)) ?_ (by decide) (fun _ => .str "many") (fun k m2 hk hx => ?_) ?_))
      · walk_at "go"
        first
        | exact ⟨rfl, rfl⟩
        | exact ⟨[_, _, _, _], rfl, by show 4 ≤ 100000; decide, rfl, rfl⟩
      · have hk : k = 13 ∨ k = 14 ∨ k = 15 := by simpa using hk
        refine ev_call ?_
        walk_at "go"
        refine o2_mulT (n := 5) (by simp) (by omega) (by omega) (by decide) ?_
        walk_at "go"
        exact sd_many (ss := [1, 1, 1, 1, 1]) hk (ones_shares (n := 5) (by decide) (by decide)) hv h64 ⟨rfl, rfl⟩
      refine ev_strs (n := 3) (by decide) (o2_neMap rfl ((reps_shaped ⟨3, by decide⟩ ⟨4, by decide⟩).1) ?_)
      walk_at "go"
      exact br_f rfl (w_next ⟨rfl, _, _, _, _, rfl⟩)
    rintro r' m' ⟨rfl, y4, y6, y7, y8, rfl⟩
    repeat (first | with_reducible refine ev_lstMulD ?_ | with_reducible refine ev_lstD ?_ | with_reducible refine ev_dnewD ?_ | walk_at "dl" | (refine ⟨[_, _, _, _], rfl, (by show 4 ≤ 100000; decide), ?_⟩) | (refine ⟨[_, _, _, _, _], rfl, (by show 5 ≤ 100000; decide), ?_⟩) | (refine ⟨[_, _, _, _, _, _], rfl, (by show 6 ≤ 100000; decide), ?_⟩) | (refine ⟨[_, _, _, _, _, _, _], rfl, (by show 7 ≤ 100000; decide), ?_⟩) | (refine ⟨[_, _, _, _, _, _, _, _], rfl, (by show 8 ≤ 100000; decide), ?_⟩) | (refine ⟨[_, _, _, _, _, _, _, _, _], rfl, (by show 9 ≤ 100000; decide), ?_⟩) | (refine ⟨[_, _, _, _, _, _, _, _, _, _], rfl, (by show 10 ≤ 100000; decide), ?_⟩) | (refine ⟨[_, _, _, _, _, _, _, _, _, _, _], rfl, (by show 11 ≤ 100000; decide), ?_⟩) | (refine ⟨[_, _, _, _, _, _, _, _, _, _, _, _], rfl, (by show 12 ≤ 100000; decide), ?_⟩) | (refine ⟨[_, _, _, _, _, _, _, _, _, _, _, _, _], rfl, (by show 13 ≤ 100000; decide), ?_⟩) | (refine ⟨[_, _, _, _, _, _, _, _, _, _, _, _, _, _], rfl, (by show 14 ≤ 100000; decide), ?_⟩) | (refine ⟨[_, _, _, _, _, _, _, _, _, _, _, _, _, _, _], rfl, (by show 15 ≤ 100000; decide), ?_⟩))
    refine ⟨hp, by decide, bt_lit (n := 7) (by decide) (by decide), fun z h0 h9 => ?_⟩
    refine o2_ixLx h0 h9 fun d3 hd => ?_
    obtain ⟨v, rfl, hv1, hv5, hv, h64⟩ := grt_need hd
    clear hd
    have hl : ((kn v).map PyData.int).length = v.length := by unfold kn; rw [List.length_map, List.length_map]
    repeat (first | with_reducible refine ev_lstMulD ?_ | with_reducible refine ev_lstD ?_ | with_reducible refine ev_dnewD ?_ | walk_at "dl" | (refine ⟨[_, _, _, _], rfl, (by show 4 ≤ 100000; decide), ?_⟩) | (refine ⟨[_, _, _, _, _], rfl, (by show 5 ≤ 100000; decide), ?_⟩) | (refine ⟨[_, _, _, _, _, _], rfl, (by show 6 ≤ 100000; decide), ?_⟩) | (refine ⟨[_, _, _, _, _, _, _], rfl, (by show 7 ≤ 100000; decide), ?_⟩) | (refine ⟨[_, _, _, _, _, _, _, _], rfl, (by show 8 ≤ 100000; decide), ?_⟩) | (refine ⟨[_, _, _, _, _, _, _, _, _], rfl, (by show 9 ≤ 100000; decide), ?_⟩) | (refine ⟨[_, _, _, _, _, _, _, _, _, _], rfl, (by show 10 ≤ 100000; decide), ?_⟩) | (refine ⟨[_, _, _, _, _, _, _, _, _, _, _], rfl, (by show 11 ≤ 100000; decide), ?_⟩) | (refine ⟨[_, _, _, _, _, _, _, _, _, _, _, _], rfl, (by show 12 ≤ 100000; decide), ?_⟩) | (refine ⟨[_, _, _, _, _, _, _, _, _, _, _, _, _], rfl, (by show 13 ≤ 100000; decide), ?_⟩) | (refine ⟨[_, _, _, _, _, _, _, _, _, _, _, _, _, _], rfl, (by show 14 ≤ 100000; decide), ?_⟩) | (refine ⟨[_, _, _, _, _, _, _, _, _, _, _, _, _, _, _], rfl, (by show 15 ≤ 100000; decide), ?_⟩))
    rw [hl]
    refine o2_mulT (by simp) (by omega) (by omega) (by decide) ?_
    rw [ones_tup v.length]
    have hso : Shares (List.replicate v.length 1) := ones_shares hv1 hv5
    have hvo : NeedV (List.replicate v.length (1 : Int)).length v := by rw [List.length_replicate]; exact hv
    refine w_seq (w_if ?_)
    refine evt_test (ev_op (ev_mapTf (xs := [13, 14, 15]) (f := fun k : Nat => PyData.int (k : Int)) ?_ (by decide) (fun _ => .str "many") (fun k m2 hk hx => ?_) ?_))
    · walk_at "go"
      first
      | exact ⟨rfl, rfl⟩
      | exact ⟨[_, _, _, _], rfl, by show 4 ≤ 100000; decide, rfl, rfl⟩
    · have hk : k = 13 ∨ k = 14 ∨ k = 15 := by simpa using hk
      exact ev_call (eva_cons (ev_cI (eva_cons (ev_var rfl (fun h => nomatch h) (eva_cons (ev_var rfl (fun h => nomatch h) (eva_cons (ev_var rfl (fun h => nomatch h) (eva_cons (ev_cI (eva_nil (sd_many hk hso hvo h64 ⟨rfl, rfl⟩))))))))))))
    refine ev_strs (n := 3) (by decide) (o2_neMap rfl ((reps_shaped ⟨3, by decide⟩ ⟨4, by decide⟩).1) ?_)
    walk_at "go"
    refine br_f rfl (w_next ?_)
    refine w_seq (w_forLtI (ev_lstT ?_))
    refine eva_cons (ev_tupT (eva_cons (ev_cI (eva_cons (ev_cI (eva_cons (ev_cI (eva_nil ⟨[3, 3, 3], rfl, by decide, ?_⟩))))))))
    refine eva_cons (ev_tupT (eva_cons (ev_cI (eva_cons (ev_cI (eva_cons (ev_cI (eva_cons (ev_cI (eva_nil ⟨[3, 3, 3, 0], rfl, by decide, ?_⟩))))))))))
    refine eva_cons (ev_tupT (eva_cons (ev_cI (eva_cons (ev_cI (eva_cons (ev_cI (eva_cons (ev_cI (eva_cons (ev_cI (eva_nil ⟨[1, 1, 1, 1, 3], rfl, by decide, ?_⟩))))))))))))
    refine eva_cons (ev_tupT (eva_cons (ev_cI (eva_cons (ev_cI (eva_cons (ev_cI (eva_cons (ev_cI (eva_nil ⟨[1, 1, 3, 3], rfl, by decide, ?_⟩))))))))))
    refine eva_nil ⟨[[3, 3, 3], [3, 3, 3, 0], [1, 1, 1, 1, 3], [1, 1, 3, 3]], rfl, by decide, _, rfl, fun i r3 m3 => m3 = m' ∧ ∃ y4 y8, r3 = [.v (.ref p), .d (tupI ss), .d (.int (ss.length : Int)), .d (.list grtL), y4, .d d2, .d (.tuple ((kn v).map PyData.int)), .d (tupI (List.replicate v.length 1)), y8], ⟨rfl, _, _, rfl⟩, ?_, ?_⟩
    · rintro i ns r3 m3 hi ⟨rfl, y4, y8, rfl⟩
      obtain ⟨u, rfl, hu1, hu5, hu, hu64⟩ : ∃ u : List Nat, ns = kn u ∧ 1 ≤ u.length ∧ u.length ≤ 5 ∧ NeedV u.length u ∧ stN u ≤ 64 := by
        have hm := List.mem_of_getElem? hi
        simp only [List.mem_cons, List.not_mem_nil, or_false] at hm
        rcases hm with rfl | rfl | rfl | rfl
        · exact ⟨[3, 3, 3], rfl, by decide, by decide, need_of [3, 3, 3] (by decide), by decide⟩
        · exact ⟨[3, 3, 3, 0], rfl, by decide, by decide, need_of [3, 3, 3, 0] (by decide), by decide⟩
        · exact ⟨[1, 1, 1, 1, 3], rfl, by decide, by decide, need_of [1, 1, 1, 1, 3] (by decide), by decide⟩
        · exact ⟨[1, 1, 3, 3], rfl, by decide, by decide, need_of [1, 1, 3, 3] (by decide), by decide⟩
      have hul : (kn u).length = u.length := by unfold kn; rw [List.length_map]
      have hus : Shares (List.replicate u.length 1) := ones_shares hu1 hu5
      have huv : NeedV (List.replicate u.length (1 : Int)).length u := by rw [List.length_replicate]; exact hu
      refine w_if ?_
      refine evt_test (ev_op (ev_mapTf (xs := [7, 13, 14, 15]) (f := fun k : Nat => PyData.int (k : Int)) ?_ (by decide) (fun _ => .str "told") (fun k m2 hk hx => ?_) ?_))
      · walk_at "go"
        first
        | exact ⟨rfl, rfl⟩
        | exact ⟨[_, _, _, _], rfl, by show 4 ≤ 100000; decide, rfl, rfl⟩
      · have hk : k = 7 ∨ k = 13 ∨ k = 14 ∨ k = 15 := by simpa using hk
        refine ev_call (eva_cons (ev_cI (eva_cons (ev_var rfl (fun h => nomatch h) (eva_cons ?_)))))
        walk_at "go"
        refine o2_mulT (by simp) (by omega) (by omega) (by decide) ?_
        rw [ones_tup u.length]
        exact eva_cons (ev_var rfl (fun h => nomatch h) (eva_cons (ev_cI (eva_nil (sd_told hk hus huv hu64 ⟨rfl, rfl⟩)))))
      refine ev_strs (n := 4) (by decide) (o2_neMap rfl ((reps_shaped ⟨4, by decide⟩ ⟨0, by decide⟩).2) ?_)
      walk_at "go"
      exact br_f rfl (w_next ⟨rfl, _, _, rfl⟩)
    rintro r3 m3 ⟨rfl, y4, y8, rfl⟩
    refine w_ret (ev_op (ev_call (eva_cons (ev_cI (eva_cons (ev_cI (eva_cons (ev_var rfl (fun h => nomatch h) (eva_cons (ev_var rfl (fun h => nomatch h) (eva_cons (ev_cN (eva_nil (sd_none hso ?_))))))))))))))
    walk_at "go"
    exact q
abbrev s__law_numbers_right : Stmt := topS 98
theorem sc__law_numbers_right : FnScope ["_law_box_here", "_law_some", "_law_bad", "_law_kind", "_law_one", "_law_other", "_law_many", "_law_size", "_law_number"] ["_law_box_here"] (defScope s__law_numbers_right) := ⟨rfl, rfl, rfl, by decide +kernel, rfl, by decide +kernel, by decide +kernel⟩
theorem ok__law_numbers_right {a : Addr} {fd : FuncData} (F : Fun K "_law_numbers_right" "_law_numbers_right" s__law_numbers_right a fd) (hm : mg "_law_numbers_right" = some (.ref a)) (z_range : mg "range" = none) (k__law_take : Cl P w K mg base 1 "_law_take" f_take) (k__law_said : Cl P w K mg base 16 "_law_said" f_said05) :
    Cl P w K mg base 17 "_law_numbers_right" f_nbRight := by
  refine ⟨a, fd, ["_law_box_here"], fn_ok F sc__law_numbers_right (fun args m R h => ?_) (fun cdv A outer s H E hr => ⟨_, (pss_cons (ps_set (i := 1) sc__law_numbers_right.nd rfl (by first | exact Or.inl rfl | exact Or.inr rfl) (pe_lst (pa_cons pe_non (pa_cons (pe_tup (pa_cons pe_int (pa_cons pe_int pa_nil))) (pa_cons (pe_tup (pa_cons pe_int (pa_cons pe_int pa_nil))) (pa_cons (pe_tup (pa_cons pe_int (pa_cons pe_int pa_nil))) (pa_cons (pe_lst (pa_cons pe_int (pa_cons pe_int pa_nil))) (pa_cons (pe_tup (pa_cons pe_int pa_nil)) (pa_cons (pe_tup (pa_cons pe_bl (pa_cons pe_int pa_nil))) (pa_cons (pe_tup (pa_cons pe_int (pa_cons (pe_un oNeg pe_int) pa_nil))) (pa_cons pe_str (pa_cons pe_int (pa_cons (pe_tup (pa_cons pe_int (pa_cons pe_int (pa_cons pe_int pa_nil)))) pa_nil)))))))))))))
      (pss_cons (ps_set (i := 2) sc__law_numbers_right.nd rfl (by first | exact Or.inl rfl | exact Or.inr rfl) (pe_ix (kIx K) (pv 1) (pe_cl k__law_take hr (by decide) (by rfl) (pa_cons (pv 0) (pa_cons pe_int pa_nil))) (fun _ _ => rfl)))
      (pss_cons (ps_for PassesOwn.never rfl (pi_range2 (by rfl) z_range (pa_cons pe_int (pa_cons pe_int pa_nil))) (pg_name (i := 3) sc__law_numbers_right.nd rfl (by first | exact Or.inl rfl | exact Or.inr rfl)) (pss_one (ps_if (PW.pt (pw_or (pt_cmpR (kNe K hr) (pe_cl k__law_said hr (by decide) (by rfl) (pa_cons pe_int (pa_cons (pv 3) (pa_cons (pv 2) (pa_cons (pe_tup (pa_cons pe_int (pa_cons pe_int pa_nil))) (pa_cons pe_non pa_nil)))))) pe_str (nomark _)) (pw_or1 (pt_cmpR (kNe K hr) (pe_cl k__law_said hr (by decide) (by rfl) (pa_cons pe_int (pa_cons (pv 3) (pa_cons (pe_tup (pa_cons pe_int (pa_cons pe_int pa_nil))) (pa_cons (pv 2) (pa_cons pe_non pa_nil)))))) pe_str (nomark _))))) (pss_one (ps_ret pe_bl)) pss_nil)))
      (pss_cons (ps_for PassesOwn.never rfl (kiL K (pe_lst (pa_cons (pe_tup (pa_cons pe_int (pa_cons pe_int pa_nil))) (pa_cons (pe_tup (pa_cons pe_int (pa_cons (pe_un oNeg pe_int) pa_nil))) (pa_cons (pe_tup (pa_cons pe_bl (pa_cons pe_int pa_nil))) (pa_cons (pe_tup (pa_cons pe_int (pa_cons pe_bl pa_nil))) (pa_cons (pe_tup (pa_cons pe_non (pa_cons pe_int pa_nil))) (pa_cons (pe_tup (pa_cons pe_int (pa_cons pe_str pa_nil))) (pa_cons (pe_tup (pa_cons (pe_tup (pa_cons pe_int pa_nil)) (pa_cons pe_int pa_nil))) (pa_cons (pe_tup (pa_cons pe_int (pa_cons pe_non pa_nil))) pa_nil)))))))))) (kgT K (pg_tup (n := 2) rfl (pgs_cons (pg_name (i := 4) sc__law_numbers_right.nd rfl (by first | exact Or.inl rfl | exact Or.inr rfl)) (pgs_cons (pg_name (i := 5) sc__law_numbers_right.nd rfl (by first | exact Or.inl rfl | exact Or.inr rfl)) pgs_nil)))) (pss_one (ps_if (pt_cmpR (kNe K hr) (pe_cl k__law_said hr (by decide) (by rfl) (pa_cons pe_int (pa_cons pe_int (pa_cons (pv 4) (pa_cons (pv 5) (pa_cons pe_non pa_nil)))))) pe_str (nomark _)) (pss_one (ps_ret pe_bl)) pss_nil)))
      (pss_cons (ps_set (i := 1) sc__law_numbers_right.nd rfl (by first | exact Or.inl rfl | exact Or.inr rfl) (pe_lst (pa_cons (pe_tup (pa_cons pe_int (pa_cons pe_int pa_nil))) (pa_cons (pe_tup (pa_cons pe_int (pa_cons pe_int pa_nil))) (pa_cons (pe_tup (pa_cons pe_int (pa_cons pe_int pa_nil))) (pa_cons (pe_tup (pa_cons pe_int (pa_cons pe_int pa_nil))) (pa_cons (pe_tup (pa_cons pe_int (pa_cons pe_int pa_nil))) (pa_cons (pe_tup (pa_cons pe_int (pa_cons pe_int pa_nil))) (pa_cons (pe_tup (pa_cons pe_int (pa_cons pe_int pa_nil))) (pa_cons (pe_tup (pa_cons pe_int (pa_cons pe_int pa_nil))) (pa_cons (pe_tup (pa_cons pe_int (pa_cons pe_int pa_nil))) (pa_cons (pe_tup (pa_cons pe_bl (pa_cons pe_int pa_nil))) (pa_cons (pe_tup (pa_cons pe_int (pa_cons pe_bl pa_nil))) (pa_cons (pe_tup (pa_cons pe_non (pa_cons pe_int pa_nil))) pa_nil))))))))))))))
      (pss_cons (ps_for PassesOwn.never rfl (kiL K (pe_op (kAdd K) (pv 1) (pe_lst (pa_cons (pe_tup (pa_cons pe_int (pa_cons pe_non pa_nil))) (pa_cons (pe_tup (pa_cons (pe_lst (pa_cons pe_int pa_nil)) (pa_cons pe_int pa_nil))) (pa_cons (pe_tup (pa_cons pe_int (pa_cons pe_dnewT pa_nil))) pa_nil)))))) (kgT K (pg_tup (n := 2) rfl (pgs_cons (pg_name (i := 6) sc__law_numbers_right.nd rfl (by first | exact Or.inl rfl | exact Or.inr rfl)) (pgs_cons (pg_name (i := 7) sc__law_numbers_right.nd rfl (by first | exact Or.inl rfl | exact Or.inr rfl)) pgs_nil)))) (pss_one (ps_if (pt_cmpR (kNe K hr) (pe_lc (own := [("_law_kind", 3)]) rfl sc__law_numbers_right.nd (pi_range1 (by rfl) z_range (pa_cons pe_int pa_nil)) (blkOk_by (own := [("_law_kind", 3)]) (N := ["_law_box_here", "_law_some", "_law_bad", "_law_kind", "_law_one", "_law_other", "_law_many", "_law_size", "_law_number"]) (sc := defScope s__law_numbers_right) (by decide +kernel)) (fun _ _ _ _ _ => (pg_name (i := 3) sc__law_numbers_right.nd rfl (by first | exact Or.inl rfl | exact Or.inr rfl))) (fun _ _ _ _ _ => pts_nil) (fun _ _ _ _ _ => (pe_cl k__law_said hr (by decide) (by rfl) (pa_cons pe_int (pa_cons (pv 3) (pa_cons (pv 6) (pa_cons (pv 7) (pa_cons pe_int pa_nil)))))))) (pe_op (kMul K) (pe_lst (pa_cons pe_str pa_nil)) pe_int) (nomark _)) (pss_one (ps_ret pe_bl)) pss_nil)))
      (pss_cons (ps_set (i := 8) sc__law_numbers_right.nd rfl (by first | exact Or.inl rfl | exact Or.inr rfl) (pe_ix (kIx K) (pe_lst (pa_cons pe_int (pa_cons (pe_un oNeg pe_int) (pa_cons pe_bl (pa_cons pe_non (pa_cons pe_str (pa_cons (pe_lst (pa_cons pe_int pa_nil)) (pa_cons pe_dnewT (pa_cons (pe_op oPow pe_int pe_int) pa_nil))))))))) (pe_cl k__law_take hr (by decide) (by rfl) (pa_cons (pv 0) (pa_cons pe_int pa_nil))) (fun _ _ => rfl)))
      (pss_one (ps_ret (pe_cmpR (kEq K hr) (pe_cl k__law_said hr (by decide) (by rfl) (pa_cons pe_int (pa_cons pe_int (pa_cons pe_int (pa_cons pe_int (pa_cons (pv 8) pa_nil)))))) pe_str (nomark _))))))))))), fun args m R h => ?_⟩), hm, F.kp, F.binds (ps := ["_law_box_here"]) fun _ _ _ _ _ _ us hl => match us, hl with | [_], _ => rfl⟩
  ·
    obtain ⟨_, rfl, _⟩ := h; rfl
  ·
    obtain ⟨p, rfl, hp, q⟩ := h
    repeat (first | with_reducible refine ev_lstMulD ?_ | with_reducible refine ev_lstD ?_ | with_reducible refine ev_dnewD ?_ | walk_at "dl" | (refine ⟨[_, _, _, _, _, _], rfl, (by show 6 ≤ 100000; decide), ?_⟩) | (refine ⟨[_, _, _, _, _, _, _], rfl, (by show 7 ≤ 100000; decide), ?_⟩) | (refine ⟨[_, _, _, _, _, _, _, _], rfl, (by show 8 ≤ 100000; decide), ?_⟩) | (refine ⟨[_, _, _, _, _, _, _, _, _], rfl, (by show 9 ≤ 100000; decide), ?_⟩) | (refine ⟨[_, _, _, _, _, _, _, _, _, _], rfl, (by show 10 ≤ 100000; decide), ?_⟩) | (refine ⟨[_, _, _, _, _, _, _, _, _, _, _], rfl, (by show 11 ≤ 100000; decide), ?_⟩) | (refine ⟨[_, _, _, _, _, _, _, _, _, _, _, _], rfl, (by show 12 ≤ 100000; decide), ?_⟩) | (refine ⟨[_, _, _, _, _, _, _, _, _, _, _, _, _], rfl, (by show 13 ≤ 100000; decide), ?_⟩) | (refine ⟨[_, _, _, _, _, _, _, _, _, _, _, _, _, _], rfl, (by show 14 ≤ 100000; decide), ?_⟩) | (refine ⟨[_, _, _, _, _, _, _, _, _, _, _, _, _, _, _], rfl, (by show 15 ≤ 100000; decide), ?_⟩))
    refine ⟨hp, by decide, bt_lit (n := 7) (by decide) (by decide), fun z h0 h9 => ?_⟩
    refine o2_ixLx h0 h9 fun d hd => ?_
    have hfr : szFrac d ∧ isFrac d = false := by
      revert d
      intro d hd
      simp only [List.mem_cons, List.not_mem_nil, or_false] at hd
      rcases hd with rfl | rfl | rfl | rfl | rfl | rfl | rfl | rfl | rfl | rfl | rfl <;> exact ⟨by first | trivial | exact bt_lit (n := 4) (by decide) (by decide), by decide +kernel⟩
    clear hd
    refine w_seq (w_forR2 (lo := 1) (n := 4) ?_ (by decide) (fun i r' m' => m' = m ∧ ∃ y1 y3 y4 y5 y6 y7 y8, r' = [.v (.ref p), y1, .d d, y3, y4, y5, y6, y7, y8]) ⟨rfl, _, _, _, _, _, _, _, rfl⟩ ?_ ?_)
    · walk_at "go"
      exact ⟨rfl, rfl⟩
    · rintro i r' m' hi ⟨rfl, y1, y3, y4, y5, y6, y7, y8, rfl⟩
      have hk : 1 + i = 1 ∨ 1 + i = 2 ∨ 1 + i = 3 ∨ 1 + i = 4 := by omega
      have hf : szFrac (.tuple [.int 1, .int 2]) := bt_lit (n := 4) (by decide) (by decide)
      refine w_if (evt_or (evt_test (ev_op (ev_call ?_))))
      repeat (first | with_reducible refine ev_lstMulD ?_ | with_reducible refine ev_lstD ?_ | with_reducible refine ev_dnewD ?_ | walk_at "dl" | (refine ⟨[_, _, _, _, _, _], rfl, (by show 6 ≤ 100000; decide), ?_⟩) | (refine ⟨[_, _, _, _, _, _, _], rfl, (by show 7 ≤ 100000; decide), ?_⟩) | (refine ⟨[_, _, _, _, _, _, _, _], rfl, (by show 8 ≤ 100000; decide), ?_⟩) | (refine ⟨[_, _, _, _, _, _, _, _, _], rfl, (by show 9 ≤ 100000; decide), ?_⟩) | (refine ⟨[_, _, _, _, _, _, _, _, _, _], rfl, (by show 10 ≤ 100000; decide), ?_⟩) | (refine ⟨[_, _, _, _, _, _, _, _, _, _, _], rfl, (by show 11 ≤ 100000; decide), ?_⟩) | (refine ⟨[_, _, _, _, _, _, _, _, _, _, _, _], rfl, (by show 12 ≤ 100000; decide), ?_⟩) | (refine ⟨[_, _, _, _, _, _, _, _, _, _, _, _, _], rfl, (by show 13 ≤ 100000; decide), ?_⟩) | (refine ⟨[_, _, _, _, _, _, _, _, _, _, _, _, _, _], rfl, (by show 14 ≤ 100000; decide), ?_⟩) | (refine ⟨[_, _, _, _, _, _, _, _, _, _, _, _, _, _, _], rfl, (by show 15 ≤ 100000; decide), ?_⟩))
      refine sd_fr hk hfr.1 hf (by rw [hfr.2]; rfl) ?_
      walk_at "go"
      refine br_f rfl ?_
      refine evt_test (ev_op (ev_call ?_))
      repeat (first | with_reducible refine ev_lstMulD ?_ | with_reducible refine ev_lstD ?_ | with_reducible refine ev_dnewD ?_ | walk_at "dl" | (refine ⟨[_, _, _, _, _, _], rfl, (by show 6 ≤ 100000; decide), ?_⟩) | (refine ⟨[_, _, _, _, _, _, _], rfl, (by show 7 ≤ 100000; decide), ?_⟩) | (refine ⟨[_, _, _, _, _, _, _, _], rfl, (by show 8 ≤ 100000; decide), ?_⟩) | (refine ⟨[_, _, _, _, _, _, _, _, _], rfl, (by show 9 ≤ 100000; decide), ?_⟩) | (refine ⟨[_, _, _, _, _, _, _, _, _, _], rfl, (by show 10 ≤ 100000; decide), ?_⟩) | (refine ⟨[_, _, _, _, _, _, _, _, _, _, _], rfl, (by show 11 ≤ 100000; decide), ?_⟩) | (refine ⟨[_, _, _, _, _, _, _, _, _, _, _, _], rfl, (by show 12 ≤ 100000; decide), ?_⟩) | (refine ⟨[_, _, _, _, _, _, _, _, _, _, _, _, _], rfl, (by show 13 ≤ 100000; decide), ?_⟩) | (refine ⟨[_, _, _, _, _, _, _, _, _, _, _, _, _, _], rfl, (by show 14 ≤ 100000; decide), ?_⟩) | (refine ⟨[_, _, _, _, _, _, _, _, _, _, _, _, _, _, _], rfl, (by show 15 ≤ 100000; decide), ?_⟩))
      refine sd_fr hk hf hfr.1 (by rw [hfr.2, Bool.and_false]) ?_
      walk_at "go"
      exact br_f rfl (w_next ⟨rfl, _, _, _, _, _, _, _, rfl⟩)
    rintro r' m' ⟨rfl, y1, y3, y4, y5, y6, y7, y8, rfl⟩
    refine w_seq (w_forL2 (xs := [(.int 1, .int 0), (.int 1, .int (-1)), (.bool true, .int 2), (.int 1, .bool true), (.none, .int 1), (.int 1, .str "1"), (.tuple [.int 1], .int 1), (.int 1, .none)]) ?_ (fun i r3 m3 => m3 = m' ∧ ∃ y1 y3 y4 y5 y6 y7 y8, r3 = [.v (.ref p), y1, .d d, y3, y4, y5, y6, y7, y8]) ⟨rfl, _, _, _, _, _, _, _, rfl⟩ ?_ ?_)
    · repeat (first | with_reducible refine ev_lstMulD ?_ | with_reducible refine ev_lstD ?_ | with_reducible refine ev_dnewD ?_ | walk_at "dl" | (refine ⟨[_, _, _, _, _, _], rfl, (by show 6 ≤ 100000; decide), ?_⟩) | (refine ⟨[_, _, _, _, _, _, _], rfl, (by show 7 ≤ 100000; decide), ?_⟩) | (refine ⟨[_, _, _, _, _, _, _, _], rfl, (by show 8 ≤ 100000; decide), ?_⟩) | (refine ⟨[_, _, _, _, _, _, _, _, _], rfl, (by show 9 ≤ 100000; decide), ?_⟩) | (refine ⟨[_, _, _, _, _, _, _, _, _, _], rfl, (by show 10 ≤ 100000; decide), ?_⟩) | (refine ⟨[_, _, _, _, _, _, _, _, _, _, _], rfl, (by show 11 ≤ 100000; decide), ?_⟩) | (refine ⟨[_, _, _, _, _, _, _, _, _, _, _, _], rfl, (by show 12 ≤ 100000; decide), ?_⟩) | (refine ⟨[_, _, _, _, _, _, _, _, _, _, _, _, _], rfl, (by show 13 ≤ 100000; decide), ?_⟩) | (refine ⟨[_, _, _, _, _, _, _, _, _, _, _, _, _, _], rfl, (by show 14 ≤ 100000; decide), ?_⟩) | (refine ⟨[_, _, _, _, _, _, _, _, _, _, _, _, _, _, _], rfl, (by show 15 ≤ 100000; decide), ?_⟩))
      exact ⟨rfl, rfl⟩
    · rintro i xy r3 m3 hxy ⟨rfl, y1, y3, y4, y5, y6, y7, y8, rfl⟩
      have hb : okLow xy.1 xy.2 = false := by
        have := List.mem_of_getElem? hxy
        revert this
        revert xy
        intro xy _ hm
        simp only [List.mem_cons, List.not_mem_nil, or_false] at hm
        rcases hm with rfl | rfl | rfl | rfl | rfl | rfl | rfl | rfl <;> rfl
      refine w_if (evt_test (ev_op (ev_call (eva_cons (ev_cI (eva_cons (ev_cI (eva_cons (ev_var rfl (fun h => nomatch h) (eva_cons (ev_var rfl (fun h => nomatch h) (eva_cons (ev_cN (eva_nil (sd_low hb ?_)))))))))))))))
      walk_at "go"
      exact br_f rfl (w_next ⟨rfl, _, _, _, _, _, _, _, rfl⟩)
    rintro r3 m3 ⟨rfl, y1, y3, y4, y5, y6, y7, y8, rfl⟩
    repeat (first | with_reducible refine ev_lstMulD ?_ | with_reducible refine ev_lstD ?_ | with_reducible refine ev_dnewD ?_ | walk_at "dl" | (refine ⟨[_, _, _, _, _, _], rfl, (by show 6 ≤ 100000; decide), ?_⟩) | (refine ⟨[_, _, _, _, _, _, _], rfl, (by show 7 ≤ 100000; decide), ?_⟩) | (refine ⟨[_, _, _, _, _, _, _, _], rfl, (by show 8 ≤ 100000; decide), ?_⟩) | (refine ⟨[_, _, _, _, _, _, _, _, _], rfl, (by show 9 ≤ 100000; decide), ?_⟩) | (refine ⟨[_, _, _, _, _, _, _, _, _, _], rfl, (by show 10 ≤ 100000; decide), ?_⟩) | (refine ⟨[_, _, _, _, _, _, _, _, _, _, _], rfl, (by show 11 ≤ 100000; decide), ?_⟩) | (refine ⟨[_, _, _, _, _, _, _, _, _, _, _, _], rfl, (by show 12 ≤ 100000; decide), ?_⟩) | (refine ⟨[_, _, _, _, _, _, _, _, _, _, _, _, _], rfl, (by show 13 ≤ 100000; decide), ?_⟩) | (refine ⟨[_, _, _, _, _, _, _, _, _, _, _, _, _, _], rfl, (by show 14 ≤ 100000; decide), ?_⟩) | (refine ⟨[_, _, _, _, _, _, _, _, _, _, _, _, _, _, _], rfl, (by show 15 ≤ 100000; decide), ?_⟩))
    refine (w_forL2 (xs := [(.int 0, .int 1), (.int 6, .int 1), (.int 3, .int 4), (.int 4, .int 4), (.int 5, .int 4), (.int 5, .int 5), (.int 2, .int 3), (.int 1, .int 2), (.int 5, .int 0), (.bool true, .int 1), (.int 3, .bool true), (.none, .int 1), (.int 3, .none), (.list [.int 1], .int 1), (.int 3, .dict [])]) ?_ (fun i r4 m4 => m4 = m3 ∧ ∃ y1 y3 y4 y5 y6 y7 y8, r4 = [.v (.ref p), y1, .d d, y3, y4, y5, y6, y7, y8]) ⟨rfl, _, _, _, _, _, _, _, rfl⟩ ?_ ?_)
    · repeat (first | with_reducible refine ev_lstMulD ?_ | with_reducible refine ev_lstD ?_ | with_reducible refine ev_dnewD ?_ | walk_at "dl" | (refine ⟨[_, _, _, _, _, _], rfl, (by show 6 ≤ 100000; decide), ?_⟩) | (refine ⟨[_, _, _, _, _, _, _], rfl, (by show 7 ≤ 100000; decide), ?_⟩) | (refine ⟨[_, _, _, _, _, _, _, _], rfl, (by show 8 ≤ 100000; decide), ?_⟩) | (refine ⟨[_, _, _, _, _, _, _, _, _], rfl, (by show 9 ≤ 100000; decide), ?_⟩) | (refine ⟨[_, _, _, _, _, _, _, _, _, _], rfl, (by show 10 ≤ 100000; decide), ?_⟩) | (refine ⟨[_, _, _, _, _, _, _, _, _, _, _], rfl, (by show 11 ≤ 100000; decide), ?_⟩) | (refine ⟨[_, _, _, _, _, _, _, _, _, _, _, _], rfl, (by show 12 ≤ 100000; decide), ?_⟩) | (refine ⟨[_, _, _, _, _, _, _, _, _, _, _, _, _], rfl, (by show 13 ≤ 100000; decide), ?_⟩) | (refine ⟨[_, _, _, _, _, _, _, _, _, _, _, _, _, _], rfl, (by show 14 ≤ 100000; decide), ?_⟩) | (refine ⟨[_, _, _, _, _, _, _, _, _, _, _, _, _, _, _], rfl, (by show 15 ≤ 100000; decide), ?_⟩))
      refine o2_addL (by show 12 + 3 ≤ 100000; decide) ?_
      exact ⟨rfl, rfl⟩
    · rintro i xy r4 m4 hxy ⟨rfl, y1, y3, y4, y5, y6, y7, y8, rfl⟩
      have hb : okPk xy.1 xy.2 = false := by
        have hm := List.mem_of_getElem? hxy
        clear hxy
        simp only [List.mem_cons, List.not_mem_nil, or_false] at hm
        rcases hm with rfl | rfl | rfl | rfl | rfl | rfl | rfl | rfl | rfl | rfl | rfl | rfl | rfl | rfl | rfl <;> rfl
      refine w_if (evt_test (ev_op (ev_mapR1 (n := 5) ?_ (by decide) (fun _ => .str "number") (fun k m2 hk hx => ?_) ?_)))
      · walk_at "go"
        exact ⟨rfl, rfl⟩
      · exact ev_call (eva_cons (ev_cI (eva_cons (ev_var rfl (fun h => nomatch h) (eva_cons (ev_var rfl (fun h => nomatch h) (eva_cons (ev_var rfl (fun h => nomatch h) (eva_cons (ev_cI (eva_nil (sd_pk hk hb ⟨rfl, rfl⟩))))))))))))
      refine ev_strs (n := 5) (by decide) (o2_neMap (List.length_range) (reps_shaped ⟨5, by decide⟩ ⟨2, by decide⟩).1 ?_)
      walk_at "go"
      exact br_f rfl (w_next ⟨rfl, _, _, _, _, _, _, _, rfl⟩)
    rintro r4 m4 ⟨rfl, y1, y3, y4, y5, y6, y7, y8, rfl⟩
    repeat (first | with_reducible refine ev_lstMulD ?_ | with_reducible refine ev_lstD ?_ | with_reducible refine ev_dnewD ?_ | walk_at "dl" | (refine ⟨[_, _, _, _, _, _], rfl, (by show 6 ≤ 100000; decide), ?_⟩) | (refine ⟨[_, _, _, _, _, _, _], rfl, (by show 7 ≤ 100000; decide), ?_⟩) | (refine ⟨[_, _, _, _, _, _, _, _], rfl, (by show 8 ≤ 100000; decide), ?_⟩) | (refine ⟨[_, _, _, _, _, _, _, _, _], rfl, (by show 9 ≤ 100000; decide), ?_⟩) | (refine ⟨[_, _, _, _, _, _, _, _, _, _], rfl, (by show 10 ≤ 100000; decide), ?_⟩) | (refine ⟨[_, _, _, _, _, _, _, _, _, _, _], rfl, (by show 11 ≤ 100000; decide), ?_⟩) | (refine ⟨[_, _, _, _, _, _, _, _, _, _, _, _], rfl, (by show 12 ≤ 100000; decide), ?_⟩) | (refine ⟨[_, _, _, _, _, _, _, _, _, _, _, _, _], rfl, (by show 13 ≤ 100000; decide), ?_⟩) | (refine ⟨[_, _, _, _, _, _, _, _, _, _, _, _, _, _], rfl, (by show 14 ≤ 100000; decide), ?_⟩) | (refine ⟨[_, _, _, _, _, _, _, _, _, _, _, _, _, _, _], rfl, (by show 15 ≤ 100000; decide), ?_⟩))
    refine o2_pow ⟨by decide, by decide, by decide⟩ ?_
    repeat (first | with_reducible refine ev_lstMulD ?_ | with_reducible refine ev_lstD ?_ | with_reducible refine ev_dnewD ?_ | walk_at "dl" | (refine ⟨[_, _, _, _, _, _], rfl, (by show 6 ≤ 100000; decide), ?_⟩) | (refine ⟨[_, _, _, _, _, _, _], rfl, (by show 7 ≤ 100000; decide), ?_⟩) | (refine ⟨[_, _, _, _, _, _, _, _], rfl, (by show 8 ≤ 100000; decide), ?_⟩) | (refine ⟨[_, _, _, _, _, _, _, _, _], rfl, (by show 9 ≤ 100000; decide), ?_⟩) | (refine ⟨[_, _, _, _, _, _, _, _, _, _], rfl, (by show 10 ≤ 100000; decide), ?_⟩) | (refine ⟨[_, _, _, _, _, _, _, _, _, _, _], rfl, (by show 11 ≤ 100000; decide), ?_⟩) | (refine ⟨[_, _, _, _, _, _, _, _, _, _, _, _], rfl, (by show 12 ≤ 100000; decide), ?_⟩) | (refine ⟨[_, _, _, _, _, _, _, _, _, _, _, _, _], rfl, (by show 13 ≤ 100000; decide), ?_⟩) | (refine ⟨[_, _, _, _, _, _, _, _, _, _, _, _, _, _], rfl, (by show 14 ≤ 100000; decide), ?_⟩) | (refine ⟨[_, _, _, _, _, _, _, _, _, _, _, _, _, _, _], rfl, (by show 15 ≤ 100000; decide), ?_⟩))
    refine ⟨hp, by decide, bt_lit (n := 7) (by decide) (by decide), fun z h0 h9 => ?_⟩
    refine o2_ixLx h0 h9 fun d2 hd => ?_
    have hnum : okNum d2 0 8 = false := by
      revert d2
      decide +kernel
    clear hd
    refine w_ret (ev_op (ev_call ?_))
    walk_at "go"
    refine sd_pkn rfl hnum ?_
    walk_at "go"
    exact q
abbrev s_law : Stmt := topS 99
theorem sc_law : FnScope ["_law_script", "_law_k", "_law_box_here", "_law_shares", "_law_bad", "_law_none", "_law_kind"] ["_law_script"] (defScope s_law) := ⟨rfl, rfl, rfl, by decide +kernel, rfl, by decide +kernel, by decide +kernel⟩
theorem ok_law {a : Addr} {fd : FuncData} (F : Fun K "law" "law" s_law a fd) (z_range : mg "range" = none) (z_max : mg "max" = none) (z_min : mg "min" = none) (z_len : mg "len" = none) (k__law_box : Cl P w K mg base 2 "_law_box" f_box) (k__law_drawn_shares : Cl P w K mg base 2 "_law_drawn_shares" f_drawnShares) (k__law_no_shares : Cl P w K mg base 2 "_law_no_shares" f_noShares) (k__law_said : Cl P w K mg base 16 "_law_said" f_said05) (k__law_needs_right : Cl P w K mg base 17 "_law_needs_right" f_shRight) (k__law_shares_right : Cl P w K mg base 17 "_law_shares_right" f_shRight) (k__law_numbers_right : Cl P w K mg base 17 "_law_numbers_right" f_nbRight) :
    FnG P w K mg base 18 a fd ["_law_script"] (spD K f_law) := by
  refine fnG_ok F sc_law (fun args m R h => ?_) (fun cdv A outer s H E hg hr => ⟨_, (pss_cons (ps_for PassesOwn.never rfl (pi_range1 (by rfl) z_range (pa_cons (pe_callB (cMax rfl) (by rfl) z_max (by decide +kernel) (pa_cons pe_int (pa_cons (pe_callB (cMin rfl) (by rfl) z_min (by decide +kernel) (pa_cons (pe_callB (kLen K) (by rfl) z_len (by decide +kernel) (pa_cons (pv 0) pa_nil)) (pa_cons pe_int pa_nil))) pa_nil))) pa_nil)) (pg_name (i := 1) sc_law.nd rfl (by first | exact Or.inl rfl | exact Or.inr rfl)) (pss_cons (ps_set (i := 2) sc_law.nd rfl (by first | exact Or.inl rfl | exact Or.inr rfl) (pe_cl k__law_box hr (by decide) (by rfl) (pa_cons (pv 0) (pa_cons (pv 1) pa_nil))))
      (pss_cons (ps_set (i := 3) sc_law.nd rfl (by first | exact Or.inl rfl | exact Or.inr rfl) (pe_cl k__law_drawn_shares hr (by decide) (by rfl) (pa_cons (pv 2) (pa_cons pe_int (pa_cons pe_int pa_nil)))))
      (pss_cons (ps_set (i := 4) sc_law.nd rfl (by first | exact Or.inl rfl | exact Or.inr rfl) (pe_cl k__law_no_shares hr (by decide) (by rfl) (pa_cons (pv 2) pa_nil)))
      (pss_cons (ps_if (pt_cmpR (kNe K hr) (pe_lc (own := [("_law_kind", 6)]) rfl sc_law.nd (pi_range1 (by rfl) z_range (pa_cons pe_int pa_nil)) (blkOk_by (own := [("_law_kind", 6)]) (N := ["_law_script", "_law_k", "_law_box_here", "_law_shares", "_law_bad", "_law_none", "_law_kind"]) (sc := defScope s_law) (by decide +kernel)) (fun _ _ _ _ _ => (pg_name (i := 6) sc_law.nd rfl (by first | exact Or.inl rfl | exact Or.inr rfl))) (fun _ _ _ _ _ => pts_nil) (fun _ _ _ _ _ => (pe_cl k__law_said hr (by decide) (by rfl) (pa_cons pe_int (pa_cons (pv 6) (pa_cons (pv 4) (pa_cons pe_non (pa_cons pe_non pa_nil)))))))) (pe_op (kMul K) (pe_lst (pa_cons pe_str pa_nil)) pe_int) (nomark _)) (pss_one (ps_ret pe_bl)) pss_nil)
      (pss_cons (ps_for PassesOwn.never rfl (kiL K (pe_lst (pa_cons pe_int (pa_cons (pe_tup (pa_cons pe_int pa_nil)) (pa_cons (pe_tup pa_nil) pa_nil))))) (pg_name (i := 5) sc_law.nd rfl (by first | exact Or.inl rfl | exact Or.inr rfl)) (pss_one (ps_if (pt_cmpR (kNe K hr) (pe_lc (own := [("_law_kind", 6)]) rfl sc_law.nd (pi_range1 (by rfl) z_range (pa_cons pe_int pa_nil)) (blkOk_by (own := [("_law_kind", 6)]) (N := ["_law_script", "_law_k", "_law_box_here", "_law_shares", "_law_bad", "_law_none", "_law_kind"]) (sc := defScope s_law) (by decide +kernel)) (fun _ _ _ _ _ => (pg_name (i := 6) sc_law.nd rfl (by first | exact Or.inl rfl | exact Or.inr rfl))) (fun _ _ _ _ _ => pts_nil) (fun _ _ _ _ _ => (pe_cl k__law_said hr (by decide) (by rfl) (pa_cons pe_int (pa_cons (pv 6) (pa_cons (pv 4) (pa_cons (pv 5) (pa_cons pe_int pa_nil)))))))) (pe_op (kMul K) (pe_lst (pa_cons pe_str pa_nil)) pe_int) (nomark _)) (pss_one (ps_ret pe_bl)) pss_nil)))
      (pss_cons (ps_if (PW.pt (pw_or (pt_not (pt_val (pe_cl k__law_shares_right hr (by decide) (by rfl) (pa_cons (pv 2) (pa_cons (pv 3) pa_nil))))) (pw_or1 (pt_not (pt_val (pe_cl k__law_needs_right hr (by decide) (by rfl) (pa_cons (pv 2) (pa_cons (pv 3) pa_nil)))))))) (pss_one (ps_ret pe_bl)) pss_nil)
      (pss_one (ps_if (pt_not (pt_val (pe_cl k__law_numbers_right hr (by decide) (by rfl) (pa_cons (pv 2) pa_nil)))) (pss_one (ps_ret pe_bl)) pss_nil)))))))))
      (pss_one (ps_ret pe_bl))), fun args m R h => ?_⟩)
  ·
    obtain ⟨_, rfl, _⟩ := h; rfl
  ·
    obtain ⟨ns, rfl, q⟩ := h
    walk_at "go"
    obtain ⟨n, hn, hn6⟩ : ∃ n : Nat, max (1 : Int) (min (ns.length : Int) 3) = (n : Int) ∧ n ≤ 3 := ⟨(max (1 : Int) (min (ns.length : Int) 3)).toNat, by omega, by omega⟩
    
    refine w_forR1 (n := n) ?_ (by omega) (fun i r' m' => ∃ y1 y2 y3 y4 y5 y6, r' = [.scr ns, y1, y2, y3, y4, y5, y6]) ⟨_, _, _, _, _, _, rfl⟩ ?_ ?_
    · walk_at "go"
      exact ⟨by rw [hn], rfl⟩
    · rintro i r' m' hi ⟨y1, y2, y3, y4, y5, y6, rfl⟩
      walk_at "go"
      intro p hp
      have hpb := put_same (m := m') (a := p) (o := .box)
      generalize put m' p .box = M at *
      walk_at "go"
      refine ⟨p, 4, 9, rfl, hpb, by decide, by decide, by decide, by decide, fun ss hs hl => ?_⟩
      walk_at "go"
      refine ⟨hpb, fun bad hbad => ?_⟩
      refine w_seq (w_if (evt_test (ev_op (ev_mapR1 (n := 16) ?_ (by decide) (fun _ => .str "shares") (fun k m2 hk hx => ?_) ?_))))
      · walk_at "go"
        exact ⟨rfl, rfl⟩
      · exact ev_call (eva_cons (ev_cI (eva_cons (ev_var rfl (fun h => nomatch h) (eva_cons (ev_var rfl (fun h => nomatch h) (eva_cons (ev_cN (eva_cons (ev_cN (eva_nil (sd_bad (by omega) hbad ⟨rfl, rfl⟩))))))))))))
      refine ev_strs (n := 16) (by decide) (o2_neMap List.length_range (reps_shaped ⟨16, by decide⟩ ⟨0, by decide⟩).1 ?_)
      walk_at "go"
      refine br_f rfl (w_next ?_)
      refine w_seq (w_forL (ds := [.int 0, .tuple [.int 0], .tuple []]) ?_ (fun i r3 m3 => m3 = M ∧ ∃ y1 y5 y6, r3 = [.scr ns, y1, .v (.ref p), .d (tupI ss), .d bad, y5, y6]) ⟨rfl, _, _, _, rfl⟩ ?_ ?_)
      · repeat (first | with_reducible refine ev_lstMulD ?_ | with_reducible refine ev_lstD ?_ | with_reducible refine ev_dnewD ?_ | walk_at "dl" | (refine ⟨[_, _, _, _, _, _], rfl, (by show 6 ≤ 100000; decide), ?_⟩) | (refine ⟨[_, _, _, _, _, _, _], rfl, (by show 7 ≤ 100000; decide), ?_⟩) | (refine ⟨[_, _, _, _, _, _, _, _], rfl, (by show 8 ≤ 100000; decide), ?_⟩) | (refine ⟨[_, _, _, _, _, _, _, _, _], rfl, (by show 9 ≤ 100000; decide), ?_⟩) | (refine ⟨[_, _, _, _, _, _, _, _, _, _], rfl, (by show 10 ≤ 100000; decide), ?_⟩) | (refine ⟨[_, _, _, _, _, _, _, _, _, _, _], rfl, (by show 11 ≤ 100000; decide), ?_⟩) | (refine ⟨[_, _, _, _, _, _, _, _, _, _, _, _], rfl, (by show 12 ≤ 100000; decide), ?_⟩) | (refine ⟨[_, _, _, _, _, _, _, _, _, _, _, _, _], rfl, (by show 13 ≤ 100000; decide), ?_⟩) | (refine ⟨[_, _, _, _, _, _, _, _, _, _, _, _, _, _], rfl, (by show 14 ≤ 100000; decide), ?_⟩) | (refine ⟨[_, _, _, _, _, _, _, _, _, _, _, _, _, _, _], rfl, (by show 15 ≤ 100000; decide), ?_⟩))
        exact ⟨rfl, rfl⟩
      · rintro i od r3 m3 hd ⟨rfl, y1, y5, y6, rfl⟩
        refine w_if (evt_test (ev_op (ev_mapR1 (n := 16) ?_ (by decide) (fun _ => .str "shares") (fun k m2 hk hx => ?_) ?_)))
        · walk_at "go"
          exact ⟨rfl, rfl⟩
        · exact ev_call (eva_cons (ev_cI (eva_cons (ev_var rfl (fun h => nomatch h) (eva_cons (ev_var rfl (fun h => nomatch h) (eva_cons (ev_var rfl (fun h => nomatch h) (eva_cons (ev_cI (eva_nil (sd_bad (by omega) hbad ⟨rfl, rfl⟩))))))))))))
        refine ev_strs (n := 16) (by decide) (o2_neMap List.length_range (reps_shaped ⟨16, by decide⟩ ⟨0, by decide⟩).1 ?_)
        walk_at "go"
        exact br_f rfl (w_next ⟨rfl, _, _, _, rfl⟩)
      rintro r3 m3 ⟨rfl, y1, y5, y6, rfl⟩
      walk_at "go"
      refine ⟨hpb, hs, ?_⟩
      walk_at "go"
      refine br_f rfl ?_
      walk_at "go"
      refine ⟨hpb, hs, ?_⟩
      walk_at "go"
      refine br_f rfl (w_next ?_)
      walk_at "go"
      refine ⟨hpb, ?_⟩
      walk_at "go"
      exact br_f rfl (w_next ⟨_, _, _, _, _, _, rfl⟩)
    rintro r' m' _
    walk_at "go"
    exact q _
end
theorem law_ends : ∀ ns : List Int, ns.length ≤ 63 → (∀ z ∈ ns, Builtin.Int.intBits z ≤ 1048576) → f_law [.scr ns] (fun _ => none) fun y _ => y = .d (.bool true) := fun ns _ _ => ⟨ns, rfl, fun _ => rfl⟩
section
variable {P : Program} {w : World} {K : PySem.W.Frag} {mg : Str → Option Value}
theorem all_mk {h : Heap} {fa : Addr} (X : K.In h) (G : h.Ns mainGlobals mg) (hfa : mg "law" = some (.ref fa))
    {od1 an1 : Option Addr} {sl1 : Array (Option Value)} {f1 : Addr} {oc1 kV1 dc1 pm1 cd1 ct1 : Value}
    (a1 : PySem.W.nsIn K mainGlobals "is_whole" = some (some (.ref f1))) (l1 : K.lookup f1 = some ⟨oc1, od1, .func (PySem.W.fnOf "is_whole" "is_whole" (defArgs s_is_whole) (defBody s_is_whole) (defScope s_is_whole) .none kV1 dc1 pm1 an1 cd1 ct1), sl1⟩) (c1 : PySem.W.codeIn K cd1 "is_whole" = true) (k1 : PySem.W.keepIn K (.ref f1) = true)
    {od2 an2 : Option Addr} {sl2 : Array (Option Value)} {f2 : Addr} {oc2 kV2 dc2 pm2 cd2 ct2 : Value}
    (a2 : PySem.W.nsIn K mainGlobals "greatest_common" = some (some (.ref f2))) (l2 : K.lookup f2 = some ⟨oc2, od2, .func (PySem.W.fnOf "greatest_common" "greatest_common" (defArgs s_greatest_common) (defBody s_greatest_common) (defScope s_greatest_common) .none kV2 dc2 pm2 an2 cd2 ct2), sl2⟩) (c2 : PySem.W.codeIn K cd2 "greatest_common" = true) (k2 : PySem.W.keepIn K (.ref f2) = true)
    {od3 an3 : Option Addr} {sl3 : Array (Option Value)} {f3 : Addr} {oc3 kV3 dc3 pm3 cd3 ct3 : Value}
    (a3 : PySem.W.nsIn K mainGlobals "raised" = some (some (.ref f3))) (l3 : K.lookup f3 = some ⟨oc3, od3, .func (PySem.W.fnOf "raised" "raised" (defArgs s_raised) (defBody s_raised) (defScope s_raised) .none kV3 dc3 pm3 an3 cd3 ct3), sl3⟩) (c3 : PySem.W.codeIn K cd3 "raised" = true) (k3 : PySem.W.keepIn K (.ref f3) = true)
    {od4 an4 : Option Addr} {sl4 : Array (Option Value)} {f4 : Addr} {oc4 kV4 dc4 pm4 cd4 ct4 : Value}
    (a4 : PySem.W.nsIn K mainGlobals "below" = some (some (.ref f4))) (l4 : K.lookup f4 = some ⟨oc4, od4, .func (PySem.W.fnOf "below" "below" (defArgs s_below) (defBody s_below) (defScope s_below) .none kV4 dc4 pm4 an4 cd4 ct4), sl4⟩) (c4 : PySem.W.codeIn K cd4 "below" = true) (k4 : PySem.W.keepIn K (.ref f4) = true)
    {od5 an5 : Option Addr} {sl5 : Array (Option Value)} {f5 : Addr} {oc5 kV5 dc5 pm5 cd5 ct5 : Value}
    (a5 : PySem.W.nsIn K mainGlobals "sum_part" = some (some (.ref f5))) (l5 : K.lookup f5 = some ⟨oc5, od5, .func (PySem.W.fnOf "sum_part" "sum_part" (defArgs s_sum_part) (defBody s_sum_part) (defScope s_sum_part) .none kV5 dc5 pm5 an5 cd5 ct5), sl5⟩) (c5 : PySem.W.codeIn K cd5 "sum_part" = true) (k5 : PySem.W.keepIn K (.ref f5) = true)
    {od6 an6 : Option Addr} {sl6 : Array (Option Value)} {f6 : Addr} {oc6 kV6 dc6 pm6 cd6 ct6 : Value}
    (a6 : PySem.W.nsIn K mainGlobals "all_some" = some (some (.ref f6))) (l6 : K.lookup f6 = some ⟨oc6, od6, .func (PySem.W.fnOf "all_some" "all_some" (defArgs s_all_some) (defBody s_all_some) (defScope s_all_some) .none kV6 dc6 pm6 an6 cd6 ct6), sl6⟩) (c6 : PySem.W.codeIn K cd6 "all_some" = true) (k6 : PySem.W.keepIn K (.ref f6) = true)
    {od7 an7 : Option Addr} {sl7 : Array (Option Value)} {f7 : Addr} {oc7 kV7 dc7 pm7 cd7 ct7 : Value}
    (a7 : PySem.W.nsIn K mainGlobals "need_few" = some (some (.ref f7))) (l7 : K.lookup f7 = some ⟨oc7, od7, .func (PySem.W.fnOf "need_few" "need_few" (defArgs s_need_few) (defBody s_need_few) (defScope s_need_few) .none kV7 dc7 pm7 an7 cd7 ct7), sl7⟩) (c7 : PySem.W.codeIn K cd7 "need_few" = true) (k7 : PySem.W.keepIn K (.ref f7) = true)
    {od8 an8 : Option Addr} {sl8 : Array (Option Value)} {f8 : Addr} {oc8 kV8 dc8 pm8 cd8 ct8 : Value}
    (a8 : PySem.W.nsIn K mainGlobals "one_less" = some (some (.ref f8))) (l8 : K.lookup f8 = some ⟨oc8, od8, .func (PySem.W.fnOf "one_less" "one_less" (defArgs s_one_less) (defBody s_one_less) (defScope s_one_less) .none kV8 dc8 pm8 an8 cd8 ct8), sl8⟩) (c8 : PySem.W.codeIn K cd8 "one_less" = true) (k8 : PySem.W.keepIn K (.ref f8) = true)
    {od9 an9 : Option Addr} {sl9 : Array (Option Value)} {f9 : Addr} {oc9 kV9 dc9 pm9 cd9 ct9 : Value}
    (a9 : PySem.W.nsIn K mainGlobals "every" = some (some (.ref f9))) (l9 : K.lookup f9 = some ⟨oc9, od9, .func (PySem.W.fnOf "every" "every" (defArgs s_every) (defBody s_every) (defScope s_every) .none kV9 dc9 pm9 an9 cd9 ct9), sl9⟩) (c9 : PySem.W.codeIn K cd9 "every" = true) (k9 : PySem.W.keepIn K (.ref f9) = true)
    {od10 an10 : Option Addr} {sl10 : Array (Option Value)} {f10 : Addr} {oc10 kV10 dc10 pm10 cd10 ct10 : Value}
    (a10 : PySem.W.nsIn K mainGlobals "choices" = some (some (.ref f10))) (l10 : K.lookup f10 = some ⟨oc10, od10, .func (PySem.W.fnOf "choices" "choices" (defArgs s_choices) (defBody s_choices) (defScope s_choices) .none kV10 dc10 pm10 an10 cd10 ct10), sl10⟩) (c10 : PySem.W.codeIn K cd10 "choices" = true) (k10 : PySem.W.keepIn K (.ref f10) = true)
    {od11 an11 : Option Addr} {sl11 : Array (Option Value)} {f11 : Addr} {oc11 kV11 dc11 pm11 cd11 ct11 : Value}
    (a11 : PySem.W.nsIn K mainGlobals "_law_cell" = some (some (.ref f11))) (l11 : K.lookup f11 = some ⟨oc11, od11, .func (PySem.W.fnOf "_law_cell" "_law_cell" (defArgs s__law_cell) (defBody s__law_cell) (defScope s__law_cell) .none kV11 dc11 pm11 an11 cd11 ct11), sl11⟩) (c11 : PySem.W.codeIn K cd11 "_law_cell" = true) (k11 : PySem.W.keepIn K (.ref f11) = true)
    {od12 an12 : Option Addr} {sl12 : Array (Option Value)} {f12 : Addr} {oc12 kV12 dc12 pm12 cd12 ct12 : Value}
    (a12 : PySem.W.nsIn K mainGlobals "_law_mix" = some (some (.ref f12))) (l12 : K.lookup f12 = some ⟨oc12, od12, .func (PySem.W.fnOf "_law_mix" "_law_mix" (defArgs s__law_mix) (defBody s__law_mix) (defScope s__law_mix) .none kV12 dc12 pm12 an12 cd12 ct12), sl12⟩) (c12 : PySem.W.codeIn K cd12 "_law_mix" = true) (k12 : PySem.W.keepIn K (.ref f12) = true)
    {od13 an13 : Option Addr} {sl13 : Array (Option Value)} {f13 : Addr} {oc13 kV13 dc13 pm13 cd13 ct13 : Value}
    (a13 : PySem.W.nsIn K mainGlobals "_law_take" = some (some (.ref f13))) (l13 : K.lookup f13 = some ⟨oc13, od13, .func (PySem.W.fnOf "_law_take" "_law_take" (defArgs s__law_take) (defBody s__law_take) (defScope s__law_take) .none kV13 dc13 pm13 an13 cd13 ct13), sl13⟩) (c13 : PySem.W.codeIn K cd13 "_law_take" = true) (k13 : PySem.W.keepIn K (.ref f13) = true)
    {od14 an14 : Option Addr} {sl14 : Array (Option Value)} {f14 : Addr} {oc14 kV14 dc14 pm14 cd14 ct14 : Value}
    (a14 : PySem.W.nsIn K mainGlobals "_law_marks" = some (some (.ref f14))) (l14 : K.lookup f14 = some ⟨oc14, od14, .func (PySem.W.fnOf "_law_marks" "_law_marks" (defArgs s__law_marks) (defBody s__law_marks) (defScope s__law_marks) .none kV14 dc14 pm14 an14 cd14 ct14), sl14⟩) (c14 : PySem.W.codeIn K cd14 "_law_marks" = true) (k14 : PySem.W.keepIn K (.ref f14) = true)
    {od15 an15 : Option Addr} {sl15 : Array (Option Value)} {f15 : Addr} {oc15 kV15 dc15 pm15 cd15 ct15 : Value}
    (a15 : PySem.W.nsIn K mainGlobals "made" = some (some (.ref f15))) (l15 : K.lookup f15 = some ⟨oc15, od15, .func (PySem.W.fnOf "made" "made" (defArgs s_made) (defBody s_made) (defScope s_made) .none kV15 dc15 pm15 an15 cd15 ct15), sl15⟩) (c15 : PySem.W.codeIn K cd15 "made" = true) (k15 : PySem.W.keepIn K (.ref f15) = true)
    {od16 an16 : Option Addr} {sl16 : Array (Option Value)} {f16 : Addr} {oc16 kV16 dc16 pm16 cd16 ct16 : Value}
    (a16 : PySem.W.nsIn K mainGlobals "need_number" = some (some (.ref f16))) (l16 : K.lookup f16 = some ⟨oc16, od16, .func (PySem.W.fnOf "need_number" "need_number" (defArgs s_need_number) (defBody s_need_number) (defScope s_need_number) .none kV16 dc16 pm16 an16 cd16 ct16), sl16⟩) (c16 : PySem.W.codeIn K cd16 "need_number" = true) (k16 : PySem.W.keepIn K (.ref f16) = true)
    {od17 an17 : Option Addr} {sl17 : Array (Option Value)} {f17 : Addr} {oc17 kV17 dc17 pm17 cd17 ct17 : Value}
    (a17 : PySem.W.nsIn K mainGlobals "is_shares" = some (some (.ref f17))) (l17 : K.lookup f17 = some ⟨oc17, od17, .func (PySem.W.fnOf "is_shares" "is_shares" (defArgs s_is_shares) (defBody s_is_shares) (defScope s_is_shares) .none kV17 dc17 pm17 an17 cd17 ct17), sl17⟩) (c17 : PySem.W.codeIn K cd17 "is_shares" = true) (k17 : PySem.W.keepIn K (.ref f17) = true)
    {od18 an18 : Option Addr} {sl18 : Array (Option Value)} {f18 : Addr} {oc18 kV18 dc18 pm18 cd18 ct18 : Value}
    (a18 : PySem.W.nsIn K mainGlobals "are_kinds" = some (some (.ref f18))) (l18 : K.lookup f18 = some ⟨oc18, od18, .func (PySem.W.fnOf "are_kinds" "are_kinds" (defArgs s_are_kinds) (defBody s_are_kinds) (defScope s_are_kinds) .none kV18 dc18 pm18 an18 cd18 ct18), sl18⟩) (c18 : PySem.W.codeIn K cd18 "are_kinds" = true) (k18 : PySem.W.keepIn K (.ref f18) = true)
    {od19 an19 : Option Addr} {sl19 : Array (Option Value)} {f19 : Addr} {oc19 kV19 dc19 pm19 cd19 ct19 : Value}
    (a19 : PySem.W.nsIn K mainGlobals "right_needs" = some (some (.ref f19))) (l19 : K.lookup f19 = some ⟨oc19, od19, .func (PySem.W.fnOf "right_needs" "right_needs" (defArgs s_right_needs) (defBody s_right_needs) (defScope s_right_needs) .none kV19 dc19 pm19 an19 cd19 ct19), sl19⟩) (c19 : PySem.W.codeIn K cd19 "right_needs" = true) (k19 : PySem.W.keepIn K (.ref f19) = true)
    {od20 an20 : Option Addr} {sl20 : Array (Option Value)} {f20 : Addr} {oc20 kV20 dc20 pm20 cd20 ct20 : Value}
    (a20 : PySem.W.nsIn K mainGlobals "cases_of" = some (some (.ref f20))) (l20 : K.lookup f20 = some ⟨oc20, od20, .func (PySem.W.fnOf "cases_of" "cases_of" (defArgs s_cases_of) (defBody s_cases_of) (defScope s_cases_of) .none kV20 dc20 pm20 an20 cd20 ct20), sl20⟩) (c20 : PySem.W.codeIn K cd20 "cases_of" = true) (k20 : PySem.W.keepIn K (.ref f20) = true)
    {od21 an21 : Option Addr} {sl21 : Array (Option Value)} {f21 : Addr} {oc21 kV21 dc21 pm21 cd21 ct21 : Value}
    (a21 : PySem.W.nsIn K mainGlobals "_law_box" = some (some (.ref f21))) (l21 : K.lookup f21 = some ⟨oc21, od21, .func (PySem.W.fnOf "_law_box" "_law_box" (defArgs s__law_box) (defBody s__law_box) (defScope s__law_box) .none kV21 dc21 pm21 an21 cd21 ct21), sl21⟩) (c21 : PySem.W.codeIn K cd21 "_law_box" = true) (k21 : PySem.W.keepIn K (.ref f21) = true)
    {od22 an22 : Option Addr} {sl22 : Array (Option Value)} {f22 : Addr} {oc22 kV22 dc22 pm22 cd22 ct22 : Value}
    (a22 : PySem.W.nsIn K mainGlobals "_law_drawn_shares" = some (some (.ref f22))) (l22 : K.lookup f22 = some ⟨oc22, od22, .func (PySem.W.fnOf "_law_drawn_shares" "_law_drawn_shares" (defArgs s__law_drawn_shares) (defBody s__law_drawn_shares) (defScope s__law_drawn_shares) .none kV22 dc22 pm22 an22 cd22 ct22), sl22⟩) (c22 : PySem.W.codeIn K cd22 "_law_drawn_shares" = true) (k22 : PySem.W.keepIn K (.ref f22) = true)
    {od23 an23 : Option Addr} {sl23 : Array (Option Value)} {f23 : Addr} {oc23 kV23 dc23 pm23 cd23 ct23 : Value}
    (a23 : PySem.W.nsIn K mainGlobals "_law_no_shares" = some (some (.ref f23))) (l23 : K.lookup f23 = some ⟨oc23, od23, .func (PySem.W.fnOf "_law_no_shares" "_law_no_shares" (defArgs s__law_no_shares) (defBody s__law_no_shares) (defScope s__law_no_shares) .none kV23 dc23 pm23 an23 cd23 ct23), sl23⟩) (c23 : PySem.W.codeIn K cd23 "_law_no_shares" = true) (k23 : PySem.W.keepIn K (.ref f23) = true)
    {od24 an24 : Option Addr} {sl24 : Array (Option Value)} {f24 : Addr} {oc24 kV24 dc24 pm24 cd24 ct24 : Value}
    (a24 : PySem.W.nsIn K mainGlobals "is_fraction" = some (some (.ref f24))) (l24 : K.lookup f24 = some ⟨oc24, od24, .func (PySem.W.fnOf "is_fraction" "is_fraction" (defArgs s_is_fraction) (defBody s_is_fraction) (defScope s_is_fraction) .none kV24 dc24 pm24 an24 cd24 ct24), sl24⟩) (c24 : PySem.W.codeIn K cd24 "is_fraction" = true) (k24 : PySem.W.keepIn K (.ref f24) = true)
    {od25 an25 : Option Addr} {sl25 : Array (Option Value)} {f25 : Addr} {oc25 kV25 dc25 pm25 cd25 ct25 : Value}
    (a25 : PySem.W.nsIn K mainGlobals "lowest" = some (some (.ref f25))) (l25 : K.lookup f25 = some ⟨oc25, od25, .func (PySem.W.fnOf "lowest" "lowest" (defArgs s_lowest) (defBody s_lowest) (defScope s_lowest) .none kV25 dc25 pm25 an25 cd25 ct25), sl25⟩) (c25 : PySem.W.codeIn K cd25 "lowest" = true) (k25 : PySem.W.keepIn K (.ref f25) = true)
    {od26 an26 : Option Addr} {sl26 : Array (Option Value)} {f26 : Addr} {oc26 kV26 dc26 pm26 cd26 ct26 : Value}
    (a26 : PySem.W.nsIn K mainGlobals "sum_of" = some (some (.ref f26))) (l26 : K.lookup f26 = some ⟨oc26, od26, .func (PySem.W.fnOf "sum_of" "sum_of" (defArgs s_sum_of) (defBody s_sum_of) (defScope s_sum_of) .none kV26 dc26 pm26 an26 cd26 ct26), sl26⟩) (c26 : PySem.W.codeIn K cd26 "sum_of" = true) (k26 : PySem.W.keepIn K (.ref f26) = true)
    {od27 an27 : Option Addr} {sl27 : Array (Option Value)} {f27 : Addr} {oc27 kV27 dc27 pm27 cd27 ct27 : Value}
    (a27 : PySem.W.nsIn K mainGlobals "times_of" = some (some (.ref f27))) (l27 : K.lookup f27 = some ⟨oc27, od27, .func (PySem.W.fnOf "times_of" "times_of" (defArgs s_times_of) (defBody s_times_of) (defScope s_times_of) .none kV27 dc27 pm27 an27 cd27 ct27), sl27⟩) (c27 : PySem.W.codeIn K cd27 "times_of" = true) (k27 : PySem.W.keepIn K (.ref f27) = true)
    {od28 an28 : Option Addr} {sl28 : Array (Option Value)} {f28 : Addr} {oc28 kV28 dc28 pm28 cd28 ct28 : Value}
    (a28 : PySem.W.nsIn K mainGlobals "need_shares" = some (some (.ref f28))) (l28 : K.lookup f28 = some ⟨oc28, od28, .func (PySem.W.fnOf "need_shares" "need_shares" (defArgs s_need_shares) (defBody s_need_shares) (defScope s_need_shares) .none kV28 dc28 pm28 an28 cd28 ct28), sl28⟩) (c28 : PySem.W.codeIn K cd28 "need_shares" = true) (k28 : PySem.W.keepIn K (.ref f28) = true)
    {od29 an29 : Option Addr} {sl29 : Array (Option Value)} {f29 : Addr} {oc29 kV29 dc29 pm29 cd29 ct29 : Value}
    (a29 : PySem.W.nsIn K mainGlobals "need_kinds" = some (some (.ref f29))) (l29 : K.lookup f29 = some ⟨oc29, od29, .func (PySem.W.fnOf "need_kinds" "need_kinds" (defArgs s_need_kinds) (defBody s_need_kinds) (defScope s_need_kinds) .none kV29 dc29 pm29 an29 cd29 ct29), sl29⟩) (c29 : PySem.W.codeIn K cd29 "need_kinds" = true) (k29 : PySem.W.keepIn K (.ref f29) = true)
    {od30 an30 : Option Addr} {sl30 : Array (Option Value)} {f30 : Addr} {oc30 kV30 dc30 pm30 cd30 ct30 : Value}
    (a30 : PySem.W.nsIn K mainGlobals "share_by" = some (some (.ref f30))) (l30 : K.lookup f30 = some ⟨oc30, od30, .func (PySem.W.fnOf "share_by" "share_by" (defArgs s_share_by) (defBody s_share_by) (defScope s_share_by) .none kV30 dc30 pm30 an30 cd30 ct30), sl30⟩) (c30 : PySem.W.codeIn K cd30 "share_by" = true) (k30 : PySem.W.keepIn K (.ref f30) = true)
    {od31 an31 : Option Addr} {sl31 : Array (Option Value)} {f31 : Addr} {oc31 kV31 dc31 pm31 cd31 ct31 : Value}
    (a31 : PySem.W.nsIn K mainGlobals "need_pack" = some (some (.ref f31))) (l31 : K.lookup f31 = some ⟨oc31, od31, .func (PySem.W.fnOf "need_pack" "need_pack" (defArgs s_need_pack) (defBody s_need_pack) (defScope s_need_pack) .none kV31 dc31 pm31 an31 cd31 ct31), sl31⟩) (c31 : PySem.W.codeIn K cd31 "need_pack" = true) (k31 : PySem.W.keepIn K (.ref f31) = true)
    {od32 an32 : Option Addr} {sl32 : Array (Option Value)} {f32 : Addr} {oc32 kV32 dc32 pm32 cd32 ct32 : Value}
    (a32 : PySem.W.nsIn K mainGlobals "need_fraction" = some (some (.ref f32))) (l32 : K.lookup f32 = some ⟨oc32, od32, .func (PySem.W.fnOf "need_fraction" "need_fraction" (defArgs s_need_fraction) (defBody s_need_fraction) (defScope s_need_fraction) .none kV32 dc32 pm32 an32 cd32 ct32), sl32⟩) (c32 : PySem.W.codeIn K cd32 "need_fraction" = true) (k32 : PySem.W.keepIn K (.ref f32) = true)
    {od33 an33 : Option Addr} {sl33 : Array (Option Value)} {f33 : Addr} {oc33 kV33 dc33 pm33 cd33 ct33 : Value}
    (a33 : PySem.W.nsIn K mainGlobals "total" = some (some (.ref f33))) (l33 : K.lookup f33 = some ⟨oc33, od33, .func (PySem.W.fnOf "total" "total" (defArgs s_total) (defBody s_total) (defScope s_total) .none kV33 dc33 pm33 an33 cd33 ct33), sl33⟩) (c33 : PySem.W.codeIn K cd33 "total" = true) (k33 : PySem.W.keepIn K (.ref f33) = true)
    {od34 an34 : Option Addr} {sl34 : Array (Option Value)} {f34 : Addr} {oc34 kV34 dc34 pm34 cd34 ct34 : Value}
    (a34 : PySem.W.nsIn K mainGlobals "part" = some (some (.ref f34))) (l34 : K.lookup f34 = some ⟨oc34, od34, .func (PySem.W.fnOf "part" "part" (defArgs s_part) (defBody s_part) (defScope s_part) .none kV34 dc34 pm34 an34 cd34 ct34), sl34⟩) (c34 : PySem.W.codeIn K cd34 "part" = true) (k34 : PySem.W.keepIn K (.ref f34) = true)
    {od35 an35 : Option Addr} {sl35 : Array (Option Value)} {f35 : Addr} {oc35 kV35 dc35 pm35 cd35 ct35 : Value}
    (a35 : PySem.W.nsIn K mainGlobals "are_needs" = some (some (.ref f35))) (l35 : K.lookup f35 = some ⟨oc35, od35, .func (PySem.W.fnOf "are_needs" "are_needs" (defArgs s_are_needs) (defBody s_are_needs) (defScope s_are_needs) .none kV35 dc35 pm35 an35 cd35 ct35), sl35⟩) (c35 : PySem.W.codeIn K cd35 "are_needs" = true) (k35 : PySem.W.keepIn K (.ref f35) = true)
    {od36 an36 : Option Addr} {sl36 : Array (Option Value)} {f36 : Addr} {oc36 kV36 dc36 pm36 cd36 ct36 : Value}
    (a36 : PySem.W.nsIn K mainGlobals "need_needs" = some (some (.ref f36))) (l36 : K.lookup f36 = some ⟨oc36, od36, .func (PySem.W.fnOf "need_needs" "need_needs" (defArgs s_need_needs) (defBody s_need_needs) (defScope s_need_needs) .none kV36 dc36 pm36 an36 cd36 ct36), sl36⟩) (c36 : PySem.W.codeIn K cd36 "need_needs" = true) (k36 : PySem.W.keepIn K (.ref f36) = true)
    {od37 an37 : Option Addr} {sl37 : Array (Option Value)} {f37 : Addr} {oc37 kV37 dc37 pm37 cd37 ct37 : Value}
    (a37 : PySem.W.nsIn K mainGlobals "due_number" = some (some (.ref f37))) (l37 : K.lookup f37 = some ⟨oc37, od37, .func (PySem.W.fnOf "due_number" "due_number" (defArgs s_due_number) (defBody s_due_number) (defScope s_due_number) .none kV37 dc37 pm37 an37 cd37 ct37), sl37⟩) (c37 : PySem.W.codeIn K cd37 "due_number" = true) (k37 : PySem.W.keepIn K (.ref f37) = true)
    {od38 an38 : Option Addr} {sl38 : Array (Option Value)} {f38 : Addr} {oc38 kV38 dc38 pm38 cd38 ct38 : Value}
    (a38 : PySem.W.nsIn K mainGlobals "is_paper" = some (some (.ref f38))) (l38 : K.lookup f38 = some ⟨oc38, od38, .func (PySem.W.fnOf "is_paper" "is_paper" (defArgs s_is_paper) (defBody s_is_paper) (defScope s_is_paper) .none kV38 dc38 pm38 an38 cd38 ct38), sl38⟩) (c38 : PySem.W.codeIn K cd38 "is_paper" = true) (k38 : PySem.W.keepIn K (.ref f38) = true)
    {od39 an39 : Option Addr} {sl39 : Array (Option Value)} {f39 : Addr} {oc39 kV39 dc39 pm39 cd39 ct39 : Value}
    (a39 : PySem.W.nsIn K mainGlobals "just_cases" = some (some (.ref f39))) (l39 : K.lookup f39 = some ⟨oc39, od39, .func (PySem.W.fnOf "just_cases" "just_cases" (defArgs s_just_cases) (defBody s_just_cases) (defScope s_just_cases) .none kV39 dc39 pm39 an39 cd39 ct39), sl39⟩) (c39 : PySem.W.codeIn K cd39 "just_cases" = true) (k39 : PySem.W.keepIn K (.ref f39) = true)
    {od40 an40 : Option Addr} {sl40 : Array (Option Value)} {f40 : Addr} {oc40 kV40 dc40 pm40 cd40 ct40 : Value}
    (a40 : PySem.W.nsIn K mainGlobals "all_share" = some (some (.ref f40))) (l40 : K.lookup f40 = some ⟨oc40, od40, .func (PySem.W.fnOf "all_share" "all_share" (defArgs s_all_share) (defBody s_all_share) (defScope s_all_share) .none kV40 dc40 pm40 an40 cd40 ct40), sl40⟩) (c40 : PySem.W.codeIn K cd40 "all_share" = true) (k40 : PySem.W.keepIn K (.ref f40) = true)
    {od41 an41 : Option Addr} {sl41 : Array (Option Value)} {f41 : Addr} {oc41 kV41 dc41 pm41 cd41 ct41 : Value}
    (a41 : PySem.W.nsIn K mainGlobals "last_share" = some (some (.ref f41))) (l41 : K.lookup f41 = some ⟨oc41, od41, .func (PySem.W.fnOf "last_share" "last_share" (defArgs s_last_share) (defBody s_last_share) (defScope s_last_share) .none kV41 dc41 pm41 an41 cd41 ct41), sl41⟩) (c41 : PySem.W.codeIn K cd41 "last_share" = true) (k41 : PySem.W.keepIn K (.ref f41) = true)
    {od42 an42 : Option Addr} {sl42 : Array (Option Value)} {f42 : Addr} {oc42 kV42 dc42 pm42 cd42 ct42 : Value}
    (a42 : PySem.W.nsIn K mainGlobals "lacking" = some (some (.ref f42))) (l42 : K.lookup f42 = some ⟨oc42, od42, .func (PySem.W.fnOf "lacking" "lacking" (defArgs s_lacking) (defBody s_lacking) (defScope s_lacking) .none kV42 dc42 pm42 an42 cd42 ct42), sl42⟩) (c42 : PySem.W.codeIn K cd42 "lacking" = true) (k42 : PySem.W.keepIn K (.ref f42) = true)
    {od43 an43 : Option Addr} {sl43 : Array (Option Value)} {f43 : Addr} {oc43 kV43 dc43 pm43 cd43 ct43 : Value}
    (a43 : PySem.W.nsIn K mainGlobals "pack_many" = some (some (.ref f43))) (l43 : K.lookup f43 = some ⟨oc43, od43, .func (PySem.W.fnOf "pack_many" "pack_many" (defArgs s_pack_many) (defBody s_pack_many) (defScope s_pack_many) .none kV43 dc43 pm43 an43 cd43 ct43), sl43⟩) (c43 : PySem.W.codeIn K cd43 "pack_many" = true) (k43 : PySem.W.keepIn K (.ref f43) = true)
    {od44 an44 : Option Addr} {sl44 : Array (Option Value)} {f44 : Addr} {oc44 kV44 dc44 pm44 cd44 ct44 : Value}
    (a44 : PySem.W.nsIn K mainGlobals "pack_cases" = some (some (.ref f44))) (l44 : K.lookup f44 = some ⟨oc44, od44, .func (PySem.W.fnOf "pack_cases" "pack_cases" (defArgs s_pack_cases) (defBody s_pack_cases) (defScope s_pack_cases) .none kV44 dc44 pm44 an44 cd44 ct44), sl44⟩) (c44 : PySem.W.codeIn K cd44 "pack_cases" = true) (k44 : PySem.W.keepIn K (.ref f44) = true)
    {od45 an45 : Option Addr} {sl45 : Array (Option Value)} {f45 : Addr} {oc45 kV45 dc45 pm45 cd45 ct45 : Value}
    (a45 : PySem.W.nsIn K mainGlobals "paper_of_packs" = some (some (.ref f45))) (l45 : K.lookup f45 = some ⟨oc45, od45, .func (PySem.W.fnOf "paper_of" "paper_of" (defArgs s_paper_of_packs) (defBody s_paper_of_packs) (defScope s_paper_of_packs) .none kV45 dc45 pm45 an45 cd45 ct45), sl45⟩) (c45 : PySem.W.codeIn K cd45 "paper_of" = true) (k45 : PySem.W.keepIn K (.ref f45) = true)
    {od46 an46 : Option Addr} {sl46 : Array (Option Value)} {f46 : Addr} {oc46 kV46 dc46 pm46 cd46 ct46 : Value}
    (a46 : PySem.W.nsIn K mainGlobals "show" = some (some (.ref f46))) (l46 : K.lookup f46 = some ⟨oc46, od46, .func (PySem.W.fnOf "show" "show" (defArgs s_show) (defBody s_show) (defScope s_show) .none kV46 dc46 pm46 an46 cd46 ct46), sl46⟩) (c46 : PySem.W.codeIn K cd46 "show" = true) (k46 : PySem.W.keepIn K (.ref f46) = true)
    {od47 an47 : Option Addr} {sl47 : Array (Option Value)} {f47 : Addr} {oc47 kV47 dc47 pm47 cd47 ct47 : Value}
    (a47 : PySem.W.nsIn K mainGlobals "added" = some (some (.ref f47))) (l47 : K.lookup f47 = some ⟨oc47, od47, .func (PySem.W.fnOf "added" "added" (defArgs s_added) (defBody s_added) (defScope s_added) .none kV47 dc47 pm47 an47 cd47 ct47), sl47⟩) (c47 : PySem.W.codeIn K cd47 "added" = true) (k47 : PySem.W.keepIn K (.ref f47) = true)
    {od48 an48 : Option Addr} {sl48 : Array (Option Value)} {f48 : Addr} {oc48 kV48 dc48 pm48 cd48 ct48 : Value}
    (a48 : PySem.W.nsIn K mainGlobals "lessened" = some (some (.ref f48))) (l48 : K.lookup f48 = some ⟨oc48, od48, .func (PySem.W.fnOf "lessened" "lessened" (defArgs s_lessened) (defBody s_lessened) (defScope s_lessened) .none kV48 dc48 pm48 an48 cd48 ct48), sl48⟩) (c48 : PySem.W.codeIn K cd48 "lessened" = true) (k48 : PySem.W.keepIn K (.ref f48) = true)
    {od49 an49 : Option Addr} {sl49 : Array (Option Value)} {f49 : Addr} {oc49 kV49 dc49 pm49 cd49 ct49 : Value}
    (a49 : PySem.W.nsIn K mainGlobals "multiplied" = some (some (.ref f49))) (l49 : K.lookup f49 = some ⟨oc49, od49, .func (PySem.W.fnOf "multiplied" "multiplied" (defArgs s_multiplied) (defBody s_multiplied) (defScope s_multiplied) .none kV49 dc49 pm49 an49 cd49 ct49), sl49⟩) (c49 : PySem.W.codeIn K cd49 "multiplied" = true) (k49 : PySem.W.keepIn K (.ref f49) = true)
    {od50 an50 : Option Addr} {sl50 : Array (Option Value)} {f50 : Addr} {oc50 kV50 dc50 pm50 cd50 ct50 : Value}
    (a50 : PySem.W.nsIn K mainGlobals "is_less" = some (some (.ref f50))) (l50 : K.lookup f50 = some ⟨oc50, od50, .func (PySem.W.fnOf "is_less" "is_less" (defArgs s_is_less) (defBody s_is_less) (defScope s_is_less) .none kV50 dc50 pm50 an50 cd50 ct50), sl50⟩) (c50 : PySem.W.codeIn K cd50 "is_less" = true) (k50 : PySem.W.keepIn K (.ref f50) = true)
    {od51 an51 : Option Addr} {sl51 : Array (Option Value)} {f51 : Addr} {oc51 kV51 dc51 pm51 cd51 ct51 : Value}
    (a51 : PySem.W.nsIn K mainGlobals "needs_share" = some (some (.ref f51))) (l51 : K.lookup f51 = some ⟨oc51, od51, .func (PySem.W.fnOf "needs_share" "needs_share" (defArgs s_needs_share) (defBody s_needs_share) (defScope s_needs_share) .none kV51 dc51 pm51 an51 cd51 ct51), sl51⟩) (c51 : PySem.W.codeIn K cd51 "needs_share" = true) (k51 : PySem.W.keepIn K (.ref f51) = true)
    {od52 an52 : Option Addr} {sl52 : Array (Option Value)} {f52 : Addr} {oc52 kV52 dc52 pm52 cd52 ct52 : Value}
    (a52 : PySem.W.nsIn K mainGlobals "paper_of_papers" = some (some (.ref f52))) (l52 : K.lookup f52 = some ⟨oc52, od52, .func (PySem.W.fnOf "paper_of" "paper_of" (defArgs s_paper_of_papers) (defBody s_paper_of_papers) (defScope s_paper_of_papers) .none kV52 dc52 pm52 an52 cd52 ct52), sl52⟩) (c52 : PySem.W.codeIn K cd52 "paper_of" = true) (k52 : PySem.W.keepIn K (.ref f52) = true)
    {od53 an53 : Option Addr} {sl53 : Array (Option Value)} {f53 : Addr} {oc53 kV53 dc53 pm53 cd53 ct53 : Value}
    (a53 : PySem.W.nsIn K mainGlobals "due_pairs" = some (some (.ref f53))) (l53 : K.lookup f53 = some ⟨oc53, od53, .func (PySem.W.fnOf "due_pairs" "due_pairs" (defArgs s_due_pairs) (defBody s_due_pairs) (defScope s_due_pairs) .none kV53 dc53 pm53 an53 cd53 ct53), sl53⟩) (c53 : PySem.W.codeIn K cd53 "due_pairs" = true) (k53 : PySem.W.keepIn K (.ref f53) = true)
    {od54 an54 : Option Addr} {sl54 : Array (Option Value)} {f54 : Addr} {oc54 kV54 dc54 pm54 cd54 ct54 : Value}
    (a54 : PySem.W.nsIn K mainGlobals "pack_mean" = some (some (.ref f54))) (l54 : K.lookup f54 = some ⟨oc54, od54, .func (PySem.W.fnOf "pack_mean" "pack_mean" (defArgs s_pack_mean) (defBody s_pack_mean) (defScope s_pack_mean) .none kV54 dc54 pm54 an54 cd54 ct54), sl54⟩) (c54 : PySem.W.codeIn K cd54 "pack_mean" = true) (k54 : PySem.W.keepIn K (.ref f54) = true)
    {od55 an55 : Option Addr} {sl55 : Array (Option Value)} {f55 : Addr} {oc55 kV55 dc55 pm55 cd55 ct55 : Value}
    (a55 : PySem.W.nsIn K mainGlobals "is_pack_paper" = some (some (.ref f55))) (l55 : K.lookup f55 = some ⟨oc55, od55, .func (PySem.W.fnOf "is_pack_paper" "is_pack_paper" (defArgs s_is_pack_paper) (defBody s_is_pack_paper) (defScope s_is_pack_paper) .none kV55 dc55 pm55 an55 cd55 ct55), sl55⟩) (c55 : PySem.W.codeIn K cd55 "is_pack_paper" = true) (k55 : PySem.W.keepIn K (.ref f55) = true)
    {od56 an56 : Option Addr} {sl56 : Array (Option Value)} {f56 : Addr} {oc56 kV56 dc56 pm56 cd56 ct56 : Value}
    (a56 : PySem.W.nsIn K mainGlobals "pack_paper" = some (some (.ref f56))) (l56 : K.lookup f56 = some ⟨oc56, od56, .func (PySem.W.fnOf "pack_paper" "pack_paper" (defArgs s_pack_paper) (defBody s_pack_paper) (defScope s_pack_paper) .none kV56 dc56 pm56 an56 cd56 ct56), sl56⟩) (c56 : PySem.W.codeIn K cd56 "pack_paper" = true) (k56 : PySem.W.keepIn K (.ref f56) = true)
    {od57 an57 : Option Addr} {sl57 : Array (Option Value)} {f57 : Addr} {oc57 kV57 dc57 pm57 cd57 ct57 : Value}
    (a57 : PySem.W.nsIn K mainGlobals "is_time_paper" = some (some (.ref f57))) (l57 : K.lookup f57 = some ⟨oc57, od57, .func (PySem.W.fnOf "is_time_paper" "is_time_paper" (defArgs s_is_time_paper) (defBody s_is_time_paper) (defScope s_is_time_paper) .none kV57 dc57 pm57 an57 cd57 ct57), sl57⟩) (c57 : PySem.W.codeIn K cd57 "is_time_paper" = true) (k57 : PySem.W.keepIn K (.ref f57) = true)
    {od58 an58 : Option Addr} {sl58 : Array (Option Value)} {f58 : Addr} {oc58 kV58 dc58 pm58 cd58 ct58 : Value}
    (a58 : PySem.W.nsIn K mainGlobals "time_paper" = some (some (.ref f58))) (l58 : K.lookup f58 = some ⟨oc58, od58, .func (PySem.W.fnOf "time_paper" "time_paper" (defArgs s_time_paper) (defBody s_time_paper) (defScope s_time_paper) .none kV58 dc58 pm58 an58 cd58 ct58), sl58⟩) (c58 : PySem.W.codeIn K cd58 "time_paper" = true) (k58 : PySem.W.keepIn K (.ref f58) = true)
    {od59 an59 : Option Addr} {sl59 : Array (Option Value)} {f59 : Addr} {oc59 kV59 dc59 pm59 cd59 ct59 : Value}
    (a59 : PySem.W.nsIn K mainGlobals "over_bound" = some (some (.ref f59))) (l59 : K.lookup f59 = some ⟨oc59, od59, .func (PySem.W.fnOf "over_bound" "over_bound" (defArgs s_over_bound) (defBody s_over_bound) (defScope s_over_bound) .none kV59 dc59 pm59 an59 cd59 ct59), sl59⟩) (c59 : PySem.W.codeIn K cd59 "over_bound" = true) (k59 : PySem.W.keepIn K (.ref f59) = true)
    {od60 an60 : Option Addr} {sl60 : Array (Option Value)} {f60 : Addr} {oc60 kV60 dc60 pm60 cd60 ct60 : Value}
    (a60 : PySem.W.nsIn K mainGlobals "under_bound" = some (some (.ref f60))) (l60 : K.lookup f60 = some ⟨oc60, od60, .func (PySem.W.fnOf "under_bound" "under_bound" (defArgs s_under_bound) (defBody s_under_bound) (defScope s_under_bound) .none kV60 dc60 pm60 an60 cd60 ct60), sl60⟩) (c60 : PySem.W.codeIn K cd60 "under_bound" = true) (k60 : PySem.W.keepIn K (.ref f60) = true)
    {od61 an61 : Option Addr} {sl61 : Array (Option Value)} {f61 : Addr} {oc61 kV61 dc61 pm61 cd61 ct61 : Value}
    (a61 : PySem.W.nsIn K mainGlobals "mean_all" = some (some (.ref f61))) (l61 : K.lookup f61 = some ⟨oc61, od61, .func (PySem.W.fnOf "mean_all" "mean_all" (defArgs s_mean_all) (defBody s_mean_all) (defScope s_mean_all) .none kV61 dc61 pm61 an61 cd61 ct61), sl61⟩) (c61 : PySem.W.codeIn K cd61 "mean_all" = true) (k61 : PySem.W.keepIn K (.ref f61) = true)
    {od62 an62 : Option Addr} {sl62 : Array (Option Value)} {f62 : Addr} {oc62 kV62 dc62 pm62 cd62 ct62 : Value}
    (a62 : PySem.W.nsIn K mainGlobals "_law_by_numbers" = some (some (.ref f62))) (l62 : K.lookup f62 = some ⟨oc62, od62, .func (PySem.W.fnOf "_law_by_numbers" "_law_by_numbers" (defArgs s__law_by_numbers) (defBody s__law_by_numbers) (defScope s__law_by_numbers) .none kV62 dc62 pm62 an62 cd62 ct62), sl62⟩) (c62 : PySem.W.codeIn K cd62 "_law_by_numbers" = true) (k62 : PySem.W.keepIn K (.ref f62) = true)
    {od63 an63 : Option Addr} {sl63 : Array (Option Value)} {f63 : Addr} {oc63 kV63 dc63 pm63 cd63 ct63 : Value}
    (a63 : PySem.W.nsIn K mainGlobals "_law_by_packs" = some (some (.ref f63))) (l63 : K.lookup f63 = some ⟨oc63, od63, .func (PySem.W.fnOf "_law_by_packs" "_law_by_packs" (defArgs s__law_by_packs) (defBody s__law_by_packs) (defScope s__law_by_packs) .none kV63 dc63 pm63 an63 cd63 ct63), sl63⟩) (c63 : PySem.W.codeIn K cd63 "_law_by_packs" = true) (k63 : PySem.W.keepIn K (.ref f63) = true)
    {od64 an64 : Option Addr} {sl64 : Array (Option Value)} {f64 : Addr} {oc64 kV64 dc64 pm64 cd64 ct64 : Value}
    (a64 : PySem.W.nsIn K mainGlobals "mean_of" = some (some (.ref f64))) (l64 : K.lookup f64 = some ⟨oc64, od64, .func (PySem.W.fnOf "mean_of" "mean_of" (defArgs s_mean_of) (defBody s_mean_of) (defScope s_mean_of) .none kV64 dc64 pm64 an64 cd64 ct64), sl64⟩) (c64 : PySem.W.codeIn K cd64 "mean_of" = true) (k64 : PySem.W.keepIn K (.ref f64) = true)
    {od65 an65 : Option Addr} {sl65 : Array (Option Value)} {f65 : Addr} {oc65 kV65 dc65 pm65 cd65 ct65 : Value}
    (a65 : PySem.W.nsIn K mainGlobals "any_of" = some (some (.ref f65))) (l65 : K.lookup f65 = some ⟨oc65, od65, .func (PySem.W.fnOf "any_of" "any_of" (defArgs s_any_of) (defBody s_any_of) (defScope s_any_of) .none kV65 dc65 pm65 an65 cd65 ct65), sl65⟩) (c65 : PySem.W.codeIn K cd65 "any_of" = true) (k65 : PySem.W.keepIn K (.ref f65) = true)
    {od66 an66 : Option Addr} {sl66 : Array (Option Value)} {f66 : Addr} {oc66 kV66 dc66 pm66 cd66 ct66 : Value}
    (a66 : PySem.W.nsIn K mainGlobals "mean_needs" = some (some (.ref f66))) (l66 : K.lookup f66 = some ⟨oc66, od66, .func (PySem.W.fnOf "mean_needs" "mean_needs" (defArgs s_mean_needs) (defBody s_mean_needs) (defScope s_mean_needs) .none kV66 dc66 pm66 an66 cd66 ct66), sl66⟩) (c66 : PySem.W.codeIn K cd66 "mean_needs" = true) (k66 : PySem.W.keepIn K (.ref f66) = true)
    {od67 an67 : Option Addr} {sl67 : Array (Option Value)} {f67 : Addr} {oc67 kV67 dc67 pm67 cd67 ct67 : Value}
    (a67 : PySem.W.nsIn K mainGlobals "mean_any" = some (some (.ref f67))) (l67 : K.lookup f67 = some ⟨oc67, od67, .func (PySem.W.fnOf "mean_any" "mean_any" (defArgs s_mean_any) (defBody s_mean_any) (defScope s_mean_any) .none kV67 dc67 pm67 an67 cd67 ct67), sl67⟩) (c67 : PySem.W.codeIn K cd67 "mean_any" = true) (k67 : PySem.W.keepIn K (.ref f67) = true)
    {od68 an68 : Option Addr} {sl68 : Array (Option Value)} {f68 : Addr} {oc68 kV68 dc68 pm68 cd68 ct68 : Value}
    (a68 : PySem.W.nsIn K mainGlobals "_law_by_shares" = some (some (.ref f68))) (l68 : K.lookup f68 = some ⟨oc68, od68, .func (PySem.W.fnOf "_law_by_shares" "_law_by_shares" (defArgs s__law_by_shares) (defBody s__law_by_shares) (defScope s__law_by_shares) .none kV68 dc68 pm68 an68 cd68 ct68), sl68⟩) (c68 : PySem.W.codeIn K cd68 "_law_by_shares" = true) (k68 : PySem.W.keepIn K (.ref f68) = true)
    {od69 an69 : Option Addr} {sl69 : Array (Option Value)} {f69 : Addr} {oc69 kV69 dc69 pm69 cd69 ct69 : Value}
    (a69 : PySem.W.nsIn K mainGlobals "_law_said" = some (some (.ref f69))) (l69 : K.lookup f69 = some ⟨oc69, od69, .func (PySem.W.fnOf "_law_said" "_law_said" (defArgs s__law_said) (defBody s__law_said) (defScope s__law_said) .none kV69 dc69 pm69 an69 cd69 ct69), sl69⟩) (c69 : PySem.W.codeIn K cd69 "_law_said" = true) (k69 : PySem.W.keepIn K (.ref f69) = true)
    {od70 an70 : Option Addr} {sl70 : Array (Option Value)} {f70 : Addr} {oc70 kV70 dc70 pm70 cd70 ct70 : Value}
    (a70 : PySem.W.nsIn K mainGlobals "_law_shares_right" = some (some (.ref f70))) (l70 : K.lookup f70 = some ⟨oc70, od70, .func (PySem.W.fnOf "_law_shares_right" "_law_shares_right" (defArgs s__law_shares_right) (defBody s__law_shares_right) (defScope s__law_shares_right) .none kV70 dc70 pm70 an70 cd70 ct70), sl70⟩) (c70 : PySem.W.codeIn K cd70 "_law_shares_right" = true) (k70 : PySem.W.keepIn K (.ref f70) = true)
    {od71 an71 : Option Addr} {sl71 : Array (Option Value)} {f71 : Addr} {oc71 kV71 dc71 pm71 cd71 ct71 : Value}
    (a71 : PySem.W.nsIn K mainGlobals "_law_needs_right" = some (some (.ref f71))) (l71 : K.lookup f71 = some ⟨oc71, od71, .func (PySem.W.fnOf "_law_needs_right" "_law_needs_right" (defArgs s__law_needs_right) (defBody s__law_needs_right) (defScope s__law_needs_right) .none kV71 dc71 pm71 an71 cd71 ct71), sl71⟩) (c71 : PySem.W.codeIn K cd71 "_law_needs_right" = true) (k71 : PySem.W.keepIn K (.ref f71) = true)
    {od72 an72 : Option Addr} {sl72 : Array (Option Value)} {f72 : Addr} {oc72 kV72 dc72 pm72 cd72 ct72 : Value}
    (a72 : PySem.W.nsIn K mainGlobals "_law_numbers_right" = some (some (.ref f72))) (l72 : K.lookup f72 = some ⟨oc72, od72, .func (PySem.W.fnOf "_law_numbers_right" "_law_numbers_right" (defArgs s__law_numbers_right) (defBody s__law_numbers_right) (defScope s__law_numbers_right) .none kV72 dc72 pm72 an72 cd72 ct72), sl72⟩) (c72 : PySem.W.codeIn K cd72 "_law_numbers_right" = true) (k72 : PySem.W.keepIn K (.ref f72) = true)
    {od73 an73 : Option Addr} {sl73 : Array (Option Value)} {f73 : Addr} {oc73 kV73 dc73 pm73 cd73 ct73 : Value}
    (a73 : PySem.W.nsIn K mainGlobals "law" = some (some (.ref f73))) (l73 : K.lookup f73 = some ⟨oc73, od73, .func (PySem.W.fnOf "law" "law" (defArgs s_law) (defBody s_law) (defScope s_law) .none kV73 dc73 pm73 an73 cd73 ct73), sl73⟩) (c73 : PySem.W.codeIn K cd73 "law" = true) (k73 : PySem.W.keepIn K (.ref f73) = true)
    (z_ValueError : PySem.W.nsIn K mainGlobals "ValueError" = some none)
    (z_abs : PySem.W.nsIn K mainGlobals "abs" = some none)
    (z_all : PySem.W.nsIn K mainGlobals "all" = some none)
    (z_any : PySem.W.nsIn K mainGlobals "any" = some none)
    (z_bool : PySem.W.nsIn K mainGlobals "bool" = some none)
    (z_divmod : PySem.W.nsIn K mainGlobals "divmod" = some none)
    (z_enumerate : PySem.W.nsIn K mainGlobals "enumerate" = some none)
    (z_int : PySem.W.nsIn K mainGlobals "int" = some none)
    (z_isinstance : PySem.W.nsIn K mainGlobals "isinstance" = some none)
    (z_len : PySem.W.nsIn K mainGlobals "len" = some none)
    (z_list : PySem.W.nsIn K mainGlobals "list" = some none)
    (z_max : PySem.W.nsIn K mainGlobals "max" = some none)
    (z_min : PySem.W.nsIn K mainGlobals "min" = some none)
    (z_range : PySem.W.nsIn K mainGlobals "range" = some none)
    (z_str : PySem.W.nsIn K mainGlobals "str" = some none)
    (z_sum : PySem.W.nsIn K mainGlobals "sum" = some none)
    (z_tuple : PySem.W.nsIn K mainGlobals "tuple" = some none)
    {t_MOST_DRAWS_coming : Tok} (g_MOST_DRAWS_coming : PySem.W.nsIn K mainGlobals "MOST_DRAWS_coming" = some (some (.int 12 t_MOST_DRAWS_coming)))
    {t_MOST_DRAWS_needs : Tok} (g_MOST_DRAWS_needs : PySem.W.nsIn K mainGlobals "MOST_DRAWS_needs" = some (some (.int 8 t_MOST_DRAWS_needs)))
    {t_MOST_KINDS : Tok} (g_MOST_KINDS : PySem.W.nsIn K mainGlobals "MOST_KINDS" = some (some (.int 5 t_MOST_KINDS)))
    {t_MOST_NEED : Tok} (g_MOST_NEED : PySem.W.nsIn K mainGlobals "MOST_NEED" = some (some (.int 3 t_MOST_NEED)))
    {t_MOST_PACKS : Tok} (g_MOST_PACKS : PySem.W.nsIn K mainGlobals "MOST_PACKS" = some (some (.int 8 t_MOST_PACKS)))
    {t_MOST_SHARE : Tok} (g_MOST_SHARE : PySem.W.nsIn K mainGlobals "MOST_SHARE" = some (some (.int 9 t_MOST_SHARE)))
    {t_MOST_SIZE : Tok} (g_MOST_SIZE : PySem.W.nsIn K mainGlobals "MOST_SIZE" = some (some (.int 3 t_MOST_SIZE)))
    {t_MOST_STATES : Tok} (g_MOST_STATES : PySem.W.nsIn K mainGlobals "MOST_STATES" = some (some (.int 64 t_MOST_STATES)))
    {p_NOUGHT : Addr} {e_NOUGHT : Option Addr} {q_NOUGHT : Array (Option Value)} {u_NOUGHT w_NOUGHT : Tok} {n_NOUGHT : Nat} (g_NOUGHT : PySem.W.nsIn K mainGlobals "NOUGHT" = some (some (.ref p_NOUGHT))) (o_NOUGHT : K.lookup p_NOUGHT = some ⟨.type "tuple", e_NOUGHT, .seq #[.int 0 u_NOUGHT, .int 1 w_NOUGHT] n_NOUGHT, q_NOUGHT⟩)
    {c_GatherError : Addr} (n_GatherError : PySem.W.nsIn K mainGlobals "GatherError" = some (some (.ref c_GatherError)))
    {c_NoKind : Addr} (n_NoKind : PySem.W.nsIn K mainGlobals "NoKind" = some (some (.ref c_NoKind)))
    {c_NoNeeds : Addr} (n_NoNeeds : PySem.W.nsIn K mainGlobals "NoNeeds" = some (some (.ref c_NoNeeds)))
    {c_NoNumber : Addr} (n_NoNumber : PySem.W.nsIn K mainGlobals "NoNumber" = some (some (.ref c_NoNumber)))
    {c_NoShares : Addr} (n_NoShares : PySem.W.nsIn K mainGlobals "NoShares" = some (some (.ref c_NoShares)))
    {c_NoText : Addr} (n_NoText : PySem.W.nsIn K mainGlobals "NoText" = some (some (.ref c_NoText)))
    {c_TooMany : Addr} (n_TooMany : PySem.W.nsIn K mainGlobals "TooMany" = some (some (.ref c_TooMany)))
    (q_NoKind : PySem.W.excIn K c_NoKind [.type "ValueError", .type "Exception", .type "BaseException", .type "object"] "ValueError.__new__" = true) (kp_NoKind : PySem.W.keepIn K (.ref c_NoKind) = true) (bs_NoKind : PySem.W.subIn K (.ref c_NoKind) (.type "BaseException") = some true) (ty_NoKind : PySem.W.typeIn K (.ref c_NoKind) = some (.type "type"))
    (q_NoNeeds : PySem.W.excIn K c_NoNeeds [.type "ValueError", .type "Exception", .type "BaseException", .type "object"] "ValueError.__new__" = true) (kp_NoNeeds : PySem.W.keepIn K (.ref c_NoNeeds) = true) (bs_NoNeeds : PySem.W.subIn K (.ref c_NoNeeds) (.type "BaseException") = some true) (ty_NoNeeds : PySem.W.typeIn K (.ref c_NoNeeds) = some (.type "type"))
    (q_NoNumber : PySem.W.excIn K c_NoNumber [.type "ValueError", .type "Exception", .type "BaseException", .type "object"] "ValueError.__new__" = true) (kp_NoNumber : PySem.W.keepIn K (.ref c_NoNumber) = true) (bs_NoNumber : PySem.W.subIn K (.ref c_NoNumber) (.type "BaseException") = some true) (ty_NoNumber : PySem.W.typeIn K (.ref c_NoNumber) = some (.type "type"))
    (q_NoShares : PySem.W.excIn K c_NoShares [.type "ValueError", .type "Exception", .type "BaseException", .type "object"] "ValueError.__new__" = true) (kp_NoShares : PySem.W.keepIn K (.ref c_NoShares) = true) (bs_NoShares : PySem.W.subIn K (.ref c_NoShares) (.type "BaseException") = some true) (ty_NoShares : PySem.W.typeIn K (.ref c_NoShares) = some (.type "type"))
    (q_TooMany : PySem.W.excIn K c_TooMany [.type "ValueError", .type "Exception", .type "BaseException", .type "object"] "ValueError.__new__" = true) (kp_TooMany : PySem.W.keepIn K (.ref c_TooMany) = true) (bs_TooMany : PySem.W.subIn K (.ref c_TooMany) (.type "BaseException") = some true) (ty_TooMany : PySem.W.typeIn K (.ref c_TooMany) = some (.type "type"))
    (xg_NoKind : PySem.W.findIn K (.ref c_NoKind) "__getattribute__" = some (some (.builtin "BaseException.__getattribute__")))
    (xk_NoKind : PySem.W.findIn K (.ref c_NoKind) "__getattr__" = some none)
    (xs_NoKind : PySem.W.subIn K (.ref c_NoKind) (.type "BaseException") = some true)
    (xd_NoKind : PySem.W.hasDictIn K c_NoKind = true)
    (xa_NoKind : PySem.W.findIn K (.ref c_NoKind) "__class__" = some (some (.builtin "object.__class__")))
    (xm_NoKind : PySem.W.mroIn K c_NoKind (.type "object") = some true)
    (kv_NoKind : PySem.W.kitOne K (.ref c_NoKind) (.type "ValueError") = some true)
    (kg_NoKind : PySem.W.kitOne K (.ref c_NoKind) (.ref c_GatherError) = some true)
    (em_NoKind : PySem.W.exmOne K (.ref c_NoKind) (.ref c_GatherError) = some true)
    (ko0_NoKind : PySem.W.kitOne K (.ref c_NoKind) (.ref c_NoShares) = some false)
    (ko1_NoKind : PySem.W.kitOne K (.ref c_NoKind) (.ref c_NoKind) = some true)
    (ko2_NoKind : PySem.W.kitOne K (.ref c_NoKind) (.ref c_NoNumber) = some false)
    (ko3_NoKind : PySem.W.kitOne K (.ref c_NoKind) (.ref c_NoNeeds) = some false)
    (ko4_NoKind : PySem.W.kitOne K (.ref c_NoKind) (.ref c_TooMany) = some false)
    (ko5_NoKind : PySem.W.kitOne K (.ref c_NoKind) (.ref c_NoText) = some false)
    (xg_NoNeeds : PySem.W.findIn K (.ref c_NoNeeds) "__getattribute__" = some (some (.builtin "BaseException.__getattribute__")))
    (xk_NoNeeds : PySem.W.findIn K (.ref c_NoNeeds) "__getattr__" = some none)
    (xs_NoNeeds : PySem.W.subIn K (.ref c_NoNeeds) (.type "BaseException") = some true)
    (xd_NoNeeds : PySem.W.hasDictIn K c_NoNeeds = true)
    (xa_NoNeeds : PySem.W.findIn K (.ref c_NoNeeds) "__class__" = some (some (.builtin "object.__class__")))
    (xm_NoNeeds : PySem.W.mroIn K c_NoNeeds (.type "object") = some true)
    (kv_NoNeeds : PySem.W.kitOne K (.ref c_NoNeeds) (.type "ValueError") = some true)
    (kg_NoNeeds : PySem.W.kitOne K (.ref c_NoNeeds) (.ref c_GatherError) = some true)
    (em_NoNeeds : PySem.W.exmOne K (.ref c_NoNeeds) (.ref c_GatherError) = some true)
    (ko0_NoNeeds : PySem.W.kitOne K (.ref c_NoNeeds) (.ref c_NoShares) = some false)
    (ko1_NoNeeds : PySem.W.kitOne K (.ref c_NoNeeds) (.ref c_NoKind) = some false)
    (ko2_NoNeeds : PySem.W.kitOne K (.ref c_NoNeeds) (.ref c_NoNumber) = some false)
    (ko3_NoNeeds : PySem.W.kitOne K (.ref c_NoNeeds) (.ref c_NoNeeds) = some true)
    (ko4_NoNeeds : PySem.W.kitOne K (.ref c_NoNeeds) (.ref c_TooMany) = some false)
    (ko5_NoNeeds : PySem.W.kitOne K (.ref c_NoNeeds) (.ref c_NoText) = some false)
    (xg_NoNumber : PySem.W.findIn K (.ref c_NoNumber) "__getattribute__" = some (some (.builtin "BaseException.__getattribute__")))
    (xk_NoNumber : PySem.W.findIn K (.ref c_NoNumber) "__getattr__" = some none)
    (xs_NoNumber : PySem.W.subIn K (.ref c_NoNumber) (.type "BaseException") = some true)
    (xd_NoNumber : PySem.W.hasDictIn K c_NoNumber = true)
    (xa_NoNumber : PySem.W.findIn K (.ref c_NoNumber) "__class__" = some (some (.builtin "object.__class__")))
    (xm_NoNumber : PySem.W.mroIn K c_NoNumber (.type "object") = some true)
    (kv_NoNumber : PySem.W.kitOne K (.ref c_NoNumber) (.type "ValueError") = some true)
    (kg_NoNumber : PySem.W.kitOne K (.ref c_NoNumber) (.ref c_GatherError) = some true)
    (em_NoNumber : PySem.W.exmOne K (.ref c_NoNumber) (.ref c_GatherError) = some true)
    (ko0_NoNumber : PySem.W.kitOne K (.ref c_NoNumber) (.ref c_NoShares) = some false)
    (ko1_NoNumber : PySem.W.kitOne K (.ref c_NoNumber) (.ref c_NoKind) = some false)
    (ko2_NoNumber : PySem.W.kitOne K (.ref c_NoNumber) (.ref c_NoNumber) = some true)
    (ko3_NoNumber : PySem.W.kitOne K (.ref c_NoNumber) (.ref c_NoNeeds) = some false)
    (ko4_NoNumber : PySem.W.kitOne K (.ref c_NoNumber) (.ref c_TooMany) = some false)
    (ko5_NoNumber : PySem.W.kitOne K (.ref c_NoNumber) (.ref c_NoText) = some false)
    (xg_NoShares : PySem.W.findIn K (.ref c_NoShares) "__getattribute__" = some (some (.builtin "BaseException.__getattribute__")))
    (xk_NoShares : PySem.W.findIn K (.ref c_NoShares) "__getattr__" = some none)
    (xs_NoShares : PySem.W.subIn K (.ref c_NoShares) (.type "BaseException") = some true)
    (xd_NoShares : PySem.W.hasDictIn K c_NoShares = true)
    (xa_NoShares : PySem.W.findIn K (.ref c_NoShares) "__class__" = some (some (.builtin "object.__class__")))
    (xm_NoShares : PySem.W.mroIn K c_NoShares (.type "object") = some true)
    (kv_NoShares : PySem.W.kitOne K (.ref c_NoShares) (.type "ValueError") = some true)
    (kg_NoShares : PySem.W.kitOne K (.ref c_NoShares) (.ref c_GatherError) = some true)
    (em_NoShares : PySem.W.exmOne K (.ref c_NoShares) (.ref c_GatherError) = some true)
    (ko0_NoShares : PySem.W.kitOne K (.ref c_NoShares) (.ref c_NoShares) = some true)
    (ko1_NoShares : PySem.W.kitOne K (.ref c_NoShares) (.ref c_NoKind) = some false)
    (ko2_NoShares : PySem.W.kitOne K (.ref c_NoShares) (.ref c_NoNumber) = some false)
    (ko3_NoShares : PySem.W.kitOne K (.ref c_NoShares) (.ref c_NoNeeds) = some false)
    (ko4_NoShares : PySem.W.kitOne K (.ref c_NoShares) (.ref c_TooMany) = some false)
    (ko5_NoShares : PySem.W.kitOne K (.ref c_NoShares) (.ref c_NoText) = some false)
    (xg_TooMany : PySem.W.findIn K (.ref c_TooMany) "__getattribute__" = some (some (.builtin "BaseException.__getattribute__")))
    (xk_TooMany : PySem.W.findIn K (.ref c_TooMany) "__getattr__" = some none)
    (xs_TooMany : PySem.W.subIn K (.ref c_TooMany) (.type "BaseException") = some true)
    (xd_TooMany : PySem.W.hasDictIn K c_TooMany = true)
    (xa_TooMany : PySem.W.findIn K (.ref c_TooMany) "__class__" = some (some (.builtin "object.__class__")))
    (xm_TooMany : PySem.W.mroIn K c_TooMany (.type "object") = some true)
    (kv_TooMany : PySem.W.kitOne K (.ref c_TooMany) (.type "ValueError") = some true)
    (kg_TooMany : PySem.W.kitOne K (.ref c_TooMany) (.ref c_GatherError) = some true)
    (em_TooMany : PySem.W.exmOne K (.ref c_TooMany) (.ref c_GatherError) = some true)
    (ko0_TooMany : PySem.W.kitOne K (.ref c_TooMany) (.ref c_NoShares) = some false)
    (ko1_TooMany : PySem.W.kitOne K (.ref c_TooMany) (.ref c_NoKind) = some false)
    (ko2_TooMany : PySem.W.kitOne K (.ref c_TooMany) (.ref c_NoNumber) = some false)
    (ko3_TooMany : PySem.W.kitOne K (.ref c_TooMany) (.ref c_NoNeeds) = some false)
    (ko4_TooMany : PySem.W.kitOne K (.ref c_TooMany) (.ref c_TooMany) = some true)
    (ko5_TooMany : PySem.W.kitOne K (.ref c_TooMany) (.ref c_NoText) = some false)
    (x_n : PySem.W.specialIn K (.builtin "object.__class__") "__get__" = some (some (.builtin "getset_descriptor.__get__"))) (x_t : PySem.W.takesIn K (.builtin "object.__class__") = some true)
    : ∃ fd : FuncData, (∀ (s : Shared) (v : Value), BindsTo s fd ⟨[v], []⟩ [("_law_script", v)]) ∧ ∀ base : Heap, K.In base → base.Ns mainGlobals mg → FnG P w K mg base 18 fa fd ["_law_script"] (spD K f_law) := by
  have e := hfa.symm.trans (PySem.W.mg_of X G a73)
  cases e
  have y_ValueError := PySem.W.mg_none_of X G z_ValueError
  have y_abs := PySem.W.mg_none_of X G z_abs
  have y_all := PySem.W.mg_none_of X G z_all
  have y_any := PySem.W.mg_none_of X G z_any
  have y_bool := PySem.W.mg_none_of X G z_bool
  have y_divmod := PySem.W.mg_none_of X G z_divmod
  have y_enumerate := PySem.W.mg_none_of X G z_enumerate
  have y_int := PySem.W.mg_none_of X G z_int
  have y_isinstance := PySem.W.mg_none_of X G z_isinstance
  have y_len := PySem.W.mg_none_of X G z_len
  have y_list := PySem.W.mg_none_of X G z_list
  have y_max := PySem.W.mg_none_of X G z_max
  have y_min := PySem.W.mg_none_of X G z_min
  have y_range := PySem.W.mg_none_of X G z_range
  have y_str := PySem.W.mg_none_of X G z_str
  have y_sum := PySem.W.mg_none_of X G z_sum
  have y_tuple := PySem.W.mg_none_of X G z_tuple
  have x_MOST_DRAWS_coming : ∃ t, mg "MOST_DRAWS_coming" = some (.int 12 t) := ⟨_, PySem.W.mg_of X G g_MOST_DRAWS_coming⟩
  have x_MOST_DRAWS_needs : ∃ t, mg "MOST_DRAWS_needs" = some (.int 8 t) := ⟨_, PySem.W.mg_of X G g_MOST_DRAWS_needs⟩
  have x_MOST_KINDS : ∃ t, mg "MOST_KINDS" = some (.int 5 t) := ⟨_, PySem.W.mg_of X G g_MOST_KINDS⟩
  have x_MOST_NEED : ∃ t, mg "MOST_NEED" = some (.int 3 t) := ⟨_, PySem.W.mg_of X G g_MOST_NEED⟩
  have x_MOST_PACKS : ∃ t, mg "MOST_PACKS" = some (.int 8 t) := ⟨_, PySem.W.mg_of X G g_MOST_PACKS⟩
  have x_MOST_SHARE : ∃ t, mg "MOST_SHARE" = some (.int 9 t) := ⟨_, PySem.W.mg_of X G g_MOST_SHARE⟩
  have x_MOST_SIZE : ∃ t, mg "MOST_SIZE" = some (.int 3 t) := ⟨_, PySem.W.mg_of X G g_MOST_SIZE⟩
  have x_MOST_STATES : ∃ t, mg "MOST_STATES" = some (.int 64 t) := ⟨_, PySem.W.mg_of X G g_MOST_STATES⟩
  have x_NOUGHT : ∃ a, mg "NOUGHT" = some (.ref a) ∧ ∀ G, Rp K G (.tuple [.int 0, .int 1]) (.ref a) := ⟨_, PySem.W.mg_of X G g_NOUGHT, fun G => rp_tuple.mpr ⟨_, [V.int 0, V.int 1], rfl, Or.inr ⟨_, _, _, o_NOUGHT, rfl, rfl, (by show 2 ≤ sizeLine; decide), .cons ⟨_, rfl⟩ (.cons ⟨_, rfl⟩ .nil)⟩, rpa_ints [0, 1]⟩⟩
  have y_GatherError : mg "GatherError" = some (.ref c_GatherError) := PySem.W.mg_of X G n_GatherError
  have y_NoKind : mg "NoKind" = some (.ref c_NoKind) := PySem.W.mg_of X G n_NoKind
  have y_NoNeeds : mg "NoNeeds" = some (.ref c_NoNeeds) := PySem.W.mg_of X G n_NoNeeds
  have y_NoNumber : mg "NoNumber" = some (.ref c_NoNumber) := PySem.W.mg_of X G n_NoNumber
  have y_NoShares : mg "NoShares" = some (.ref c_NoShares) := PySem.W.mg_of X G n_NoShares
  have y_NoText : mg "NoText" = some (.ref c_NoText) := PySem.W.mg_of X G n_NoText
  have y_TooMany : mg "TooMany" = some (.ref c_TooMany) := PySem.W.mg_of X G n_TooMany
  have r_NoKind : DL.RfT K mg "NoKind" c_NoKind := ⟨y_NoKind, q_NoKind, kp_NoKind, bs_NoKind, ty_NoKind⟩
  have r_NoNeeds : DL.RfT K mg "NoNeeds" c_NoNeeds := ⟨y_NoNeeds, q_NoNeeds, kp_NoNeeds, bs_NoNeeds, ty_NoNeeds⟩
  have r_NoNumber : DL.RfT K mg "NoNumber" c_NoNumber := ⟨y_NoNumber, q_NoNumber, kp_NoNumber, bs_NoNumber, ty_NoNumber⟩
  have r_NoShares : DL.RfT K mg "NoShares" c_NoShares := ⟨y_NoShares, q_NoShares, kp_NoShares, bs_NoShares, ty_NoShares⟩
  have r_TooMany : DL.RfT K mg "TooMany" c_TooMany := ⟨y_TooMany, q_TooMany, kp_TooMany, bs_TooMany, ty_TooMany⟩
  have w_NoKind : DL.XL K [c_NoShares, c_NoKind, c_NoNumber, c_NoNeeds, c_TooMany, c_NoText] c_GatherError 1 c_NoKind := ⟨⟨xg_NoKind, xk_NoKind, xs_NoKind, xd_NoKind, xa_NoKind, x_n, x_t, xm_NoKind⟩, fun j hj => match j, hj with | 0, _ => ko0_NoKind | 1, _ => ko1_NoKind | 2, _ => ko2_NoKind | 3, _ => ko3_NoKind | 4, _ => ko4_NoKind | 5, _ => ko5_NoKind, kg_NoKind, kv_NoKind, em_NoKind⟩
  have w_NoNeeds : DL.XL K [c_NoShares, c_NoKind, c_NoNumber, c_NoNeeds, c_TooMany, c_NoText] c_GatherError 3 c_NoNeeds := ⟨⟨xg_NoNeeds, xk_NoNeeds, xs_NoNeeds, xd_NoNeeds, xa_NoNeeds, x_n, x_t, xm_NoNeeds⟩, fun j hj => match j, hj with | 0, _ => ko0_NoNeeds | 1, _ => ko1_NoNeeds | 2, _ => ko2_NoNeeds | 3, _ => ko3_NoNeeds | 4, _ => ko4_NoNeeds | 5, _ => ko5_NoNeeds, kg_NoNeeds, kv_NoNeeds, em_NoNeeds⟩
  have w_NoNumber : DL.XL K [c_NoShares, c_NoKind, c_NoNumber, c_NoNeeds, c_TooMany, c_NoText] c_GatherError 2 c_NoNumber := ⟨⟨xg_NoNumber, xk_NoNumber, xs_NoNumber, xd_NoNumber, xa_NoNumber, x_n, x_t, xm_NoNumber⟩, fun j hj => match j, hj with | 0, _ => ko0_NoNumber | 1, _ => ko1_NoNumber | 2, _ => ko2_NoNumber | 3, _ => ko3_NoNumber | 4, _ => ko4_NoNumber | 5, _ => ko5_NoNumber, kg_NoNumber, kv_NoNumber, em_NoNumber⟩
  have w_NoShares : DL.XL K [c_NoShares, c_NoKind, c_NoNumber, c_NoNeeds, c_TooMany, c_NoText] c_GatherError 0 c_NoShares := ⟨⟨xg_NoShares, xk_NoShares, xs_NoShares, xd_NoShares, xa_NoShares, x_n, x_t, xm_NoShares⟩, fun j hj => match j, hj with | 0, _ => ko0_NoShares | 1, _ => ko1_NoShares | 2, _ => ko2_NoShares | 3, _ => ko3_NoShares | 4, _ => ko4_NoShares | 5, _ => ko5_NoShares, kg_NoShares, kv_NoShares, em_NoShares⟩
  have w_TooMany : DL.XL K [c_NoShares, c_NoKind, c_NoNumber, c_NoNeeds, c_TooMany, c_NoText] c_GatherError 4 c_TooMany := ⟨⟨xg_TooMany, xk_TooMany, xs_TooMany, xd_TooMany, xa_TooMany, x_n, x_t, xm_TooMany⟩, fun j hj => match j, hj with | 0, _ => ko0_TooMany | 1, _ => ko1_TooMany | 2, _ => ko2_TooMany | 3, _ => ko3_TooMany | 4, _ => ko4_TooMany | 5, _ => ko5_TooMany, kg_TooMany, kv_TooMany, em_TooMany⟩
  have F1 := fun_mk (st := s_is_whole) l1 c1 k1
  have F2 := fun_mk (st := s_greatest_common) l2 c2 k2
  have F3 := fun_mk (st := s_raised) l3 c3 k3
  have F4 := fun_mk (st := s_below) l4 c4 k4
  have F5 := fun_mk (st := s_sum_part) l5 c5 k5
  have F6 := fun_mk (st := s_all_some) l6 c6 k6
  have F7 := fun_mk (st := s_need_few) l7 c7 k7
  have F8 := fun_mk (st := s_one_less) l8 c8 k8
  have F9 := fun_mk (st := s_every) l9 c9 k9
  have F10 := fun_mk (st := s_choices) l10 c10 k10
  have F11 := fun_mk (st := s__law_cell) l11 c11 k11
  have F12 := fun_mk (st := s__law_mix) l12 c12 k12
  have F13 := fun_mk (st := s__law_take) l13 c13 k13
  have F14 := fun_mk (st := s__law_marks) l14 c14 k14
  have F15 := fun_mk (st := s_made) l15 c15 k15
  have F16 := fun_mk (st := s_need_number) l16 c16 k16
  have F17 := fun_mk (st := s_is_shares) l17 c17 k17
  have F18 := fun_mk (st := s_are_kinds) l18 c18 k18
  have F19 := fun_mk (st := s_right_needs) l19 c19 k19
  have F20 := fun_mk (st := s_cases_of) l20 c20 k20
  have F21 := fun_mk (st := s__law_box) l21 c21 k21
  have F22 := fun_mk (st := s__law_drawn_shares) l22 c22 k22
  have F23 := fun_mk (st := s__law_no_shares) l23 c23 k23
  have F24 := fun_mk (st := s_is_fraction) l24 c24 k24
  have F25 := fun_mk (st := s_lowest) l25 c25 k25
  have F26 := fun_mk (st := s_sum_of) l26 c26 k26
  have F27 := fun_mk (st := s_times_of) l27 c27 k27
  have F28 := fun_mk (st := s_need_shares) l28 c28 k28
  have F29 := fun_mk (st := s_need_kinds) l29 c29 k29
  have F30 := fun_mk (st := s_share_by) l30 c30 k30
  have F31 := fun_mk (st := s_need_pack) l31 c31 k31
  have F32 := fun_mk (st := s_need_fraction) l32 c32 k32
  have F33 := fun_mk (st := s_total) l33 c33 k33
  have F34 := fun_mk (st := s_part) l34 c34 k34
  have F35 := fun_mk (st := s_are_needs) l35 c35 k35
  have F36 := fun_mk (st := s_need_needs) l36 c36 k36
  have F37 := fun_mk (st := s_due_number) l37 c37 k37
  have F38 := fun_mk (st := s_is_paper) l38 c38 k38
  have F39 := fun_mk (st := s_just_cases) l39 c39 k39
  have F40 := fun_mk (st := s_all_share) l40 c40 k40
  have F41 := fun_mk (st := s_last_share) l41 c41 k41
  have F42 := fun_mk (st := s_lacking) l42 c42 k42
  have F43 := fun_mk (st := s_pack_many) l43 c43 k43
  have F44 := fun_mk (st := s_pack_cases) l44 c44 k44
  have F45 := fun_mk (st := s_paper_of_packs) l45 c45 k45
  have F46 := fun_mk (st := s_show) l46 c46 k46
  have F47 := fun_mk (st := s_added) l47 c47 k47
  have F48 := fun_mk (st := s_lessened) l48 c48 k48
  have F49 := fun_mk (st := s_multiplied) l49 c49 k49
  have F50 := fun_mk (st := s_is_less) l50 c50 k50
  have F51 := fun_mk (st := s_needs_share) l51 c51 k51
  have F52 := fun_mk (st := s_paper_of_papers) l52 c52 k52
  have F53 := fun_mk (st := s_due_pairs) l53 c53 k53
  have F54 := fun_mk (st := s_pack_mean) l54 c54 k54
  have F55 := fun_mk (st := s_is_pack_paper) l55 c55 k55
  have F56 := fun_mk (st := s_pack_paper) l56 c56 k56
  have F57 := fun_mk (st := s_is_time_paper) l57 c57 k57
  have F58 := fun_mk (st := s_time_paper) l58 c58 k58
  have F59 := fun_mk (st := s_over_bound) l59 c59 k59
  have F60 := fun_mk (st := s_under_bound) l60 c60 k60
  have F61 := fun_mk (st := s_mean_all) l61 c61 k61
  have F62 := fun_mk (st := s__law_by_numbers) l62 c62 k62
  have F63 := fun_mk (st := s__law_by_packs) l63 c63 k63
  have F64 := fun_mk (st := s_mean_of) l64 c64 k64
  have F65 := fun_mk (st := s_any_of) l65 c65 k65
  have F66 := fun_mk (st := s_mean_needs) l66 c66 k66
  have F67 := fun_mk (st := s_mean_any) l67 c67 k67
  have F68 := fun_mk (st := s__law_by_shares) l68 c68 k68
  have F69 := fun_mk (st := s__law_said) l69 c69 k69
  have F70 := fun_mk (st := s__law_shares_right) l70 c70 k70
  have F71 := fun_mk (st := s__law_needs_right) l71 c71 k71
  have F72 := fun_mk (st := s__law_numbers_right) l72 c72 k72
  have F73 := fun_mk (st := s_law) l73 c73 k73
  refine ⟨PySem.W.fnOf "law" "law" (defArgs s_law) (defBody s_law) (defScope s_law) .none kV73 dc73 pm73 an73 cd73 ct73, fun s v => .of_eq rfl, fun base _ _ => ?_⟩
  have C1 : Cl P w K mg base 1 "is_whole" f_isWhole := ok_is_whole (P := P) (w := w) (base := base) F1 (PySem.W.mg_of X G a1) y_isinstance y_bool y_int
  have C2 : Cl P w K mg base 1 "greatest_common" f_gcd := ok_greatest_common (P := P) (w := w) (base := base) F2 (PySem.W.mg_of X G a2) 
  have C3 : Cl P w K mg base 1 "raised" f_raised := ok_raised (P := P) (w := w) (base := base) F3 (PySem.W.mg_of X G a3) y_range
  have C4 : Cl P w K mg base 1 "below" f_never := ok_below (P := P) (w := w) (base := base) F4 (PySem.W.mg_of X G a4) 
  have C5 : Cl P w K mg base 1 "sum_part" f_never := ok_sum_part (P := P) (w := w) (base := base) F5 (PySem.W.mg_of X G a5) 
  have C6 : Cl P w K mg base 1 "all_some" f_never := ok_all_some (P := P) (w := w) (base := base) F6 (PySem.W.mg_of X G a6) 
  have X7 : ClX P w K mg base 1 "need_few" (fnC [c_NoShares, c_NoKind, c_NoNumber, c_NoNeeds, c_TooMany, (0 : Addr), (0 : Addr), c_NoText] 1 4 bFew preFew) := ok_need_few (P := P) (w := w) (base := base) F7 (PySem.W.mg_of X G a7) x_MOST_STATES r_TooMany
  have C7 : Cl P w K mg base 1 "need_few" f_needFew := X7.cl of_needFew
  have C8 : Cl P w K mg base 1 "one_less" f_oneLess := ok_one_less (P := P) (w := w) (base := base) F8 (PySem.W.mg_of X G a8) y_max
  have C9 : Cl P w K mg base 1 "every" f_never := ok_every (P := P) (w := w) (base := base) F9 (PySem.W.mg_of X G a9) 
  have C10 : Cl P w K mg base 1 "choices" f_never := ok_choices (P := P) (w := w) (base := base) F10 (PySem.W.mg_of X G a10) 
  have C11 : Cl P w K mg base 1 "_law_cell" f_cell := ok__law_cell (P := P) (w := w) (base := base) F11 (PySem.W.mg_of X G a11) y_len
  have C12 : Cl P w K mg base 1 "_law_mix" f_mix := ok__law_mix (P := P) (w := w) (base := base) F12 (PySem.W.mg_of X G a12) 
  have C13 : Cl P w K mg base 1 "_law_take" f_take := ok__law_take (P := P) (w := w) (base := base) F13 (PySem.W.mg_of X G a13) y_divmod
  have C14 : ClP P w K mg base 1 "_law_marks" (okL K [c_NoShares, c_NoKind, c_NoNumber, c_NoNeeds, c_TooMany, c_NoText] c_GatherError) (f_marksN K [c_NoShares, c_NoKind, c_NoNumber, c_NoNeeds, c_TooMany, c_NoText] c_GatherError) := ok__law_marks (P := P) (w := w) (base := base) F14 (PySem.W.mg_of X G a14) y_isinstance y_ValueError y_GatherError y_NoNeeds y_NoNumber y_NoKind y_NoShares y_NoText y_TooMany
  have C15 : Cl P w K mg base 2 "made" f_made := ok_made (P := P) (w := w) (base := base) F15 (PySem.W.mg_of X G a15) y_abs C2
  have X16 : ClX P w K mg base 2 "need_number" (fnE [c_NoShares, c_NoKind, c_NoNumber, c_NoNeeds, c_TooMany, (0 : Addr), (0 : Addr), c_NoText] 3 eNeedNumber preNumber) := ok_need_number (P := P) (w := w) (base := base) F16 (PySem.W.mg_of X G a16) C1 r_NoNumber
  have C16 : Cl P w K mg base 2 "need_number" f_needNumber := X16.cl of_needNumber
  have C17 : Cl P w K mg base 2 "is_shares" f_isShares := ok_is_shares (P := P) (w := w) (base := base) F17 (PySem.W.mg_of X G a17) y_len y_isinstance y_tuple y_all x_MOST_KINDS x_MOST_SHARE C1
  have C18 : Cl P w K mg base 2 "are_kinds" f_areKinds := ok_are_kinds (P := P) (w := w) (base := base) F18 (PySem.W.mg_of X G a18) y_all y_isinstance y_tuple y_range y_len C1
  have C19 : Cl P w K mg base 2 "right_needs" f_rightNeeds := ok_right_needs (P := P) (w := w) (base := base) F19 (PySem.W.mg_of X G a19) y_len y_isinstance y_tuple y_all x_MOST_NEED C1
  have C20 : Cl P w K mg base 2 "cases_of" f_never := ok_cases_of (P := P) (w := w) (base := base) F20 (PySem.W.mg_of X G a20) 
  have C21 : Cl P w K mg base 2 "_law_box" f_box := ok__law_box (P := P) (w := w) (base := base) F21 (PySem.W.mg_of X G a21) y_abs y_range C11 C12
  have C22 : Cl P w K mg base 2 "_law_drawn_shares" f_drawnShares := ok__law_drawn_shares (P := P) (w := w) (base := base) F22 (PySem.W.mg_of X G a22) y_tuple y_range C13
  have C23 : Cl P w K mg base 2 "_law_no_shares" f_noShares := ok__law_no_shares (P := P) (w := w) (base := base) F23 (PySem.W.mg_of X G a23) C13
  have C24 : Cl P w K mg base 3 "is_fraction" f_isFrac := ok_is_fraction (P := P) (w := w) (base := base) F24 (PySem.W.mg_of X G a24) y_len y_isinstance y_tuple C1 C15
  have X25 : ClX P w K mg base 3 "lowest" (fnR [c_NoShares, c_NoKind, c_NoNumber, c_NoNeeds, c_TooMany, (0 : Addr), (0 : Addr), c_NoText] 2 rLow) := ok_lowest (P := P) (w := w) (base := base) F25 (PySem.W.mg_of X G a25) C1 C15 r_NoNumber
  have C26 : Cl P w K mg base 3 "sum_of" f_sumOf := ok_sum_of (P := P) (w := w) (base := base) F26 (PySem.W.mg_of X G a26) C15
  have C27 : Cl P w K mg base 3 "times_of" f_timesOf := ok_times_of (P := P) (w := w) (base := base) F27 (PySem.W.mg_of X G a27) C15
  have X28 : ClX P w K mg base 3 "need_shares" (fnE [c_NoShares, c_NoKind, c_NoNumber, c_NoNeeds, c_TooMany, (0 : Addr), (0 : Addr), c_NoText] 1 eNeedShares anyD) := ok_need_shares (P := P) (w := w) (base := base) F28 (PySem.W.mg_of X G a28) C17 r_NoShares
  have C28 : Cl P w K mg base 3 "need_shares" f_needShares := X28.cl of_needShares
  have X29 : ClX P w K mg base 3 "need_kinds" (fnC [c_NoShares, c_NoKind, c_NoNumber, c_NoNeeds, c_TooMany, (0 : Addr), (0 : Addr), c_NoText] 2 1 bKinds preKinds) := ok_need_kinds (P := P) (w := w) (base := base) F29 (PySem.W.mg_of X G a29) y_len C18 r_NoKind
  have C30 : Cl P w K mg base 3 "share_by" f_never := ok_share_by (P := P) (w := w) (base := base) F30 (PySem.W.mg_of X G a30) 
  have X31 : ClX P w K mg base 3 "need_pack" (fnC [c_NoShares, c_NoKind, c_NoNumber, c_NoNeeds, c_TooMany, (0 : Addr), (0 : Addr), c_NoText] 2 2 bPack anyD) := ok_need_pack (P := P) (w := w) (base := base) F31 (PySem.W.mg_of X G a31) y_min x_MOST_KINDS x_MOST_SIZE X16
  have X32 : ClX P w K mg base 4 "need_fraction" (fnC [c_NoShares, c_NoKind, c_NoNumber, c_NoNeeds, c_TooMany, (0 : Addr), (0 : Addr), c_NoText] 1 2 bFrac preFrac) := ok_need_fraction (P := P) (w := w) (base := base) F32 (PySem.W.mg_of X G a32) C24 r_NoNumber
  have X33 : ClX P w K mg base 4 "total" (fnR [c_NoShares, c_NoKind, c_NoNumber, c_NoNeeds, c_TooMany, (0 : Addr), (0 : Addr), c_NoText] 1 rS1) := ok_total (P := P) (w := w) (base := base) F33 (PySem.W.mg_of X G a33) y_sum X28
  have X34 : ClX P w K mg base 4 "part" (fnR [c_NoShares, c_NoKind, c_NoNumber, c_NoNeeds, c_TooMany, (0 : Addr), (0 : Addr), c_NoText] 2 rPart) := ok_part (P := P) (w := w) (base := base) F34 (PySem.W.mg_of X G a34) y_sum C15 C5 X28 X29
  have O35 := fok_are_needs (P := P) (w := w) (base := base) F35 (PySem.W.mg_of X G a35) C28 C19
  have C35 : Cl P w K mg base 4 "are_needs" f_areNeeds := ok_are_needs (P := P) (w := w) (base := base) F35 (PySem.W.mg_of X G a35) O35
  have X35 : ClX P w K mg base 4 "are_needs" (orX f_areNeeds (fnR [c_NoShares, c_NoKind, c_NoNumber, c_NoNeeds, c_TooMany, (0 : Addr), (0 : Addr), c_NoText] 2 rS2)) := okx_are_needs (P := P) (w := w) (base := base) F35 (PySem.W.mg_of X G a35) C19 X28 O35
  have X36 : ClX P w K mg base 4 "need_needs" (fnE [c_NoShares, c_NoKind, c_NoNumber, c_NoNeeds, c_TooMany, (0 : Addr), (0 : Addr), c_NoText] 2 eNeedNeeds anyD) := ok_need_needs (P := P) (w := w) (base := base) F36 (PySem.W.mg_of X G a36) C19 X28 r_NoNeeds
  have C36 : Cl P w K mg base 4 "need_needs" f_needNeeds := X36.cl of_needNeeds
  have C37 : Cl P w K mg base 4 "due_number" f_never := ok_due_number (P := P) (w := w) (base := base) F37 (PySem.W.mg_of X G a37) 
  have C38 : Cl P w K mg base 4 "is_paper" f_never := ok_is_paper (P := P) (w := w) (base := base) F38 (PySem.W.mg_of X G a38) 
  have X39 : ClX P w K mg base 4 "just_cases" (fnR [c_NoShares, c_NoKind, c_NoNumber, c_NoNeeds, c_TooMany, (0 : Addr), (0 : Addr), c_NoText] 3 rJust) := ok_just_cases (P := P) (w := w) (base := base) F39 (PySem.W.mg_of X G a39) x_MOST_DRAWS_coming C20 X28 X29 X16
  have X40 : ClX P w K mg base 4 "all_share" (fnR [c_NoShares, c_NoKind, c_NoNumber, c_NoNeeds, c_TooMany, (0 : Addr), (0 : Addr), c_NoText] 2 rNum12) := ok_all_share (P := P) (w := w) (base := base) F40 (PySem.W.mg_of X G a40) x_MOST_DRAWS_coming C30 X28 X16
  have X41 : ClX P w K mg base 4 "last_share" (fnR [c_NoShares, c_NoKind, c_NoNumber, c_NoNeeds, c_TooMany, (0 : Addr), (0 : Addr), c_NoText] 2 rNum12) := ok_last_share (P := P) (w := w) (base := base) F41 (PySem.W.mg_of X G a41) x_MOST_DRAWS_coming x_NOUGHT C30 C26 X28 X16
  have X42 : ClX P w K mg base 4 "lacking" (fnR [c_NoShares, c_NoKind, c_NoNumber, c_NoNeeds, c_TooMany, (0 : Addr), (0 : Addr), c_NoText] 2 rNum12) := ok_lacking (P := P) (w := w) (base := base) F42 (PySem.W.mg_of X G a42) y_sum x_MOST_DRAWS_coming x_NOUGHT C26 C15 C3 X28 X16
  have X43 : ClX P w K mg base 4 "pack_many" (fnR [c_NoShares, c_NoKind, c_NoNumber, c_NoNeeds, c_TooMany, (0 : Addr), (0 : Addr), c_NoText] 2 rPk2) := ok_pack_many (P := P) (w := w) (base := base) F43 (PySem.W.mg_of X G a43) C10 X31
  have X44 : ClX P w K mg base 4 "pack_cases" (fnR [c_NoShares, c_NoKind, c_NoNumber, c_NoNeeds, c_TooMany, (0 : Addr), (0 : Addr), c_NoText] 3 rPkC) := ok_pack_cases (P := P) (w := w) (base := base) F44 (PySem.W.mg_of X G a44) y_range x_MOST_PACKS C10 C3 X31 X16
  have C45 : Cl P w K mg base 4 "paper_of_packs" f_never := ok_paper_of_packs (P := P) (w := w) (base := base) F45 (PySem.W.mg_of X G a45) 
  have X46 : ClX P w K mg base 4 "show" (fnR [c_NoShares, c_NoKind, c_NoNumber, c_NoNeeds, c_TooMany, (0 : Addr), (0 : Addr), c_NoText] 1 rS1) := ok_show (P := P) (w := w) (base := base) F46 (PySem.W.mg_of X G a46) y_str X28
  have X47 : ClX P w K mg base 5 "added" (fnR [c_NoShares, c_NoKind, c_NoNumber, c_NoNeeds, c_TooMany, (0 : Addr), (0 : Addr), c_NoText] 2 rFr2) := ok_added (P := P) (w := w) (base := base) F47 (PySem.W.mg_of X G a47) C26 X32
  have X48 : ClX P w K mg base 5 "lessened" (fnR [c_NoShares, c_NoKind, c_NoNumber, c_NoNeeds, c_TooMany, (0 : Addr), (0 : Addr), c_NoText] 2 rFr2) := ok_lessened (P := P) (w := w) (base := base) F48 (PySem.W.mg_of X G a48) C26 X32
  have X49 : ClX P w K mg base 5 "multiplied" (fnR [c_NoShares, c_NoKind, c_NoNumber, c_NoNeeds, c_TooMany, (0 : Addr), (0 : Addr), c_NoText] 2 rFr2) := ok_multiplied (P := P) (w := w) (base := base) F49 (PySem.W.mg_of X G a49) C27 X32
  have X50 : ClX P w K mg base 5 "is_less" (fnR [c_NoShares, c_NoKind, c_NoNumber, c_NoNeeds, c_TooMany, (0 : Addr), (0 : Addr), c_NoText] 2 rFr2) := ok_is_less (P := P) (w := w) (base := base) F50 (PySem.W.mg_of X G a50) C4 X32
  have O51 := fok_needs_share (P := P) (w := w) (base := base) F51 (PySem.W.mg_of X G a51) y_range y_enumerate y_sum y_len x_MOST_DRAWS_needs C36 C16 C7 C8 C15 C3
  have C51 : Cl P w K mg base 5 "needs_share" f_needsShare := ok_needs_share (P := P) (w := w) (base := base) F51 (PySem.W.mg_of X G a51) O51
  have X51 : ClX P w K mg base 5 "needs_share" (orX f_needsShare (fnR [c_NoShares, c_NoKind, c_NoNumber, c_NoNeeds, c_TooMany, (0 : Addr), (0 : Addr), c_NoText] 3 rNeedsN)) := okx_needs_share (P := P) (w := w) (base := base) F51 (PySem.W.mg_of X G a51) y_range y_enumerate y_sum y_len x_MOST_DRAWS_needs C8 C15 C3 X36 X16 X7 O51
  have C52 : Cl P w K mg base 5 "paper_of_papers" f_never := ok_paper_of_papers (P := P) (w := w) (base := base) F52 (PySem.W.mg_of X G a52) 
  have C53 : Cl P w K mg base 5 "due_pairs" f_never := ok_due_pairs (P := P) (w := w) (base := base) F53 (PySem.W.mg_of X G a53) 
  have X54 : ClX P w K mg base 5 "pack_mean" (fnR [c_NoShares, c_NoKind, c_NoNumber, c_NoNeeds, c_TooMany, (0 : Addr), (0 : Addr), c_NoText] 2 rPk2) := ok_pack_mean (P := P) (w := w) (base := base) F54 (PySem.W.mg_of X G a54) C45 X31
  have X55 : ClX P w K mg base 5 "is_pack_paper" (fnR [c_NoShares, c_NoKind, c_NoNumber, c_NoNeeds, c_TooMany, (0 : Addr), (0 : Addr), c_NoText] 3 rPkI) := ok_is_pack_paper (P := P) (w := w) (base := base) F55 (PySem.W.mg_of X G a55) y_all y_isinstance y_list C45 C24 X31
  have X56 : ClX P w K mg base 5 "pack_paper" (fnR [c_NoShares, c_NoKind, c_NoNumber, c_NoNeeds, c_TooMany, (0 : Addr), (0 : Addr), c_NoText] 2 rPk2) := ok_pack_paper (P := P) (w := w) (base := base) F56 (PySem.W.mg_of X G a56) C45 X31
  have X57 : ClX P w K mg base 6 "is_time_paper" (fnR [c_NoShares, c_NoKind, c_NoNumber, c_NoNeeds, c_TooMany, (0 : Addr), (0 : Addr), c_NoText] 2 rS2) := ok_is_time_paper (P := P) (w := w) (base := base) F57 (PySem.W.mg_of X G a57) y_all C53 C38 X28
  have X58 : ClX P w K mg base 6 "time_paper" (fnR [c_NoShares, c_NoKind, c_NoNumber, c_NoNeeds, c_TooMany, (0 : Addr), (0 : Addr), c_NoText] 1 rS1) := ok_time_paper (P := P) (w := w) (base := base) F58 (PySem.W.mg_of X G a58) C52 X28
  have X59 : ClX P w K mg base 6 "over_bound" (fnR [c_NoShares, c_NoKind, c_NoNumber, c_NoNeeds, c_TooMany, (0 : Addr), (0 : Addr), c_NoText] 2 rS2) := ok_over_bound (P := P) (w := w) (base := base) F59 (PySem.W.mg_of X G a59) y_any y_range y_len y_tuple C53 C4 C38 X28
  have X60 : ClX P w K mg base 6 "under_bound" (fnR [c_NoShares, c_NoKind, c_NoNumber, c_NoNeeds, c_TooMany, (0 : Addr), (0 : Addr), c_NoText] 2 rS2) := ok_under_bound (P := P) (w := w) (base := base) F60 (PySem.W.mg_of X G a60) y_any y_range y_len y_tuple C53 C4 C38 X28
  have X61 : ClX P w K mg base 6 "mean_all" (fnR [c_NoShares, c_NoKind, c_NoNumber, c_NoNeeds, c_TooMany, (0 : Addr), (0 : Addr), c_NoText] 1 rS1) := ok_mean_all (P := P) (w := w) (base := base) F61 (PySem.W.mg_of X G a61) C52 C9 X28
  have X62 : ClX P w K mg base 6 "_law_by_numbers" (f_byNum [c_NoShares, c_NoKind, c_NoNumber, c_NoNeeds, c_TooMany, (0 : Addr), (0 : Addr), c_NoText]) := ok__law_by_numbers (P := P) (w := w) (base := base) F62 (PySem.W.mg_of X G a62) X25 X47 X48 X49 X50
  have X63 : ClX P w K mg base 6 "_law_by_packs" (f_byPk [c_NoShares, c_NoKind, c_NoNumber, c_NoNeeds, c_TooMany, (0 : Addr), (0 : Addr), c_NoText]) := ok__law_by_packs (P := P) (w := w) (base := base) F63 (PySem.W.mg_of X G a63) X43 X54 X56 X55 X44
  have C64 : Cl P w K mg base 13 "mean_of" (f_meanOf 10) := ok_mean_of (P := P) (w := w) (base := base) F64 (PySem.W.mg_of X G a64) y_range y_len y_sum C26 C27 C8
  have C65 : Cl P w K mg base 13 "any_of" (f_anyOf 10) := ok_any_of (P := P) (w := w) (base := base) F65 (PySem.W.mg_of X G a65) y_sum y_enumerate x_NOUGHT C26 C27 C8
  have O66 := fok_mean_needs (P := P) (w := w) (base := base) F66 (PySem.W.mg_of X G a66) y_len x_NOUGHT C36 C7 C64
  have C66 : Cl P w K mg base 14 "mean_needs" f_meanNeeds := ok_mean_needs (P := P) (w := w) (base := base) F66 (PySem.W.mg_of X G a66) O66
  have X66 : ClX P w K mg base 14 "mean_needs" (orX f_meanNeeds (fnR [c_NoShares, c_NoKind, c_NoNumber, c_NoNeeds, c_TooMany, (0 : Addr), (0 : Addr), c_NoText] 2 rNeeds)) := okx_mean_needs (P := P) (w := w) (base := base) F66 (PySem.W.mg_of X G a66) y_len x_NOUGHT C64 X36 X7 O66
  have O67 := fok_mean_any (P := P) (w := w) (base := base) F67 (PySem.W.mg_of X G a67) C36 C7 C65
  have C67 : Cl P w K mg base 14 "mean_any" f_meanAny := ok_mean_any (P := P) (w := w) (base := base) F67 (PySem.W.mg_of X G a67) O67
  have X67 : ClX P w K mg base 14 "mean_any" (orX f_meanAny (fnR [c_NoShares, c_NoKind, c_NoNumber, c_NoNeeds, c_TooMany, (0 : Addr), (0 : Addr), c_NoText] 2 rNeeds)) := okx_mean_any (P := P) (w := w) (base := base) F67 (PySem.W.mg_of X G a67) C65 X36 X7 O67
  have X68 : ClX P w K mg base 15 "_law_by_shares" (f_bySh [c_NoShares, c_NoKind, c_NoNumber, c_NoNeeds, c_TooMany, (0 : Addr), (0 : Addr), c_NoText]) := ok__law_by_shares (P := P) (w := w) (base := base) F68 (PySem.W.mg_of X G a68) X33 X46 X61 X58 X57 X59 X60 X35 X34 X39 X40 X41 X42 X66 X51 X67
  have C69 : Cl P w K mg base 16 "_law_said" f_said05 := ok__law_said (P := P) (w := w) (base := base) F69 (PySem.W.mg_of X G a69) C14 X68 X62 X63 y_GatherError w_NoShares w_NoKind w_NoNumber w_NoNeeds w_TooMany
  have C70 : Cl P w K mg base 17 "_law_shares_right" f_shRight := ok__law_shares_right (P := P) (w := w) (base := base) F70 (PySem.W.mg_of X G a70) y_len C13 C69
  have C71 : Cl P w K mg base 17 "_law_needs_right" f_shRight := ok__law_needs_right (P := P) (w := w) (base := base) F71 (PySem.W.mg_of X G a71) y_len C13 C69
  have C72 : Cl P w K mg base 17 "_law_numbers_right" f_nbRight := ok__law_numbers_right (P := P) (w := w) (base := base) F72 (PySem.W.mg_of X G a72) y_range C13 C69
  exact ok_law F73 y_range y_max y_min y_len C21 C22 C23 C69 C71 C70 C72
end
end Law
open PySem PySem.W PyProof.Rows
set_option maxRecDepth 100000 in
set_option maxHeartbeats 0 in
theorem PySem.Challenge.cw_kindsgathered_k05_what_is_refused_first_holds : PySem.Challenge.rw_kindsgathered_k05_what_is_refused_first.Holds := by
  w_on; o_law; k_head; (case hw => w_witness2)
  k_fill
  refine DL.walkG (l := PySem.Challenge.rw_kindsgathered_k05_what_is_refused_first) (n := 63) (k := 18) (x := "_law_script") (sp := DL.f_law) rfl (by decide) rfl ⟨rfl, by decide, by decide⟩ (fun w h Y => PySem.W.kIn_of Y) ?F Law.law_ends
  case F =>
    intro w mg fa h KX G hmg
    refine' Law.all_mk KX G hmg ?a1 ?l1 ?c1 ?k1 ?a2 ?l2 ?c2 ?k2 ?a3 ?l3 ?c3 ?k3 ?a4 ?l4 ?c4 ?k4 ?a5 ?l5 ?c5 ?k5 ?a6 ?l6 ?c6 ?k6 ?a7 ?l7 ?c7 ?k7 ?a8 ?l8 ?c8 ?k8 ?a9 ?l9 ?c9 ?k9 ?a10 ?l10 ?c10 ?k10 ?a11 ?l11 ?c11 ?k11 ?a12 ?l12 ?c12 ?k12 ?a13 ?l13 ?c13 ?k13 ?a14 ?l14 ?c14 ?k14 ?a15 ?l15 ?c15 ?k15 ?a16 ?l16 ?c16 ?k16 ?a17 ?l17 ?c17 ?k17 ?a18 ?l18 ?c18 ?k18 ?a19 ?l19 ?c19 ?k19 ?a20 ?l20 ?c20 ?k20 ?a21 ?l21 ?c21 ?k21 ?a22 ?l22 ?c22 ?k22 ?a23 ?l23 ?c23 ?k23 ?a24 ?l24 ?c24 ?k24 ?a25 ?l25 ?c25 ?k25 ?a26 ?l26 ?c26 ?k26 ?a27 ?l27 ?c27 ?k27 ?a28 ?l28 ?c28 ?k28 ?a29 ?l29 ?c29 ?k29 ?a30 ?l30 ?c30 ?k30 ?a31 ?l31 ?c31 ?k31 ?a32 ?l32 ?c32 ?k32 ?a33 ?l33 ?c33 ?k33 ?a34 ?l34 ?c34 ?k34 ?a35 ?l35 ?c35 ?k35 ?a36 ?l36 ?c36 ?k36 ?a37 ?l37 ?c37 ?k37 ?a38 ?l38 ?c38 ?k38 ?a39 ?l39 ?c39 ?k39 ?a40 ?l40 ?c40 ?k40 ?a41 ?l41 ?c41 ?k41 ?a42 ?l42 ?c42 ?k42 ?a43 ?l43 ?c43 ?k43 ?a44 ?l44 ?c44 ?k44 ?a45 ?l45 ?c45 ?k45 ?a46 ?l46 ?c46 ?k46 ?a47 ?l47 ?c47 ?k47 ?a48 ?l48 ?c48 ?k48 ?a49 ?l49 ?c49 ?k49 ?a50 ?l50 ?c50 ?k50 ?a51 ?l51 ?c51 ?k51 ?a52 ?l52 ?c52 ?k52 ?a53 ?l53 ?c53 ?k53 ?a54 ?l54 ?c54 ?k54 ?a55 ?l55 ?c55 ?k55 ?a56 ?l56 ?c56 ?k56 ?a57 ?l57 ?c57 ?k57 ?a58 ?l58 ?c58 ?k58 ?a59 ?l59 ?c59 ?k59 ?a60 ?l60 ?c60 ?k60 ?a61 ?l61 ?c61 ?k61 ?a62 ?l62 ?c62 ?k62 ?a63 ?l63 ?c63 ?k63 ?a64 ?l64 ?c64 ?k64 ?a65 ?l65 ?c65 ?k65 ?a66 ?l66 ?c66 ?k66 ?a67 ?l67 ?c67 ?k67 ?a68 ?l68 ?c68 ?k68 ?a69 ?l69 ?c69 ?k69 ?a70 ?l70 ?c70 ?k70 ?a71 ?l71 ?c71 ?k71 ?a72 ?l72 ?c72 ?k72 ?a73 ?l73 ?c73 ?k73 ?z_ValueError ?z_abs ?z_all ?z_any ?z_bool ?z_divmod ?z_enumerate ?z_int ?z_isinstance ?z_len ?z_list ?z_max ?z_min ?z_range ?z_str ?z_sum ?z_tuple ?g_MOST_DRAWS_coming ?g_MOST_DRAWS_needs ?g_MOST_KINDS ?g_MOST_NEED ?g_MOST_PACKS ?g_MOST_SHARE ?g_MOST_SIZE ?g_MOST_STATES ?g_NOUGHT ?o_NOUGHT ?n_GatherError ?n_NoKind ?n_NoNeeds ?n_NoNumber ?n_NoShares ?n_NoText ?n_TooMany ?q_NoKind ?kp_NoKind ?bs_NoKind ?ty_NoKind ?q_NoNeeds ?kp_NoNeeds ?bs_NoNeeds ?ty_NoNeeds ?q_NoNumber ?kp_NoNumber ?bs_NoNumber ?ty_NoNumber ?q_NoShares ?kp_NoShares ?bs_NoShares ?ty_NoShares ?q_TooMany ?kp_TooMany ?bs_TooMany ?ty_TooMany ?xg_NoKind ?xk_NoKind ?xs_NoKind ?xd_NoKind ?xa_NoKind ?xm_NoKind ?kv_NoKind ?kg_NoKind ?em_NoKind ?ko0_NoKind ?ko1_NoKind ?ko2_NoKind ?ko3_NoKind ?ko4_NoKind ?ko5_NoKind ?xg_NoNeeds ?xk_NoNeeds ?xs_NoNeeds ?xd_NoNeeds ?xa_NoNeeds ?xm_NoNeeds ?kv_NoNeeds ?kg_NoNeeds ?em_NoNeeds ?ko0_NoNeeds ?ko1_NoNeeds ?ko2_NoNeeds ?ko3_NoNeeds ?ko4_NoNeeds ?ko5_NoNeeds ?xg_NoNumber ?xk_NoNumber ?xs_NoNumber ?xd_NoNumber ?xa_NoNumber ?xm_NoNumber ?kv_NoNumber ?kg_NoNumber ?em_NoNumber ?ko0_NoNumber ?ko1_NoNumber ?ko2_NoNumber ?ko3_NoNumber ?ko4_NoNumber ?ko5_NoNumber ?xg_NoShares ?xk_NoShares ?xs_NoShares ?xd_NoShares ?xa_NoShares ?xm_NoShares ?kv_NoShares ?kg_NoShares ?em_NoShares ?ko0_NoShares ?ko1_NoShares ?ko2_NoShares ?ko3_NoShares ?ko4_NoShares ?ko5_NoShares ?xg_TooMany ?xk_TooMany ?xs_TooMany ?xd_TooMany ?xa_TooMany ?xm_TooMany ?kv_TooMany ?kg_TooMany ?em_TooMany ?ko0_TooMany ?ko1_TooMany ?ko2_TooMany ?ko3_TooMany ?ko4_TooMany ?ko5_TooMany ?x_n ?x_t
    (case a1 => k_is)
    (case l1 => k_is)
    (case c1 => k_is)
    (case k1 => k_is)
    (case a2 => k_is)
    (case l2 => k_is)
    (case c2 => k_is)
    (case k2 => k_is)
    (case a3 => k_is)
    (case l3 => k_is)
    (case c3 => k_is)
    (case k3 => k_is)
    (case a4 => k_is)
    (case l4 => k_is)
    (case c4 => k_is)
    (case k4 => k_is)
    (case a5 => k_is)
    (case l5 => k_is)
    (case c5 => k_is)
    (case k5 => k_is)
    (case a6 => k_is)
    (case l6 => k_is)
    (case c6 => k_is)
    (case k6 => k_is)
    (case a7 => k_is)
    (case l7 => k_is)
    (case c7 => k_is)
    (case k7 => k_is)
    (case a8 => k_is)
    (case l8 => k_is)
    (case c8 => k_is)
    (case k8 => k_is)
    (case a9 => k_is)
    (case l9 => k_is)
    (case c9 => k_is)
    (case k9 => k_is)
    (case a10 => k_is)
    (case l10 => k_is)
    (case c10 => k_is)
    (case k10 => k_is)
    (case a11 => k_is)
    (case l11 => k_is)
    (case c11 => k_is)
    (case k11 => k_is)
    (case a12 => k_is)
    (case l12 => k_is)
    (case c12 => k_is)
    (case k12 => k_is)
    (case a13 => k_is)
    (case l13 => k_is)
    (case c13 => k_is)
    (case k13 => k_is)
    (case a14 => k_is)
    (case l14 => k_is)
    (case c14 => k_is)
    (case k14 => k_is)
    (case a15 => k_is)
    (case l15 => k_is)
    (case c15 => k_is)
    (case k15 => k_is)
    (case a16 => k_is)
    (case l16 => k_is)
    (case c16 => k_is)
    (case k16 => k_is)
    (case a17 => k_is)
    (case l17 => k_is)
    (case c17 => k_is)
    (case k17 => k_is)
    (case a18 => k_is)
    (case l18 => k_is)
    (case c18 => k_is)
    (case k18 => k_is)
    (case a19 => k_is)
    (case l19 => k_is)
    (case c19 => k_is)
    (case k19 => k_is)
    (case a20 => k_is)
    (case l20 => k_is)
    (case c20 => k_is)
    (case k20 => k_is)
    (case a21 => k_is)
    (case l21 => k_is)
    (case c21 => k_is)
    (case k21 => k_is)
    (case a22 => k_is)
    (case l22 => k_is)
    (case c22 => k_is)
    (case k22 => k_is)
    (case a23 => k_is)
    (case l23 => k_is)
    (case c23 => k_is)
    (case k23 => k_is)
    (case a24 => k_is)
    (case l24 => k_is)
    (case c24 => k_is)
    (case k24 => k_is)
    (case a25 => k_is)
    (case l25 => k_is)
    (case c25 => k_is)
    (case k25 => k_is)
    (case a26 => k_is)
    (case l26 => k_is)
    (case c26 => k_is)
    (case k26 => k_is)
    (case a27 => k_is)
    (case l27 => k_is)
    (case c27 => k_is)
    (case k27 => k_is)
    (case a28 => k_is)
    (case l28 => k_is)
    (case c28 => k_is)
    (case k28 => k_is)
    (case a29 => k_is)
    (case l29 => k_is)
    (case c29 => k_is)
    (case k29 => k_is)
    (case a30 => k_is)
    (case l30 => k_is)
    (case c30 => k_is)
    (case k30 => k_is)
    (case a31 => k_is)
    (case l31 => k_is)
    (case c31 => k_is)
    (case k31 => k_is)
    (case a32 => k_is)
    (case l32 => k_is)
    (case c32 => k_is)
    (case k32 => k_is)
    (case a33 => k_is)
    (case l33 => k_is)
    (case c33 => k_is)
    (case k33 => k_is)
    (case a34 => k_is)
    (case l34 => k_is)
    (case c34 => k_is)
    (case k34 => k_is)
    (case a35 => k_is)
    (case l35 => k_is)
    (case c35 => k_is)
    (case k35 => k_is)
    (case a36 => k_is)
    (case l36 => k_is)
    (case c36 => k_is)
    (case k36 => k_is)
    (case a37 => k_is)
    (case l37 => k_is)
    (case c37 => k_is)
    (case k37 => k_is)
    (case a38 => k_is)
    (case l38 => k_is)
    (case c38 => k_is)
    (case k38 => k_is)
    (case a39 => k_is)
    (case l39 => k_is)
    (case c39 => k_is)
    (case k39 => k_is)
    (case a40 => k_is)
    (case l40 => k_is)
    (case c40 => k_is)
    (case k40 => k_is)
    (case a41 => k_is)
    (case l41 => k_is)
    (case c41 => k_is)
    (case k41 => k_is)
    (case a42 => k_is)
    (case l42 => k_is)
    (case c42 => k_is)
    (case k42 => k_is)
    (case a43 => k_is)
    (case l43 => k_is)
    (case c43 => k_is)
    (case k43 => k_is)
    (case a44 => k_is)
    (case l44 => k_is)
    (case c44 => k_is)
    (case k44 => k_is)
    (case a45 => k_is)
    (case l45 => k_is)
    (case c45 => k_is)
    (case k45 => k_is)
    (case a46 => k_is)
    (case l46 => k_is)
    (case c46 => k_is)
    (case k46 => k_is)
    (case a47 => k_is)
    (case l47 => k_is)
    (case c47 => k_is)
    (case k47 => k_is)
    (case a48 => k_is)
    (case l48 => k_is)
    (case c48 => k_is)
    (case k48 => k_is)
    (case a49 => k_is)
    (case l49 => k_is)
    (case c49 => k_is)
    (case k49 => k_is)
    (case a50 => k_is)
    (case l50 => k_is)
    (case c50 => k_is)
    (case k50 => k_is)
    (case a51 => k_is)
    (case l51 => k_is)
    (case c51 => k_is)
    (case k51 => k_is)
    (case a52 => k_is)
    (case l52 => k_is)
    (case c52 => k_is)
    (case k52 => k_is)
    (case a53 => k_is)
    (case l53 => k_is)
    (case c53 => k_is)
    (case k53 => k_is)
    (case a54 => k_is)
    (case l54 => k_is)
    (case c54 => k_is)
    (case k54 => k_is)
    (case a55 => k_is)
    (case l55 => k_is)
    (case c55 => k_is)
    (case k55 => k_is)
    (case a56 => k_is)
    (case l56 => k_is)
    (case c56 => k_is)
    (case k56 => k_is)
    (case a57 => k_is)
    (case l57 => k_is)
    (case c57 => k_is)
    (case k57 => k_is)
    (case a58 => k_is)
    (case l58 => k_is)
    (case c58 => k_is)
    (case k58 => k_is)
    (case a59 => k_is)
    (case l59 => k_is)
    (case c59 => k_is)
    (case k59 => k_is)
    (case a60 => k_is)
    (case l60 => k_is)
    (case c60 => k_is)
    (case k60 => k_is)
    (case a61 => k_is)
    (case l61 => k_is)
    (case c61 => k_is)
    (case k61 => k_is)
    (case a62 => k_is)
    (case l62 => k_is)
    (case c62 => k_is)
    (case k62 => k_is)
    (case a63 => k_is)
    (case l63 => k_is)
    (case c63 => k_is)
    (case k63 => k_is)
    (case a64 => k_is)
    (case l64 => k_is)
    (case c64 => k_is)
    (case k64 => k_is)
    (case a65 => k_is)
    (case l65 => k_is)
    (case c65 => k_is)
    (case k65 => k_is)
    (case a66 => k_is)
    (case l66 => k_is)
    (case c66 => k_is)
    (case k66 => k_is)
    (case a67 => k_is)
    (case l67 => k_is)
    (case c67 => k_is)
    (case k67 => k_is)
    (case a68 => k_is)
    (case l68 => k_is)
    (case c68 => k_is)
    (case k68 => k_is)
    (case a69 => k_is)
    (case l69 => k_is)
    (case c69 => k_is)
    (case k69 => k_is)
    (case a70 => k_is)
    (case l70 => k_is)
    (case c70 => k_is)
    (case k70 => k_is)
    (case a71 => k_is)
    (case l71 => k_is)
    (case c71 => k_is)
    (case k71 => k_is)
    (case a72 => k_is)
    (case l72 => k_is)
    (case c72 => k_is)
    (case k72 => k_is)
    (case a73 => k_is)
    (case l73 => k_is)
    (case c73 => k_is)
    (case k73 => k_is)
    (case z_ValueError => k_is)
    (case z_abs => k_is)
    (case z_all => k_is)
    (case z_any => k_is)
    (case z_bool => k_is)
    (case z_divmod => k_is)
    (case z_enumerate => k_is)
    (case z_int => k_is)
    (case z_isinstance => k_is)
    (case z_len => k_is)
    (case z_list => k_is)
    (case z_max => k_is)
    (case z_min => k_is)
    (case z_range => k_is)
    (case z_str => k_is)
    (case z_sum => k_is)
    (case z_tuple => k_is)
    (case g_MOST_DRAWS_coming => k_is)
    (case g_MOST_DRAWS_needs => k_is)
    (case g_MOST_KINDS => k_is)
    (case g_MOST_NEED => k_is)
    (case g_MOST_PACKS => k_is)
    (case g_MOST_SHARE => k_is)
    (case g_MOST_SIZE => k_is)
    (case g_MOST_STATES => k_is)
    (case g_NOUGHT => k_is)
    (case o_NOUGHT => k_is)
    (case n_GatherError => k_is)
    (case n_NoKind => k_is)
    (case n_NoNeeds => k_is)
    (case n_NoNumber => k_is)
    (case n_NoShares => k_is)
    (case n_NoText => k_is)
    (case n_TooMany => k_is)
    (case q_NoKind => k_exc)
    (case kp_NoKind => k_is)
    (case bs_NoKind => k_is)
    (case ty_NoKind => k_is)
    (case q_NoNeeds => k_exc)
    (case kp_NoNeeds => k_is)
    (case bs_NoNeeds => k_is)
    (case ty_NoNeeds => k_is)
    (case q_NoNumber => k_exc)
    (case kp_NoNumber => k_is)
    (case bs_NoNumber => k_is)
    (case ty_NoNumber => k_is)
    (case q_NoShares => k_exc)
    (case kp_NoShares => k_is)
    (case bs_NoShares => k_is)
    (case ty_NoShares => k_is)
    (case q_TooMany => k_exc)
    (case kp_TooMany => k_is)
    (case bs_TooMany => k_is)
    (case ty_TooMany => k_is)
    (case xg_NoKind => k_is)
    (case xk_NoKind => k_is)
    (case xs_NoKind => k_is)
    (case xd_NoKind => k_is)
    (case xa_NoKind => k_is)
    (case xm_NoKind => k_is)
    (case kv_NoKind => kit_is)
    (case kg_NoKind => kit_is)
    (case em_NoKind => kts_exm)
    (case ko0_NoKind => kit_is)
    (case ko1_NoKind => kit_is)
    (case ko2_NoKind => kit_is)
    (case ko3_NoKind => kit_is)
    (case ko4_NoKind => kit_is)
    (case ko5_NoKind => kit_is)
    (case xg_NoNeeds => k_is)
    (case xk_NoNeeds => k_is)
    (case xs_NoNeeds => k_is)
    (case xd_NoNeeds => k_is)
    (case xa_NoNeeds => k_is)
    (case xm_NoNeeds => k_is)
    (case kv_NoNeeds => kit_is)
    (case kg_NoNeeds => kit_is)
    (case em_NoNeeds => kts_exm)
    (case ko0_NoNeeds => kit_is)
    (case ko1_NoNeeds => kit_is)
    (case ko2_NoNeeds => kit_is)
    (case ko3_NoNeeds => kit_is)
    (case ko4_NoNeeds => kit_is)
    (case ko5_NoNeeds => kit_is)
    (case xg_NoNumber => k_is)
    (case xk_NoNumber => k_is)
    (case xs_NoNumber => k_is)
    (case xd_NoNumber => k_is)
    (case xa_NoNumber => k_is)
    (case xm_NoNumber => k_is)
    (case kv_NoNumber => kit_is)
    (case kg_NoNumber => kit_is)
    (case em_NoNumber => kts_exm)
    (case ko0_NoNumber => kit_is)
    (case ko1_NoNumber => kit_is)
    (case ko2_NoNumber => kit_is)
    (case ko3_NoNumber => kit_is)
    (case ko4_NoNumber => kit_is)
    (case ko5_NoNumber => kit_is)
    (case xg_NoShares => k_is)
    (case xk_NoShares => k_is)
    (case xs_NoShares => k_is)
    (case xd_NoShares => k_is)
    (case xa_NoShares => k_is)
    (case xm_NoShares => k_is)
    (case kv_NoShares => kit_is)
    (case kg_NoShares => kit_is)
    (case em_NoShares => kts_exm)
    (case ko0_NoShares => kit_is)
    (case ko1_NoShares => kit_is)
    (case ko2_NoShares => kit_is)
    (case ko3_NoShares => kit_is)
    (case ko4_NoShares => kit_is)
    (case ko5_NoShares => kit_is)
    (case xg_TooMany => k_is)
    (case xk_TooMany => k_is)
    (case xs_TooMany => k_is)
    (case xd_TooMany => k_is)
    (case xa_TooMany => k_is)
    (case xm_TooMany => k_is)
    (case kv_TooMany => kit_is)
    (case kg_TooMany => kit_is)
    (case em_TooMany => kts_exm)
    (case ko0_TooMany => kit_is)
    (case ko1_TooMany => kit_is)
    (case ko2_TooMany => kit_is)
    (case ko3_TooMany => kit_is)
    (case ko4_TooMany => kit_is)
    (case ko5_TooMany => kit_is)
    (case x_n => k_is)
    (case x_t => k_is)
