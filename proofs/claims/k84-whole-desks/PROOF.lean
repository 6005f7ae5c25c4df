import PyProof.Rows.All
import Wide.All
import OpenK.AllK
import Wide.FinOn
import HandS.ForMost
import HandS.ForExc
import HandS.IsInst
import HandS.Wide
import HandS.TupAny
import HandS.TupMul
import HandS.Conv
import HandS.Deep
import PyProof.ReprRoads
import PyProof.SumWalkG
import PyProof.WalksMore
import HandS.EndBits
import PyProof.ReprLen
import HandS.TupLe
import HandS.Text
import HandS.StrSplit
import HandS.Iter
import HandS.Walk
import HandS.TryOnly
import KE.SortKeyHeap
import HandS.SortKw
import KE.KDictDisplayH
import HandS.SortInts
import HandS.Zip
import KE.GoesMore
import KE.KDictWalk
import HandS.Dict
import KE.KDictPairs
import KE.KDictCopyH
import HandS.Style
import HandS.HotCalls
import HandS.ExcIs
import HandS.ExcCtx
import HandS.Strs
import HandS.TupLen
import KE.SortData
import HandS.DictTup
import PyProof.StrLawsRepr
import KE.KDictKeyed
import HandS.CallLocal
import PyProof.ReprReads
import PyProof.ReprText
import PyProof.Rows.ReprOcc
import HandS.WordsDict
import HandS.SetFor
import HandS.Flow
import PySem.Challenge.RW_kindsgathered_k84_whole_desks
set_option Elab.async false
set_option linter.all false
set_option maxRecDepth 100000
set_option maxHeartbeats 4000000
namespace DL
open PySem L2
/-! data behind values -/
def keyD : Key → PyData
  | .inl i => .int i
  | .inr x => .str x
mutual
def Rp (K : PySem.W.Frag) (G : Hp) : PyData → V → Prop
  | .none, v => v = .non
  | .bool b, v => v = .bl b
  | .int i, v => v = .int i
  | .str s, v => v = .str s
  | .list ds, v => ∃ a xs, v = .ref a ∧ Rd G a (.lst xs) ∧ RpAll K G ds xs
  | .tuple ds, v => ∃ a xs, v = .ref a ∧ SqT K G a xs ∧ RpAll K G ds xs
  | .dict kvs, v => ∃ a, v = .ref a ∧ ((∃ es, G a = some (.dT es) ∧ RpT K G kvs es) ∨ (∃ es, G a = some (.dK es) ∧ RpK K G kvs es))
def RpAll (K : PySem.W.Frag) (G : Hp) : List PyData → List V → Prop
  | [], xs => xs = []
  | d :: ds, xs => ∃ x r, xs = x :: r ∧ Rp K G d x ∧ RpAll K G ds r
def RpT (K : PySem.W.Frag) (G : Hp) : List (PyData × PyData) → List (List Key × V) → Prop
  | [], es => es = []
  | (k, d) :: r, es => ∃ ks v t, es = (ks, v) :: t ∧ k = .tuple (ks.map keyD) ∧ Rp K G d v ∧ RpT K G r t
def RpK (K : PySem.W.Frag) (G : Hp) : List (PyData × PyData) → List (Key × V) → Prop
  | [], es => es = []
  | (k, d) :: r, es => ∃ ks v t, es = (ks, v) :: t ∧ k = keyD ks ∧ Rp K G d v ∧ RpK K G r t
end
def Le (G G' : Hp) : Prop := ∀ a o, G a = some o → G' a = some o
theorem Le.refl (G : Hp) : Le G G := fun _ _ h => h
theorem Le.trans {G G1 G2 : Hp} (a : Le G G1) (b : Le G1 G2) : Le G G2 := fun x o h => b x o (a x o h)
theorem Le.new {G : Hp} {p : Addr} {o : HO} (h : G p = none) : Le G (upd G p o) := fun a u e => by
  rw [upd_ne (ne_of_none e h)]; exact e
theorem Le.rd {G G' : Hp} {a : Addr} {u : HO} (e : Le G G') (h : Rd G a u) : Rd G' a u := by
  rcases h with h | ⟨o, h⟩
  · exact Or.inl (e a _ h)
  · exact Or.inr ⟨o, e a _ h⟩
theorem Le.sqL {K : PySem.W.Frag} {G G' : Hp} {a : Addr} {xs : List V} (e : Le G G') (h : SqL K G a xs) : SqL K G' a xs := by
  rcases h with h | h
  · exact Or.inl (e.rd h)
  · exact Or.inr h
theorem Le.sqT {K : PySem.W.Frag} {G G' : Hp} {a : Addr} {xs : List V} (e : Le G G') (h : SqT K G a xs) : SqT K G' a xs := by
  rcases h with h | h
  · exact Or.inl (e.rd h)
  · exact Or.inr h
mutual
theorem Rp.mono {K : PySem.W.Frag} {G G' : Hp} (e : Le G G') : ∀ (d : PyData) (v : V), Rp K G d v → Rp K G' d v
  | .none, v, h => by rw [Rp] at h ⊢; exact h
  | .bool b, v, h => by rw [Rp] at h ⊢; exact h
  | .int i, v, h => by rw [Rp] at h ⊢; exact h
  | .str s, v, h => by rw [Rp] at h ⊢; exact h
  | .list ds, v, h => by
    rw [Rp] at h ⊢
    obtain ⟨a, xs, h1, h2, h3⟩ := h
    exact ⟨a, xs, h1, e.rd h2, RpAll.mono e ds xs h3⟩
  | .tuple ds, v, h => by
    rw [Rp] at h ⊢
    obtain ⟨a, xs, h1, h2, h3⟩ := h
    exact ⟨a, xs, h1, e.sqT h2, RpAll.mono e ds xs h3⟩
  | .dict kvs, v, h => by
    rw [Rp] at h ⊢
    obtain ⟨a, h1, h2⟩ := h
    refine ⟨a, h1, ?_⟩
    rcases h2 with ⟨es, h3, h4⟩ | ⟨es, h3, h4⟩
    · exact Or.inl ⟨es, e _ _ h3, RpT.mono e kvs es h4⟩
    · exact Or.inr ⟨es, e _ _ h3, RpK.mono e kvs es h4⟩
theorem RpAll.mono {K : PySem.W.Frag} {G G' : Hp} (e : Le G G') : ∀ (ds : List PyData) (xs : List V), RpAll K G ds xs → RpAll K G' ds xs
  | [], xs, h => by rw [RpAll] at h ⊢; exact h
  | d :: ds, xs, h => by
    rw [RpAll] at h ⊢
    obtain ⟨x, r, h1, h2, h3⟩ := h
    exact ⟨x, r, h1, Rp.mono e d x h2, RpAll.mono e ds r h3⟩
theorem RpT.mono {K : PySem.W.Frag} {G G' : Hp} (e : Le G G') : ∀ (kvs : List (PyData × PyData)) (es : List (List Key × V)), RpT K G kvs es → RpT K G' kvs es
  | [], es, h => by rw [RpT] at h ⊢; exact h
  | (k, d) :: r, es, h => by
    rw [RpT] at h ⊢
    obtain ⟨ks, v, t, h1, h2, h3, h4⟩ := h
    exact ⟨ks, v, t, h1, h2, Rp.mono e d v h3, RpT.mono e r t h4⟩
theorem RpK.mono {K : PySem.W.Frag} {G G' : Hp} (e : Le G G') : ∀ (kvs : List (PyData × PyData)) (es : List (Key × V)), RpK K G kvs es → RpK K G' kvs es
  | [], es, h => by rw [RpK] at h ⊢; exact h
  | (k, d) :: r, es, h => by
    rw [RpK] at h ⊢
    obtain ⟨ks, v, t, h1, h2, h3, h4⟩ := h
    exact ⟨ks, v, t, h1, h2, Rp.mono e d v h3, RpK.mono e r t h4⟩
end
section
variable {K : PySem.W.Frag} {G : Hp} {v : V}
theorem rp_none : Rp K G .none v ↔ v = .non := by rw [Rp]
theorem rp_bool {b : Bool} : Rp K G (.bool b) v ↔ v = .bl b := by rw [Rp]
theorem rp_int {i : Int} : Rp K G (.int i) v ↔ v = .int i := by rw [Rp]
theorem rp_str {s : Str} : Rp K G (.str s) v ↔ v = .str s := by rw [Rp]
theorem rp_list {ds : List PyData} : Rp K G (.list ds) v ↔ ∃ a xs, v = .ref a ∧ Rd G a (.lst xs) ∧ RpAll K G ds xs := by rw [Rp]
theorem rp_tuple {ds : List PyData} : Rp K G (.tuple ds) v ↔ ∃ a xs, v = .ref a ∧ SqT K G a xs ∧ RpAll K G ds xs := by rw [Rp]
theorem rpa_nil {xs : List V} : RpAll K G [] xs ↔ xs = [] := by rw [RpAll]
theorem rpa_cons {d : PyData} {ds : List PyData} {xs : List V} : RpAll K G (d :: ds) xs ↔ ∃ x r, xs = x :: r ∧ Rp K G d x ∧ RpAll K G ds r := by rw [RpAll]
end
theorem RpAll.length {K : PySem.W.Frag} {G : Hp} : ∀ {ds : List PyData} {xs : List V}, RpAll K G ds xs → xs.length = ds.length
  | [], xs, h => by rw [RpAll] at h; rw [h]; rfl
  | d :: ds, xs, h => by
    rw [RpAll] at h
    obtain ⟨x, r, h1, _, h3⟩ := h
    rw [h1, List.length_cons, List.length_cons, RpAll.length h3]
theorem RpAll.get {K : PySem.W.Frag} {G : Hp} : ∀ {ds : List PyData} {xs : List V} {i : Nat} {x : V}, RpAll K G ds xs → xs[i]? = some x → ∃ d, ds[i]? = some d ∧ Rp K G d x
  | [], xs, i, x, h, e => by rw [RpAll] at h; subst h; simp at e
  | d :: ds, xs, 0, x, h, e => by
    rw [RpAll] at h
    obtain ⟨y, r, h1, h2, _⟩ := h
    subst h1
    simp at e
    subst e
    exact ⟨d, rfl, h2⟩
  | d :: ds, xs, i + 1, x, h, e => by
    rw [RpAll] at h
    obtain ⟨y, r, h1, _, h3⟩ := h
    subst h1
    obtain ⟨z, h4, h5⟩ := RpAll.get (i := i) (x := x) h3 (by simpa using e)
    exact ⟨z, by simpa using h4, h5⟩
theorem RpAll.at {K : PySem.W.Frag} {G : Hp} : ∀ {ds : List PyData} {xs : List V} {i : Nat} {d : PyData}, RpAll K G ds xs → ds[i]? = some d → ∃ x, xs[i]? = some x ∧ Rp K G d x
  | [], xs, i, d, h, e => by simp at e
  | d0 :: ds, xs, 0, d, h, e => by
    rw [RpAll] at h
    obtain ⟨y, r, h1, h2, _⟩ := h
    subst h1
    simp at e
    subst e
    exact ⟨y, rfl, h2⟩
  | d0 :: ds, xs, i + 1, d, h, e => by
    rw [RpAll] at h
    obtain ⟨y, r, h1, _, h3⟩ := h
    subst h1
    obtain ⟨z, h4, h5⟩ := RpAll.at (i := i) (d := d) h3 (by simpa using e)
    exact ⟨z, by simpa using h4, h5⟩
theorem RpAll.append {K : PySem.W.Frag} {G : Hp} : ∀ {ds es : List PyData} {xs ys : List V}, RpAll K G ds xs → RpAll K G es ys → RpAll K G (ds ++ es) (xs ++ ys)
  | [], es, xs, ys, h, g => by rw [RpAll] at h; subst h; exact g
  | d :: ds, es, xs, ys, h, g => by
    rw [RpAll] at h
    obtain ⟨y, r, h1, h2, h3⟩ := h
    subst h1
    rw [List.cons_append, List.cons_append, RpAll]
    exact ⟨y, r ++ ys, rfl, h2, RpAll.append h3 g⟩
theorem RpAll.ints {K : PySem.W.Frag} {G : Hp} : ∀ {ns : List Int} {xs : List V}, RpAll K G (ns.map PyData.int) xs → xs = ns.map V.int
  | [], xs, h => by rw [List.map_nil, RpAll] at h; rw [h]; rfl
  | n :: ns, xs, h => by
    rw [List.map_cons, RpAll] at h
    obtain ⟨y, r, h1, h2, h3⟩ := h
    rw [Rp] at h2
    rw [h1, h2, RpAll.ints h3]; rfl
theorem RpAll.bools {K : PySem.W.Frag} {G : Hp} : ∀ {ns : List Bool} {xs : List V}, RpAll K G (ns.map PyData.bool) xs → xs = ns.map V.bl
  | [], xs, h => by rw [List.map_nil, RpAll] at h; rw [h]; rfl
  | n :: ns, xs, h => by
    rw [List.map_cons, RpAll] at h
    obtain ⟨y, r, h1, h2, h3⟩ := h
    rw [Rp] at h2
    rw [h1, h2, RpAll.bools h3]; rfl
theorem RpAll.strs {K : PySem.W.Frag} {G : Hp} : ∀ {ns : List Str} {xs : List V}, RpAll K G (ns.map PyData.str) xs → xs = ns.map V.str
  | [], xs, h => by rw [List.map_nil, RpAll] at h; rw [h]; rfl
  | n :: ns, xs, h => by
    rw [List.map_cons, RpAll] at h
    obtain ⟨y, r, h1, h2, h3⟩ := h
    rw [Rp] at h2
    rw [h1, h2, RpAll.strs h3]; rfl
theorem rpa_ints {K : PySem.W.Frag} {G : Hp} : ∀ (ns : List Int), RpAll K G (ns.map PyData.int) (ns.map V.int)
  | [] => by rw [List.map_nil, RpAll]; rfl
  | n :: ns => by
    rw [List.map_cons, List.map_cons, RpAll]
    exact ⟨_, _, rfl, by rw [Rp], rpa_ints ns⟩
/-! values at this level -/
inductive Val where
  | d (x : PyData)
  | v (w : V)
  | scr (ns : List Int)
  | any
  /-- a tuple of ints, made by the code itself -/
  | t (ns : List Int)
  /-- a list of such tuples, that stays as it is -/
  | lt (nss : List (List Int))
  /-- a pair of such a tuple and data -/
  | p (ns : List Int) (x : PyData)
  /-- a tuple of ints without attributes of its own -/
  | f (ns : List Int)
  /-- any other thing that stays as it is, by what is true of it -/
  | g (P : Hp → V → Prop)
def TAll (G : Hp) : List (List Int) → List V → Prop
  | [], xs => xs = []
  | ns :: r, xs => ∃ b t, xs = .ref b :: t ∧ G b = some (.tup (ns.map V.int)) ∧ TAll G r t
theorem TAll.mono {G G' : Hp} (e : Le G G') : ∀ {nss : List (List Int)} {xs : List V}, TAll G nss xs → TAll G' nss xs
  | [], xs, h => h
  | ns :: r, xs, h => by
    obtain ⟨b, t, h1, h2, h3⟩ := h
    exact ⟨b, t, h1, e _ _ h2, TAll.mono e h3⟩
theorem TAll.all {K : PySem.W.Frag} {G : Hp} : ∀ {nss : List (List Int)} {xs : List V}, TAll G nss xs → RpAll K G (nss.map fun ns => .tuple (ns.map PyData.int)) xs
  | [], xs, h => by rw [List.map_nil, RpAll]; exact h
  | ns :: r, xs, h => by
    obtain ⟨b, t, h1, h2, h3⟩ := h
    rw [List.map_cons, RpAll]
    exact ⟨_, t, h1, rp_tuple.mpr ⟨b, _, rfl, SqT.of h2, rpa_ints ns⟩, TAll.all h3⟩
inductive VR (K : PySem.W.Frag) (G : Hp) : Val → V → Prop
  | d {x : PyData} {v : V} (h : Rp K G x v) : VR K G (.d x) v
  | v {w : V} : VR K G (.v w) w
  | scr {ns : List Int} {a : Addr} (h : SqL K G a (ns.map V.int)) : VR K G (.scr ns) (.ref a)
  | any {v : V} : VR K G .any v
  | t {ns : List Int} {a : Addr} (h : G a = some (.tup (ns.map V.int))) : VR K G (.t ns) (.ref a)
  | lt {nss : List (List Int)} {a : Addr} {xs : List V} (h : Rd G a (.lst xs)) (h2 : TAll G nss xs) : VR K G (.lt nss) (.ref a)
  | p {ns : List Int} {x : PyData} {a b : Addr} {w : V} (h : G a = some (.tup [.ref b, w])) (h2 : G b = some (.tup (ns.map V.int))) (h3 : Rp K G x w) : VR K G (.p ns x) (.ref a)
  | f {ns : List Int} {a : Addr} {o : Obj} (h : G a = some (.frz o (.tup (ns.map V.int)))) (h1 : o.cls = .type "tuple") (h2 : o.dict = none) : VR K G (.f ns) (.ref a)
  | g {P : Hp → V → Prop} {v : V} (h : P G v) (h1 : ∀ G G', Le G G' → P G v → P G' v) : VR K G (.g P) v
theorem VR.mono {K : PySem.W.Frag} {G G' : Hp} (e : Le G G') {r : Val} {v : V} (h : VR K G r v) : VR K G' r v := by
  cases h with
  | d h => exact .d (Rp.mono e _ v h)
  | v => exact .v
  | scr h => exact .scr (e.sqL h)
  | any => exact .any
  | t h => exact .t (e _ _ h)
  | lt h h2 => exact .lt (e.rd h) (h2.mono e)
  | p h h2 h3 => exact .p (e _ _ h) (e _ _ h2) (Rp.mono e _ _ h3)
  | f h h1 h2 => exact .f (e _ _ h) h1 h2
  | g h h1 => exact .g (h1 _ _ e h) h1
theorem VR.rp {K : PySem.W.Frag} {G : Hp} {x : PyData} {v : V} (h : VR K G (.d x) v) : Rp K G x v := by
  cases h with
  | d h => exact h
theorem VR.eq {K : PySem.W.Frag} {G : Hp} {w v : V} (h : VR K G (.v w) v) : v = w := by
  cases h with
  | v => rfl
def VRs (K : PySem.W.Frag) (G : Hp) : List Val → List V → Prop
  | [], xs => xs = []
  | r :: rs, xs => ∃ x t, xs = x :: t ∧ VR K G r x ∧ VRs K G rs t
theorem VRs.mono {K : PySem.W.Frag} {G G' : Hp} (e : Le G G') : ∀ {rs : List Val} {xs : List V}, VRs K G rs xs → VRs K G' rs xs
  | [], xs, h => h
  | r :: rs, xs, h => by
    obtain ⟨x, t, h1, h2, h3⟩ := h
    exact ⟨x, t, h1, h2.mono e, VRs.mono e h3⟩
theorem VRs.length {K : PySem.W.Frag} {G : Hp} : ∀ {rs : List Val} {xs : List V}, VRs K G rs xs → xs.length = rs.length
  | [], xs, h => by
    have h : xs = [] := h
    rw [h]; rfl
  | r :: rs, xs, h => by
    obtain ⟨x, t, h1, _, h3⟩ := h
    rw [h1, List.length_cons, List.length_cons, VRs.length h3]
theorem VRs.ofAll {K : PySem.W.Frag} {G : Hp} : ∀ {ds : List PyData} {xs : List V}, RpAll K G ds xs → VRs K G (ds.map Val.d) xs
  | [], xs, h => by rw [RpAll] at h; exact h
  | d :: ds, xs, h => by
    rw [RpAll] at h
    obtain ⟨x, r, h1, h2, h3⟩ := h
    exact ⟨x, r, h1, .d h2, VRs.ofAll h3⟩
theorem VRs.toAll {K : PySem.W.Frag} {G : Hp} : ∀ {ds : List PyData} {xs : List V}, VRs K G (ds.map Val.d) xs → RpAll K G ds xs
  | [], xs, h => by rw [RpAll]; exact h
  | d :: ds, xs, h => by
    obtain ⟨x, r, h1, h2, h3⟩ := h
    rw [RpAll]
    exact ⟨x, r, h1, h2.rp, VRs.toAll h3⟩
theorem VRs.append {K : PySem.W.Frag} {G : Hp} : ∀ {rs ss : List Val} {xs ys : List V}, VRs K G rs xs → VRs K G ss ys → VRs K G (rs ++ ss) (xs ++ ys)
  | [], ss, xs, ys, h, g => by
    have h : xs = [] := h
    subst h; exact g
  | r :: rs, ss, xs, ys, h, g => by
    obtain ⟨x, t, h1, h2, h3⟩ := h
    subst h1
    exact ⟨x, t ++ ys, rfl, h2, VRs.append h3 g⟩
/-! slots -/
def Sl (K : PySem.W.Frag) (G : Hp) : List Val → St → Prop
  | [], s => s = []
  | r :: rs, s => ∃ x t, s = x :: t ∧ (r = .any ∨ ∃ v, x = some v ∧ VR K G r v) ∧ Sl K G rs t
theorem Sl.mono {K : PySem.W.Frag} {G G' : Hp} (e : Le G G') : ∀ {rs : List Val} {s : St}, Sl K G rs s → Sl K G' rs s
  | [], s, h => h
  | r :: rs, s, h => by
    obtain ⟨x, t, h1, h2, h3⟩ := h
    refine ⟨x, t, h1, ?_, Sl.mono e h3⟩
    rcases h2 with h2 | ⟨v, h2, h4⟩
    · exact Or.inl h2
    · exact Or.inr ⟨v, h2, h4.mono e⟩
theorem Sl.get {K : PySem.W.Frag} {G : Hp} : ∀ {rs : List Val} {s : St} {i : Nat} {r : Val}, Sl K G rs s → rs[i]? = some r → r ≠ .any → ∃ v, s[i]? = some (some v) ∧ VR K G r v
  | [], s, i, r, h, e, _ => by simp at e
  | r0 :: rs, s, 0, r, h, e, n => by
    obtain ⟨x, t, h1, h2, h3⟩ := h
    subst h1
    have e : r0 = r := by simpa using e
    subst e
    rcases h2 with h2 | ⟨v, h2, h4⟩
    · exact absurd h2 n
    · exact ⟨v, by rw [h2]; rfl, h4⟩
  | r0 :: rs, s, i + 1, r, h, e, n => by
    obtain ⟨x, t, h1, h2, h3⟩ := h
    subst h1
    obtain ⟨v, h5, h6⟩ := Sl.get (i := i) (r := r) h3 (by simpa using e) n
    exact ⟨v, by simpa using h5, h6⟩
theorem Sl.set {K : PySem.W.Frag} {G : Hp} {r : Val} {v : V} (hv : VR K G r v) : ∀ {rs : List Val} {s : St} (i : Nat), Sl K G rs s → Sl K G (rs.set i r) (s.set i (some v))
  | [], s, i, h => by
    have h : s = [] := h
    subst h; exact rfl
  | r0 :: rs, s, 0, h => by
    obtain ⟨x, t, h1, h2, h3⟩ := h
    subst h1
    exact ⟨some v, t, rfl, Or.inr ⟨v, rfl, hv⟩, h3⟩
  | r0 :: rs, s, i + 1, h => by
    obtain ⟨x, t, h1, h2, h3⟩ := h
    subst h1
    exact ⟨x, t.set i (some v), rfl, h2, Sl.set hv i h3⟩
theorem Sl.length {K : PySem.W.Frag} {G : Hp} : ∀ {rs : List Val} {s : St}, Sl K G rs s → s.length = rs.length
  | [], s, h => by
    have h : s = [] := h
    rw [h]; rfl
  | r :: rs, s, h => by
    obtain ⟨x, t, h1, _, h3⟩ := h
    rw [h1, List.length_cons, List.length_cons, Sl.length h3]
theorem Sl.anys {K : PySem.W.Frag} {G : Hp} : ∀ (n : Nat), Sl K G (List.replicate n .any) (List.replicate n none)
  | 0 => rfl
  | n + 1 => ⟨none, List.replicate n none, rfl, Or.inl rfl, Sl.anys n⟩
theorem Sl.start {K : PySem.W.Frag} {G : Hp} : ∀ {rs : List Val} {vs : List V} (n : Nat), VRs K G rs vs → Sl K G (rs ++ List.replicate n .any) (vs.map some ++ List.replicate n none)
  | [], vs, n, h => by
    have h : vs = [] := h
    subst h; exact Sl.anys n
  | r :: rs, vs, n, h => by
    obtain ⟨x, t, h1, h2, h3⟩ := h
    subst h1
    exact ⟨some x, _, rfl, Or.inr ⟨x, rfl, h2⟩, Sl.start n h3⟩
/-! what may change -/
inductive MO where
  | lst (rs : List Val)
  | dT (kvs : List (List Key × Val))
  | dK (kvs : List (Key × Val))
  /-- a dict that is being walked -/
  | lk (od : Obj) (es : List (List Key × V)) (kvs : List (List Key × Val))
  /-- a list of one whole number -/
  | box
  /-- any other thing, by what is true of it -/
  | g (P : Hp → Hp → Addr → Prop)
abbrev Mm := Addr → Option MO
def put (m : Mm) (a : Addr) (o : MO) : Mm := fun b => if b = a then some o else m b
def del (m : Mm) (a : Addr) : Mm := fun b => if b = a then none else m b
theorem put_same {m : Mm} {a : Addr} {o : MO} : put m a o a = some o := by unfold put; rw [if_pos rfl]
theorem put_ne {m : Mm} {a b : Addr} {o : MO} (h : b ≠ a) : put m a o b = m b := by unfold put; rw [if_neg h]
theorem put_put {m : Mm} {a : Addr} {o u : MO} : put (put m a o) a u = put m a u := by
  funext b; unfold put; split <;> rfl
theorem put_comm {m : Mm} {a b : Addr} {o u : MO} (h : a ≠ b) : put (put m a o) b u = put (put m b u) a o := by
  funext c; unfold put
  by_cases h1 : c = b
  · rw [if_pos h1]
    by_cases h2 : c = a
    · exact absurd (h2.symm.trans h1) h
    · rw [if_neg h2, if_pos h1]
  · rw [if_neg h1]
    by_cases h2 : c = a
    · rw [if_pos h2, if_pos h2]
    · rw [if_neg h2, if_neg h2, if_neg h1]
theorem ne_of_get {m : Mm} {a b : Addr} {o : MO} (h : m a = some o) (g : m b = none) : a ≠ b := fun e => by
  rw [e, g] at h; cases h
def KVs (K : PySem.W.Frag) (G : Hp) {α : Type} : List (α × Val) → List (α × V) → Prop
  | [], es => es = []
  | (k, r) :: t, es => ∃ v u, es = (k, v) :: u ∧ VR K G r v ∧ KVs K G t u
theorem KVs.mono {K : PySem.W.Frag} {G G' : Hp} {α : Type} (e : Le G G') : ∀ {kvs : List (α × Val)} {es : List (α × V)}, KVs K G kvs es → KVs K G' kvs es
  | [], es, h => h
  | (k, r) :: t, es, h => by
    obtain ⟨v, u, h1, h2, h3⟩ := h
    exact ⟨v, u, h1, h2.mono e, KVs.mono e h3⟩
def MR (K : PySem.W.Frag) (G H : Hp) (a : Addr) : MO → Prop
  | .lst rs => ∃ xs, H a = some (.lst xs) ∧ VRs K G rs xs
  | .dT kvs => ∃ es, H a = some (.dT es) ∧ KVs K G kvs es
  | .dK kvs => ∃ es, H a = some (.dK es) ∧ KVs K G kvs es
  | .lk od es kvs => H a = some (.frz od (.dT es)) ∧ KVs K G kvs es
  | .box => ∃ n : Int, H a = some (.lst [.int n])
  | .g P => P G H a ∧ (∀ G G' H H' : Hp, Le G G' → H' a = H a → P G H a → P G' H' a) ∧ (∃ u, H a = some u) ∧ ∀ xs, H a ≠ some (.tup xs)
theorem MR.some {K : PySem.W.Frag} {G H : Hp} {a : Addr} {o : MO} (h : MR K G H a o) : ∃ u, H a = some u := by
  cases o with
  | lst rs => obtain ⟨xs, h, _⟩ := h; exact ⟨_, h⟩
  | dT kvs => obtain ⟨xs, h, _⟩ := h; exact ⟨_, h⟩
  | dK kvs => obtain ⟨xs, h, _⟩ := h; exact ⟨_, h⟩
  | lk od es kvs => exact ⟨_, h.1⟩
  | box => obtain ⟨n, h⟩ := h; exact ⟨_, h⟩
  | g P => exact h.2.2.1
theorem MR.mono {K : PySem.W.Frag} {G G' H H' : Hp} {a : Addr} {o : MO} (e : Le G G') (hh : H' a = H a) (h : MR K G H a o) : MR K G' H' a o := by
  cases o with
  | lst rs => obtain ⟨xs, h, g⟩ := h; exact ⟨xs, hh.trans h, g.mono e⟩
  | dT kvs => obtain ⟨xs, h, g⟩ := h; exact ⟨xs, hh.trans h, g.mono e⟩
  | dK kvs => obtain ⟨xs, h, g⟩ := h; exact ⟨xs, hh.trans h, g.mono e⟩
  | lk od es kvs => exact ⟨hh.trans h.1, h.2.mono e⟩
  | box => obtain ⟨n, h⟩ := h; exact ⟨n, hh.trans h⟩
  | g P => obtain ⟨h1, h2, h3, h4⟩ := h; exact ⟨h2 _ _ _ _ e hh h1, h2, by rw [hh]; exact h3, by rw [hh]; exact h4⟩
structure Sta (K : PySem.W.Frag) (m : Mm) (H G : Hp) : Prop where
  sub : ∀ a o, G a = some o → H a = some o
  mem : ∀ a o, m a = some o → MR K G H a o
  dis : ∀ a o, m a = some o → G a = none
section
variable {K : PySem.W.Frag} {m : Mm} {H G : Hp} {p : Addr} {o : HO}
theorem Sta.free (S : Sta K m H G) (h : H p = none) : G p = none := by
  cases e : G p with
  | none => rfl
  | some u => rw [S.sub p u e] at h; cases h
theorem Sta.freeM (S : Sta K m H G) (h : H p = none) : m p = none := by
  cases e : m p with
  | none => rfl
  | some u =>
    obtain ⟨x, hx⟩ := (S.mem p u e).some
    rw [hx] at h; cases h
/-- a new thing that stays as it is -/
theorem Sta.fix (S : Sta K m H G) (h : H p = none) : Sta K m (upd H p o) (upd G p o) := by
  have hg := S.free h
  have hm := S.freeM h
  refine ⟨fun a u e => ?_, fun a u e => ?_, fun a u e => ?_⟩
  · by_cases ha : a = p
    · subst ha; rw [upd_same] at e ⊢; exact e
    · rw [upd_ne ha] at e ⊢; exact S.sub a u e
  · have ha : a ≠ p := ne_of_get e hm
    exact (S.mem a u e).mono (Le.new hg) (upd_ne ha)
  · have ha : a ≠ p := ne_of_get e hm
    rw [upd_ne ha]; exact S.dis a u e
/-- a new thing that may change -/
theorem Sta.new {u : MO} (S : Sta K m H G) (h : H p = none) (hu : MR K G (upd H p o) p u) : Sta K (put m p u) (upd H p o) G := by
  have hg := S.free h
  refine ⟨fun a w e => ?_, fun a w e => ?_, fun a w e => ?_⟩
  · rw [upd_ne (ne_of_none e hg)]; exact S.sub a w e
  · by_cases ha : a = p
    · subst ha; rw [put_same] at e; cases e; exact hu
    · rw [put_ne ha] at e
      exact (S.mem a w e).mono (Le.refl G) (upd_ne ha)
  · by_cases ha : a = p
    · subst ha; exact hg
    · rw [put_ne ha] at e; exact S.dis a w e
/-- a thing changed -/
theorem Sta.chg {u w : MO} (S : Sta K m H G) (h : m p = some w) (hu : MR K G (upd H p o) p u) : Sta K (put m p u) (upd H p o) G := by
  have hg := S.dis p w h
  refine ⟨fun a w e => ?_, fun a w e => ?_, fun a w e => ?_⟩
  · rw [upd_ne (ne_of_none e hg)]; exact S.sub a w e
  · by_cases ha : a = p
    · subst ha; rw [put_same] at e; cases e; exact hu
    · rw [put_ne ha] at e
      exact (S.mem a w e).mono (Le.refl G) (upd_ne ha)
  · by_cases ha : a = p
    · subst ha; exact hg
    · rw [put_ne ha] at e; exact S.dis a w e
/-- from now on it stays as it is -/
theorem Sta.freeze {u : MO} (S : Sta K m H G) (h : m p = some u) (ho : H p = some o) : Sta K (del m p) H (upd G p o) := by
  have hg := S.dis p u h
  refine ⟨fun a w e => ?_, fun a w e => ?_, fun a w e => ?_⟩
  · by_cases ha : a = p
    · subst ha; rw [upd_same] at e; cases e; exact ho
    · rw [upd_ne ha] at e; exact S.sub a w e
  · by_cases ha : a = p
    · subst ha; unfold del at e; rw [if_pos rfl] at e; cases e
    · unfold del at e; rw [if_neg ha] at e
      exact (S.mem a w e).mono (Le.new hg) rfl
  · by_cases ha : a = p
    · subst ha; unfold del at e; rw [if_pos rfl] at e; cases e
    · unfold del at e; rw [if_neg ha] at e
      rw [upd_ne ha]; exact S.dis a w e
/-- less told of what may change -/
theorem Sta.less {m' : Mm} (S : Sta K m H G) (h : ∀ a o, m' a = some o → m a = some o) : Sta K m' H G :=
  ⟨S.sub, fun a o e => S.mem a o (h a o e), fun a o e => S.dis a o (h a o e)⟩
theorem Sta.sqL {a : Addr} {xs : List V} (S : Sta K m H G) (h : SqL K G a xs) : SqL K H a xs := Le.sqL S.sub h
theorem Sta.sqT {a : Addr} {xs : List V} (S : Sta K m H G) (h : SqT K G a xs) : SqT K H a xs := Le.sqT S.sub h
end
/-! what code does, at this level -/
def Ev (K : PySem.W.Frag) (t : TE) (r : List Val) (m : Mm) (Q : Val → Mm → Prop) : Prop :=
  ∀ σ H G, Sta K m H G → Sl K G r σ → ∀ R : VK, (∀ v H' G' x m', Q x m' → Sta K m' H' G' → Le G G' → VR K G' x v → R v H') → t σ H R
def EvT (K : PySem.W.Frag) (t : TT) (r : List Val) (m : Mm) (Q : Bool → Mm → Prop) : Prop :=
  ∀ σ H G, Sta K m H G → Sl K G r σ → ∀ R : Bool → Hp → Prop, (∀ H' G' b m', Q b m' → Sta K m' H' G' → Le G G' → R b H') → t σ H R
def EvA (K : PySem.W.Frag) (t : TA) (r : List Val) (m : Mm) (Q : List Val → Mm → Prop) : Prop :=
  ∀ σ H G, Sta K m H G → Sl K G r σ → ∀ R : List V → Hp → Prop, (∀ vs H' G' xs m', Q xs m' → Sta K m' H' G' → Le G G' → VRs K G' xs vs → R vs H') → t σ H R
def Op2 (K : PySem.W.Frag) (f : R2) (x y : Val) (m : Mm) (Q : Val → Mm → Prop) : Prop :=
  ∀ H G v w, Sta K m H G → VR K G x v → VR K G y w → ∀ R : VK, (∀ v H' G' x m', Q x m' → Sta K m' H' G' → Le G G' → VR K G' x v → R v H') → f v w H R
def Op1 (K : PySem.W.Frag) (f : V → Hp → VK → Prop) (x : Val) (m : Mm) (Q : Val → Mm → Prop) : Prop :=
  ∀ H G v, Sta K m H G → VR K G x v → ∀ R : VK, (∀ v H' G' x m', Q x m' → Sta K m' H' G' → Le G G' → VR K G' x v → R v H') → f v H R
def OpN (K : PySem.W.Frag) (f : List V → Hp → VK → Prop) (xs : List Val) (m : Mm) (Q : Val → Mm → Prop) : Prop :=
  ∀ H G vs, Sta K m H G → VRs K G xs vs → ∀ R : VK, (∀ v H' G' x m', Q x m' → Sta K m' H' G' → Le G G' → VR K G' x v → R v H') → f vs H R
def Wp (K : PySem.W.Frag) (t : TS) (r : List Val) (m : Mm) (N : List Val → Mm → Prop) (E : Val → Mm → Prop) : Prop :=
  ∀ σ H G (D : Ends), Sta K m H G → Sl K G r σ → (∀ σ' H' G' r' m', N r' m' → Sta K m' H' G' → Le G G' → Sl K G' r' σ' → D.nx σ' H') →
    (∀ v H' G' x m', E x m' → Sta K m' H' G' → Le G G' → VR K G' x v → D.rt v H') → t D σ H
section
variable {K : PySem.W.Frag} {r : List Val} {m : Mm} {Q : Val → Mm → Prop} {ta tb tc te : TE} {tt tu : TT}
theorem Ev.imp {Q' : Val → Mm → Prop} (h : Ev K te r m Q) (i : ∀ x m', Q x m' → Q' x m') : Ev K te r m Q' := fun σ H G S L R q =>
  h σ H G S L R fun v H' G' x m' hq => q v H' G' x m' (i x m' hq)
theorem EvT.imp {Q Q' : Bool → Mm → Prop} (h : EvT K tt r m Q) (i : ∀ x m', Q x m' → Q' x m') : EvT K tt r m Q' := fun σ H G S L R q =>
  h σ H G S L R fun H' G' x m' hq => q H' G' x m' (i x m' hq)
theorem EvA.imp {t : TA} {Q Q' : List Val → Mm → Prop} (h : EvA K t r m Q) (i : ∀ x m', Q x m' → Q' x m') : EvA K t r m Q' := fun σ H G S L R q =>
  h σ H G S L R fun v H' G' x m' hq => q v H' G' x m' (i x m' hq)
theorem ev_var {i : Nat} {x : Val} (h : r[i]? = some x) (n : x ≠ .any) (q : Q x m) : Ev K (tVar i) r m Q := fun σ H G S L R k => by
  obtain ⟨v, h1, h2⟩ := L.get h n
  exact ⟨v, h1, k v H G x m q S (Le.refl G) h2⟩
theorem ev_cI {i : Int} (q : Q (.d (.int i)) m) : Ev K (tC (.int i)) r m Q := fun σ H G S L R k => k _ H G _ m q S (Le.refl G) (.d (rp_int.mpr rfl))
theorem ev_cB {i : Bool} (q : Q (.d (.bool i)) m) : Ev K (tC (.bl i)) r m Q := fun σ H G S L R k => k _ H G _ m q S (Le.refl G) (.d (rp_bool.mpr rfl))
theorem ev_cS {i : Str} (q : Q (.d (.str i)) m) : Ev K (tC (.str i)) r m Q := fun σ H G S L R k => k _ H G _ m q S (Le.refl G) (.d (rp_str.mpr rfl))
theorem ev_cN (q : Q (.d .none) m) : Ev K (tC .non) r m Q := fun σ H G S L R k => k _ H G _ m q S (Le.refl G) (.d (rp_none.mpr rfl))
theorem ev_cV {v : V} (q : Q (.v v) m) : Ev K (tC v) r m Q := fun σ H G S L R k => k _ H G _ m q S (Le.refl G) .v
/-- a constant of the module that is data -/
theorem ev_cG {v : V} {x : PyData} (hv : ∀ G, Rp K G x v) (q : Q (.d x) m) : Ev K (tC v) r m Q := fun σ H G S L R k => k _ H G _ m q S (Le.refl G) (.d (hv G))
theorem ev_op {f : R2} (h : Ev K ta r m fun x m1 => Ev K tb r m1 fun y m2 => Op2 K f x y m2 Q) : Ev K (tOp f ta tb) r m Q := fun σ H G S L R k =>
  h σ H G S L _ fun v H1 G1 x m1 h1 S1 e1 r1 => h1 σ H1 G1 S1 (L.mono e1) _ fun w H2 G2 y m2 h2 S2 e2 r2 =>
    h2 H2 G2 v w S2 (r1.mono e2) r2 R fun v' H3 G3 z m3 h3 S3 e3 r3 => k v' H3 G3 z m3 h3 S3 (e1.trans (e2.trans e3)) r3
theorem ev_un {f : V → Hp → VK → Prop} (h : Ev K ta r m fun x m1 => Op1 K f x m1 Q) : Ev K (tUn f ta) r m Q := fun σ H G S L R k =>
  h σ H G S L _ fun v H1 G1 x m1 h1 S1 e1 r1 => h1 H1 G1 v S1 r1 R fun v' H3 G3 z m3 h3 S3 e3 r3 => k v' H3 G3 z m3 h3 S3 (e1.trans e3) r3
theorem eva_nil {Q : List Val → Mm → Prop} (q : Q [] m) : EvA K tNil r m Q := fun σ H G S L R k => k [] H G [] m q S (Le.refl G) rfl
theorem eva_cons {tr : TA} {Q : List Val → Mm → Prop} (h : Ev K ta r m fun x m1 => EvA K tr r m1 fun xs m2 => Q (x :: xs) m2) : EvA K (tCons ta tr) r m Q := fun σ H G S L R k =>
  h σ H G S L _ fun v H1 G1 x m1 h1 S1 e1 r1 => h1 σ H1 G1 S1 (L.mono e1) _ fun vs H2 G2 xs m2 h2 S2 e2 r2 =>
    k (v :: vs) H2 G2 (x :: xs) m2 h2 S2 (e1.trans e2) ⟨v, vs, rfl, r1.mono e2, r2⟩
theorem ev_callB {f : List V → Hp → VK → Prop} {t : TA} (h : EvA K t r m fun xs m1 => OpN K f xs m1 Q) : Ev K (tCB f t) r m Q := fun σ H G S L R k =>
  h σ H G S L _ fun vs H1 G1 xs m1 h1 S1 e1 r1 => h1 H1 G1 vs S1 r1 R fun v' H3 G3 z m3 h3 S3 e3 r3 => k v' H3 G3 z m3 h3 S3 (e1.trans e3) r3
theorem ev_if (h : EvT K tt r m fun b m1 => (b = true → Ev K ta r m1 Q) ∧ (b = false → Ev K tb r m1 Q)) : Ev K (tIf tt ta tb) r m Q := fun σ H G S L R k =>
  h σ H G S L _ fun H1 G1 b m1 h1 S1 e1 => by
    cases b with
    | true =>
      show ta σ H1 R
      exact h1.1 rfl σ H1 G1 S1 (L.mono e1) R fun v' H3 G3 z m3 h3 S3 e3 r3 => k v' H3 G3 z m3 h3 S3 (e1.trans e3) r3
    | false =>
      show tb σ H1 R
      exact h1.2 rfl σ H1 G1 S1 (L.mono e1) R fun v' H3 G3 z m3 h3 S3 e3 r3 => k v' H3 G3 z m3 h3 S3 (e1.trans e3) r3
theorem evt_test {Q : Bool → Mm → Prop} (h : Ev K te r m fun x m1 => ∃ b, x = .d (.bool b) ∧ Q b m1) : EvT K (tTest te) r m Q := fun σ H G S L R k =>
  h σ H G S L _ fun v H1 G1 x m1 ⟨b, hx, hb⟩ S1 e1 r1 => by
    subst hx
    exact ⟨b, rp_bool.mp r1.rp, k H1 G1 b m1 hb S1 e1⟩
theorem evt_B {Q : Bool → Mm → Prop} (h : Ev K te r m fun x m1 => ∃ b, x = .d (.bool b) ∧ Q b m1) : EvT K (tB te) r m Q := fun σ H G S L R k =>
  h σ H G S L _ fun v H1 G1 x m1 ⟨b, hx, hb⟩ S1 e1 r1 => by
    subst hx
    exact ⟨b, rp_bool.mp r1.rp, k H1 G1 b m1 hb S1 e1⟩
theorem evt_and {Q : Bool → Mm → Prop} (h : EvT K tt r m fun b m1 => (b = true → EvT K tu r m1 Q) ∧ (b = false → Q false m1)) : EvT K (tAnd tt tu) r m Q := fun σ H G S L R k =>
  h σ H G S L _ fun H1 G1 b m1 h1 S1 e1 => by
    cases b with
    | true =>
      show tu σ H1 R
      exact h1.1 rfl σ H1 G1 S1 (L.mono e1) R fun H3 G3 z m3 h3 S3 e3 => k H3 G3 z m3 h3 S3 (e1.trans e3)
    | false =>
      show R false H1
      exact k H1 G1 false m1 (h1.2 rfl) S1 e1
theorem evt_or {Q : Bool → Mm → Prop} (h : EvT K tt r m fun b m1 => (b = true → Q true m1) ∧ (b = false → EvT K tu r m1 Q)) : EvT K (tOr tt tu) r m Q := fun σ H G S L R k =>
  h σ H G S L _ fun H1 G1 b m1 h1 S1 e1 => by
    cases b with
    | false =>
      show tu σ H1 R
      exact h1.2 rfl σ H1 G1 S1 (L.mono e1) R fun H3 G3 z m3 h3 S3 e3 => k H3 G3 z m3 h3 S3 (e1.trans e3)
    | true =>
      show R true H1
      exact k H1 G1 true m1 (h1.1 rfl) S1 e1
theorem evt_not {Q : Bool → Mm → Prop} (h : EvT K tt r m fun b m1 => Q (!b) m1) : EvT K (tNot tt) r m Q := fun σ H G S L R k =>
  h σ H G S L _ fun H1 G1 b m1 h1 S1 e1 => k H1 G1 (!b) m1 h1 S1 e1
theorem ev_and (h : Ev K ta r m fun x m1 => ∃ b, x = .d (.bool b) ∧ (b = true → Ev K tb r m1 Q) ∧ (b = false → Q (.d (.bool false)) m1)) : Ev K (tAndV ta tb) r m Q := fun σ H G S L R k =>
  h σ H G S L _ fun v H1 G1 x m1 ⟨b, hx, h1, h2⟩ S1 e1 r1 => by
    subst hx
    refine ⟨b, rp_bool.mp r1.rp, ?_⟩
    cases b with
    | true =>
      show tb σ H1 R
      exact h1 rfl σ H1 G1 S1 (L.mono e1) R fun v' H3 G3 z m3 h3 S3 e3 r3 => k v' H3 G3 z m3 h3 S3 (e1.trans e3) r3
    | false =>
      show R (.bl false) H1
      exact k _ H1 G1 _ m1 (h2 rfl) S1 e1 (.d (rp_bool.mpr rfl))
theorem ev_or (h : Ev K ta r m fun x m1 => ∃ b, x = .d (.bool b) ∧ (b = true → Q (.d (.bool true)) m1) ∧ (b = false → Ev K tb r m1 Q)) : Ev K (tOrV ta tb) r m Q := fun σ H G S L R k =>
  h σ H G S L _ fun v H1 G1 x m1 ⟨b, hx, h1, h2⟩ S1 e1 r1 => by
    subst hx
    refine ⟨b, rp_bool.mp r1.rp, ?_⟩
    cases b with
    | false =>
      show tb σ H1 R
      exact h2 rfl σ H1 G1 S1 (L.mono e1) R fun v' H3 G3 z m3 h3 S3 e3 r3 => k v' H3 G3 z m3 h3 S3 (e1.trans e3) r3
    | true =>
      show R (.bl true) H1
      exact k _ H1 G1 _ m1 (h1 rfl) S1 e1 (.d (rp_bool.mpr rfl))
theorem ev_not (h : Ev K ta r m fun x m1 => ∃ b, x = .d (.bool b) ∧ Q (.d (.bool (!b))) m1) : Ev K (tNotV ta) r m Q := fun σ H G S L R k =>
  h σ H G S L _ fun v H1 G1 x m1 ⟨b, hx, h1⟩ S1 e1 r1 => by
    subst hx
    exact ⟨b, rp_bool.mp r1.rp, k _ H1 G1 _ m1 h1 S1 e1 (.d (rp_bool.mpr rfl))⟩
theorem ev_chain {f g : R2} (h : Ev K ta r m fun x m1 => Ev K tb r m1 fun y m2 => Op2 K f x y m2 fun z m3 => ∃ b, z = .d (.bool b) ∧ (b = true → Ev K tc r m3 fun w m4 => Op2 K g y w m4 Q) ∧ (b = false → Q (.d (.bool false)) m3)) :
    Ev K (tChain f g ta tb tc) r m Q := fun σ H G S L R k =>
  h σ H G S L _ fun v H1 G1 x m1 h1 S1 e1 r1 => h1 σ H1 G1 S1 (L.mono e1) _ fun w H2 G2 y m2 h2 S2 e2 r2 =>
    h2 H2 G2 v w S2 (r1.mono e2) r2 _ fun v' H3 G3 z m3 ⟨b, hz, h3, h4⟩ S3 e3 r3 => by
      subst hz
      refine ⟨b, rp_bool.mp r3.rp, ?_⟩
      cases b with
      | true =>
        show tc σ H3 _
        exact h3 rfl σ H3 G3 S3 (L.mono (e1.trans (e2.trans e3))) _ fun u H4 G4 q m4 h5 S4 e4 r4 =>
          h5 H4 G4 w u S4 (r2.mono (e3.trans e4)) r4 R fun v5 H5 G5 z5 m5 q5 S5 e5 r5 => k v5 H5 G5 z5 m5 q5 S5 (e1.trans (e2.trans (e3.trans (e4.trans e5)))) r5
      | false =>
        show R (.bl false) H3
        exact k _ H3 G3 _ m3 (h4 rfl) S3 (e1.trans (e2.trans e3)) (.d (rp_bool.mpr rfl))
/-- a tuple -/
theorem ev_tup {t : TA} (h : EvA K t r m fun xs m1 => ∃ ds : List PyData, xs = ds.map Val.d ∧ ds.length ≤ 100000 ∧ Q (.d (.tuple ds)) m1) : Ev K (tTup t) r m Q := fun σ H G S L R k =>
  h σ H G S L _ fun vs H1 G1 xs m1 ⟨ds, hx, hl, q⟩ S1 e1 r1 => by
    subst hx
    have hA := r1.toAll
    refine ⟨by rw [hA.length]; exact Nat.le_trans hl (by decide), fun p hp => ?_⟩
    have hg := S1.free hp
    exact k (.ref p) _ (upd G1 p (.tup vs)) _ m1 q (S1.fix hp) (e1.trans (Le.new hg)) (.d <| rp_tuple.mpr ⟨p, vs, rfl, SqT.of upd_same, RpAll.mono (Le.new hg) ds vs hA⟩)
/-- a list that stays as it is -/
theorem ev_lstD {t : TA} (h : EvA K t r m fun xs m1 => ∃ ds : List PyData, xs = ds.map Val.d ∧ ds.length ≤ 100000 ∧ Q (.d (.list ds)) m1) : Ev K (tLst t) r m Q := fun σ H G S L R k =>
  h σ H G S L _ fun vs H1 G1 xs m1 ⟨ds, hx, hl, q⟩ S1 e1 r1 => by
    subst hx
    have hA := r1.toAll
    refine ⟨by rw [hA.length]; exact Nat.le_trans hl (by decide), fun p hp => ?_⟩
    have hg := S1.free hp
    exact k (.ref p) _ (upd G1 p (.lst vs)) _ m1 q (S1.fix hp) (e1.trans (Le.new hg)) (.d <| rp_list.mpr ⟨p, vs, rfl, Rd.of upd_same, RpAll.mono (Le.new hg) ds vs hA⟩)
/-- a list that may change -/
theorem ev_lstM {t : TA} (h : EvA K t r m fun xs m1 => xs.length ≤ 100000 ∧ ∀ p, m1 p = none → Q (.v (.ref p)) (put m1 p (.lst xs))) : Ev K (tLst t) r m Q := fun σ H G S L R k =>
  h σ H G S L _ fun vs H1 G1 xs m1 ⟨hl, q⟩ S1 e1 r1 => by
    refine ⟨by rw [r1.length]; exact Nat.le_trans hl (by decide), fun p hp => ?_⟩
    exact k (.ref p) _ G1 _ _ (q p (S1.freeM hp)) (S1.new hp ⟨vs, upd_same, r1⟩) e1 .v
/-! statements -/
variable {N : List Val → Mm → Prop} {E : Val → Mm → Prop} {t u : TS}
theorem Wp.imp {N' : List Val → Mm → Prop} {E' : Val → Mm → Prop} (h : Wp K t r m N E) (i : ∀ x m', N x m' → N' x m') (j : ∀ x m', E x m' → E' x m') : Wp K t r m N' E' := fun σ H G D S L a b =>
  h σ H G D S L (fun σ' H' G' r' m' hq => a σ' H' G' r' m' (i _ _ hq)) (fun v H' G' x m' hq => b v H' G' x m' (j _ _ hq))
theorem w_next (q : N r m) : Wp K tNext r m N E := fun σ H G D S L a b => a σ H G r m q S (Le.refl G) L
theorem w_seq (h : Wp K t r m (fun r1 m1 => Wp K u r1 m1 N E) E) : Wp K (tSeq t u) r m N E := fun σ H G D S L a b =>
  h σ H G { D with nx := u D } S L (fun σ1 H1 G1 r1 m1 h1 S1 e1 L1 => h1 σ1 H1 G1 D S1 L1 (fun σ2 H2 G2 r2 m2 n2 S2 e2 L2 => a σ2 H2 G2 r2 m2 n2 S2 (e1.trans e2) L2)
    (fun v H2 G2 x m2 n2 S2 e2 L2 => b v H2 G2 x m2 n2 S2 (e1.trans e2) L2)) b
theorem w_asg {i : Nat} (h : Ev K te r m fun x m1 => N (r.set i x) m1) : Wp K (tAsg te (gName i)) r m N E := fun σ H G D S L a b =>
  h σ H G S L _ fun v H1 G1 x m1 q S1 e1 r1 => a (σ.set i (some v)) H1 G1 (r.set i x) m1 q S1 e1 ((L.mono e1).set r1 i)
theorem w_drop (h : Ev K te r m fun _ m1 => N r m1) : Wp K (tDrop te) r m N E := fun σ H G D S L a b =>
  h σ H G S L _ fun v H1 G1 x m1 q S1 e1 r1 => a σ H1 G1 r m1 q S1 e1 (L.mono e1)
theorem w_ret (h : Ev K te r m E) : Wp K (tRet te) r m N E := fun σ H G D S L a b => h σ H G S L _ b
theorem w_if (h : EvT K tt r m fun c m1 => (c = true → Wp K t r m1 N E) ∧ (c = false → Wp K u r m1 N E)) : Wp K (tIfS tt t u) r m N E := fun σ H G D S L a b =>
  h σ H G S L _ fun H1 G1 c m1 h1 S1 e1 => by
    cases c with
    | true =>
      show t D σ H1
      exact h1.1 rfl σ H1 G1 D S1 (L.mono e1) (fun σ2 H2 G2 r2 m2 n2 S2 e2 L2 => a σ2 H2 G2 r2 m2 n2 S2 (e1.trans e2) L2) (fun v H2 G2 x m2 n2 S2 e2 L2 => b v H2 G2 x m2 n2 S2 (e1.trans e2) L2)
    | false =>
      show u D σ H1
      exact h1.2 rfl σ H1 G1 D S1 (L.mono e1) (fun σ2 H2 G2 r2 m2 n2 S2 e2 L2 => a σ2 H2 G2 r2 m2 n2 S2 (e1.trans e2) L2) (fun v H2 G2 x m2 n2 S2 e2 L2 => b v H2 G2 x m2 n2 S2 (e1.trans e2) L2)
/-- a, b = .. of one tuple -/
theorem w_asg2 {i j : Nat} (h : Ev K te r m fun x m1 => ∃ d1 d2, x = .d (.tuple [d1, d2]) ∧ N ((r.set i (.d d1)).set j (.d d2)) m1) : Wp K (tAsg te (gTup K 2 (gCons (gName i) (gCons (gName j) gNil)))) r m N E := fun σ H G D S L a b =>
  h σ H G S L _ fun v H1 G1 x m1 ⟨d1, d2, hx, q⟩ S1 e1 r1 => by
    subst hx
    obtain ⟨p, xs, hv, hs, hA⟩ := rp_tuple.mp r1.rp
    have hl := hA.length
    obtain ⟨x1, t1, rfl, a1, hA⟩ := rpa_cons.mp hA
    obtain ⟨x2, t2, rfl, a2, hA⟩ := rpa_cons.mp hA
    obtain rfl := rpa_nil.mp hA
    refine ⟨p, _, hv, S1.sqT hs, rfl, x1, [x2], rfl, x2, [], rfl, rfl, ?_⟩
    exact a _ H1 G1 _ m1 q S1 e1 (((L.mono e1).set (r := .d d1) (.d a1) i).set (r := .d d2) (.d a2) j)
/-- a, b = e, f -/
theorem w_par {i j : Nat} {ta : TA} (h : EvA K ta r m fun xs m1 => ∃ x y, xs = [x, y] ∧ N ((r.set i x).set j y) m1) : Wp K (tPar i j ta) r m N E := fun σ H G D S L a b =>
  h σ H G S L _ fun vs H1 G1 xs m1 ⟨x, y, hx, q⟩ S1 e1 r1 => by
    subst hx
    obtain ⟨v1, t1, rfl, a1, t2⟩ := r1
    obtain ⟨v2, t2, rfl, a2, t3⟩ := t2
    have t3 : t2 = [] := t3
    subst t3
    exact ⟨v1, v2, rfl, a _ H1 G1 _ m1 q S1 e1 (((L.mono e1).set a1 i).set a2 j)⟩
theorem w_while {tt : TT} (W : Nat → List Val → Mm → Prop) (n0 : Nat) (h0 : W n0 r m)
    (hs : ∀ n r' m', W n r' m' → EvT K tt r' m' fun c m1 => (c = true → Wp K t r' m1 (fun r2 m2 => ∃ n', n' < n ∧ W n' r2 m2) E) ∧ (c = false → N r' m1)) : Wp K (tWhile tt t) r m N E := fun σ H G D S L a b => by
  refine ⟨fun n σ' H' => ∃ G' r' m', W n r' m' ∧ Sta K m' H' G' ∧ Le G G' ∧ Sl K G' r' σ', ⟨n0, G, r, m, h0, S, Le.refl G, L⟩, ?_⟩
  rintro n σ1 H1 ⟨G1, r1, m1, hw, S1, e1, L1⟩
  refine hs n r1 m1 hw σ1 H1 G1 S1 L1 _ fun H2 G2 c m2 h2 S2 e2 => ?_
  cases c with
  | true =>
    refine ⟨fun σ' H' => ∃ n', n' < n ∧ ∃ G' r' m', W n' r' m' ∧ Sta K m' H' G' ∧ Le G G' ∧ Sl K G' r' σ', fun σ' H' h => h, ?_⟩
    exact h2.1 rfl σ1 H2 G2 _ S2 (L1.mono e2) (fun σ3 H3 G3 r3 m3 ⟨n', hn, hw'⟩ S3 e3 L3 => ⟨n', hn, G3, r3, m3, hw', S3, e1.trans (e2.trans e3), L3⟩)
      (fun v H3 G3 x m3 n3 S3 e3 L3 => b v H3 G3 x m3 n3 S3 (e1.trans (e2.trans e3)) L3)
  | false => exact a σ1 H2 G2 r1 m2 (h2.2 rfl) S2 (e1.trans e2) (L1.mono e2)
theorem w_forTA {tl : TE} {j : Nat} (P : List PyData → Prop) (h : Ev K tl r m fun x m1 => m1 = m ∧ ∃ ds, x = .d (.tuple ds) ∧ P ds) (W : List PyData → Nat → List Val → Mm → Prop) (h0 : ∀ ds, P ds → W ds 0 r m)
    (hs : ∀ (ds : List PyData) (i : Nat) (d : PyData) r' m', P ds → ds[i]? = some d → W ds i r' m' → Wp K t (r'.set j (.d d)) m' (W ds (i + 1)) E) (hd : ∀ (ds : List PyData) r' m', P ds → W ds ds.length r' m' → N r' m') : Wp K (tFor (iTup K tl) (gName j) t) r m N E := fun σ H G D S L a b =>
  h σ H G S L _ fun v H1 G1 x m1 ⟨hm, ds, hx, hP⟩ S1 e1 r1 => by
    subst hx hm
    obtain ⟨p, xs, hv, hs1, hA⟩ := rp_tuple.mp r1.rp
    refine ⟨p, hv, ⟨xs, S1.sqT hs1⟩, for_tup (xs := xs) (fun i σ' H' => ∃ G' r' m', W ds i r' m' ∧ Sta K m' H' G' ∧ Le G1 G' ∧ Sl K G' r' σ') ⟨G1, r, _, h0 ds hP, S1, Le.refl G1, L.mono e1⟩ ?_ ?_ ?_⟩
    · rintro i σ' H' hi ⟨G', r', m', _, S', e', _⟩
      exact S'.sqT (e'.sqT hs1)
    · rintro i y σ' H' hy ⟨G', r', m', hw, S', e', L'⟩
      obtain ⟨d, hd1, hd2⟩ := hA.get hy
      refine hs ds i d r' m' hP hd1 hw (σ'.set j (some y)) H' G' _ S' (L'.set (r := .d d) (.d (Rp.mono e' d y hd2)) j) (fun σ3 H3 G3 r3 m3 h3 S3 e3 L3 => ⟨G3, r3, m3, h3, S3, e'.trans e3, L3⟩) (fun v H3 G3 x m3 n3 S3 e3 L3 => b v H3 G3 x m3 n3 S3 (e1.trans (e'.trans e3)) L3)
    · rintro σ' H' ⟨G', r', m', hw, S', e', L'⟩
      rw [hA.length] at hw
      exact a σ' H' G' r' m' (hd ds r' m' hP hw) S' (e1.trans e') L'
theorem w_forT {tl : TE} {j : Nat} {ds : List PyData} (h : Ev K tl r m fun x m1 => x = .d (.tuple ds) ∧ m1 = m) (W : Nat → List Val → Mm → Prop) (h0 : W 0 r m)
    (hs : ∀ (i : Nat) (d : PyData) r' m', ds[i]? = some d → W i r' m' → Wp K t (r'.set j (.d d)) m' (W (i + 1)) E) (hd : ∀ r' m', W ds.length r' m' → N r' m') : Wp K (tFor (iTup K tl) (gName j) t) r m N E :=
  w_forTA (fun l => l = ds) (h.imp fun x m' e => ⟨e.2, ds, e.1, rfl⟩) (fun _ => W) (fun _ _ => h0) (fun l i d r' m' e hd hw => hs i d r' m' (by rw [← e]; exact hd) hw) (fun l r' m' e hw => hd r' m' (by rw [← e]; exact hw))
theorem w_forLA {tl : TE} {j : Nat} (P : List PyData → Prop) (h : Ev K tl r m fun x m1 => m1 = m ∧ ∃ ds, x = .d (.list ds) ∧ P ds) (W : List PyData → Nat → List Val → Mm → Prop) (h0 : ∀ ds, P ds → W ds 0 r m)
    (hs : ∀ (ds : List PyData) (i : Nat) (d : PyData) r' m', P ds → ds[i]? = some d → W ds i r' m' → Wp K t (r'.set j (.d d)) m' (W ds (i + 1)) E) (hd : ∀ (ds : List PyData) r' m', P ds → W ds ds.length r' m' → N r' m') : Wp K (tFor (iList K tl) (gName j) t) r m N E := fun σ H G D S L a b =>
  h σ H G S L _ fun v H1 G1 x m1 ⟨hm, ds, hx, hP⟩ S1 e1 r1 => by
    subst hx hm
    obtain ⟨p, xs, hv, hs1, hA⟩ := rp_list.mp r1.rp
    have hs1 : SqL K G1 p xs := Or.inl hs1
    refine ⟨p, hv, ⟨xs, S1.sqL hs1⟩, for_list (xs := xs) (fun i σ' H' => ∃ G' r' m', W ds i r' m' ∧ Sta K m' H' G' ∧ Le G1 G' ∧ Sl K G' r' σ') ⟨G1, r, _, h0 ds hP, S1, Le.refl G1, L.mono e1⟩ ?_ ?_ ?_⟩
    · rintro i σ' H' hi ⟨G', r', m', _, S', e', _⟩
      exact S'.sqL (e'.sqL hs1)
    · rintro i y σ' H' hy ⟨G', r', m', hw, S', e', L'⟩
      obtain ⟨d, hd1, hd2⟩ := hA.get hy
      refine hs ds i d r' m' hP hd1 hw (σ'.set j (some y)) H' G' _ S' (L'.set (r := .d d) (.d (Rp.mono e' d y hd2)) j) (fun σ3 H3 G3 r3 m3 h3 S3 e3 L3 => ⟨G3, r3, m3, h3, S3, e'.trans e3, L3⟩) (fun v H3 G3 x m3 n3 S3 e3 L3 => b v H3 G3 x m3 n3 S3 (e1.trans (e'.trans e3)) L3)
    · rintro σ' H' ⟨G', r', m', hw, S', e', L'⟩
      rw [hA.length] at hw
      exact a σ' H' G' r' m' (hd ds r' m' hP hw) S' (e1.trans e') L'
theorem w_forL {tl : TE} {j : Nat} {ds : List PyData} (h : Ev K tl r m fun x m1 => x = .d (.list ds) ∧ m1 = m) (W : Nat → List Val → Mm → Prop) (h0 : W 0 r m)
    (hs : ∀ (i : Nat) (d : PyData) r' m', ds[i]? = some d → W i r' m' → Wp K t (r'.set j (.d d)) m' (W (i + 1)) E) (hd : ∀ r' m', W ds.length r' m' → N r' m') : Wp K (tFor (iList K tl) (gName j) t) r m N E :=
  w_forLA (fun l => l = ds) (h.imp fun x m' e => ⟨e.2, ds, e.1, rfl⟩) (fun _ => W) (fun _ _ => h0) (fun l i d r' m' e hd hw => hs i d r' m' (by rw [← e]; exact hd) hw) (fun l r' m' e hw => hd r' m' (by rw [← e]; exact hw))
theorem w_forR1 {ta : TA} {j : Nat} {n : Nat} (h : EvA K ta r m fun xs m1 => xs = [.d (.int (n : Int))] ∧ m1 = m) (hn : n ≤ 100000) (W : Nat → List Val → Mm → Prop) (h0 : W 0 r m)
    (hs : ∀ (i : Nat) r' m', i < n → W i r' m' → Wp K t (r'.set j (.d (.int (i : Int)))) m' (W (i + 1)) E) (hd : ∀ r' m', W n r' m' → N r' m') : Wp K (tFor (iRng1 ta) (gName j) t) r m N E := fun σ H G D S L a b =>
  h σ H G S L _ fun vs H1 G1 xs m1 ⟨hx, hm⟩ S1 e1 r1 => by
    subst hx hm
    obtain ⟨v1, t1, rfl, a1, t2⟩ := r1
    have t2 : t1 = [] := t2
    subst t2
    have a1 : v1 = .int (n : Int) := rp_int.mp a1.rp
    subst a1
    have en : ((n : Int)).toNat = n := by omega
    refine ⟨(n : Int), rfl, by omega, by omega, ?_⟩
    rw [en]
    refine for_range (lo := 0) (n := n) (fun i σ' H' => ∃ G' r' m', W i r' m' ∧ Sta K m' H' G' ∧ Le G1 G' ∧ Sl K G' r' σ') ⟨G1, r, _, h0, S1, Le.refl G1, L.mono e1⟩ ?_ ?_
    · rintro i σ' H' hi ⟨G', r', m', hw, S', e', L'⟩
      rw [Int.zero_add]
      refine hs i r' m' hi hw (σ'.set j (some (.int (i : Int)))) H' G' _ S' (L'.set (r := .d (.int (i : Int))) (.d (rp_int.mpr rfl)) j) (fun σ3 H3 G3 r3 m3 h3 S3 e3 L3 => ⟨G3, r3, m3, h3, S3, e'.trans e3, L3⟩) (fun v H3 G3 x m3 n3 S3 e3 L3 => b v H3 G3 x m3 n3 S3 (e1.trans (e'.trans e3)) L3)
    · rintro σ' H' ⟨G', r', m', hw, S', e', L'⟩
      exact a σ' H' G' r' m' (hd r' m' hw) S' (e1.trans e') L'
end
/-! what a def does, at this level -/
abbrev FSp := List Val → Mm → (Val → Mm → Prop) → Prop
def spD (K : PySem.W.Frag) (f : FSp) : Sp := fun vs H Q _ => ∃ m G args R, Sta K m H G ∧ VRs K G args vs ∧ f args m R ∧ ∀ v H' G' x m', R x m' → Sta K m' H' G' → Le G G' → VR K G' x v → Q v H'
theorem ev_call {K : PySem.W.Frag} {f : FSp} {t : TA} {E : XK} {r : List Val} {m : Mm} {Q : Val → Mm → Prop} (h : EvA K t r m fun xs m1 => f xs m1 Q) : Ev K (tCall (spD K f) [] E t) r m Q := fun σ H G S L R k =>
  h σ H G S L _ fun vs H1 G1 xs m1 h1 S1 e1 r1 => by
    rw [List.append_nil]
    exact ⟨m1, G1, xs, Q, S1, r1, h1, fun v' H3 G3 z m3 h3 S3 e3 r3 => k v' H3 G3 z m3 h3 S3 (e1.trans e3) r3⟩
section
variable {P : Program} {w : World} {K : PySem.W.Frag} {mg : Str → Option Value} {base : Heap}
theorem fn_ok {x qual : Str} {st : Stmt} {f : Addr} {fd : FuncData} {N ps : List Str} {k : Nat} {sp : FSp} (F : Fun K x qual st f fd) (S : FnScope N ps (defScope st)) (hl : ∀ args m R, sp args m R → args.length = ps.length)
    (hb : ∀ (cdv : Value) (A : Around) (outer : List Env) (s : Shared) (H : Hp) (E : XK), Room k (A.deeper (PyProof.Rows.envOfC qual (defScope st) s.heap.objs.size f cdv)) →
      ∃ t, PSs (cxOf CX0 P w K mg base N qual (defScope st) f cdv A outer s H E).nox (defBody st) t ∧
        ∀ args m R, sp args m R → Wp K t (args ++ List.replicate (N.length - args.length) .any) m (fun _ m' => R (.d .none) m') R) : FnOk P w K mg base CX0 (k + 1) f fd ps (spD K sp) := by
  refine F.ok S (fun vs H Q E h => ?_) (fun cdv A outer s H vs Q E hr h => ?_)
  · obtain ⟨m, G, args, R, S1, r1, h1, _⟩ := h
    rw [r1.length]; exact hl args m R h1
  · obtain ⟨m, G, args, R, S1, r1, h1, k1⟩ := h
    obtain ⟨t, ht, hw⟩ := hb cdv A outer s H E hr
    refine ⟨t, ht, ?_⟩
    refine hw args m R h1 _ H G _ S1 ?_ (fun σ' H' G' r' m' hn S' e' L' => ?_) (fun v H' G' x m' hn S' e' L' => k1 v H' G' x m' hn S' e' L')
    · unfold L2.start
      rw [r1.length]
      exact Sl.start _ r1
    · exact k1 .non H' G' (.d .none) m' hn S' e' (.d (rp_none.mpr rfl))
end
end DL
namespace DL
open PySem L2
/-! rules of the layer below, joined -/
section
variable {X : Cx}
/-- list + list, as they may be read -/
def rCatR : R2 := fun x y H Q => ∃ l b xs zs, x = .ref l ∧ y = .ref b ∧ Rd H l (.lst xs) ∧ Rd H b (.lst zs) ∧ xs.length + zs.length ≤ sizeLine ∧ ∀ p, H p = none → Q (.ref p) (upd H p (.lst (xs ++ zs)))
theorem rd_list {pins : List (Addr × Obj)} {σ : L2.St} {H : Hp} {s : Shared} {l : Addr} {xs : List V} (I : Inv X pins σ H s) (h : Rd H l (.lst xs)) :
    xs.length ≤ sizeLine ∧ ∃ (its : List Value) (n : Nat), Vals xs its ∧ xs.length = its.length ∧ s.heap.get? l = some { cls := .type "list", data := .seq its.toArray n } := by
  obtain ⟨z, its, n, r, e⟩ := h.ok I.hok
  exact ⟨z, its, n, r, r.length, e⟩
theorem op_catR : OpR X (binaryOp .Add) rCatR := by
  intro pins s σ H x y v u Q I rx ry h
  obtain ⟨l, b, xs, zs, rfl, rfl, hH, hB, hz, q⟩ := h
  cases rx
  cases ry
  obtain ⟨z1, its1, n1, r1, hl1, e1⟩ := rd_list I hH
  obtain ⟨z2, its2, n2, r2, hl2, e2⟩ := rd_list I hB
  refine PySem.P.add_list e1 e2 ?_ (by rw [List.size_toArray, List.size_toArray, ← hl1, ← hl2]; exact hz)
  have ea : its1.toArray ++ its2.toArray = (its1 ++ its2).toArray := by simp
  rw [ea]
  exact ⟨.ref _, _, I.lnew (t' := s.toks) (r1.append r2) (by rw [List.length_append]; exact hz), rfl, q _ I.fresh⟩
def rAddI : R2 := rI0 fun i j => .int (i + j)
def rAddS : R2 := fun x y H Q => ∃ i j, x = .str i ∧ y = .str j ∧ i.length + j.length ≤ sizeLine ∧ Q (.str (i ++ j)) H
def rAdd (K : PySem.W.Frag) : R2 := fun x y H Q => rAddI x y H Q ∨ (rCatA K x y H Q ∨ (rCatR x y H Q ∨ rAddS x y H Q))
theorem oAdd : OpR X (binaryOp .Add) (rAdd X.K) := (op_add).or (op_catA.or (op_catR.or op_add_str))
def rSub : R2 := rI0 fun i j => .int (i - j)
theorem oSub : OpR X (binaryOp .Sub) rSub := op_sub
def rMulI : R2 := rI CMulW fun i j => .int (i * j)
def rFdv : R2 := rI CDivW fun i j => .int (i / j)
theorem oFdv : OpR X (binaryOp .FloorDiv) rFdv := op_fdivW
def rMod : R2 := rI (fun _ j => 0 < j) fun i j => .int (i % j)
theorem oMod : OpR X (binaryOp .Mod) rMod := op_mod
def rLt : R2 := rI0 fun i j => .bl (decide (i < j))
def rLe : R2 := rI0 fun i j => .bl (decide (i ≤ j))
def rGt : R2 := rI0 fun i j => .bl (decide (j < i))
def rGe : R2 := rI0 fun i j => .bl (decide (j ≤ i))
theorem oLt : OpR X (compareOp .Lt) rLt := op_lt
theorem oLe : OpR X (compareOp .LtE) rLe := op_le
theorem oGt : OpR X (compareOp .Gt) rGt := op_gt
theorem oGe : OpR X (compareOp .GtE) rGe := op_ge
def rEqA (K : PySem.W.Frag) : R2 := fun x y H Q => rEq x y H Q ∨ rEqD K x y H Q
def rNeA (K : PySem.W.Frag) : R2 := fun x y H Q => rNe x y H Q ∨ rNeD K x y H Q
theorem oEq {k : Nat} (hr : Room k X.A) : OpR X (compareOp .Eq) (rEqA X.K) := op_eq.or (op_eqD hr.units)
theorem oNe {k : Nat} (hr : Room k X.A) : OpR X (compareOp .NotEq) (rNeA X.K) := op_ne.or (op_neD hr.units)
def rNeg : V → Hp → VK → Prop := rU fun i => .int (-i)
/-! a tuple so many times: once it is the same one -/
theorem mul_tuple1 {l : Addr} {items : Array Value} {n : Nat} {dd : Option Addr} {sl : Array (Option Value)} {u : Tok} :
    Meets (Builtin.«tuple.__mul__» ⟨[.ref l, .int 1 u], []⟩) (fun _ R s => s.heap.get? l = some { cls := .type "tuple", dict := dd, data := .seq items n, slots := sl } ∧ R (.ok (.ret (Value.ref l))) s) :=
  .of_wp fun prog w A R s h => by
    obtain ⟨hp, g, d, tk, os⟩ := s
    obtain ⟨hl, h⟩ := h
    have f1 := AutoSeq1.idx_int
    wp_walk using wpAny_loadPart' hl
    repeat (first
      | (refine wpAny_ite_false (by decide) ?_; wp_walk using wpAny_loadPart' hl)
      | (refine wpAny_ite_true (by simp) ?_; wp_walk using wpAny_loadPart' hl))
    exact ⟨_, rfl, h⟩
def rRepT1 (K : PySem.W.Frag) : R2 := fun x y H Q => ∃ l xs, x = .ref l ∧ y = .int 1 ∧ SqT K H l xs ∧ Q (.ref l) H
theorem op_repT1 : OpR X (binaryOp .Mult) (rRepT1 X.K) := by
  intro pins s σ H x y v u Q I rx ry h
  obtain ⟨l, xs, rfl, rfl, hT, q⟩ := h
  cases rx
  obtain ⟨t, rfl⟩ := ry
  obtain ⟨its, r, ⟨⟨cls, dd, data, sl⟩, ho, hc, n, hd⟩, hs⟩ := I.tuple hT
  simp only at hc hd
  subst hc hd
  refine wpAny_binaryOp_repeat_ref (T := "tuple") (U := "int") (by decide) ⟨_, ho, rfl⟩ (fun s' => typeIs_int s' 1 t) noFill_tuple_mul PySem.F.fills_int_mul PySem.F.slot_int_rmul repeat_tuple PySem.F.slot_int_index.lookup
    (call_meets PySem.F.slot_int_rmul (typeIs_int s 1 t) PySem.F.entry_int_rmul (PySem.F.args_int_rmul_2 _ _) (int_rmul_tuple 1 t l its.toArray n dd sl)
      ⟨ho, rfl, ⟨_, ho, rfl⟩, call_meets PySem.F.slot_tuple_mul ⟨_, ho, rfl⟩ PySem.F.entry_tuple_mul (PySem.F.args_tuple_mul_2 _ _) mul_tuple1 ⟨ho, ?_⟩⟩)
  exact ⟨.ref l, H, I, rfl, q⟩
def rMul (K : PySem.W.Frag) : R2 := fun x y H Q => rMulI x y H Q ∨ (rRepT K x y H Q ∨ (rRepT1 K x y H Q ∨ rRep x y H Q))
theorem oMul : OpR X (binaryOp .Mult) (rMul X.K) := op_mulW.or (op_repT.or (op_repT1.or op_rep))
/-! sum of a tuple -/
def rSumT (K : PySem.W.Frag) : List V → Hp → VK → Prop := fun vs H Q => ∃ (a : Addr) (ns : List Int), vs = [V.ref a] ∧ SqT K H a (ns.map V.int) ∧ Q (.int ns.sum) H
theorem presum_take (ns : List Int) : ∀ k, preSum (fun i => ns.getD i 0) k = (ns.take k).sum
  | 0 => by simp [preSum]
  | k + 1 => by
    have ih := presum_take ns k
    by_cases h : k < ns.length
    · rw [List.take_succ_eq_append_getElem h, List.sum_append]
      simp only [preSum, ih, List.sum_cons, List.sum_nil, Int.add_zero]
      rw [List.getD_eq_getElem?_getD, List.getElem?_eq_getElem h]; rfl
    · rw [List.take_of_length_le (by omega)] at ih ⊢
      simp only [preSum, ih]
      rw [List.getD_eq_getElem?_getD, List.getElem?_eq_none (by omega)]; simp
theorem cr_sumT (hc : X.calm = true) : CallR X (.builtin "sum") (rSumT X.K) := by
  intro pins s σ H vs us Q I r h
  obtain ⟨a, ns, rfl, hs, q⟩ := h
  obtain ⟨its, rv, ht, _⟩ := I.tuple hs
  rw [Vals.ref1 r]
  have hlt : a < s.heap.objs.size := ht.lt
  refine call_sum_walkG (wpAny_pyIter_tuple ht ?_)
  refine ⟨s.heap.objs.size, [s.heap.objs.size, a], [s.heap.objs.size], its.toArray.size, _, _, fun i => ns.getD i 0, rfl, Walks.tuple (A := X.A.in1) (I.ok.hd hc) s.heap.objs.size a (Nat.ne_of_lt hlt) its.toArray, ⟨⟨_, Heap.get?_push_size _ rfl, rfl, rfl⟩, ?_⟩, ?_, ?_, ?_⟩
  · obtain ⟨o, h1, h2⟩ := ht
    exact ⟨o, Heap.get?_push_of_some _ h1, h2⟩
  · intro b hb
    have hsz : (s.heap.push { cls := .type "tuple_iterator", data := .fields #[.ref a, .int 0 0] }).objs.size = s.heap.objs.size + 1 := Heap.size_push ..
    show b < (s.heap.push { cls := .type "tuple_iterator", data := .fields #[.ref a, .int 0 0] }).objs.size
    rw [hsz]
    rcases List.mem_cons.mp hb with e | e
    · rw [e]; exact Nat.lt_succ_self _
    · rw [List.mem_singleton.mp e]; exact Nat.lt_succ_of_lt hlt
  · intro i v hv
    have hv : its[i]? = some v := by simpa using hv
    have hlen := rv.length
    have hil : i < its.length := (List.getElem?_eq_some_iff.mp hv).1
    rw [List.length_map] at hlen
    have hx : (ns.map V.int)[i]? = some (.int (ns.getD i 0)) := by
      rw [List.getElem?_map, List.getD_eq_getElem?_getD, List.getElem?_eq_getElem (by omega)]; rfl
    obtain ⟨u, h1, h2⟩ := rv.get hx
    rw [hv] at h1
    cases h1
    exact h2
  · intro h' tk t' hk
    have hlen := rv.length
    rw [List.length_map] at hlen
    have e : preSum (fun i => ns.getD i 0) its.toArray.size = ns.sum := by
      rw [presum_take, List.size_toArray, List.take_of_length_le (by omega)]
    rw [e]
    refine ⟨.int ns.sum, H, I.kept (fun b o e => hk b o (fun hb => ?_) (Heap.get?_push_of_some _ e)), ⟨_, rfl⟩, q⟩
    have hb : b = s.heap.objs.size := by simpa using hb
    subst hb
    exact absurd (Heap.lt_size e) (Nat.lt_irrefl _)
def rSumA (K : PySem.W.Frag) : List V → Hp → VK → Prop := fun vs H Q => rSum K vs H Q ∨ rSumT K vs H Q
theorem cSum (hc : X.calm = true) : CallR X (.builtin "sum") (rSumA X.K) := (cr_sum hc).or (cr_sumT hc)
theorem cAll (hc : X.calm = true) : CallR X (.builtin "all") (rAll X.K) := cr_all hc
def rAbs : List V → Hp → VK → Prop := fun xs H Q => ∃ i, xs = [.int i] ∧ Q (.int (if i < 0 then -i else i)) H
theorem cAbs : CallR X (.builtin "abs") rAbs := call_abs
def rMax2 : List V → Hp → VK → Prop := fun xs H Q => ∃ i j, xs = [.int i, .int j] ∧ Q (.int (if j > i then j else i)) H
def rMin2 : List V → Hp → VK → Prop := fun xs H Q => ∃ i j, xs = [.int i, .int j] ∧ Q (.int (if j < i then j else i)) H
theorem cMax (hc : X.calm = true) : CallR X (.builtin "max") rMax2 := call_max2 hc
theorem cMin (hc : X.calm = true) : CallR X (.builtin "min") rMin2 := call_min2 hc
def rLenQ (K : PySem.W.Frag) : List V → Hp → VK → Prop := fun xs H Q => ∃ p ys, xs = [.ref p] ∧ (SqL K H p ys ∨ SqT K H p ys) ∧ Q (.int ys.length) H
def rLenS : List V → Hp → VK → Prop := fun xs H Q => ∃ z, xs = [.str z] ∧ z.length ≤ sizeLine ∧ Q (.int z.length) H
def rLen (K : PySem.W.Frag) : List V → Hp → VK → Prop := fun vs H Q => rLenQ K vs H Q ∨ rLenS vs H Q
theorem cLen : CallR X (.builtin "len") (rLen X.K) := call_len_seq.or call_len_str
def rTupO (K : PySem.W.Frag) : List V → Hp → VK → Prop := fun xs H Q => ∃ p ys, xs = [.ref p] ∧ ((SqL K H p ys ∧ ∀ l, H l = none → Q (.ref l) (upd H l (.tup ys))) ∨ (SqT K H p ys ∧ Q (.ref p) H))
theorem cTup : CallR X (.type "tuple") (rTupO X.K) := call_tuple_of
def rLstO (K : PySem.W.Frag) : List V → Hp → VK → Prop := fun xs H Q => ∃ p ys, xs = [.ref p] ∧ (SqL K H p ys ∨ SqT K H p ys) ∧ ∀ l, H l = none → Q (.ref l) (upd H l (.lst ys))
theorem cIsi : CallR X (.builtin "isinstance") (rIsi X.K) := call_isi
def rDivmod : List V → Hp → VK → Prop := fun xs H Q => ∃ i j, xs = [.int i, .int j] ∧ CDivW i j ∧ ∀ p, H p = none → Q (.ref p) (upd H p (.tup [.int (i / j), .int (i % j)]))
theorem cDivmod : CallR X (.builtin "divmod") rDivmod := by
  intro pins s σ H xs us Q I r h
  obtain ⟨i, j, rfl, ⟨h1, h2⟩, q⟩ := h
  obtain ⟨u, w', rfl, ⟨t, rfl⟩, ⟨t', rfl⟩⟩ := vals2 r
  refine PyProof.Rows.divmod_int (by omega) ?_ (.inl (PyProof.noPylong_of_log2 h2))
  rw [Int.fdiv_eq_ediv_of_nonneg i (by omega), Int.fmod_eq_emod_of_nonneg i (by omega)]
  have hn : H s.heap.objs.size = none := I.hok.fresh (Nat.le_refl _)
  refine ⟨.ref s.heap.objs.size, _, ?_, rfl, q _ hn⟩
  refine I.laid (fun b o e => Heap.get?_push_of_some _ e) (Nat.le_refl _) ⟨by rw [sizeLine_eq]; show 2 ≤ 16777216; decide, [.int (i / j) s.toks, .int (i % j) (s.toks + 1)], .cons ⟨_, rfl⟩ (.cons ⟨_, rfl⟩ .nil), ?_⟩
  exact ⟨_, Heap.get?_push_size s.heap rfl, rfl, 0, rfl⟩
/-! repr of data -/
mutual
theorem rp_dp {K : PySem.W.Frag} {G : Hp} : ∀ (d : PyData) (v : V), d.hasDict = false → Rp K G d v → Dp K G v d
  | .none, v, _, h => by rw [rp_none.mp h]; exact .non
  | .bool b, v, _, h => by rw [rp_bool.mp h]; exact .bl b
  | .int i, v, _, h => by rw [rp_int.mp h]; exact .int i
  | .str s, v, _, h => by rw [rp_str.mp h]; exact .str s
  | .list ds, v, n, h => by
    obtain ⟨a, xs, rfl, h2, h3⟩ := rp_list.mp h
    exact .lst (Or.inl h2) (rp_dpAll ds xs (by simpa [PyData.hasDict] using n) h3)
  | .tuple ds, v, n, h => by
    obtain ⟨a, xs, rfl, h2, h3⟩ := rp_tuple.mp h
    exact .tup h2 (rp_dpAll ds xs (by simpa [PyData.hasDict] using n) h3)
  | .dict kvs, v, n, h => by simp [PyData.hasDict] at n
theorem rp_dpAll {K : PySem.W.Frag} {G : Hp} : ∀ (ds : List PyData) (xs : List V), PyData.hasDictAll ds = false → RpAll K G ds xs → DpAll K G xs ds
  | [], xs, _, h => by rw [rpa_nil.mp h]; exact .nil
  | d :: ds, xs, n, h => by
    obtain ⟨x, r, rfl, h2, h3⟩ := rpa_cons.mp h
    have n : d.hasDict = false ∧ PyData.hasDictAll ds = false := by simpa [PyData.hasDictAll] using n
    exact .cons (rp_dp d x n.1 h2) (rp_dpAll ds r n.2 h3)
end
end
end DL
namespace DL
open PySem L2
section
variable {K : PySem.W.Frag} {m : Mm} {Q : Val → Mm → Prop}
/-! operators upon ints -/
theorem int_of {G : Hp} {i : Int} {v : V} (h : VR K G (.d (.int i)) v) : v = .int i := rp_int.mp h.rp
theorem bool_of {G : Hp} {i : Bool} {v : V} (h : VR K G (.d (.bool i)) v) : v = .bl i := rp_bool.mp h.rp
theorem str_of {G : Hp} {i : Str} {v : V} (h : VR K G (.d (.str i)) v) : v = .str i := rp_str.mp h.rp
theorem vr_int {G : Hp} {i : Int} : VR K G (.d (.int i)) (.int i) := .d (rp_int.mpr rfl)
theorem vr_bool {G : Hp} {i : Bool} : VR K G (.d (.bool i)) (.bl i) := .d (rp_bool.mpr rfl)
theorem vr_str {G : Hp} {i : Str} : VR K G (.d (.str i)) (.str i) := .d (rp_str.mpr rfl)
theorem vr_none {G : Hp} : VR K G (.d .none) .non := .d (rp_none.mpr rfl)
theorem o2_I0 {g : Int → Int → Int} {i j : Int} (q : Q (.d (.int (g i j))) m) : Op2 K (rI0 fun i j => .int (g i j)) (.d (.int i)) (.d (.int j)) m Q := fun H G v w S a b R k => by
  rw [int_of a, int_of b]
  exact ⟨i, j, rfl, rfl, k _ H G _ m q S (Le.refl G) vr_int⟩
theorem o2_B0 {g : Int → Int → Bool} {i j : Int} (q : Q (.d (.bool (g i j))) m) : Op2 K (rI0 fun i j => .bl (g i j)) (.d (.int i)) (.d (.int j)) m Q := fun H G v w S a b R k => by
  rw [int_of a, int_of b]
  exact ⟨i, j, rfl, rfl, k _ H G _ m q S (Le.refl G) vr_bool⟩
theorem o2_I {C : Int → Int → Prop} {g : Int → Int → Int} {i j : Int} (c : C i j) (q : Q (.d (.int (g i j))) m) : Op2 K (rI C fun i j => .int (g i j)) (.d (.int i)) (.d (.int j)) m Q := fun H G v w S a b R k => by
  rw [int_of a, int_of b]
  exact ⟨i, j, rfl, rfl, c, k _ H G _ m q S (Le.refl G) vr_int⟩
theorem o2_addI {i j : Int} (q : Q (.d (.int (i + j))) m) : Op2 K (rAdd K) (.d (.int i)) (.d (.int j)) m Q := fun H G v w S a b R k => Or.inl (o2_I0 (g := fun i j => i + j) q H G v w S a b R k)
theorem o2_sub {i j : Int} (q : Q (.d (.int (i - j))) m) : Op2 K rSub (.d (.int i)) (.d (.int j)) m Q := o2_I0 (g := fun i j => i - j) q
theorem o2_mulI {i j : Int} (c : CMulW i j) (q : Q (.d (.int (i * j))) m) : Op2 K (rMul K) (.d (.int i)) (.d (.int j)) m Q := fun H G v w S a b R k => Or.inl (o2_I (C := CMulW) (g := fun i j => i * j) c q H G v w S a b R k)
theorem o2_fdv {i j : Int} (c : CDivW i j) (q : Q (.d (.int (i / j))) m) : Op2 K rFdv (.d (.int i)) (.d (.int j)) m Q := o2_I (C := CDivW) (g := fun i j => i / j) c q
theorem o2_mod {i j : Int} (c : 0 < j) (q : Q (.d (.int (i % j))) m) : Op2 K rMod (.d (.int i)) (.d (.int j)) m Q := o2_I (C := fun _ j => 0 < j) (g := fun i j => i % j) c q
theorem o2_lt {i j : Int} (q : Q (.d (.bool (decide (i < j)))) m) : Op2 K rLt (.d (.int i)) (.d (.int j)) m Q := o2_B0 (g := fun i j => decide (i < j)) q
theorem o2_le {i j : Int} (q : Q (.d (.bool (decide (i ≤ j)))) m) : Op2 K rLe (.d (.int i)) (.d (.int j)) m Q := o2_B0 (g := fun i j => decide (i ≤ j)) q
theorem o2_gt {i j : Int} (q : Q (.d (.bool (decide (j < i)))) m) : Op2 K rGt (.d (.int i)) (.d (.int j)) m Q := o2_B0 (g := fun i j => decide (j < i)) q
theorem o2_ge {i j : Int} (q : Q (.d (.bool (decide (j ≤ i)))) m) : Op2 K rGe (.d (.int i)) (.d (.int j)) m Q := o2_B0 (g := fun i j => decide (j ≤ i)) q
theorem o1_neg {i : Int} (q : Q (.d (.int (-i))) m) : Op1 K rNeg (.d (.int i)) m Q := fun H G v S a R k => by
  rw [int_of a]
  exact ⟨i, rfl, k _ H G _ m q S (Le.refl G) vr_int⟩
/-! == of data -/
theorem dp_of {H G : Hp} {x : PyData} {v : V} (S : Sta K m H G) (h : SeqAt.shaped x = true) (a : VR K G (.d x) v) : Dp K H v x := by
  have h : (x.canLay0 && decide (x.depth ≤ 64)) = true := h
  rw [Bool.and_eq_true] at h
  exact rp_dp x v (PyData.hasDict_of_canLay x h.1) (Rp.mono S.sub x v a.rp)
theorem o2_eq {x y : PyData} (hx : SeqAt.shaped x = true) (hy : SeqAt.shaped y = true) (q : Q (.d (.bool (PyData.eqv x y))) m) : Op2 K (rEqA K) (.d x) (.d y) m Q := fun H G v w S a b R k =>
  Or.inr ⟨x, y, dp_of S hx a, dp_of S hy b, hx, hy, k _ H G _ m q S (Le.refl G) vr_bool⟩
theorem o2_ne {x y : PyData} (hx : SeqAt.shaped x = true) (hy : SeqAt.shaped y = true) (q : Q (.d (.bool (!PyData.eqv x y))) m) : Op2 K (rNeA K) (.d x) (.d y) m Q := fun H G v w S a b R k =>
  Or.inr ⟨x, y, dp_of S hx a, dp_of S hy b, hx, hy, k _ H G _ m q S (Le.refl G) vr_bool⟩
theorem shaped_int (i : Int) : SeqAt.shaped (.int i) = true := by simp [SeqAt.shaped, PyData.canLay0, PyData.depth]
theorem eqv_int (i j : Int) : PyData.eqv (.int i) (.int j) = decide (i = j) := by
  simp only [PyData.eqv]; exact Bool.beq_eq_decide_eq i j
theorem o2_eqI {i j : Int} (q : Q (.d (.bool (decide (i = j)))) m) : Op2 K (rEqA K) (.d (.int i)) (.d (.int j)) m Q := o2_eq (shaped_int i) (shaped_int j) (by rw [eqv_int]; exact q)
theorem o2_neI {i j : Int} (q : Q (.d (.bool (!decide (i = j)))) m) : Op2 K (rNeA K) (.d (.int i)) (.d (.int j)) m Q := o2_ne (shaped_int i) (shaped_int j) (by rw [eqv_int]; exact q)
/-! texts -/
theorem o2_eqS {x y : Str} (q : Q (.d (.bool (decide (x = y)))) m) : Op2 K (rEqA K) (.d (.str x)) (.d (.str y)) m Q := fun H G v w S a b R k => by
  rw [str_of a, str_of b]
  refine Or.inl ⟨rfl, ?_⟩
  rw [dec_str, Bool.beq_eq_decide_eq]
  exact k _ H G _ m q S (Le.refl G) vr_bool
theorem o2_neS {x y : Str} (q : Q (.d (.bool (!decide (x = y)))) m) : Op2 K (rNeA K) (.d (.str x)) (.d (.str y)) m Q := fun H G v w S a b R k => by
  rw [str_of a, str_of b]
  refine Or.inl ⟨rfl, ?_⟩
  rw [dec_str, Bool.beq_eq_decide_eq]
  exact k _ H G _ m q S (Le.refl G) vr_bool
/-! items -/
theorem atI_nth {α : Type} (xs : List α) (i : Nat) : atI xs (i : Int) = xs[i]? := by
  unfold atI ixN
  rw [if_pos (Int.natCast_nonneg i)]
  by_cases h : i < xs.length
  · rw [if_pos (by omega), show ((i : Int)).toNat = i by omega]; rfl
  · rw [if_neg (by omega), List.getElem?_eq_none (by omega)]; rfl
theorem RpAll.atI {G : Hp} {ds : List PyData} {xs : List V} {i : Int} {d : PyData} (h : RpAll K G ds xs) (e : L2.atI ds i = some d) : ∃ x, L2.atI xs i = some x ∧ Rp K G d x := by
  unfold L2.atI at e ⊢
  rw [h.length]
  cases hj : ixN ds.length i with
  | none => rw [hj] at e; cases e
  | some j =>
    rw [hj] at e
    exact h.at e
theorem VRs.atI {G : Hp} : ∀ {rs : List Val} {xs : List V} {i : Nat} {r : Val}, VRs K G rs xs → rs[i]? = some r → ∃ x, xs[i]? = some x ∧ VR K G r x
  | [], xs, i, r, h, e => by simp at e
  | r0 :: rs, xs, 0, r, h, e => by
    obtain ⟨y, t, h1, h2, _⟩ := h
    subst h1
    have e : r0 = r := by simpa using e
    subst e
    exact ⟨y, rfl, h2⟩
  | r0 :: rs, xs, i + 1, r, h, e => by
    obtain ⟨y, t, h1, _, h3⟩ := h
    subst h1
    obtain ⟨z, h4, h5⟩ := VRs.atI (i := i) (r := r) h3 (by simpa using e)
    exact ⟨z, by simpa using h4, h5⟩
theorem o2_ixT {ds : List PyData} {i : Int} {d : PyData} (h : atI ds i = some d) (q : Q (.d d) m) : Op2 K (rIx K) (.d (.tuple ds)) (.d (.int i)) m Q := fun H G v w S a b R k => by
  rw [int_of b]
  obtain ⟨p, xs, hv, h2, h3⟩ := rp_tuple.mp a.rp
  obtain ⟨x, h4, h5⟩ := h3.atI h
  exact Or.inr (Or.inl ⟨p, xs, i, x, hv, rfl, S.sqT h2, h4, k _ H G _ m q S (Le.refl G) (.d h5)⟩)
theorem o2_ixL {ds : List PyData} {i : Int} {d : PyData} (h : atI ds i = some d) (q : Q (.d d) m) : Op2 K (rIx K) (.d (.list ds)) (.d (.int i)) m Q := fun H G v w S a b R k => by
  rw [int_of b]
  obtain ⟨p, xs, hv, h2, h3⟩ := rp_list.mp a.rp
  obtain ⟨x, h4, h5⟩ := h3.atI h
  exact Or.inl ⟨p, xs, i, x, hv, rfl, Or.inl (Le.rd S.sub h2), h4, k _ H G _ m q S (Le.refl G) (.d h5)⟩
theorem o2_ixB {p : Addr} (hm : m p = some .box) (q : ∀ n : Int, Q (.d (.int n)) m) : Op2 K (rIx K) (.v (.ref p)) (.d (.int 0)) m Q := fun H G v w S a b R k => by
  rw [int_of b]
  obtain ⟨n, h2⟩ := S.mem p _ hm
  exact Or.inl ⟨p, [.int n], 0, .int n, a.eq, rfl, Or.inl (Or.inl h2), rfl, k _ H G _ m (q n) S (Le.refl G) vr_int⟩
theorem o2_ixS {ns : List Int} {i : Nat} {n : Int} (h : ns[i]? = some n) (q : Q (.d (.int n)) m) : Op2 K (rIx K) (.scr ns) (.d (.int (i : Int))) m Q := fun H G v w S a b R k => by
  rw [int_of b]
  cases a with
  | scr h2 =>
    exact Or.inl ⟨_, _, i, .int n, rfl, rfl, S.sqL h2, by rw [atI_nth, List.getElem?_map, h]; rfl, k _ H G _ m q S (Le.refl G) vr_int⟩
/-! built-ins -/
theorem vrs1 {G : Hp} {x : Val} {vs : List V} (h : VRs K G [x] vs) : ∃ v, vs = [v] ∧ VR K G x v := by
  obtain ⟨v, t, h1, h2, h3⟩ := h
  have h3 : t = [] := h3
  exact ⟨v, by rw [h1, h3], h2⟩
theorem vrs2 {G : Hp} {x y : Val} {vs : List V} (h : VRs K G [x, y] vs) : ∃ v w, vs = [v, w] ∧ VR K G x v ∧ VR K G y w := by
  obtain ⟨v, t, h1, h2, h3⟩ := h
  obtain ⟨w, h4, h5⟩ := vrs1 h3
  exact ⟨v, w, by rw [h1, h4], h2, h5⟩
theorem on_abs {i : Int} (q : Q (.d (.int (i.natAbs : Int))) m) : OpN K rAbs [.d (.int i)] m Q := fun H G vs S a R k => by
  obtain ⟨v, rfl, h⟩ := vrs1 a
  rw [int_of h]
  refine ⟨i, rfl, ?_⟩
  have e : (if i < 0 then -i else i) = (i.natAbs : Int) := by split <;> omega
  rw [e]
  exact k _ H G _ m q S (Le.refl G) vr_int
theorem on_max {i j : Int} (q : Q (.d (.int (max i j))) m) : OpN K rMax2 [.d (.int i), .d (.int j)] m Q := fun H G vs S a R k => by
  obtain ⟨v, w, rfl, h1, h2⟩ := vrs2 a
  rw [int_of h1, int_of h2]
  refine ⟨i, j, rfl, ?_⟩
  have e : (if j > i then j else i) = max i j := by split <;> omega
  rw [e]
  exact k _ H G _ m q S (Le.refl G) vr_int
theorem on_min {i j : Int} (q : Q (.d (.int (min i j))) m) : OpN K rMin2 [.d (.int i), .d (.int j)] m Q := fun H G vs S a R k => by
  obtain ⟨v, w, rfl, h1, h2⟩ := vrs2 a
  rw [int_of h1, int_of h2]
  refine ⟨i, j, rfl, ?_⟩
  have e : (if j < i then j else i) = min i j := by split <;> omega
  rw [e]
  exact k _ H G _ m q S (Le.refl G) vr_int
theorem on_lenT {ds : List PyData} (q : Q (.d (.int (ds.length : Int))) m) : OpN K (rLen K) [.d (.tuple ds)] m Q := fun H G vs S a R k => by
  obtain ⟨v, rfl, h⟩ := vrs1 a
  obtain ⟨p, xs, hv, h2, h3⟩ := rp_tuple.mp h.rp
  refine Or.inl ⟨p, xs, by rw [hv], Or.inr (S.sqT h2), ?_⟩
  rw [h3.length]
  exact k _ H G _ m q S (Le.refl G) vr_int
theorem on_lenL {ds : List PyData} (q : Q (.d (.int (ds.length : Int))) m) : OpN K (rLen K) [.d (.list ds)] m Q := fun H G vs S a R k => by
  obtain ⟨v, rfl, h⟩ := vrs1 a
  obtain ⟨p, xs, hv, h2, h3⟩ := rp_list.mp h.rp
  refine Or.inl ⟨p, xs, by rw [hv], Or.inl (Or.inl (Le.rd S.sub h2)), ?_⟩
  rw [h3.length]
  exact k _ H G _ m q S (Le.refl G) vr_int
theorem on_lenS {ns : List Int} (q : Q (.d (.int (ns.length : Int))) m) : OpN K (rLen K) [.scr ns] m Q := fun H G vs S a R k => by
  obtain ⟨v, rfl, h⟩ := vrs1 a
  cases h with
  | scr h2 =>
    refine Or.inl ⟨_, _, rfl, Or.inl (S.sqL h2), ?_⟩
    rw [List.length_map]
    exact k _ H G _ m q S (Le.refl G) vr_int
theorem on_lenX {x : Str} (hz : x.length ≤ 100000) (q : Q (.d (.int (x.length : Int))) m) : OpN K (rLen K) [.d (.str x)] m Q := fun H G vs S a R k => by
  obtain ⟨v, rfl, h⟩ := vrs1 a
  exact Or.inr ⟨x, by rw [str_of h], Nat.le_trans hz (by decide), k _ H G _ m q S (Le.refl G) vr_int⟩
theorem on_sumL {ns : List Int} (q : Q (.d (.int ns.sum)) m) : OpN K (rSumA K) [.d (.list (ns.map PyData.int))] m Q := fun H G vs S a R k => by
  obtain ⟨v, rfl, h⟩ := vrs1 a
  obtain ⟨p, xs, hv, h2, h3⟩ := rp_list.mp h.rp
  rw [h3.ints] at h2
  exact Or.inl ⟨p, ns, by rw [hv], Or.inl (Le.rd S.sub h2), k _ H G _ m q S (Le.refl G) vr_int⟩
theorem on_sumT {ns : List Int} (q : Q (.d (.int ns.sum)) m) : OpN K (rSumA K) [.d (.tuple (ns.map PyData.int))] m Q := fun H G vs S a R k => by
  obtain ⟨v, rfl, h⟩ := vrs1 a
  obtain ⟨p, xs, hv, h2, h3⟩ := rp_tuple.mp h.rp
  rw [h3.ints] at h2
  exact Or.inr ⟨p, ns, by rw [hv], S.sqT h2, k _ H G _ m q S (Le.refl G) vr_int⟩
theorem on_all {bs : List Bool} (q : Q (.d (.bool (bs.all id))) m) : OpN K (rAll K) [.d (.list (bs.map PyData.bool))] m Q := fun H G vs S a R k => by
  obtain ⟨v, rfl, h⟩ := vrs1 a
  obtain ⟨p, xs, hv, h2, h3⟩ := rp_list.mp h.rp
  rw [h3.bools] at h2
  exact ⟨p, bs, by rw [hv], Or.inl (Le.rd S.sub h2), k _ H G _ m q S (Le.refl G) vr_bool⟩
theorem on_any {bs : List Bool} (q : Q (.d (.bool (bs.any id))) m) : OpN K (rAny K) [.d (.list (bs.map PyData.bool))] m Q := fun H G vs S a R k => by
  obtain ⟨v, rfl, h⟩ := vrs1 a
  obtain ⟨p, xs, hv, h2, h3⟩ := rp_list.mp h.rp
  rw [h3.bools] at h2
  exact ⟨p, bs, by rw [hv], Or.inl (Le.rd S.sub h2), k _ H G _ m q S (Le.refl G) vr_bool⟩
theorem on_tupL {ds : List PyData} (q : Q (.d (.tuple ds)) m) : OpN K (rTupO K) [.d (.list ds)] m Q := fun H G vs S a R k => by
  obtain ⟨v, rfl, h⟩ := vrs1 a
  obtain ⟨p, xs, hv, h2, h3⟩ := rp_list.mp h.rp
  refine ⟨p, xs, by rw [hv], Or.inl ⟨Or.inl (Le.rd S.sub h2), fun l hl => ?_⟩⟩
  have hg := S.free hl
  exact k _ _ (upd G l (.tup xs)) _ m q (S.fix hl) (Le.new hg) (.d (rp_tuple.mpr ⟨l, xs, rfl, SqT.of upd_same, RpAll.mono (Le.new hg) ds xs h3⟩))
theorem on_tupT {ds : List PyData} (q : Q (.d (.tuple ds)) m) : OpN K (rTupO K) [.d (.tuple ds)] m Q := fun H G vs S a R k => by
  obtain ⟨v, rfl, h⟩ := vrs1 a
  obtain ⟨p, xs, hv, h2, h3⟩ := rp_tuple.mp h.rp
  exact ⟨p, xs, by rw [hv], Or.inr ⟨S.sqT h2, by rw [← hv]; exact k _ H G _ m q S (Le.refl G) h⟩⟩
theorem on_lstT {ds : List PyData} (q : Q (.d (.list ds)) m) : OpN K (rLstO K) [.d (.tuple ds)] m Q := fun H G vs S a R k => by
  obtain ⟨v, rfl, h⟩ := vrs1 a
  obtain ⟨p, xs, hv, h2, h3⟩ := rp_tuple.mp h.rp
  refine ⟨p, xs, by rw [hv], Or.inr (S.sqT h2), fun l hl => ?_⟩
  have hg := S.free hl
  exact k _ _ (upd G l (.lst xs)) _ m q (S.fix hl) (Le.new hg) (.d (rp_list.mpr ⟨l, xs, rfl, Rd.of upd_same, RpAll.mono (Le.new hg) ds xs h3⟩))
theorem on_divmod {i j : Int} (c : CDivW i j) (q : Q (.d (.tuple [.int (i / j), .int (i % j)])) m) : OpN K rDivmod [.d (.int i), .d (.int j)] m Q := fun H G vs S a R k => by
  obtain ⟨v, w, rfl, h1, h2⟩ := vrs2 a
  rw [int_of h1, int_of h2]
  refine ⟨i, j, rfl, c, fun p hp => ?_⟩
  have hg := S.free hp
  exact k _ _ (upd G p (.tup [.int (i / j), .int (i % j)])) _ m q (S.fix hp) (Le.new hg) (.d (rp_tuple.mpr ⟨p, _, rfl, SqT.of upd_same, rpa_ints [i / j, i % j]⟩))
/-! isinstance -/
def tyN : PyData → String
  | .none => "NoneType" | .bool _ => "bool" | .int _ => "int" | .str _ => "str" | .list _ => "list" | .tuple _ => "tuple" | .dict _ => "dict"
theorem ty_of {H G : Hp} {x : PyData} {v : V} (S : Sta K m H G) (a : Rp K G x v) : TyX K H v (.type (tyN x)) := by
  cases x with
  | none => rw [rp_none.mp a]; exact .base .non
  | bool b => rw [rp_bool.mp a]; exact .base (.bl b)
  | int b => rw [rp_int.mp a]; exact .base (.int b)
  | str b => rw [rp_str.mp a]; exact .base (.str b)
  | list ds =>
    obtain ⟨p, xs, rfl, h2, _⟩ := rp_list.mp a
    rcases Le.rd S.sub h2 with h | ⟨o, h⟩
    · exact .base (.lst h)
    · exact .base (.frz h)
  | tuple ds =>
    obtain ⟨p, xs, rfl, h2, _⟩ := rp_tuple.mp a
    rcases S.sqT h2 with (h | ⟨o, h⟩) | ⟨o, its, n, h, hc, _⟩
    · exact .base (.tup h)
    · exact .fTuple h
    · exact .kTuple h hc
  | dict kvs =>
    rw [Rp] at a
    obtain ⟨p, rfl, ⟨es, h, _⟩ | ⟨es, h, _⟩⟩ := a
    · exact .base (.dT (S.sub _ _ h))
    · exact .base (.dK (S.sub _ _ h))
theorem on_isi {x : PyData} {T : String} {b : Bool} (hb : kitB (tyN x) T = some b) (q : Q (.d (.bool b)) m) : OpN K (rIsi K) [.d x, .v (.ty T)] m Q := fun H G vs S a R k => by
  obtain ⟨v, w, rfl, h1, h2⟩ := vrs2 a
  rw [h2.eq]
  exact ⟨v, .ty T, _, _, b, rfl, .ty T, ty_of S h1.rp, kit_ty hb, k _ H G _ m q S (Le.refl G) vr_bool⟩
def isTup : PyData → Bool | .tuple _ => true | _ => false
def isIntB : PyData → Bool | .int _ => true | .bool _ => true | _ => false
def isBoo : PyData → Bool | .bool _ => true | _ => false
def isStrD : PyData → Bool | .str _ => true | _ => false
def isLst : PyData → Bool | .list _ => true | _ => false
def isDct : PyData → Bool | .dict _ => true | _ => false
theorem on_isiTup {x : PyData} (q : Q (.d (.bool (isTup x))) m) : OpN K (rIsi K) [.d x, .v (.ty "tuple")] m Q := on_isi (by cases x <;> (simp only [tyN, isTup, isIntB, isBoo, isStrD, isLst, isDct]; decide +kernel)) q
theorem on_isiInt {x : PyData} (q : Q (.d (.bool (isIntB x))) m) : OpN K (rIsi K) [.d x, .v (.ty "int")] m Q := on_isi (by cases x <;> (simp only [tyN, isTup, isIntB, isBoo, isStrD, isLst, isDct]; decide +kernel)) q
theorem on_isiBool {x : PyData} (q : Q (.d (.bool (isBoo x))) m) : OpN K (rIsi K) [.d x, .v (.ty "bool")] m Q := on_isi (by cases x <;> (simp only [tyN, isTup, isIntB, isBoo, isStrD, isLst, isDct]; decide +kernel)) q
theorem on_isiStr {x : PyData} (q : Q (.d (.bool (isStrD x))) m) : OpN K (rIsi K) [.d x, .v (.ty "str")] m Q := on_isi (by cases x <;> (simp only [tyN, isTup, isIntB, isBoo, isStrD, isLst, isDct]; decide +kernel)) q
theorem on_isiList {x : PyData} (q : Q (.d (.bool (isLst x))) m) : OpN K (rIsi K) [.d x, .v (.ty "list")] m Q := on_isi (by cases x <;> (simp only [tyN, isTup, isIntB, isBoo, isStrD, isLst, isDct]; decide +kernel)) q
theorem on_isiDict {x : PyData} (q : Q (.d (.bool (isDct x))) m) : OpN K (rIsi K) [.d x, .v (.ty "dict")] m Q := on_isi (by cases x <;> (simp only [tyN, isTup, isIntB, isBoo, isStrD, isLst, isDct]; decide +kernel)) q
/-! repr -/
/-! + of tuples and lists, * -/
theorem o2_addS {x y : Str} (hz : x.length + y.length ≤ 100000) (q : Q (.d (.str (x ++ y))) m) : Op2 K (rAdd K) (.d (.str x)) (.d (.str y)) m Q := fun H G v w S a b R k => by
  rw [str_of a, str_of b]
  exact Or.inr (Or.inr (Or.inr ⟨x, y, rfl, rfl, Nat.le_trans hz (by decide), k _ H G _ m q S (Le.refl G) vr_str⟩))
theorem RpAll.rep {G : Hp} {ds : List PyData} {xs : List V} (h : RpAll K G ds xs) : ∀ n : Nat, RpAll K G (List.replicate n ds).flatten (List.replicate n xs).flatten
  | 0 => rpa_nil.mpr rfl
  | n + 1 => by
    rw [List.replicate_succ, List.replicate_succ, List.flatten_cons, List.flatten_cons]
    exact h.append (RpAll.rep h n)
end
/-! list(range), tuple(range) -/
section
variable {K : PySem.W.Frag} {r : List Val} {m : Mm} {Q : Val → Mm → Prop} {ta tb tc te : TE} {tt : TT}
def rngD (a n : Nat) : List PyData := (List.range n).map fun i => .int ((a + i : Nat) : Int)
theorem rpa_rng {G : Hp} (a n : Nat) : RpAll K G (rngD a n) (rgV (a : Int) ((a + n : Nat) : Int)) := by
  have e : rgV (a : Int) ((a + n : Nat) : Int) = ((List.range n).map fun i => ((a + i : Nat) : Int)).map V.int := by
    unfold rgV
    have e : (((a + n : Nat) : Int) - (a : Int)).toNat = n := by omega
    rw [e, List.map_map]
    rfl
  have e2 : rngD a n = ((List.range n).map fun i => ((a + i : Nat) : Int)).map PyData.int := by
    unfold rngD
    rw [List.map_map]
    rfl
  rw [e, e2]
  exact rpa_ints _
theorem rgok {a n : Nat} (h : a + n ≤ 100000) : RgOk (a : Int) ((a + n : Nat) : Int) := RgOk.of_le (by omega) (by omega) (by omega) (by omega)
theorem ev_lstR1 {n : Nat} (hn : n ≤ 100000) (h : Ev K ta r m fun x m1 => x = .d (.int (n : Int)) ∧ Q (.d (.list (rngD 0 n))) m1) : Ev K (tLstRg (tRg1 ta)) r m Q := fun σ H G S L R k =>
  h σ H G S L _ fun v H1 G1 x m1 ⟨hx, q⟩ S1 e1 r1 => by
    subst hx
    rw [int_of r1]
    have e : (n : Int) = ((0 + n : Nat) : Int) := by omega
    refine ⟨(n : Int), rfl, by rw [e]; exact rgok (a := 0) (n := n) (by omega), fun p hp => ?_⟩
    have hg := S1.free hp
    exact k _ _ (upd G1 p _) _ m1 q (S1.fix hp) (e1.trans (Le.new hg)) (.d (rp_list.mpr ⟨p, _, rfl, Rd.of upd_same, by rw [e]; exact rpa_rng 0 n⟩))
/-! comprehensions -/
def Ext (m m' : Mm) : Prop := ∀ a o, m a = some o → m' a = some o
theorem Ext.refl (m : Mm) : Ext m m := fun _ _ h => h
/-- one turn's end: the list so far stands at D -/
def LcW (K : PySem.W.Frag) (m : Mm) (G : Hp) (D : Addr) (W : Nat → List PyData → Prop) (i : Nat) (H' : Hp) : Prop :=
  ∃ G' acc, W i acc ∧ acc.length ≤ i ∧ Sta K (put m D (.lst (acc.map Val.d))) H' G' ∧ Le G G'
theorem lc_turn {G : Hp} {D : Addr} {W : Nat → List PyData → Prop} {i : Nat} {σ : L2.St} {H' : Hp} {r' : List Val} (hm : m D = none) (hi : i < 100000) (L : ∀ G', Le G G' → Sl K G' r' σ)
    (hs : ∀ m' acc, Ext m m' → W i acc → EvT K tt r' m' fun b m2 => m2 = m' ∧ (b = true → Ev K te r' m' fun x m3 => m3 = m' ∧ ∃ y, x = .d y ∧ W (i + 1) (acc ++ [y])) ∧ (b = false → W (i + 1) acc))
    (h : LcW K m G D W i H') : tt σ H' fun b H3 => if b = true then te σ H3 fun y H4 => ∃ acc, H4 D = some (.lst acc) ∧ acc.length < sizeLine ∧ LcW K m G D W (i + 1) (upd H4 D (.lst (acc ++ [y]))) else LcW K m G D W (i + 1) H3 := by
  obtain ⟨G', acc, hw, hl, S, e⟩ := h
  have hx : Ext m (put m D (.lst (acc.map Val.d))) := fun a o ha => by
    rw [put_ne (ne_of_get ha hm)]; exact ha
  refine hs _ acc hx hw σ H' G' S (L G' e) _ fun H3 G3 b m3 ⟨e3, h1, h2⟩ S3 l3 => ?_
  subst e3
  cases b with
  | true =>
    show te σ H3 _
    refine h1 rfl σ H3 G3 S3 (L G3 (e.trans l3)) _ fun v H4 G4 x m4 ⟨e4, y, hy, hw'⟩ S4 l4 r4 => ?_
    subst e4 hy
    obtain ⟨xs, g1, g2⟩ := S4.mem D _ put_same
    have hlen := g2.length
    rw [List.length_map] at hlen
    refine ⟨xs, g1, Nat.lt_of_lt_of_le (show xs.length < 100000 by omega) (by decide), G4, acc ++ [y], hw', by rw [List.length_append]; show acc.length + 1 ≤ i + 1; omega, ?_, e.trans (l3.trans l4)⟩
    have S5 := S4.chg (u := .lst ((acc ++ [y]).map Val.d)) (o := .lst (xs ++ [v])) put_same ⟨_, upd_same, by
      rw [List.map_append]
      exact g2.append ⟨v, [], rfl, r4, rfl⟩⟩
    rw [put_put] at S5
    exact S5
  | false =>
    show LcW K m G D W (i + 1) H3
    exact ⟨G3, acc, h2 rfl, by omega, S3, e.trans l3⟩
theorem wipe1 (σ : L2.St) (j : Nat) (x : V) : wipe ((wipe σ [j]).set j (some x)) [j] = wipe σ [j] := by
  show ((σ.set j none).set j (some x)).set j none = σ.set j none
  rw [List.set_set, List.set_set]
theorem sl_in {G : Hp} {σ : L2.St} {j : Nat} {d : PyData} {x : V} (L : Sl K G r σ) {G' : Hp} (e : Le G G') (h : Rp K G' d x) : Sl K G' (r.set j (.d d)) ((wipe σ [j]).set j (some x)) := by
  have := (L.mono e).set (r := .d d) (.d h) j
  show Sl K G' (r.set j (.d d)) ((σ.set j none).set j (some x))
  rw [List.set_set]
  exact this
theorem lc_end {G : Hp} {D : Addr} {W : Nat → List PyData → Prop} {n : Nat} {H' : Hp} {R : VK} (hm : m D = none) (h : LcW K m G D W n H') (hd : ∀ acc, W n acc → Q (.d (.list acc)) m)
    (k : ∀ v H' G' x m', Q x m' → Sta K m' H' G' → Le G G' → VR K G' x v → R v H') : R (.ref D) H' := by
  obtain ⟨G', acc, hw, hl, S, e⟩ := h
  obtain ⟨xs, g1, g2⟩ := S.mem D _ put_same
  have hg := S.dis D _ put_same
  have S2 := S.freeze put_same g1
  have e2 : del (put m D (.lst (acc.map Val.d))) D = m := by
    funext b
    unfold del put
    by_cases hb : b = D
    · rw [if_pos hb, hb, hm]
    · rw [if_neg hb, if_neg hb]
  rw [e2] at S2
  exact k _ H' _ _ m (hd acc hw) S2 (e.trans (Le.new hg)) (.d (rp_list.mpr ⟨D, xs, rfl, Rd.of upd_same, RpAll.mono (Le.new hg) acc xs g2.toAll⟩))
theorem lc_start {H G : Hp} {D : Addr} {W : Nat → List PyData → Prop} (S : Sta K m H G) (hD : H D = none) (h0 : W 0 []) : LcW K m G D W 0 (upd H D (.lst [])) :=
  ⟨G, [], h0, Nat.le_refl _, S.new hD ⟨[], upd_same, rfl⟩, Le.refl G⟩
theorem ev_lcT {tl : TE} {j : Nat} {ds : List PyData} (h : Ev K tl r m fun x m1 => x = .d (.tuple ds) ∧ m1 = m) (hn : ds.length ≤ 100000) (W : Nat → List PyData → Prop) (h0 : W 0 [])
    (hs : ∀ i d m' acc, ds[i]? = some d → Ext m m' → W i acc → EvT K tt (r.set j (.d d)) m' fun b m2 => m2 = m' ∧ (b = true → Ev K te (r.set j (.d d)) m' fun x m3 => m3 = m' ∧ ∃ y, x = .d y ∧ W (i + 1) (acc ++ [y])) ∧ (b = false → W (i + 1) acc))
    (hd : ∀ acc, W ds.length acc → Q (.d (.list acc)) m) : Ev K (tLc (iTup K tl) (gName j) tt te [j]) r m Q := fun σ H G S L R k =>
  h σ H G S L _ fun v H1 G1 x m1 ⟨hx, hm⟩ S1 e1 r1 => by
    subst hx hm
    obtain ⟨p, xs, hv, hs1, hA⟩ := rp_tuple.mp r1.rp
    refine ⟨p, hv, ⟨xs, S1.sqT hs1⟩, fun D hD => ?_⟩
    have hmD := S1.freeM hD
    refine lc_tup (xs := xs) (LcW K m1 G1 D W) (lc_start S1 hD h0) ?_ ?_ ?_
    · rintro i H' hi ⟨G', acc, _, _, S', e'⟩
      exact S'.sqT (e'.sqT hs1)
    · intro i y H' hy hP
      obtain ⟨d, hd1, hd2⟩ := hA.get hy
      have hi : i < 100000 := by
        have := (List.getElem?_eq_some_iff.mp hy).1
        rw [hA.length] at this
        omega
      exact ⟨wipe1 σ j y, lc_turn hmD hi (fun G' e' => sl_in (L.mono e1) e' (Rp.mono e' d y hd2)) (fun m' acc hx hw => hs i d m' acc hd1 hx hw) hP⟩
    · intro H' hP
      rw [hA.length] at hP
      exact lc_end hmD hP hd fun v H' G' x m' q S' e' r' => k v H' G' x m' q S' (e1.trans e') r'
theorem ev_lcL {tl : TE} {j : Nat} {ds : List PyData} (h : Ev K tl r m fun x m1 => x = .d (.list ds) ∧ m1 = m) (hn : ds.length ≤ 100000) (W : Nat → List PyData → Prop) (h0 : W 0 [])
    (hs : ∀ i d m' acc, ds[i]? = some d → Ext m m' → W i acc → EvT K tt (r.set j (.d d)) m' fun b m2 => m2 = m' ∧ (b = true → Ev K te (r.set j (.d d)) m' fun x m3 => m3 = m' ∧ ∃ y, x = .d y ∧ W (i + 1) (acc ++ [y])) ∧ (b = false → W (i + 1) acc))
    (hd : ∀ acc, W ds.length acc → Q (.d (.list acc)) m) : Ev K (tLc (iList K tl) (gName j) tt te [j]) r m Q := fun σ H G S L R k =>
  h σ H G S L _ fun v H1 G1 x m1 ⟨hx, hm⟩ S1 e1 r1 => by
    subst hx hm
    obtain ⟨p, xs, hv, hs1, hA⟩ := rp_list.mp r1.rp
    have hs1 : SqL K G1 p xs := Or.inl hs1
    refine ⟨p, hv, ⟨xs, S1.sqL hs1⟩, fun D hD => ?_⟩
    have hmD := S1.freeM hD
    refine lc_list (xs := xs) (LcW K m1 G1 D W) (lc_start S1 hD h0) ?_ ?_ ?_
    · rintro i H' hi ⟨G', acc, _, _, S', e'⟩
      exact S'.sqL (e'.sqL hs1)
    · intro i y H' hy hP
      obtain ⟨d, hd1, hd2⟩ := hA.get hy
      have hi : i < 100000 := by
        have := (List.getElem?_eq_some_iff.mp hy).1
        rw [hA.length] at this
        omega
      exact ⟨wipe1 σ j y, lc_turn hmD hi (fun G' e' => sl_in (L.mono e1) e' (Rp.mono e' d y hd2)) (fun m' acc hx hw => hs i d m' acc hd1 hx hw) hP⟩
    · intro H' hP
      rw [hA.length] at hP
      exact lc_end hmD hP hd fun v H' G' x m' q S' e' r' => k v H' G' x m' q S' (e1.trans e') r'
theorem ev_lcR1 {ta : TA} {j : Nat} {n : Nat} (h : EvA K ta r m fun xs m1 => xs = [.d (.int (n : Int))] ∧ m1 = m) (hn : n ≤ 100000) (W : Nat → List PyData → Prop) (h0 : W 0 [])
    (hs : ∀ (i : Nat) m' acc, i < n → Ext m m' → W i acc → EvT K tt (r.set j (.d (.int (i : Int)))) m' fun b m2 => m2 = m' ∧ (b = true → Ev K te (r.set j (.d (.int (i : Int)))) m' fun x m3 => m3 = m' ∧ ∃ y, x = .d y ∧ W (i + 1) (acc ++ [y])) ∧ (b = false → W (i + 1) acc))
    (hd : ∀ acc, W n acc → Q (.d (.list acc)) m) : Ev K (tLc (iRng1 ta) (gName j) tt te [j]) r m Q := fun σ H G S L R k =>
  h σ H G S L _ fun vs H1 G1 xs m1 ⟨hx, hm⟩ S1 e1 r1 => by
    subst hx hm
    obtain ⟨v1, rfl, a1⟩ := vrs1 r1
    have a1 := int_of a1
    subst a1
    have en : ((n : Int)).toNat = n := by omega
    refine ⟨(n : Int), rfl, by omega, by omega, ?_⟩
    rw [en]
    intro D hD
    have hmD := S1.freeM hD
    refine lc_range (lo := 0) (n := n) (LcW K m1 G1 D W) (lc_start S1 hD h0) ?_ ?_
    · intro i H' hi hP
      rw [Int.zero_add]
      exact ⟨wipe1 σ j _, lc_turn hmD (by omega) (fun G' e' => sl_in (L.mono e1) e' (rp_int.mpr rfl)) (fun m' acc hx hw => hs i m' acc hi hx hw) hP⟩
    · intro H' hP
      exact lc_end hmD hP hd fun v H' G' x m' q S' e' r' => k v H' G' x m' q S' (e1.trans e') r'
theorem ev_cTy {T : String} (q : Q (.v (.ty T)) m) : Ev K (tC (.ty T)) r m Q := ev_cV q
theorem evt_yes {Q : Bool → Mm → Prop} (q : Q true m) : EvT K tYes r m Q := fun σ H G S L R k => k H G true m q S (Le.refl G)
/-! a[i] = e -/
variable {N : List Val → Mm → Prop} {E : Val → Mm → Prop}
theorem w_setB {to ti : TE} {p : Addr} (h : Ev K te r m fun x m1 => ∃ n : Int, x = .d (.int n) ∧ Ev K to r m1 fun y m2 => y = .v (.ref p) ∧ Ev K ti r m2 fun z m3 => z = .d (.int 0) ∧ m3 p = some .box ∧ N r m3) :
    Wp K (tAsg te (gSub to ti rSetL)) r m N E := fun σ H G D S L a b =>
  h σ H G S L _ fun v H1 G1 x m1 ⟨n, hx, h1⟩ S1 e1 r1 => h1 σ H1 G1 S1 (L.mono e1) _ fun w H2 G2 y m2 ⟨hy, h2⟩ S2 e2 r2 => h2 σ H2 G2 S2 (L.mono (e1.trans e2)) _ fun u H3 G3 z m3 ⟨hz, hb, q⟩ S3 e3 r3 => by
    subst hx hy hz
    have a1 := int_of r1
    have a2 := r2.eq
    have a3 := int_of r3
    subst a1 a2 a3
    obtain ⟨n0, g1⟩ := S3.mem p _ hb
    refine ⟨p, [.int n0], 0, 0, rfl, rfl, g1, rfl, ?_⟩
    have S4 := S3.chg (u := .box) (o := .lst [.int n]) hb ⟨n, upd_same⟩
    have e4 : put m3 p .box = m3 := by
      funext c
      unfold put
      by_cases hc : c = p
      · rw [if_pos hc, hc, hb]
      · rw [if_neg hc]
    rw [e4] at S4
    exact a σ _ G3 r m3 q S4 (e1.trans (e2.trans e3)) (L.mono (e1.trans (e2.trans e3)))
/-- a box made -/
theorem ev_lstB {t : TA} (h : EvA K t r m fun xs m1 => ∃ n : Int, xs = [.d (.int n)] ∧ ∀ p, m1 p = none → Q (.v (.ref p)) (put m1 p .box)) : Ev K (tLst t) r m Q := fun σ H G S L R k =>
  h σ H G S L _ fun vs H1 G1 xs m1 ⟨n, hx, q⟩ S1 e1 r1 => by
    subst hx
    obtain ⟨v1, rfl, a1⟩ := vrs1 r1
    have a1 := int_of a1
    subst a1
    refine ⟨by rw [sizeLine_eq]; show 1 ≤ 16777216; decide, fun p hp => ?_⟩
    exact k (.ref p) _ G1 _ _ (q p (S1.freeM hp)) (S1.new hp ⟨n, upd_same⟩) e1 .v
/-! what grew is data from now on -/
theorem w_freeze {t : TS} {i : Nat} {p : Addr} {ds : List PyData} (hi : r[i]? = some (.v (.ref p))) (hm : m p = some (.lst (ds.map Val.d))) (h : Wp K t (r.set i (.d (.list ds))) (del m p) N E) : Wp K t r m N E := fun σ H G D S L a b => by
  obtain ⟨xs, h1, h2⟩ := S.mem p _ hm
  have hg := S.dis p _ hm
  obtain ⟨v, hv, hr⟩ := L.get hi (fun h => nomatch h)
  have hr := hr.eq
  subst hr
  have L2 := (L.mono (Le.new hg)).set (r := .d (.list ds)) (.d (rp_list.mpr ⟨p, xs, rfl, Rd.of upd_same, RpAll.mono (Le.new (o := .lst xs) hg) ds xs h2.toAll⟩)) i
  have e : σ.set i (some (.ref p)) = σ := by
    refine List.ext_getElem? fun k => ?_
    by_cases hk : k = i
    · subst hk
      rw [List.getElem?_set_self (List.getElem?_eq_some_iff.mp hv).1, hv]
    · rw [List.getElem?_set_ne (Ne.symm hk)]
  rw [e] at L2
  exact h σ H _ D (S.freeze hm h1) L2 (fun σ' H' G' r' m' n S' e' L' => a σ' H' G' r' m' n S' ((Le.new hg).trans e') L') (fun v H' G' x m' n S' e' L' => b v H' G' x m' n S' ((Le.new hg).trans e') L')
/-- xs.append(e) -/
theorem ev_app {to : TE} {p : Addr} {rs : List Val} (h : Ev K to r m fun x m1 => x = .v (.ref p) ∧ m1 p = some (.lst rs) ∧ Ev K te r m1 fun y m2 => m2 p = some (.lst rs) ∧ rs.length < 100000 ∧ Q (.d .none) (put m2 p (.lst (rs ++ [y])))) :
    Ev K (tBM K "list" rAppend to (tCons te tNil)) r m Q := fun σ H G S L R k =>
  h σ H G S L _ fun v H1 G1 x m1 ⟨hx, hm, h1⟩ S1 e1 r1 => by
    subst hx
    have r1 := r1.eq
    subst r1
    obtain ⟨xs, g1, g2⟩ := S1.mem p _ hm
    refine ⟨Or.inl ⟨rfl, xs, Or.inl (Or.inl g1)⟩, ?_⟩
    refine h1 σ H1 G1 S1 (L.mono e1) _ fun w H2 G2 y m2 ⟨hm2, hl, q⟩ S2 e2 r2 => ?_
    obtain ⟨ys, g3, g4⟩ := S2.mem p _ hm2
    refine ⟨p, ys, w, rfl, rfl, g3, Nat.lt_of_lt_of_le (by rw [g4.length]; exact hl) (by decide), ?_⟩
    exact k .non _ G2 _ _ q (S2.chg hm2 ⟨_, upd_same, g4.append ⟨w, [], rfl, r2, rfl⟩⟩) (e1.trans e2) vr_none
end
end DL
namespace DL
open PySem L2
/-- a def of the text that keeps a word of this level -/
structure Cl (P : Program) (w : World) (K : PySem.W.Frag) (mg : Str → Option Value) (base : Heap) (k : Nat) (x : Str) (sp : FSp) : Prop where
  ex : ∃ f fd ps, FnOk P w K mg base CX0 k f fd ps (spD K sp) ∧ mg x = some (.ref f) ∧ PySem.W.keepIn K (.ref f) = true ∧ Binds K fd ps []
section
variable {X : Cx} {k j n0 : Nat} {x : Str} {sp : FSp} {e : Expr} {es : List Expr} {t : TA} {p pos : Pos} {P : Program} {w : World} {K : PySem.W.Frag} {mg : Str → Option Value} {base : Heap}
theorem pe_cl (c : Cl P w K mg base k x sp) (hr : Room j X.A) (hk : k ≤ j) (hg : Gl X x) (ha : PA X (e :: es) t) (hP : X.prog = P := by rfl) (hw : X.w = w := by rfl) (hK : X.K = K := by rfl) (hmg : X.mg = mg := by rfl) (hbs : X.base = base := by rfl)
    (hdb : (x == ("__debug__" : Str)) = false := by decide)
    (he : starEach (e :: es) X.env = (false, eval e X.env) :: starEach es X.env := by rfl) (hpl : (backTo pos (starEach es X.env)).any (·.1) = false := by rfl) :
    PE X (.Call (.Name x p) (e :: es) [] pos) (tCall (spD K sp) [] E0 t) := by
  subst hP hw hK hmg hbs
  obtain ⟨f, fd, ps, F, hm, hkp, hb⟩ := c.ex
  exact pe_call F (hr.mono hk) hg hm hkp hb .nil pass0 ha hdb he hpl
theorem pe_gi {i : Int} (h : ∃ t, mg x = some (.int i t)) (hg : Gl X x) (hmg : X.mg = mg := by rfl) (hd : (x == ("__debug__" : Str)) = false := by decide) : PE X (.Name x pos) (tC (.int i)) := by
  subst hmg
  obtain ⟨t, h⟩ := h
  exact pe_glob hg h ⟨_, rfl⟩ hd
theorem pe_gs {i : Str} (h : ∃ t, mg x = some (.str i t)) (hg : Gl X x) (hmg : X.mg = mg := by rfl) (hd : (x == ("__debug__" : Str)) = false := by decide) : PE X (.Name x pos) (tC (.str i)) := by
  subst hmg
  obtain ⟨t, h⟩ := h
  exact pe_glob hg h ⟨_, rfl⟩ hd
/-! the joined rules, the written part by name -/
theorem kAdd (K : PySem.W.Frag) (h : X.K = K := by rfl) : OpR X (binaryOp .Add) (rAdd K) := h ▸ oAdd
theorem kMul (K : PySem.W.Frag) (h : X.K = K := by rfl) : OpR X (binaryOp .Mult) (rMul K) := h ▸ oMul
theorem kEq (K : PySem.W.Frag) (hr : Room j X.A) (h : X.K = K := by rfl) : OpR X (compareOp .Eq) (rEqA K) := h ▸ oEq hr
theorem kNe (K : PySem.W.Frag) (hr : Room j X.A) (h : X.K = K := by rfl) : OpR X (compareOp .NotEq) (rNeA K) := h ▸ oNe hr
theorem kIx (K : PySem.W.Frag) (h : X.K = K := by rfl) : IxR X (rIx K) := h ▸ ix_seq
theorem kLen (K : PySem.W.Frag) (h : X.K = K := by rfl) : CallR X (.builtin "len") (rLen K) := h ▸ cLen
theorem kSum (K : PySem.W.Frag) (hc : X.calm = true := by rfl) (h : X.K = K := by rfl) : CallR X (.builtin "sum") (rSumA K) := h ▸ cSum hc
theorem kAll (K : PySem.W.Frag) (hc : X.calm = true := by rfl) (h : X.K = K := by rfl) : CallR X (.builtin "all") (rAll K) := h ▸ cAll hc
theorem kTup (K : PySem.W.Frag) (h : X.K = K := by rfl) : CallR X (.type "tuple") (rTupO K) := h ▸ cTup
theorem kIsi (K : PySem.W.Frag) (h : X.K = K := by rfl) : CallR X (.builtin "isinstance") (rIsi K) := h ▸ cIsi
theorem kBM (K : PySem.W.Frag) {e : Expr} {T : String} {r : V → List V → Hp → VK → Prop} {to : TE} {ta : TA} (hp : PE X e (tBM X.K T r to ta)) (h : X.K = K := by rfl) : PE X e (tBM K T r to ta) := h ▸ hp
theorem kgT (K : PySem.W.Frag) {tg : Expr} {t : TGs} (hp : PG X tg (gTup X.K n0 t)) (h : X.K = K := by rfl) : PG X tg (gTup K n0 t) := h ▸ hp
theorem kiT (K : PySem.W.Frag) {tg l : Expr} {tl : TE} (hl : PE X l tl) (h : X.K = K := by rfl) : PI X tg l (iTup K tl) := h ▸ pi_tup hl
theorem kiL (K : PySem.W.Frag) {tg l : Expr} {tl : TE} (hl : PE X l tl) (h : X.K = K := by rfl) : PI X tg l (iList K tl) := h ▸ pi_list hl
end
/-! defs that want to know that nothing is being shown around them -/
structure FnG (P : Program) (w : World) (K : PySem.W.Frag) (mg : Str → Option Value) (base : Heap) (k : Nat) (f : Addr) (fd : FuncData) (ps : List Str) (sp : Sp) : Prop where
  len : ∀ vs H Q E, sp vs H Q E → vs.length = ps.length
  run : ∀ (A : Around) (outer : List Env) (s : Shared) (H : Hp) (args : Args) (us : List Value) (vs : List V) (Q : VK) (E : XK), A.guards = some [] → Room k A →
    Env0 P w K mg base A outer s H → BindsTo s fd args (ps.zip us) → Vals vs us → sp vs H Q E → codeAny (model P w) A (.call (.ref f) args) (CR CX0 outer P w H s Q E) s
section
variable {P : Program} {w : World} {K : PySem.W.Frag} {mg : Str → Option Value} {base : Heap}
theorem deeper_guards (A : Around) (env : Env) : (A.deeper env).guards = A.guards := by
  first
    | rfl
    | simp [Around.deeper]
theorem fnG_of {x qual : Str} {st : Stmt} {f : Addr} {fd : FuncData} {N ps : List Str} {k : Nat} {sp : Sp} (F : Fun K x qual st f fd) (S : FnScope N ps (defScope st)) (len : ∀ vs H Q E, sp vs H Q E → vs.length = ps.length)
    (hbody : ∀ (cdv : Value) (A : Around) (outer : List Env) (s : Shared) (H : Hp) (vs : List V) (Q : VK) (E : XK), (A.deeper (PyProof.Rows.envOfC qual (defScope st) s.heap.objs.size f cdv)).guards = some [] →
      Room k (A.deeper (PyProof.Rows.envOfC qual (defScope st) s.heap.objs.size f cdv)) → sp vs H Q E →
      ∃ t, PSs (cxOf CX0 P w K mg base N qual (defScope st) f cdv A outer s H E).nox (defBody st) t ∧ t { nx := fun _ H' => Q .non H', rt := Q } (L2.start N vs) H) : FnG P w K mg base (k + 1) f fd ps sp := by
  obtain ⟨oc, od, kV, doc, pm, an, cdv, ct, osl, rfl, lk, hcd⟩ := F.ex
  refine ⟨len, fun A outer s H args us vs Q E hgd hr e0 hb r hsp => ?_⟩
  have hl := len _ _ _ _ hsp
  have KX : K.In s.heap := e0.mod.kin.keeps fun b o e => (e0.bs b o e).1
  have lim : s.heap.NoLimit := e0.mod.nolimit.keeps fun b o e => (e0.bs b o e).1
  refine codeAny_call_function hr.depth (KX _ _ lk) rfl S.co S.gen rfl (PySem.W.codeRec_of KX hcd) (hb _ _ _ _ ?_)
  refine wpAny_newFunctionEnv_cells S.kind (fun y hy => ?_) fun env he s1 z => ?_
  · obtain ⟨n, v⟩ := y
    rcases S.par n (List.of_mem_zip hy).1 with q | q
    · exact Or.inl q
    · exact Or.inr ⟨q, PySem.W.cellsFrom_some _ _ _ (.inl q)⟩
  subst he
  refine ⟨lim.keeps z.toInCall.keep, codeAny_func ?_⟩
  obtain ⟨t, ht, hq⟩ := hbody cdv A outer s H vs Q E ((deeper_guards A _).trans hgd) (hr.deeper _) hsp
  have ht := ht.nox
  have I : Inv (cxOf CX0 P w K mg base N qual (defScope st) f cdv A outer s H E) [] (L2.start N vs) H s1 := inv_start S hr.hd e0 hl r z
  refine wpAny_mono (ht.run [] s1 (L2.start N vs) H _ I hq) (fun fl s' hs => ?_) fun e s' hs => hs
  cases fl with
  | ret u =>
    obtain ⟨v, σ', H', J, rv, q⟩ := hs
    exact ⟨v, H', J.os, J.bare, J.base, J.hok, rv, q⟩
  | next =>
    obtain ⟨σ', H', J, q⟩ := hs
    exact ⟨.non, H', J.os, J.bare, J.base, J.hok, rfl, q⟩
  | brk =>
    obtain ⟨_, _, _, q⟩ := hs
    exact q.elim
  | cont =>
    obtain ⟨_, _, _, q⟩ := hs
    exact q.elim
theorem fnG_ok {x qual : Str} {st : Stmt} {f : Addr} {fd : FuncData} {N ps : List Str} {k : Nat} {sp : FSp} (F : Fun K x qual st f fd) (S : FnScope N ps (defScope st)) (hl : ∀ args m R, sp args m R → args.length = ps.length)
    (hb : ∀ (cdv : Value) (A : Around) (outer : List Env) (s : Shared) (H : Hp) (E : XK), (A.deeper (PyProof.Rows.envOfC qual (defScope st) s.heap.objs.size f cdv)).guards = some [] →
      Room k (A.deeper (PyProof.Rows.envOfC qual (defScope st) s.heap.objs.size f cdv)) →
      ∃ t, PSs (cxOf CX0 P w K mg base N qual (defScope st) f cdv A outer s H E).nox (defBody st) t ∧
        ∀ args m R, sp args m R → Wp K t (args ++ List.replicate (N.length - args.length) .any) m (fun _ m' => R (.d .none) m') R) : FnG P w K mg base (k + 1) f fd ps (spD K sp) := by
  refine fnG_of F S (fun vs H Q E h => ?_) (fun cdv A outer s H vs Q E hg hr h => ?_)
  · obtain ⟨m, G, args, R, S1, r1, h1, _⟩ := h
    rw [r1.length]; exact hl args m R h1
  · obtain ⟨m, G, args, R, S1, r1, h1, k1⟩ := h
    obtain ⟨t, ht, hw⟩ := hb cdv A outer s H E hg hr
    refine ⟨t, ht, ?_⟩
    refine hw args m R h1 _ H G _ S1 ?_ (fun σ' H' G' r' m' hn S' e' L' => ?_) (fun v H' G' x m' hn S' e' L' => k1 v H' G' x m' hn S' e' L')
    · unfold L2.start
      rw [r1.length]
      exact Sl.start _ r1
    · exact k1 .non H' G' (.d .none) m' hn S' e' (.d (rp_none.mpr rfl))
end
end DL
namespace DL
open PySem L2
section
variable {P : Program} {w : World} {K : PySem.W.Frag} {mg mb : Str → Option Value} {k : Nat} {fa a : Addr} {fd : FuncData} {x : Str} {sp : FSp} {s1 : Shared} {vs : List Value} {ns : List Int}
/-- what the law's def is asked at the heap behind the top: the script alone is known -/
theorem law_core (KX : K.In s1.heap) (hns : s1.heap.Ns mainGlobals mg) (hb : s1.heap.Ns builtinsNs mb) (hbb : ∀ x : Str, x ≠ "__name__" → mb x = bootBuiltins x) (hlim : s1.heap.NoLimit) (hgs : s1.gens = #[])
    (ha : s1.heap.get? a = some { cls := .type "list", data := .seq vs.toArray }) (hr : Room k callerA)
    (F : ∀ base : Heap, K.In base → base.Ns mainGlobals mg → FnG P w K mg base k fa fd [x] (spD K sp)) (hbind : ∀ (s : Shared) (u : Value), BindsTo s fd ⟨[u], []⟩ [(x, u)])
    (hsp : sp [.scr ns] (fun _ => none) fun y _ => y = .d (.bool true))
    (H : Hp) (hO : Only H) (hS : SqL K H a (ns.map V.int)) (hok : HOk P w H s1.heap) (hA : ∀ b, H b ≠ none → b = a) (hK : H a ≠ none → K.lookup a = none) :
    codeAny (model P w) callerA (.call (.ref fa) ⟨[.ref a], []⟩) (fun r s' => r = .ok (.ret (.bool true)) ∧ OldK s1.heap s'.heap ∧ s'.os = s1.os ∧ PyProof.Rows.AllBare s'.gens) s1 := by
  have baseOf : ∀ {b : Addr} {o : Obj}, s1.heap.get? b = some o → H b = none → (hidT s1.heap H).get? b = some o := hidT_get
  have free : ∀ {b : Addr} {o : Obj} {es : Array DictEntry} {ep : Nat}, s1.heap.get? b = some o → o.data = .dict es ep → H b = none := fun {b o es ep} e d => by
    cases q : H b with
    | none => rfl
    | some u =>
      obtain rfl : b = a := hA b fun z => by rw [q] at z; cases z
      rw [ha] at e
      cases e
      exact absurd d fun z => nomatch z
  have nsK : ∀ {b : Addr} {m : Str → Option Value}, s1.heap.Ns b m → (hidT s1.heap H).Ns b m := fun ⟨o, es, ep, e, d, z⟩ => ⟨o, es, ep, baseOf e (free e d), d, z⟩
  have kB : K.In (hidT s1.heap H) := fun b o e => baseOf (KX b o e) (by
    cases q : H b with
    | none => rfl
    | some u =>
      obtain rfl : b = a := hA b fun z => by rw [q] at z; cases z
      rw [hK fun z => by rw [q] at z; cases z] at e
      cases e)
  have e0 : Env0 P w K mg (hidT s1.heap H) callerA [] s1 H := by
    refine ⟨rfl, ⟨kB, nsK hns, ⟨mb, nsK hb, hbb⟩, ?_⟩, fun b o e => of_hidT e, Nat.le_of_eq (hidT_size _ _), trivial, fun b z => ?_, hok, .of_eq hgs⟩
    · obtain ⟨mc, z1, z2⟩ := hlim
      exact ⟨mc, nsK z1, z2⟩
    · exact nomatch (show b ∈ ([] : List Addr) from z)
  have hs : spD K sp [.ref a] H (fun v _ => v = .bl true) fun _ _ _ => False := by
    refine ⟨fun _ => none, H, [.scr ns], fun y _ => y = .d (.bool true), ⟨fun _ _ e => e, (fun _ _ e => nomatch e), (fun _ _ e => nomatch e)⟩, ⟨_, [], rfl, .scr hS, rfl⟩, hsp, ?_⟩
    intro v H' G' y m' hy _ _ hv
    subst hy
    exact rp_bool.mp hv.rp
  refine codeAny_mono ((F _ kB (nsK hns)).run callerA [] s1 H ⟨[.ref a], []⟩ [.ref a] [.ref a] _ _ rfl hr e0 (hbind s1 (.ref a)) (.cons rfl .nil) hs) fun r s' h => ?_
  cases r with
  | error e => exact False.elim h
  | ok fl =>
    cases fl with
    | next => exact False.elim h
    | brk => exact False.elim h
    | cont => exact False.elim h
    | ret u =>
      obtain ⟨v, H', os, bare, un, hok', rv, q⟩ := h
      have q : v = .bl true := q
      subst q
      obtain rfl : u = Value.bool true := rv
      refine ⟨rfl, OldK.of_keep fun b o e => ?_, os, bare⟩
      cases q : H b with
      | none => exact un.keep b o e q (fun z => nomatch (show b ∈ ([] : List Addr) from z)) (fun z => nomatch z)
      | some y =>
        rcases hO b with z | ⟨ob, xs, z⟩
        · rw [q] at z; cases z
        · obtain ⟨e1, _⟩ := hok b _ z
          obtain ⟨e2, _⟩ := hok' b _ (un.frzs b ob _ z)
          rw [e] at e1
          cases e1
          exact e2
theorem law_run (KX : K.In s1.heap) (hns : s1.heap.Ns mainGlobals mg) (hb : s1.heap.Ns builtinsNs mb) (hbb : ∀ x : Str, x ≠ "__name__" → mb x = bootBuiltins x) (hlim : s1.heap.NoLimit) (hgs : s1.gens = #[])
    (ha : s1.heap.get? a = some { cls := .type "list", data := .seq vs.toArray }) (hi : PyProof.Rows.IntsAre vs ns) (hl : ns.length ≤ sizeLine) (hr : Room k callerA)
    (F : ∀ base : Heap, K.In base → base.Ns mainGlobals mg → FnG P w K mg base k fa fd [x] (spD K sp)) (hbind : ∀ (s : Shared) (u : Value), BindsTo s fd ⟨[u], []⟩ [(x, u)])
    (hsp : sp [.scr ns] (fun _ => none) fun y _ => y = .d (.bool true)) :
    codeAny (model P w) callerA (.call (.ref fa) ⟨[.ref a], []⟩) (fun r s' => r = .ok (.ret (.bool true)) ∧ OldK s1.heap s'.heap ∧ s'.os = s1.os ∧ PyProof.Rows.AllBare s'.gens) s1 := by
  have rv := vals_ints hi
  have hlen := hi.length
  cases hk : K.lookup a with
  | some o =>
    have e := KX a o hk
    rw [ha] at e
    cases e
    refine law_core KX hns hb hbb hlim hgs ha hr F hbind hsp (fun _ => none) (fun _ => Or.inl rfl) (Or.inr ⟨_, vs.toArray, _, hk, rfl, rfl, rfl, ?_, ?_⟩) (fun b u z => nomatch (show (none : Option HO) = some u from z)) (fun b z => absurd rfl z) fun z => absurd rfl z
    · rw [List.size_toArray, hlen]; exact hl
    · simpa using rv
  | none =>
    refine law_core KX hns hb hbb hlim hgs ha hr F hbind hsp (fun b => if b = a then some (.frz { cls := .type "list", data := .seq vs.toArray } (.lst (ns.map V.int))) else none) (fun b => ?_) (Or.inl (Or.inr ⟨{ cls := .type "list", data := .seq vs.toArray }, if_pos rfl⟩)) (fun b u z => ?_) (fun b z => ?_) fun _ => hk
    · by_cases h : b = a
      · exact Or.inr ⟨_, _, if_pos h⟩
      · exact Or.inl (if_neg h)
    · by_cases h : b = a
      · have z := (if_pos h).symm.trans z
        cases z
        subst h
        exact ⟨ha, by rw [List.length_map]; exact hl, vs, _, rv, ha⟩
      · exact nomatch (if_neg h).symm.trans z
    · by_cases h : b = a
      · exact h
      · exact absurd (if_neg h) z
end
/-- from the law's def to the row -/
theorem walkG {l : PySem.W.OpenLaw} {n k : Nat} {q : Program} {loose : List Str} {XP : (Str → Option Value) → Heap → Prop} {YP : World → Heap → Prop} {d : DefRec} {K : Params → PySem.W.Frag} {sp : FSp} {x : Str}
    (hn : l.most = some n) (hn2 : n ≤ sizeLine) (hdf : d.params.defaults = []) (hr : Room k callerA) (hY : ∀ (w : World) (h : Heap), YP w h → (K w.params).In h)
    (F : ∀ (w : World) (mg : Str → Option Value) (fa : Addr) (h : Heap), (K w.params).In h → h.Ns mainGlobals mg → mg d.name = some (.ref fa) →
      ∃ fd : FuncData, (∀ (s : Shared) (u : Value), BindsTo s fd ⟨[u], []⟩ [(x, u)]) ∧
        ∀ base : Heap, (K w.params).In base → base.Ns mainGlobals mg → FnG l.prog w (K w.params) mg base k fa fd [x] (spD (K w.params) sp))
    (hsp : ∀ ns : List Int, ns.length ≤ n → (∀ z ∈ ns, Builtin.Int.intBits z ≤ 1048576) → sp [.scr ns] (fun _ => none) fun y _ => y = .d (.bool true)) :
    PySem.W.WalkO q loose XP YP l.row.toRowW d [] (fun f vs => PySem.call f vs) := by
  refine Att.attach_callB hn hdf fun w s0 s1 mg mb fa o pm cd doc a vs ns G Y ho hd hcd hmg hobj hints hlen hbits hg => ?_
  have KX := hY w _ Y
  obtain ⟨fd, hb, hF⟩ := F w mg fa _ KX G.T.g hmg
  exact law_run KX G.T.g G.T.b G.T.builtins G.T.nolimit hg hobj hints (Nat.le_trans hlen hn2) hr hF hb (hsp ns hlen hbits)
end DL
namespace DL
open PySem L2
/-! bits -/
def Bt (i : Int) (k : Nat) : Prop := i.natAbs < 2 ^ k
theorem Bt.mono {i : Int} {a b : Nat} (h : Bt i a) (hb : a ≤ b) : Bt i b := Nat.lt_of_lt_of_le h (Nat.pow_le_pow_right (by decide) hb)
theorem Bt.mul {i j : Int} {a b : Nat} (h : Bt i a) (g : Bt j b) : Bt (i * j) (a + b) := wide_lt h g
theorem Bt.add {i j : Int} {a b c : Nat} (h : Bt i a) (g : Bt j b) (h1 : a ≤ c) (h2 : b ≤ c) : Bt (i + j) (c + 1) := by
  have h := h.mono h1
  have g := g.mono h2
  unfold Bt at *
  rw [Nat.pow_succ]
  have : (i + j).natAbs ≤ i.natAbs + j.natAbs := Int.natAbs_add_le i j
  omega
theorem Bt.le {i j : Int} {a : Nat} (h : Bt j a) (hi : i.natAbs ≤ j.natAbs) : Bt i a := Nat.lt_of_le_of_lt hi h
theorem Bt.cmul {i j : Int} {a b : Nat} (h : Bt i a) (g : Bt j b) (c : a + b + 2 ≤ 1000000) : CMulW i j := wide_mul (h.mono (Nat.le_succ a)) (g.mono (Nat.le_succ b)) (Nat.succ_pos a) (Nat.succ_pos b) (by omega)
theorem Bt.cdiv {i j : Int} {b : Nat} (g : Bt j b) (h0 : 0 < j) (c : b < 9000) : CDivW i j := wide_div h0 (g.mono (Nat.le_succ b)) (Nat.succ_pos b) (by omega)
theorem cdiv_small {i j : Int} (h0 : 0 < j) (h : j < 1073741824) : CDivW i j := wide_div (b := 30) h0 (by
  have e : (2 : Nat) ^ 30 = 1073741824 := by decide
  rw [e]; omega) (by decide) (by decide)
theorem cmul_small {i j : Int} (h0 : i.natAbs < 18446744073709551616) (h : j.natAbs < 18446744073709551616) : CMulW i j := by
  have e : (2 : Nat) ^ 64 = 18446744073709551616 := by decide
  exact wide_mul (a := 64) (b := 64) (by rw [e]; exact h0) (by rw [e]; exact h) (by decide) (by decide) (by decide)
/-! fractions -/
def frac (q : Rat) : PyData := .tuple [.int q.num, .int (q.den : Int)]
theorem frac_mk (t : Int) (b : Nat) (hb : b ≠ 0) : frac (mkRat t b) = .tuple [.int (t / (Nat.gcd b t.natAbs : Nat)), .int ((b / Nat.gcd b t.natAbs : Nat) : Int)] := by
  unfold frac
  rw [Rat.num_mkRat, Rat.den_mkRat, if_neg hb, if_neg hb]
theorem frac_int (n : Int) : frac (n : Rat) = .tuple [.int n, .int 1] := rfl
/-! ints of bounded size are shown -/
theorem log2_of_bt {i : Int} {a : Nat} (h : Bt i a) (h0 : 0 < a) : i.natAbs.log2 < a := PySem.Flt.log2_lt_of h0 h
theorem showable_int {i : Int} {a : Nat} (h : Bt i a) (h0 : 0 < a) (ha : a ≤ 1920) : (PyData.int i).showable = true := by
  simp only [PyData.showable]
  exact decide_eq_true (Nat.lt_of_lt_of_le (log2_of_bt h h0) ha)
/-! what may be shown: how deep, how long -/
structure Sh (d : PyData) (k n : Nat) : Prop where
  nd : d.hasDict = false
  dp : d.depth ≤ k
  sh : d.showable = true
  ln : d.shown.length ≤ n
theorem Sh.mono {d : PyData} {k n k' n' : Nat} (h : Sh d k n) (h1 : k ≤ k') (h2 : n ≤ n') : Sh d k' n' := ⟨h.nd, Nat.le_trans h.dp h1, h.sh, Nat.le_trans h.ln h2⟩
theorem sh_int {i : Int} {a : Nat} (h : Bt i a) (h0 : 0 < a) (ha : a ≤ 1920) : Sh (.int i) 0 (a + 1) := by
  refine ⟨by simp only [PyData.hasDict], by simp only [PyData.depth]; exact Nat.le_refl 0, showable_int h h0 ha, ?_⟩
  simp only [PyData.shown]
  rw [ofString_length]
  exact int_text_length_le h0 (log2_of_bt h h0)
/-- a fraction of small enough parts -/
def FrB (q : Rat) (a : Nat) : Prop := Bt q.num a ∧ Bt (q.den : Int) a
end DL
namespace DL
open PySem L2
theorem br_t {c : Bool} {A B : Prop} (h : c = true) (a : A) : (c = true → A) ∧ (c = false → B) := ⟨fun _ => a, fun g => by rw [h] at g; cases g⟩
theorem br_f {c : Bool} {A B : Prop} (h : c = false) (b : B) : (c = true → A) ∧ (c = false → B) := ⟨(fun g => by rw [h] at g; cases g), (fun _ => b)⟩
theorem take_one {α : Type} {ds : List α} {i : Nat} {d : α} (h : ds[i]? = some d) : ds.take (i + 1) = ds.take i ++ [d] := by
  rw [List.take_succ, h]; rfl
theorem range_one (i : Nat) : List.range (i + 1) = List.range i ++ [i] := List.range_succ
section
variable {K : PySem.W.Frag} {r : List Val} {m : Mm} {Q : Val → Mm → Prop} {te tl : TE} {tt : TT} {j : Nat} {ds : List PyData}
theorem ev_mapT (h : Ev K tl r m fun x m1 => x = .d (.tuple ds) ∧ m1 = m) (hn : ds.length ≤ 100000) (f : PyData → PyData)
    (hs : ∀ (i : Nat) (d : PyData) m', ds[i]? = some d → Ext m m' → Ev K te (r.set j (.d d)) m' fun x m3 => x = .d (f d) ∧ m3 = m') (q : Q (.d (.list (ds.map f))) m) : Ev K (tLc (iTup K tl) (gName j) tYes te [j]) r m Q :=
  ev_lcT h hn (fun i acc => acc = (ds.take i).map f) (by simp) (fun i d m' acc hd hx hw => evt_yes ⟨rfl, fun _ => (hs i d m' hd hx).imp fun x m3 e => ⟨e.2, f d, e.1, by rw [hw, take_one hd, List.map_append]; rfl⟩, (fun g => nomatch g)⟩)
    (fun acc hw => by rw [hw, List.take_length]; exact q)
theorem ev_mapR1 {ta : TA} {n : Nat} (h : EvA K ta r m fun xs m1 => xs = [.d (.int (n : Int))] ∧ m1 = m) (hn : n ≤ 100000) (f : Nat → PyData)
    (hs : ∀ i m', i < n → Ext m m' → Ev K te (r.set j (.d (.int (i : Int)))) m' fun x m3 => x = .d (f i) ∧ m3 = m') (q : Q (.d (.list ((List.range n).map f))) m) : Ev K (tLc (iRng1 ta) (gName j) tYes te [j]) r m Q :=
  ev_lcR1 h hn (fun i acc => acc = (List.range i).map f) (by simp) (fun i m' acc hi hx hw => evt_yes ⟨rfl, fun _ => (hs i m' hi hx).imp fun x m3 e => ⟨e.2, f i, e.1, by rw [hw, range_one, List.map_append]; rfl⟩, (fun g => nomatch g)⟩)
    (fun acc hw => by rw [hw]; exact q)
end
end DL
namespace DL
open PySem L2
def f_gcd : FSp := fun args m R => ∃ a b : Nat, args = [.d (.int (a : Int)), .d (.int (b : Int))] ∧ R (.d (.int ((Nat.gcd a b : Nat) : Int))) m
def f_made : FSp := fun args m R => ∃ (t : Int) (b : Nat), args = [.d (.int t), .d (.int (b : Int))] ∧ 0 < b ∧ Bt (b : Int) 8000 ∧ R (.d (frac (mkRat t b))) m
def isInt : PyData → Bool
  | .int _ => true
  | _ => false
def f_isWhole : FSp := fun args m R => ∃ x, args = [.d x] ∧ R (.d (.bool (isInt x))) m
def okS : PyData → Bool
  | .int i => decide (1 ≤ i) && decide (i ≤ 9)
  | _ => false
def isShares : PyData → Bool
  | .tuple ds => decide (1 ≤ ds.length) && (decide (ds.length ≤ 5) && ds.all okS)
  | _ => false
structure Shares (ss : List Int) : Prop where
  pos : 1 ≤ ss.length
  few : ss.length ≤ 5
  each : ∀ s ∈ ss, 1 ≤ s ∧ s ≤ 9
def tupI (ns : List Int) : PyData := .tuple (ns.map PyData.int)
def tupN (ks : List Nat) : PyData := .tuple ((ks.map fun (k : Nat) => (k : Int)).map PyData.int)
theorem isShares_of {ss : List Int} (h : Shares ss) : isShares (tupI ss) = true := by
  unfold isShares tupI
  dsimp only
  rw [List.length_map, decide_eq_true h.pos, decide_eq_true h.few, Bool.true_and, Bool.true_and, List.all_eq_true]
  intro d hd
  obtain ⟨i, hi, rfl⟩ := List.mem_map.mp hd
  obtain ⟨a, b⟩ := h.each i hi
  show (decide (1 ≤ i) && decide (i ≤ 9)) = true
  rw [decide_eq_true a, decide_eq_true b]; rfl
theorem int_shape {d : PyData} (h : isInt d = true) : ∃ i, d = .int i := by
  cases d with
  | int i => exact ⟨i, rfl⟩
  | _ => cases h
theorem tup_shape {d : PyData} (h : isTup d = true) : ∃ ds, d = .tuple ds := by
  cases d with
  | tuple i => exact ⟨i, rfl⟩
  | _ => cases h
def f_isShares : FSp := fun args m R => ∃ x, args = [.d x] ∧ R (.d (.bool (isShares x))) m
def f_needShares : FSp := fun args m R => ∃ x, args = [.d x] ∧ isShares x = true ∧ R (.d .none) m
def intOf : PyData → Int
  | .int i => i
  | _ => 0
def sumP (ss : List Int) (ks : List Nat) : Int := (ks.map fun k => ss.getD k 0).sum
def f_sumPart : FSp := fun args m R => ∃ (ss : List Int) (ks : List Nat), args = [.d (tupI ss), .d (tupN ks)] ∧ ks.length ≤ 1000 ∧ (∀ k ∈ ks, k < ss.length) ∧ R (.d (.int (sumP ss ks))) m
theorem tupI_at {ss : List Int} {k : Nat} (h : k < ss.length) : atI (ss.map PyData.int) (k : Int) = some (.int (ss.getD k 0)) := by
  rw [atI_nth, List.getElem?_map, List.getD_eq_getElem?_getD, List.getElem?_eq_getElem h]; rfl
theorem shares_sum {ss : List Int} (h : Shares ss) : 1 ≤ ss.sum ∧ ss.sum ≤ 45 := by
  obtain ⟨h1, h2, h3⟩ := h
  match ss, h1, h2 with
  | [a], _, _ => have := h3 a (by simp); simp; omega
  | [a, b], _, _ => have := h3 a (by simp); have := h3 b (by simp); simp; omega
  | [a, b, c], _, _ => have := h3 a (by simp); have := h3 b (by simp); have := h3 c (by simp); simp; omega
  | [a, b, c, d], _, _ => have := h3 a (by simp); have := h3 b (by simp); have := h3 c (by simp); have := h3 d (by simp); simp; omega
  | [a, b, c, d, e], _, _ => have := h3 a (by simp); have := h3 b (by simp); have := h3 c (by simp); have := h3 d (by simp); have := h3 e (by simp); simp; omega
/-- some kinds of so many -/
structure Kinds (n : Nat) (ks : List Nat) : Prop where
  up : ks.Pairwise (· < ·)
  lt : ∀ k ∈ ks, k < n
theorem Kinds.len {n : Nat} {ks : List Nat} (h : Kinds n ks) : ks.length ≤ n := by
  have h1 : ks.Sublist (List.range n) := by
    have : ∀ (ks : List Nat) (m : Nat), ks.Pairwise (· < ·) → (∀ k ∈ ks, m ≤ k ∧ k < n) → ks.Sublist ((List.range n).drop m) := by
      intro ks
      induction ks with
      | nil => intro m _ _; exact List.nil_sublist _
      | cons k t ih =>
        intro m hp hl
        have hk := hl k (by simp)
        have hkn : k < (List.range n).length := by rw [List.length_range]; exact hk.2
        have hd : (List.range n).drop k = k :: (List.range n).drop (k + 1) := by
          rw [List.drop_eq_getElem_cons hkn, List.getElem_range]
        have h1 : (k :: t).Sublist ((List.range n).drop k) := by
          rw [hd]
          refine (ih (k + 1) (List.pairwise_cons.mp hp).2 fun x hx => ⟨?_, (hl x (by simp [hx])).2⟩).cons_cons k
          exact (List.pairwise_cons.mp hp).1 x hx
        refine h1.trans ?_
        have e : (List.range n).drop k = ((List.range n).drop m).drop (k - m) := by rw [List.drop_drop]; congr 1; omega
        rw [e]
        exact List.drop_sublist _ _
    exact this ks 0 h.up fun k hk => ⟨Nat.zero_le _, h.lt k hk⟩
  have := h1.length_le
  rw [List.length_range] at this
  exact this
theorem sumP_nonneg {ss : List Int} (h : Shares ss) : ∀ ks : List Nat, 0 ≤ sumP ss ks
  | [] => Int.le_refl 0
  | k :: t => by
    have ih := sumP_nonneg h t
    have e : sumP ss (k :: t) = ss.getD k 0 + sumP ss t := rfl
    have : 0 ≤ ss.getD k 0 := by
      rw [List.getD_eq_getElem?_getD]
      cases hk : ss[k]? with
      | none => decide
      | some s => have := h.each s (List.mem_of_getElem? hk); simp; omega
    omega
theorem getD_bounds {ss : List Int} (h : Shares ss) (k : Nat) : 0 ≤ ss.getD k 0 ∧ ss.getD k 0 ≤ 9 := by
  rw [List.getD_eq_getElem?_getD]
  cases hk : ss[k]? with
  | none => exact ⟨by decide, by decide⟩
  | some s => have := h.each s (List.mem_of_getElem? hk); simp; omega
theorem sumP_le9 {ss : List Int} (h : Shares ss) : ∀ ks : List Nat, sumP ss ks ≤ 9 * (ks.length : Int)
  | [] => Int.le_refl 0
  | k :: t => by
    have ih := sumP_le9 h t
    have e : sumP ss (k :: t) = ss.getD k 0 + sumP ss t := rfl
    have := getD_bounds h k
    rw [List.length_cons]
    omega
theorem sumP_le {ss : List Int} (h : Shares ss) {ks : List Nat} (hk : Kinds ss.length ks) : sumP ss ks ≤ 45 := by
  have := sumP_le9 h ks
  have := hk.len
  have := h.few
  omega
theorem frB_mk {t : Int} {b a : Nat} (h1 : Bt t a) (h2 : Bt (b : Int) a) (h0 : 0 < b) : FrB (mkRat t b) a := by
  refine ⟨?_, ?_⟩
  · rw [Rat.num_mkRat, if_neg (by omega)]
    refine h1.le ?_
    rw [Int.natAbs_ediv_of_dvd (Int.ofNat_dvd_left.mpr (Nat.gcd_dvd_right b t.natAbs)), Int.natAbs_natCast]
    exact Nat.div_le_self _ _
  · rw [Rat.den_mkRat, if_neg (by omega)]
    exact h2.le (by simp only [Int.natAbs_natCast]; exact Nat.div_le_self _ _)
theorem on_lenI {K : PySem.W.Frag} {m : Mm} {Q : Val → Mm → Prop} {ss : List Int} (q : Q (.d (.int (ss.length : Int))) m) : OpN K (rLen K) [.d (tupI ss)] m Q := on_lenT (by rw [List.length_map]; exact q)
theorem on_lenN {K : PySem.W.Frag} {m : Mm} {Q : Val → Mm → Prop} {ks : List Nat} (q : Q (.d (.int (ks.length : Int))) m) : OpN K (rLen K) [.d (tupN ks)] m Q := on_lenT (by rw [List.length_map, List.length_map]; exact q)
theorem on_sumI {K : PySem.W.Frag} {m : Mm} {Q : Val → Mm → Prop} {ss : List Int} (q : Q (.d (.int ss.sum)) m) : OpN K (rSumA K) [.d (tupI ss)] m Q := on_sumT q
/-! fractions reckoned -/
theorem o2_ixF0 {K : PySem.W.Frag} {m : Mm} {Q : Val → Mm → Prop} {q : Rat} (h : Q (.d (.int q.num)) m) : Op2 K (rIx K) (.d (frac q)) (.d (.int 0)) m Q := o2_ixT (d := .int q.num) rfl h
theorem o2_ixF1 {K : PySem.W.Frag} {m : Mm} {Q : Val → Mm → Prop} {q : Rat} (h : Q (.d (.int (q.den : Int))) m) : Op2 K (rIx K) (.d (frac q)) (.d (.int 1)) m Q := o2_ixT (d := .int (q.den : Int)) rfl h
def f_sumOf : FSp := fun args m R => ∃ p q : Rat, args = [.d (frac p), .d (frac q)] ∧ FrB p 3900 ∧ FrB q 3900 ∧ R (.d (frac (p + q))) m
def f_timesOf : FSp := fun args m R => ∃ p q : Rat, args = [.d (frac p), .d (frac q)] ∧ FrB p 3900 ∧ FrB q 3900 ∧ R (.d (frac (p * q))) m
def f_below : FSp := fun args m R => ∃ p q : Rat, args = [.d (frac p), .d (frac q)] ∧ FrB p 3900 ∧ FrB q 3900 ∧ R (.d (.bool (decide (p < q)))) m
theorem FrB.mono {q : Rat} {a b : Nat} (h : FrB q a) (hb : a ≤ b) : FrB q b := ⟨h.1.mono hb, h.2.mono hb⟩
theorem den_pos (q : Rat) : 0 < q.den := Nat.pos_of_ne_zero q.den_nz
theorem FrB.add {p q : Rat} {a b c : Nat} (h : FrB p a) (g : FrB q b) (hc : a + b + 1 ≤ c) : FrB (p + q) c := by
  rw [Rat.add_def']
  refine frB_mk (((h.1.mul g.2).add (g.1.mul h.2) (c := a + b) (Nat.le_refl _) (by omega)).mono hc) (Bt.mono (a := a + b) ?_ (by omega)) (Nat.mul_pos (den_pos p) (den_pos q))
  rw [Int.natCast_mul]
  exact h.2.mul g.2
theorem FrB.mul {p q : Rat} {a b c : Nat} (h : FrB p a) (g : FrB q b) (hc : a + b ≤ c) : FrB (p * q) c := by
  rw [Rat.mul_def']
  refine frB_mk ((h.1.mul g.1).mono hc) (Bt.mono (a := a + b) ?_ hc) (Nat.mul_pos (den_pos p) (den_pos q))
  rw [Int.natCast_mul]
  exact h.2.mul g.2
/-! a law's own helpers -/
theorem bt_lit {i : Int} {n a : Nat} (h : i.natAbs < 2 ^ n) (ha : n ≤ a) : Bt i a := Bt.mono (show Bt i n from h) ha
def f_take : FSp := fun args m R => ∃ (p : Addr) (k : Int), args = [.v (.ref p), .d (.int k)] ∧ m p = some .box ∧ 0 < k ∧ Bt k 8000 ∧ ∀ z : Int, 0 ≤ z → z < k → R (.d (.int z)) m
def f_law : FSp := fun args m R => ∃ ns : List Int, args = [.scr ns] ∧ ∀ m', R (.d (.bool true)) m'
end DL
namespace DL
open PySem L2
section
variable {K : PySem.W.Frag} {r : List Val} {m : Mm} {Q : Val → Mm → Prop} {ta tb tc te : TE} {tt : TT}
/-! a list that may change, so many times -/
theorem VRs.rep {G : Hp} {rs : List Val} {xs : List V} (h : VRs K G rs xs) : ∀ n : Nat, VRs K G (List.replicate n rs).flatten (List.replicate n xs).flatten
  | 0 => rfl
  | n + 1 => by
    rw [List.replicate_succ, List.replicate_succ, List.flatten_cons, List.flatten_cons]
    exact h.append (VRs.rep h n)
/-! parts -/
def EvO (K : PySem.W.Frag) (t : TO) (r : List Val) (m : Mm) (Q : Option Int → Mm → Prop) : Prop :=
  ∀ σ H G, Sta K m H G → Sl K G r σ → ∀ R : Option Int → Hp → Prop, (∀ H' G' x m', Q x m' → Sta K m' H' G' → Le G G' → R x H') → t σ H R
theorem evo_none {Q : Option Int → Mm → Prop} (q : Q none m) : EvO K tNoPart r m Q := fun σ H G S L R k => k H G none m q S (Le.refl G)
theorem evo_some {Q : Option Int → Mm → Prop} (h : Ev K te r m fun x m1 => ∃ i : Int, x = .d (.int i) ∧ Q (some i) m1) : EvO K (tPart te) r m Q := fun σ H G S L R k =>
  h σ H G S L _ fun v H1 G1 x m1 ⟨i, hx, q⟩ S1 e1 r1 => by
    subst hx
    exact ⟨i, int_of r1, k H1 G1 _ m1 q S1 e1⟩
def cutD (ds : List PyData) (lo hi : Option Int) : List PyData := (ds.drop (HT.sIx ds.length 0 lo)).take (HT.sIx ds.length ds.length hi - HT.sIx ds.length 0 lo)
theorem RpAll.drop {G : Hp} : ∀ {ds : List PyData} {xs : List V} (n : Nat), RpAll K G ds xs → RpAll K G (ds.drop n) (xs.drop n)
  | ds, xs, 0, h => h
  | [], xs, n + 1, h => by rw [rpa_nil.mp h]; exact rpa_nil.mpr rfl
  | d :: ds, xs, n + 1, h => by
    obtain ⟨x, r, rfl, h2, h3⟩ := rpa_cons.mp h
    exact RpAll.drop n h3
theorem RpAll.take {G : Hp} : ∀ {ds : List PyData} {xs : List V} (n : Nat), RpAll K G ds xs → RpAll K G (ds.take n) (xs.take n)
  | ds, xs, 0, h => rpa_nil.mpr rfl
  | [], xs, n + 1, h => by rw [rpa_nil.mp h]; exact rpa_nil.mpr rfl
  | d :: ds, xs, n + 1, h => by
    obtain ⟨x, r, rfl, h2, h3⟩ := rpa_cons.mp h
    exact rpa_cons.mpr ⟨x, r.take n, rfl, h2, RpAll.take n h3⟩
theorem RpAll.cut {G : Hp} {ds : List PyData} {xs : List V} (h : RpAll K G ds xs) (lo hi : Option Int) : RpAll K G (cutD ds lo hi) (cutV xs lo hi) := by
  unfold cutD cutV
  rw [h.length]
  exact RpAll.take _ (RpAll.drop _ h)
theorem ev_slL {tl th : TO} (h : Ev K te r m fun x m1 => ∃ ds, x = .d (.list ds) ∧ EvO K tl r m1 fun lo m2 => EvO K th r m2 fun hi m3 => Q (.d (.list (cutD ds lo hi))) m3) : Ev K (tSl (rSlL K) te tl th) r m Q := fun σ H G S L R k =>
  h σ H G S L _ fun v H1 G1 x m1 ⟨ds, hx, h1⟩ S1 e1 r1 => h1 σ H1 G1 S1 (L.mono e1) _ fun H2 G2 lo m2 h2 S2 e2 => h2 σ H2 G2 S2 (L.mono (e1.trans e2)) _ fun H3 G3 hi m3 q S3 e3 => by
    subst hx
    obtain ⟨p, xs, hv, g1, g2⟩ := rp_list.mp (Rp.mono (e2.trans e3) _ _ r1.rp)
    refine ⟨p, xs, hv, Or.inl (Le.rd S3.sub g1), fun l hl => ?_⟩
    have hg := S3.free hl
    exact k _ _ (upd G3 l _) _ m3 q (S3.fix hl) (e1.trans (e2.trans (e3.trans (Le.new hg)))) (.d (rp_list.mpr ⟨l, _, rfl, Rd.of upd_same, RpAll.mono (Le.new hg) _ _ (g2.cut lo hi)⟩))
theorem cut_whole {α : Type} (ds : List α) {a b : Nat} (h : a = 0 ∧ b = ds.length) : (ds.drop a).take (b - a) = ds := by
  rw [h.1, h.2, List.drop_zero, Nat.sub_zero, List.take_length]
theorem ev_slT {tl th : TO} (h : Ev K te r m fun x m1 => ∃ ds, x = .d (.tuple ds) ∧ EvO K tl r m1 fun lo m2 => EvO K th r m2 fun hi m3 => Q (.d (.tuple (cutD ds lo hi))) m3) : Ev K (tSl (rSlA K) te tl th) r m Q := fun σ H G S L R k =>
  h σ H G S L _ fun v H1 G1 x m1 ⟨ds, hx, h1⟩ S1 e1 r1 => h1 σ H1 G1 S1 (L.mono e1) _ fun H2 G2 lo m2 h2 S2 e2 => h2 σ H2 G2 S2 (L.mono (e1.trans e2)) _ fun H3 G3 hi m3 q S3 e3 => by
    subst hx
    obtain ⟨p, xs, hv, g1, g2⟩ := rp_tuple.mp (Rp.mono (e2.trans e3) _ _ r1.rp)
    refine ⟨p, xs, hv, S3.sqT g1, fun hw => ?_, fun _ l hl => ?_⟩
    · rw [g2.length] at hw
      have e : cutD ds lo hi = ds := cut_whole ds hw
      have q : Q (.d (.tuple (cutD ds lo hi))) m3 := q
      rw [e] at q
      exact k _ H3 G3 _ m3 q S3 (e1.trans (e2.trans e3)) (.d (rp_tuple.mpr ⟨p, xs, rfl, g1, g2⟩))
    · have hg := S3.free hl
      exact k _ _ (upd G3 l _) _ m3 q (S3.fix hl) (e1.trans (e2.trans (e3.trans (Le.new hg)))) (.d (rp_tuple.mpr ⟨l, _, rfl, SqT.of upd_same, RpAll.mono (Le.new hg) _ _ (g2.cut lo hi)⟩))
/-! truth, and what is the very same -/
def rIsBl : R2 := fun x y H Q => ∃ a b, x = .bl a ∧ y = .bl b ∧ Q (.bl (decide (a = b))) H
def rIsNotBl : R2 := fun x y H Q => ∃ a b, x = .bl a ∧ y = .bl b ∧ Q (.bl (!decide (a = b))) H
theorem o2_isB {a b : Bool} (q : Q (.d (.bool (decide (a = b)))) m) : Op2 K rIsBl (.d (.bool a)) (.d (.bool b)) m Q := fun H G v w S x y R k => by
  rw [bool_of x, bool_of y]
  exact ⟨a, b, rfl, rfl, k _ H G _ m q S (Le.refl G) vr_bool⟩
theorem o2_isNotB {a b : Bool} (q : Q (.d (.bool (!decide (a = b)))) m) : Op2 K rIsNotBl (.d (.bool a)) (.d (.bool b)) m Q := fun H G v w S x y R k => by
  rw [bool_of x, bool_of y]
  exact ⟨a, b, rfl, rfl, k _ H G _ m q S (Le.refl G) vr_bool⟩
/-! in -/
theorem oNotInS {X : Cx} (K : PySem.W.Frag) (h : X.K = K := by rfl) : OpR X (compareOp .NotIn) (rIn K true) := h ▸ op_notIn_seq
theorem inV_ints (i : Int) (ns : List Int) : inV (.int i) (ns.map V.int) = decide (i ∈ ns) := by
  unfold inV
  rw [List.any_map]
  induction ns with
  | nil => rfl
  | cons n ns ih =>
    rw [List.any_cons, ih]
    by_cases h : i = n
    · subst h; simp [eqV]
    · have h2 : ¬ n = i := fun e => h e.symm
      simp [eqV, h, h2]
theorem flat_ints (ns : List Int) : (ns.map V.int).all flatV = true := by
  rw [List.all_map, List.all_eq_true]; intro x _; rfl
theorem o2_inI {i : Int} {ns : List Int} {neg : Bool} (q : Q (.d (.bool (if neg then !decide (i ∈ ns) else decide (i ∈ ns)))) m) : Op2 K (rIn K neg) (.d (.int i)) (.d (.tuple (ns.map PyData.int))) m Q := fun H G v w S x y R k => by
  rw [int_of x]
  obtain ⟨p, xs, rfl, g1, g2⟩ := rp_tuple.mp y.rp
  rw [g2.ints] at g1
  refine ⟨p, _, rfl, Or.inr (S.sqT g1), rfl, flat_ints ns, ?_⟩
  rw [inV_ints]
  exact k _ H G _ m q S (Le.refl G) vr_bool
theorem mem_natI {k : Nat} {ks : List Nat} : ((k : Int) ∈ ks.map fun (k : Nat) => (k : Int)) ↔ k ∈ ks := by
  constructor
  · intro h
    obtain ⟨j, h1, h2⟩ := List.mem_map.mp h
    have : j = k := by omega
    rw [← this]; exact h1
  · intro h
    exact List.mem_map.mpr ⟨k, h, rfl⟩
theorem o2_inN {i : Nat} {ks : List Nat} (q : Q (.d (.bool (decide (i ∈ ks)))) m) : Op2 K (rIn K false) (.d (.int (i : Int))) (.d (tupN ks)) m Q := o2_inI (neg := false) (by
  have e : decide ((i : Int) ∈ ks.map fun (k : Nat) => (k : Int)) = decide (i ∈ ks) := decide_eq_decide.mpr mem_natI
  show Q (.d (.bool (decide ((i : Int) ∈ ks.map fun (k : Nat) => (k : Int))))) m
  rw [e]; exact q)
theorem o2_notInN {i : Nat} {ks : List Nat} (q : Q (.d (.bool (!decide (i ∈ ks)))) m) : Op2 K (rIn K true) (.d (.int (i : Int))) (.d (tupN ks)) m Q := o2_inI (neg := true) (by
  have e : decide ((i : Int) ∈ ks.map fun (k : Nat) => (k : Int)) = decide (i ∈ ks) := decide_eq_decide.mpr mem_natI
  show Q (.d (.bool (!decide ((i : Int) ∈ ks.map fun (k : Nat) => (k : Int))))) m
  rw [e]; exact q)
/-! xs[i] = e -/
variable {N : List Val → Mm → Prop} {E : Val → Mm → Prop} {t : TS}
theorem VRs.set {G : Hp} {y : Val} {v : V} (hv : VR K G y v) : ∀ {rs : List Val} {xs : List V} (i : Nat), VRs K G rs xs → VRs K G (rs.set i y) (xs.set i v)
  | [], xs, i, h => by
    have h : xs = [] := h
    subst h; exact rfl
  | r :: rs, xs, 0, h => by
    obtain ⟨x, t, rfl, h1, h2⟩ := h
    exact ⟨v, t, rfl, hv, h2⟩
  | r :: rs, xs, i + 1, h => by
    obtain ⟨x, t, rfl, h1, h2⟩ := h
    exact ⟨x, t.set i v, rfl, h1, VRs.set hv i h2⟩
end
/-! lists of one kind of thing -/
theorem map_at {α : Type} {f : α → PyData} {xs : List α} {i : Nat} {d : PyData} (h : (xs.map f)[i]? = some d) : ∃ x, xs[i]? = some x ∧ d = f x := by
  rw [List.getElem?_map] at h
  cases hx : xs[i]? with
  | none => rw [hx] at h; cases h
  | some x => rw [hx] at h; cases h; exact ⟨x, rfl, rfl⟩
section
variable {K : PySem.W.Frag} {r : List Val} {m : Mm} {Q : Val → Mm → Prop} {te tl : TE} {tt : TT} {j : Nat} {α : Type} {xs : List α} {f : α → PyData} {N : List Val → Mm → Prop} {E : Val → Mm → Prop} {t : TS}
theorem ev_mapLf (h : Ev K tl r m fun x m1 => x = .d (.list (xs.map f)) ∧ m1 = m) (hn : xs.length ≤ 100000) (g : α → PyData)
    (hs : ∀ (x : α) m', x ∈ xs → Ext m m' → Ev K te (r.set j (.d (f x))) m' fun y m3 => y = .d (g x) ∧ m3 = m') (q : Q (.d (.list (xs.map g))) m) : Ev K (tLc (iList K tl) (gName j) tYes te [j]) r m Q :=
  ev_lcL h (by rw [List.length_map]; exact hn) (fun i acc => acc = (xs.take i).map g) (by simp) (fun i d m' acc hd hx hw => by
    obtain ⟨x, h1, rfl⟩ := map_at hd
    exact evt_yes ⟨rfl, fun _ => (hs x m' (List.mem_of_getElem? h1) hx).imp fun y m3 e => ⟨e.2, g x, e.1, by rw [hw, take_one h1, List.map_append]; rfl⟩, (fun g => nomatch g)⟩)
    (fun acc hw => by rw [hw, List.length_map, List.take_length]; exact q)
theorem ev_mapTf (h : Ev K tl r m fun x m1 => x = .d (.tuple (xs.map f)) ∧ m1 = m) (hn : xs.length ≤ 100000) (g : α → PyData)
    (hs : ∀ (x : α) m', x ∈ xs → Ext m m' → Ev K te (r.set j (.d (f x))) m' fun y m3 => y = .d (g x) ∧ m3 = m') (q : Q (.d (.list (xs.map g))) m) : Ev K (tLc (iTup K tl) (gName j) tYes te [j]) r m Q :=
  ev_lcT h (by rw [List.length_map]; exact hn) (fun i acc => acc = (xs.take i).map g) (by simp) (fun i d m' acc hd hx hw => by
    obtain ⟨x, h1, rfl⟩ := map_at hd
    exact evt_yes ⟨rfl, fun _ => (hs x m' (List.mem_of_getElem? h1) hx).imp fun y m3 e => ⟨e.2, g x, e.1, by rw [hw, take_one h1, List.map_append]; rfl⟩, (fun g => nomatch g)⟩)
    (fun acc hw => by rw [hw, List.length_map, List.take_length]; exact q)
theorem fil_step {p : α → Bool} {g : α → PyData} {i : Nat} {x : α} (h : xs[i]? = some x) : ((xs.take (i + 1)).filter p).map g = ((xs.take i).filter p).map g ++ (if p x then [g x] else []) := by
  rw [take_one h, List.filter_append, List.map_append]
  cases hp : p x with
  | true => rw [List.filter_cons, if_pos hp]; rfl
  | false => rw [List.filter_cons, if_neg (by rw [hp]; decide)]; rfl
theorem ev_filTf (h : Ev K tl r m fun x m1 => x = .d (.tuple (xs.map f)) ∧ m1 = m) (hn : xs.length ≤ 100000) (p : α → Bool) (g : α → PyData)
    (ht : ∀ (x : α) m', x ∈ xs → Ext m m' → EvT K tt (r.set j (.d (f x))) m' fun b m3 => b = p x ∧ m3 = m')
    (hs : ∀ (x : α) m', x ∈ xs → Ext m m' → p x = true → Ev K te (r.set j (.d (f x))) m' fun y m3 => y = .d (g x) ∧ m3 = m') (q : Q (.d (.list ((xs.filter p).map g))) m) : Ev K (tLc (iTup K tl) (gName j) tt te [j]) r m Q :=
  ev_lcT h (by rw [List.length_map]; exact hn) (fun i acc => acc = ((xs.take i).filter p).map g) (by simp) (fun i d m' acc hd hx hw => by
    obtain ⟨x, h1, rfl⟩ := map_at hd
    have hm := List.mem_of_getElem? h1
    exact (ht x m' hm hx).imp fun b m2 e => ⟨e.2, fun hb => (hs x m' hm hx (e.1.symm.trans hb)).imp fun y m3 e2 => ⟨e2.2, g x, e2.1, by rw [hw, fil_step h1, if_pos (e.1.symm.trans hb)]⟩, fun hb => by rw [hw, fil_step h1, if_neg (by rw [← e.1, hb]; decide), List.append_nil]⟩)
    (fun acc hw => by rw [hw, List.length_map, List.take_length]; exact q)
theorem ev_filR1 {ta : TA} {n : Nat} (h : EvA K ta r m fun xs m1 => xs = [.d (.int (n : Int))] ∧ m1 = m) (hn : n ≤ 100000) (p : Nat → Bool) (g : Nat → PyData)
    (ht : ∀ (i : Nat) m', i < n → Ext m m' → EvT K tt (r.set j (.d (.int (i : Int)))) m' fun b m3 => b = p i ∧ m3 = m')
    (hs : ∀ (i : Nat) m', i < n → Ext m m' → p i = true → Ev K te (r.set j (.d (.int (i : Int)))) m' fun y m3 => y = .d (g i) ∧ m3 = m') (q : Q (.d (.list (((List.range n).filter p).map g))) m) : Ev K (tLc (iRng1 ta) (gName j) tt te [j]) r m Q :=
  ev_lcR1 h hn (fun i acc => acc = ((List.range i).filter p).map g) (by simp) (fun i m' acc hi hx hw => (ht i m' hi hx).imp fun b m2 e => ⟨e.2, fun hb => (hs i m' hi hx (e.1.symm.trans hb)).imp fun y m3 e2 => ⟨e2.2, g i, e2.1, by
      rw [hw, range_one, List.filter_append, List.map_append, List.filter_cons, if_pos (e.1.symm.trans hb)]; rfl⟩, fun hb => by
      rw [hw, range_one, List.filter_append, List.map_append, List.filter_cons, if_neg (by rw [← e.1, hb]; decide)]; simp⟩)
    (fun acc hw => by rw [hw]; exact q)
theorem w_forLf (h : Ev K tl r m fun x m1 => x = .d (.list (xs.map f)) ∧ m1 = m) (W : Nat → List Val → Mm → Prop) (h0 : W 0 r m)
    (hs : ∀ (i : Nat) (x : α) r' m', xs[i]? = some x → W i r' m' → Wp K t (r'.set j (.d (f x))) m' (W (i + 1)) E) (hd : ∀ r' m', W xs.length r' m' → N r' m') : Wp K (tFor (iList K tl) (gName j) t) r m N E :=
  w_forL h W h0 (fun i d r' m' hd hw => by
    obtain ⟨x, h1, rfl⟩ := map_at hd
    exact hs i x r' m' h1 hw) (fun r' m' hw => hd r' m' (by rw [List.length_map] at hw; exact hw))
theorem w_forTf (h : Ev K tl r m fun x m1 => x = .d (.tuple (xs.map f)) ∧ m1 = m) (W : Nat → List Val → Mm → Prop) (h0 : W 0 r m)
    (hs : ∀ (i : Nat) (x : α) r' m', xs[i]? = some x → W i r' m' → Wp K t (r'.set j (.d (f x))) m' (W (i + 1)) E) (hd : ∀ r' m', W xs.length r' m' → N r' m') : Wp K (tFor (iTup K tl) (gName j) t) r m N E :=
  w_forT h W h0 (fun i d r' m' hd hw => by
    obtain ⟨x, h1, rfl⟩ := map_at hd
    exact hs i x r' m' h1 hw) (fun r' m' hw => hd r' m' (by rw [List.length_map] at hw; exact hw))
end
abbrev intN (k : Nat) : PyData := .int (k : Int)
theorem tupN_eq (ks : List Nat) : tupN ks = .tuple (ks.map intN) := by
  unfold tupN
  rw [List.map_map]; rfl
/-! less told of what may change -/
section
variable {K : PySem.W.Frag} {r : List Val} {m : Mm} {Q : Val → Mm → Prop} {te tb : TE} {N : List Val → Mm → Prop} {E : Val → Mm → Prop} {t : TS} {ta : TA}
theorem ev_forget (h : Ev K te r m fun x m1 => ∃ m2, (∀ a o, m2 a = some o → m1 a = some o) ∧ Q x m2) : Ev K te r m Q := fun σ H G S L R k =>
  h σ H G S L R fun v H1 G1 x m1 ⟨m2, hl, q⟩ S1 e1 r1 => k v H1 G1 x m2 q (S1.less hl) e1 r1
theorem del_put {l : Addr} {o : MO} (h : m l = none) : del (put m l o) l = m := by
  funext b
  unfold del put
  by_cases hb : b = l
  · rw [if_pos hb, hb, h]
  · rw [if_neg hb, if_neg hb]
theorem put_less {l : Addr} {o : MO} (h : m l = none) : ∀ a u, m a = some u → put m l o a = some u := fun a u e => by
  rw [put_ne (ne_of_get e h)]; exact e
/-- [e, ..] * n: a list that may change -/
theorem ev_lstMul (h : EvA K ta r m fun xs m1 => ∃ ds : List PyData, xs = ds.map Val.d ∧ ds.length ≤ 100 ∧ Ev K tb r m1 fun y m2 => ∃ n : Nat, y = .d (.int (n : Int)) ∧ n ≤ 1000 ∧ ∀ l, m2 l = none → Q (.v (.ref l)) (put m2 l (.lst ((List.replicate n ds).flatten.map Val.d)))) : Ev K (tOp (rMul K) (tLst ta) tb) r m Q := fun σ H G S L R k =>
  h σ H G S L _ fun vs H1 G1 xs m1 ⟨ds, hx, hl, h1⟩ S1 e1 r1 => by
    subst hx
    have hA := r1.toAll
    refine ⟨by rw [hA.length]; exact Nat.le_trans hl (by decide), fun p hp => ?_⟩
    have hg := S1.free hp
    refine h1 σ _ (upd G1 p (.lst vs)) (S1.fix hp) (L.mono (e1.trans (Le.new hg))) _ fun w H2 G2 y m2 ⟨n, hy, hn, q⟩ S2 e2 r2 => ?_
    subst hy
    have r2 := int_of r2
    subst r2
    have en : ((n : Int)).toNat = n := by omega
    refine Or.inr (Or.inr (Or.inr ⟨p, (n : Int), vs, rfl, rfl, S2.sub _ _ (e2 _ _ upd_same), by omega, by omega, ?_, fun l hl => ?_⟩))
    · rw [en, hA.length]
      exact Nat.le_trans (Nat.mul_le_mul hl hn) (by decide)
    · rw [en]
      have hB : RpAll K G2 ds vs := RpAll.mono ((Le.new hg).trans e2) ds vs hA
      exact k _ _ G2 _ _ (q l (S2.freeM hl)) (S2.new hl ⟨_, upd_same, VRs.ofAll (hB.rep n)⟩) (e1.trans ((Le.new hg).trans e2)) .v
end
end DL
namespace DL
open PySem L2
def f_needNumber : FSp := fun args m R => ∃ i lo hi : Int, args = [.d (.int i), .d (.int lo), .d (.int hi)] ∧ lo ≤ i ∧ i ≤ hi ∧ R (.d .none) m
def f_raised : FSp := fun args m R => ∃ (b : Int) (n : Nat), args = [.d (.int b), .d (.int (n : Int))] ∧ n ≤ 100 ∧ Bt b 60 ∧ R (.d (.int (b ^ n))) m
theorem Bt.pow {b : Int} {a : Nat} (h : Bt b a) : ∀ n : Nat, Bt (b ^ n) (a * n + 1)
  | 0 => by rw [Int.pow_zero]; exact bt_lit (n := 1) (by decide) (by omega)
  | n + 1 => by
    rw [Int.pow_succ]
    exact ((h.pow n).mul h).mono (by rw [Nat.mul_succ]; omega)
/-- all some of so many -/
def allS : Nat → List (List Nat)
  | 0 => [[]]
  | n + 1 => allS n ++ (allS n).map fun s => s ++ [n]
theorem allS_len : ∀ n, (allS n).length = 2 ^ n
  | 0 => rfl
  | n + 1 => by rw [allS, List.length_append, List.length_map, allS_len n, Nat.pow_succ]; omega
theorem allS_mem : ∀ n, ∀ s ∈ allS n, s.length ≤ n ∧ ∀ k ∈ s, k < n
  | 0, s, h => by
    have : s = [] := by simpa [allS] using h
    subst this
    exact ⟨Nat.le_refl _, fun k hk => nomatch hk⟩
  | n + 1, s, h => by
    rw [allS] at h
    rcases List.mem_append.mp h with h | h
    · obtain ⟨a, b⟩ := allS_mem n s h
      exact ⟨by omega, fun k hk => by have := b k hk; omega⟩
    · obtain ⟨t, ht, rfl⟩ := List.mem_map.mp h
      obtain ⟨a, b⟩ := allS_mem n t ht
      refine ⟨by rw [List.length_append]; show t.length + 1 ≤ n + 1; omega, fun k hk => ?_⟩
      rcases List.mem_append.mp hk with hk | hk
      · have := b k hk; omega
      · rw [List.mem_singleton.mp hk]; omega
/-! rows by turns -/
end DL
namespace DL
open PySem L2
section
variable {K : PySem.W.Frag} {r : List Val} {m : Mm} {Q : Val → Mm → Prop} {ta tb tc te to tl : TE} {tt : TT} {N : List Val → Mm → Prop} {E : Val → Mm → Prop} {t : TS}
/-! texts cut and joined -/
def rJoin (K : PySem.W.Frag) : V → List V → Hp → VK → Prop := fun x xs H Q => ∃ a p, ∃ ys : List Str, x = .str a ∧ xs = [.ref p] ∧ (SqL K H p (ys.map V.str) ∨ SqT K H p (ys.map V.str)) ∧ (ys.map (·.length)).sum + ys.length * a.length ≤ 16777216 ∧ Q (.str (Txt.join a ys)) H
theorem kJoin {X : Cx} (K : PySem.W.Frag) {e : Expr} {to te : TE} (hp : PE X e (tM1 (rJoin X.K) to te)) (h : X.K = K := by rfl) : PE X e (tM1 (rJoin K) to te) := h ▸ hp
def rSplit : V → List V → Hp → VK → Prop := fun x xs H Q => ∃ a b, x = .str a ∧ xs = [.str b] ∧ (b.length == 0) = false ∧ a.length + 2 ≤ sizeLine ∧ rNewStrs (Txt.split a b) H Q
theorem kSplit {X : Cx} {e : Expr} {to te : TE} (hp : PE X e (tM1 rSplit to te)) : PE X e (tM1 rSplit to te) := hp
theorem kiE {X : Cx} (K : PySem.W.Frag) {tg e : Expr} {ta : TA} (hp : PI X tg e (iEnum X.K ta)) (h : X.K = K := by rfl) : PI X tg e (iEnum K ta) := h ▸ hp
theorem ev_join {a : Str} {ys : List Str} (h : Ev K to r m fun x m1 => x = .d (.str a) ∧ Ev K te r m1 fun y m2 => y = .d (.list (ys.map PyData.str)) ∧ (ys.map (·.length)).sum + ys.length * a.length ≤ 16777216 ∧ Q (.d (.str (Txt.join a ys))) m2) : Ev K (tM1 (rJoin K) to te) r m Q := fun σ H G S L R k =>
  h σ H G S L _ fun v H1 G1 x m1 ⟨hx, h1⟩ S1 e1 r1 => by
    subst hx
    have r1 := str_of r1
    subst r1
    refine ⟨⟨a, rfl⟩, ?_⟩
    refine h1 σ H1 G1 S1 (L.mono e1) _ fun w H2 G2 y m2 ⟨hy, hz, q⟩ S2 e2 r2 => ?_
    subst hy
    obtain ⟨p, xs, rfl, g1, g2⟩ := rp_list.mp r2.rp
    rw [g2.strs] at g1
    exact ⟨a, p, ys, rfl, rfl, Or.inl (Or.inl (Le.rd S2.sub g1)), hz, k _ H2 G2 _ m2 q S2 (e1.trans e2) vr_str⟩
theorem rpa_strs {G : Hp} : ∀ (ns : List Str), RpAll K G (ns.map PyData.str) (ns.map V.str)
  | [] => by rw [List.map_nil, RpAll]; rfl
  | n :: ns => by
    rw [List.map_cons, List.map_cons, RpAll]
    exact ⟨_, _, rfl, by rw [Rp], rpa_strs ns⟩
theorem ev_split (h : Ev K to r m fun x m1 => ∃ a, x = .d (.str a) ∧ Ev K te r m1 fun y m2 => ∃ b, y = .d (.str b) ∧ (b.length == 0) = false ∧ a.length ≤ 100000 ∧ Q (.d (.list ((Txt.split a b).map PyData.str))) m2) : Ev K (tM1 rSplit to te) r m Q := fun σ H G S L R k =>
  h σ H G S L _ fun v H1 G1 x m1 ⟨a, hx, h1⟩ S1 e1 r1 => by
    subst hx
    have r1 := str_of r1
    subst r1
    refine ⟨⟨a, rfl⟩, ?_⟩
    refine h1 σ H1 G1 S1 (L.mono e1) _ fun w H2 G2 y m2 ⟨b, hy, hb, hz, q⟩ S2 e2 r2 => ?_
    subst hy
    have r2 := str_of r2
    subst r2
    refine ⟨a, b, rfl, rfl, hb, ?_, fun l hl => ?_⟩
    · exact Nat.le_trans (show a.length + 2 ≤ 100002 by omega) (by decide)
    have hg := S2.free hl
    exact k _ _ (upd G2 l _) _ m2 q (S2.fix hl) (e1.trans (e2.trans (Le.new hg))) (.d (rp_list.mpr ⟨l, _, rfl, Rd.of upd_same, rpa_strs _⟩))
/-! str(i), int(x) -/
def rStrI : List V → Hp → VK → Prop := fun xs H Q => ∃ i : Int, xs = [.int i] ∧ i.natAbs.log2 < 1920 ∧ Q (.str (toString i)) H
theorem cStr {X : Cx} : CallR X (.type "str") rStrI := call_str_int
def rInt0 : List V → Hp → VK → Prop := fun xs H Q => (∃ i, xs = [.int i] ∧ Q (.int i) H) ∨ ∃ k, xs = [.bl k] ∧ Q (.int (if k then 1 else 0)) H
def rIntS : List V → Hp → VK → Prop := fun xs H Q => ∃ a n, xs = [.str a] ∧ PySem.intText? a = some n ∧ a.length ≤ 640 ∧ Q (.int n) H
def rIntA : List V → Hp → VK → Prop := fun xs H Q => rInt0 xs H Q ∨ rIntS xs H Q
theorem cInt {X : Cx} : CallR X (.type "int") rIntA := (call_int1).or call_int_str
theorem on_str {i : Int} {a : Nat} (hb : Bt i a) (h0 : 0 < a) (ha : a ≤ 1920) (q : Q (.d (.str (toString i))) m) : OpN K rStrI [.d (.int i)] m Q := fun H G vs S x R k => by
  obtain ⟨v, rfl, h⟩ := vrs1 x
  rw [int_of h]
  exact ⟨i, rfl, Nat.lt_of_lt_of_le (log2_of_bt hb h0) ha, k _ H G _ m q S (Le.refl G) vr_str⟩
theorem on_intS {x : Str} {n : Int} (h : PySem.intText? x = some n) (hz : x.length ≤ 640) (q : Q (.d (.int n)) m) : OpN K rIntA [.d (.str x)] m Q := fun H G vs S a R k => by
  obtain ⟨v, rfl, hv⟩ := vrs1 a
  rw [str_of hv]
  exact Or.inr ⟨x, n, rfl, h, hz, k _ H G _ m q S (Le.refl G) vr_int⟩
theorem on_intB {b : Bool} (q : Q (.d (.int (if b then 1 else 0))) m) : OpN K rIntA [.d (.bool b)] m Q := fun H G vs S a R k => by
  obtain ⟨v, rfl, hv⟩ := vrs1 a
  rw [bool_of hv]
  exact Or.inl (Or.inr ⟨b, rfl, k _ H G _ m q S (Le.refl G) vr_int⟩)
def rNotInStr : R2 := fun x y H Q => ∃ i j, x = .str i ∧ y = .str j ∧ Q (.bl (!(!(Builtin.Str.occurrences j i 0 j.length 1).isEmpty))) H
theorem oNotInStr {X : Cx} : OpR X (compareOp .NotIn) rNotInStr := op_notin_str
theorem o2_notInStr {x y : Str} (q : Q (.d (.bool (Builtin.Str.occurrences y x 0 y.length 1).isEmpty)) m) : Op2 K rNotInStr (.d (.str x)) (.d (.str y)) m Q := fun H G v w S a b R k => by
  rw [str_of a, str_of b]
  refine ⟨x, y, rfl, rfl, ?_⟩
  rw [Bool.not_not]
  exact k _ H G _ m q S (Le.refl G) vr_bool
/-- for i, x in enumerate(a list) -/
theorem w_forE {ta : TA} {j1 j2 : Nat} {α : Type} {xs : List α} {f : α → PyData} (h : EvA K ta r m fun ys m1 => ys = [.d (.list (xs.map f))] ∧ m1 = m) (W : Nat → List Val → Mm → Prop) (h0 : W 0 r m)
    (hs : ∀ (i : Nat) (x : α) r' m', xs[i]? = some x → W i r' m' → Wp K t ((r'.set j1 (.d (.int (i : Int)))).set j2 (.d (f x))) m' (W (i + 1)) E) (hd : ∀ r' m', W xs.length r' m' → N r' m') : Wp K (tFor (iEnum K ta) (gTup K 2 (gCons (gName j1) (gCons (gName j2) gNil))) t) r m N E := fun σ H G D S L a b =>
  h σ H G S L _ fun vs H1 G1 ys m1 ⟨hx, hm⟩ S1 e1 r1 => by
    subst hx hm
    obtain ⟨v, rfl, rv⟩ := vrs1 r1
    obtain ⟨p, zs, rfl, hs1, hA⟩ := rp_list.mp rv.rp
    have hs1 : SqL K G1 p zs := Or.inl hs1
    have hlen := hA.length
    rw [List.length_map] at hlen
    refine ⟨p, zs, rfl, S1.sqL hs1, for_it (walk_enum (xs := zs)) (fun i σ' H' => ∃ G' r' m', W i r' m' ∧ Sta K m' H' G' ∧ Le G1 G' ∧ Sl K G' r' σ') ⟨G1, r, _, h0, S1, Le.refl G1, L.mono e1⟩ ?_ ?_ ?_⟩
    · rintro i σ' H' hi ⟨G', r', m', _, S', e', _⟩
      exact S'.sqL (e'.sqL hs1)
    · rintro i x σ' H' H2 hi ⟨G', r', m', hw, S', e', L'⟩ ⟨T, x1, x2, rfl, hT, rfl, hx1, hx2⟩
      have hx1 : V.int (i : Int) = x1 := by simpa using hx1
      subst hx1
      obtain ⟨d, hd1, hd2⟩ := hA.get hx2
      obtain ⟨y, hy, rfl⟩ := map_at hd1
      have hg := S'.free hT
      have e2 : Le G' (upd G' T (.tup [.int (i : Int), x2])) := Le.new hg
      refine ⟨T, _, rfl, SqT.of upd_same, rfl, _, [x2], rfl, x2, [], rfl, rfl, ?_⟩
      exact hs i y r' m' hy hw _ _ (upd G' T (.tup [.int (i : Int), x2])) _ (S'.fix hT) (((L'.mono e2).set (r := .d (.int (i : Int))) vr_int j1).set (r := .d (f y)) (.d (Rp.mono (e'.trans e2) _ _ hd2)) j2)
        (fun σ3 H3 G3 r3 m3 h3 S3 e3 L3 => ⟨G3, r3, m3, h3, S3, e'.trans (e2.trans e3), L3⟩) (fun v H3 G3 x m3 n3 S3 e3 L3 => b v H3 G3 x m3 n3 S3 (e1.trans (e'.trans (e2.trans e3))) L3)
    · rintro σ' H' ⟨G', r', m', hw, S', e', L'⟩
      rw [hlen] at hw
      exact a σ' H' G' r' m' (hd r' m' hw) S' (e1.trans e') L'
end
/-! shares as a text -/
def dg (s : Int) : Str := toString s
theorem dg_all : ∀ s : Fin 10, 1 ≤ s.val → (dg (s.val : Int)).length = 1 ∧ (Builtin.Str.occurrences "123456789" (dg (s.val : Int)) 0 (Str.ofString "123456789").length 1).isEmpty = false ∧ PySem.intText? (dg (s.val : Int)) = some (s.val : Int) ∧ 32 ∉ TL.tl (dg (s.val : Int)) := by decide +kernel
def showS (ss : List Int) : Str := Txt.join " " (ss.map dg)
theorem dg_ok {s : Int} (h : 1 ≤ s ∧ s ≤ 9) : (dg s).length = 1 ∧ (Builtin.Str.occurrences "123456789" (dg s) 0 (Str.ofString "123456789").length 1).isEmpty = false ∧ PySem.intText? (dg s) = some s ∧ 32 ∉ TL.tl (dg s) := by
  have := dg_all ⟨s.toNat, by omega⟩ (by show 1 ≤ s.toNat; omega)
  have e : ((⟨s.toNat, by omega⟩ : Fin 10).val : Int) = s := by show ((s.toNat : Nat) : Int) = s; omega
  rw [e] at this
  exact this
theorem split_show {ss : List Int} (h : Shares ss) : Txt.split (showS ss) " " = ss.map dg := by
  refine TL.split_join (s := 32) (S := []) (by decide +kernel) (by decide +kernel) ?_ ?_
  · intro e
    have := h.pos
    have e := List.map_eq_nil_iff.mp e
    rw [e] at this
    exact absurd this (by decide)
  · intro p hp
    obtain ⟨s, hs, rfl⟩ := List.mem_map.mp hp
    exact (dg_ok (h.each s hs)).2.2.2
theorem dg_lens {ss : List Int} (h : ∀ s ∈ ss, 1 ≤ s ∧ s ≤ 9) : ((ss.map dg).map (·.length)).sum = ss.length := by
  induction ss with
  | nil => rfl
  | cons s ss ih =>
    rw [List.map_cons, List.map_cons, List.sum_cons, ih fun x hx => h x (List.mem_cons_of_mem _ hx), (dg_ok (h s (List.mem_cons_self ..))).1, List.length_cons]
    omega
theorem show_len {ss : List Int} (h : Shares ss) : (showS ss).length ≤ 1000 := by
  unfold showS Txt.join
  rw [StrLaws.glued_eq_join]
  refine Nat.le_trans (StrLaws.join_length_le _ _) ?_
  rw [dg_lens h.each, List.length_map]
  have := h.few
  have e : (Str.ofString " ").length = 1 := by decide +kernel
  rw [e]
  omega
def f_show : FSp := fun args m R => ∃ ss : List Int, args = [.d (tupI ss)] ∧ Shares ss ∧ R (.d (.str (showS ss))) m
def f_read : FSp := fun args m R => ∃ ss : List Int, args = [.d (.str (showS ss))] ∧ Shares ss ∧ R (.d (tupI ss)) m
end DL
namespace DL
open PySem L2
theorem Kinds.sub {n : Nat} {ks : List Nat} (h : Kinds n ks) : ks.Sublist (List.range n) := by
  have : ∀ (ks : List Nat) (m : Nat), ks.Pairwise (· < ·) → (∀ k ∈ ks, m ≤ k ∧ k < n) → ks.Sublist ((List.range n).drop m) := by
    intro ks
    induction ks with
    | nil => intro m _ _; exact List.nil_sublist _
    | cons k t ih =>
      intro m hp hl
      have hk := hl k (by simp)
      have hkn : k < (List.range n).length := by rw [List.length_range]; exact hk.2
      have hd : (List.range n).drop k = k :: (List.range n).drop (k + 1) := by
        rw [List.drop_eq_getElem_cons hkn, List.getElem_range]
      have h1 : (k :: t).Sublist ((List.range n).drop k) := by
        rw [hd]
        refine (ih (k + 1) (List.pairwise_cons.mp hp).2 fun x hx => ⟨?_, (hl x (by simp [hx])).2⟩).cons_cons k
        exact (List.pairwise_cons.mp hp).1 x hx
      refine h1.trans ?_
      have e : (List.range n).drop k = ((List.range n).drop m).drop (k - m) := by rw [List.drop_drop]; congr 1; omega
      rw [e]
      exact List.drop_sublist _ _
  exact this ks 0 h.up fun k hk => ⟨Nat.zero_le _, h.lt k hk⟩
theorem sub_filter {ks l : List Nat} (h : ks.Sublist l) : l.Nodup → (l.filter fun k => decide (k ∈ ks)) = ks := by
  induction h with
  | slnil => intro _; rfl
  | @cons l1 l2 a h ih =>
    intro nd
    have nd := List.nodup_cons.mp nd
    have ha : a ∉ l1 := fun hm => nd.1 (h.subset hm)
    rw [List.filter_cons, if_neg (by simp [ha])]
    exact ih nd.2
  | @cons_cons l1 l2 a h ih =>
    intro nd
    have nd := List.nodup_cons.mp nd
    rw [List.filter_cons, if_pos (by simp)]
    congr 1
    refine Eq.trans ?_ (ih nd.2)
    refine List.filter_congr fun x hx => ?_
    have hxa : x ≠ a := fun e => nd.1 (e ▸ hx)
    simp [hxa]
theorem Kinds.filter_eq {n : Nat} {ks : List Nat} (h : Kinds n ks) : (List.range n).filter (fun k => decide (k ∈ ks)) = ks := sub_filter h.sub List.nodup_range
theorem sumP_cons (ss : List Int) (k : Nat) (ks : List Nat) : sumP ss (k :: ks) = ss.getD k 0 + sumP ss ks := rfl
theorem sumP_split (ss : List Int) (p : Nat → Bool) : ∀ l : List Nat, sumP ss (l.filter p) + sumP ss (l.filter fun k => !p k) = sumP ss l
  | [] => rfl
  | a :: l => by
    have ih := sumP_split ss p l
    rw [sumP_cons]
    cases h : p a with
    | true =>
      rw [List.filter_cons, List.filter_cons, if_pos h, if_neg (by rw [h]; decide), sumP_cons]; omega
    | false =>
      rw [List.filter_cons, List.filter_cons, if_neg (by rw [h]; decide), if_pos (by rw [h]; rfl), sumP_cons]; omega
theorem sumP_range (ss : List Int) : sumP ss (List.range ss.length) = ss.sum := by
  unfold sumP
  congr 1
  refine List.ext_getElem (by simp) fun i h1 h2 => ?_
  rw [List.getElem_map, List.getElem_range, List.getD_eq_getElem?_getD, List.getElem?_eq_getElem h2]; rfl
def othersF (n : Nat) (ks : List Nat) : List Nat := (List.range n).filter fun k => !decide (k ∈ ks)
theorem sumP_others {ss : List Int} {ks : List Nat} (h : Kinds ss.length ks) : sumP ss ks + sumP ss (othersF ss.length ks) = ss.sum := by
  have := sumP_split ss (fun k => decide (k ∈ ks)) (List.range ss.length)
  rw [h.filter_eq, sumP_range] at this
  exact this
theorem nat_ne {t : Nat} (ht : 0 < t) : ((t : Nat) : Rat) ≠ 0 := by
  intro e
  have e2 : (((t : Nat) : Int) : Rat) = ((0 : Int) : Rat) := by rw [Rat.intCast_natCast]; exact e
  have e3 : ((t : Nat) : Int) = 0 := Rat.intCast_inj.mp e2
  omega
theorem eqv_data {d : PyData} (h : SeqAt.shaped d = true) : PyData.eqv d d = true := by
  have h : (d.canLay0 && decide (d.depth ≤ 64)) = true := h
  rw [Bool.and_eq_true] at h
  exact SeqAt.eqv_refl d h.1
theorem canLay_ints (ns : List Int) : PyData.canLayAll0 (ns.map PyData.int) = true := by
  induction ns with
  | nil => simp [PyData.canLayAll0]
  | cons n ns ih => rw [List.map_cons]; simp [PyData.canLayAll0, PyData.canLay0, ih]
theorem depth_ints (ns : List Int) : PyData.depthAll (ns.map PyData.int) = 0 := by
  induction ns with
  | nil => simp [PyData.depthAll]
  | cons n ns ih => rw [List.map_cons]; simp [PyData.depthAll, PyData.depth, ih]
theorem shaped_tupI (ns : List Int) : SeqAt.shaped (tupI ns) = true := by
  simp [SeqAt.shaped, tupI, PyData.canLay0, canLay_ints, PyData.depth, depth_ints]
theorem frac_unit {d : Nat} (h : 0 < d) : frac (mkRat 1 d) = .tuple [.int 1, .int (d : Int)] := by
  rw [frac_mk 1 d (by omega)]
  simp
section
variable {K : PySem.W.Frag} {r : List Val} {m : Mm} {Q : Val → Mm → Prop} {te : TE} {N : List Val → Mm → Prop} {E : Val → Mm → Prop}
/-- != of what is the same -/
theorem o2_neSame {d : PyData} (h : SeqAt.shaped d = true) (q : Q (.d (.bool false)) m) : Op2 K (rNeA K) (.d d) (.d d) m Q := o2_ne h h (by rw [eqv_data h]; exact q)
end
end DL
namespace DL
open PySem L2
instance (i : Int) (k : Nat) : Decidable (Bt i k) := by unfold Bt; infer_instance
instance (q : Rat) (a : Nat) : Decidable (FrB q a) := by unfold FrB; infer_instance
end DL
namespace DL
open PySem L2 PySem.W
/-- sorted(e, key=len), the items tuples of ints -/
def tSortLen (K : PySem.W.Frag) (ta : TA) : TE := fun σ H Q => ta σ H fun vs H1 => ∃ (a : Addr) (bs : List (V × List Int)), vs = [.ref a] ∧ SqL K H1 a (bs.map (·.1)) ∧ (∀ b ∈ bs, ∃ t, b.1 = .ref t ∧ SqT K H1 t (b.2.map V.int)) ∧
  ∀ p, H1 p = none → Q (.ref p) (upd H1 p (.lst ((bs.mergeSort fun a b => decide ((a.2.length : Int) ≤ (b.2.length : Int))).map (·.1))))
theorem each_of {bs : List (V × List Int)} : ∀ {us : List Value}, Vals (bs.map (·.1)) us → EachIs (fun (v : Value) (b : V × List Int) => RelV b.1 v) us bs := by
  induction bs with
  | nil => intro us r; rw [List.map_nil] at r; cases r; exact .nil
  | cons b bs ih =>
    intro us r
    rw [List.map_cons] at r
    cases r with
    | cons r1 r2 => exact .cons r1 (ih r2)
theorem vals_each {bs : List (V × List Int)} : ∀ {us : List Value}, EachIs (fun (v : Value) (b : V × List Int) => RelV b.1 v) us bs → Vals (bs.map (·.1)) us := by
  induction bs with
  | nil => intro us r; cases r; exact .nil
  | cons b bs ih =>
    intro us r
    cases r with
    | cons r1 r2 => rw [List.map_cons]; exact .cons r1 (ih r2)
theorem pe_sortLen {X : Cx} {e : Expr} {ta : TA} {p pos p2 kpos : Pos} {k : Nat} (hr : Room k X.A) (hg : Gl X "sorted") (hm : X.mg "sorted" = none) (hgl : Gl X "len") (hml : X.mg "len" = none) (hpa : PA X [e] ta)
    (he : backTo pos (starEach [e] X.env) = (false, eval e X.env) :: backTo pos (starEach [] X.env) := by rfl) (hpl : (backTo pos (starEach [e] X.env)).any (·.1) = false := by rfl)
    (hall : (backToKw pos (keywordEach [⟨some "key", .Name "len" p2, kpos⟩] X.env)).all (·.1.isSome) = true := by rfl) (hnone : (backToKw pos (keywordEach [⟨some "key", .Name "len" p2, kpos⟩] X.env)).any (·.1.isNone) = false := by rfl)
    (hks : (backToKw pos (keywordEach [⟨some "key", .Name "len" p2, kpos⟩] X.env)).filterMap (·.1) = [Str.ofString "key"] := by rfl) :
    PE X (.Call (.Name "sorted" p) [e] [⟨some "key", .Name "len" p2, kpos⟩] pos) (tSortLen X.K ta) := by
  refine ⟨fun pins s σ H Q I h => ?_⟩
  refine wpAny_Call_Name_kw (ld_blt I hg hm (u := .builtin "sorted") (by decide +kernel) ?_)
  refine PyProof.Rows.callWith_kw (thn (hpa.run pos pins s σ H _ I h) fun us s1 ⟨vs, H1, I1, r1, q1⟩ => ?_) he hpl hall hnone
  obtain ⟨a, bs, ev, hs, ht, q⟩ := q1
  subst ev
  obtain ⟨u, rfl, rx⟩ := vals1 r1
  cases rx
  show wpAny _ _ (evalAll ((do let v ← eval (.Name "len" p2) X.env; standAt pos; pure v) :: [])) _ _ s1
  refine wpAny_evalAll_cons (wpAny_bind (ld_blt I1 hgl hml (u := .builtin "len") (by decide +kernel) (wpAny_bind (wpAny_standAt (wpAny_pure ?_)))))
  refine wpAny_evalAll_nil ?_
  rw [hks]
  show wpAny _ _ (call (.builtin "sorted") [.ref a] [(Str.ofString "key", .builtin "len")]) _ _ s1
  obtain ⟨its, rv, hl, hz⟩ := I1.list hs
  have hlen := rv.length
  rw [List.length_map] at hlen
  have hun := hr.un
  refine sorted_key_data (k := fun b : V × List Int => PyData.int (b.2.length : Int)) hl.isList (each_of rv) ?_ ?_ ?_ ?_ (PyProof.Rows.ksk_s1 _ _) (fun x => PyProof.Rows.ksk_l1 _ _) (fun x => PyProof.Rows.ksk_t4 "len" x) ?_ ?_
  · intro d hd d' hd'
    obtain ⟨b, _, rfl⟩ := List.mem_map.mp hd
    obtain ⟨b', _, rfl⟩ := List.mem_map.mp hd'
    rfl
  · refine Or.inr fun d hd => ?_
    obtain ⟨b, _, rfl⟩ := List.mem_map.mp hd
    exact ⟨(fun z => nomatch z), fun xs z => nomatch z⟩
  · rw [List.length_map] at hz; exact hz
  · intro b _
    show X.A.units + 2 + (PyData.int _).depth < cLine
    simp only [PyData.depth]
    omega
  · intro v b hR hb h tk hk
    obtain ⟨t, e1, hq⟩ := ht b hb
    rw [e1] at hR
    obtain rfl : v = Value.ref t := hR
    obtain ⟨its2, rv2, ht2, hz2⟩ := I1.tuple hq
    have hl2 := rv2.length
    rw [List.length_map] at hl2 hz2
    have hn := line63
    obtain ⟨o, ho, hc, n, hd⟩ := ht2
    refine PyProof.Rows.len_tuple (s := { s1 with heap := h, toks := tk }) (items := its2.toArray) ⟨o, hk _ _ ho, hc, n, hd⟩ (by simp only [List.size_toArray] <;> omega) ?_
    refine ⟨h, _, rfl, fun _ _ q => q, ?_⟩
    rw [List.size_toArray, ← hl2]
    exact .int _ _
  · intro out c h' tk hk hn0 hg' hlen' hE
    rw [dataLe_int] at hE
    have hp := I1.hok.fresh (Nat.le_succ s1.heap.objs.size)
    refine ⟨.ref _, upd H1 (s1.heap.objs.size + 1) (.lst ((bs.mergeSort fun a b => decide ((a.2.length : Int) ≤ (b.2.length : Int))).map (·.1))), I1.laid (t' := tk) hk (Nat.le_succ _) ⟨?_, out, c, vals_each hE, hg'⟩, rfl, q _ hp⟩
    rw [List.length_map, List.length_mergeSort]
    rw [List.length_map] at hz; exact hz
theorem kSortLen {X : Cx} (K : PySem.W.Frag) {e : Expr} {ta : TA} (h : PE X e (tSortLen X.K ta)) (hK : X.K = K := by rfl) : PE X e (tSortLen K ta) := hK ▸ h
end DL
namespace DL
open PySem L2
/-! a display of one pair, its key a tuple -/
section
variable {prog : Program} {w : World} {A : Around} {E : Value → Shared → Prop} {s : Shared}
theorem wpAny_Dict_one {κ : Type} [DecidableEq κ] {knd : HeapKind prog w κ} {env : Env} {k v : Expr} {pos : Pos} {Q : Value → Shared → Prop} (hu : knd.room A)
    (h : wpAny (model prog w) A (evalPairs (pairTrees [some k] [v] env pos)) (fun vs s₁ => ∃ ps, CarriesH knd s₁.heap vs ps ∧ s₁.heap.DictOfH knd s.heap.objs.size [] ∧
      ∀ h' tk, h'.DictOfH knd s.heap.objs.size (storedAllH [] ps) → Heap.SameBut s.heap.objs.size s₁.heap h' → Q (.ref s.heap.objs.size) { s₁ with heap := h', toks := tk }) E
      { s with heap := s.heap.push { cls := .type "dict", data := .dict #[] } }) :
    wpAny (model prog w) A (eval (.Dict [some k] [v] pos) env) Q E s := by
  have hn := pairTrees_length [some k] [v] env pos rfl rfl
  rw [arm_eval_Dict, zip_pairTrees [some k] [v] env pos rfl rfl, dictDisplay_pairs _ (fun e => by rw [e] at hn; cases hn) (by rw [hn]; show 1 < 17; decide)]
  exact wpAny_bind (wpAny_standAt (wpAny_bind (wpAny_subDictH (knd := knd) (Q := fun d s' => wpAny (model prog w) A (pure (Value.ref d)) Q E s') hu (by rw [hn]; show 1 ≤ 15; decide)
    (wpAny_mono h (fun vs s₁ h₁ => by obtain ⟨ps, hc, hm, hq⟩ := h₁; exact ⟨ps, hc, hm, fun h' tk a b => wpAny_pure (hq h' tk a b)⟩) fun _ _ e => e))))
end
def tDisp1 (tk tv : TE) : TE := fun σ H Q => ∀ p, H p = none → tk σ (upd H p (.dT [])) fun x H1 => tv σ H1 fun y H2 => ∃ (b : Addr) (k : List Key), x = .ref b ∧ H2 b = some (.tup (k.map kV)) ∧ H2 p = some (.dT []) ∧ Q (.ref p) (upd H2 p (.dT [(k, y)]))
theorem pe_disp1 {X : Cx} {pos : Pos} {k v : Expr} {tk tv : TE} {j : Nat} (hr : Room j X.A) (hk : PE X k tk) (hv : PE X v tv) : PE X (.Dict [some k] [v] pos) (tDisp1 tk tv) := by
  refine ⟨fun pins s σ H Q I q => ?_⟩
  have hn := I.hok.fresh (Nat.le_refl s.heap.objs.size)
  have hun := hr.un
  have I1 := I.laid (a := s.heap.objs.size) (o := .dT []) (h' := s.heap.push { cls := .type "dict", data := .dict #[] }) (t' := s.toks) (fun _ _ q => Heap.get?_push_of_some _ q) (Nat.le_refl _) (dt_empty s.heap I.big)
  refine wpAny_Dict_one (knd := tupleKind (mixKind X.prog X.w)) (show X.A.units < cLine by omega) ?_
  refine pairTrees_cons_walk (thn (hk.run pins _ σ _ _ I1 (q _ hn)) fun u s1 ⟨x, H1, I2, rx, q1⟩ => thn (hv.run pins s1 σ H1 _ I2 q1) fun u2 s2 ⟨y, H2, I3, ry, q2⟩ => pairTrees_nil_walk ?_)
  obtain ⟨b, ks, rfl, hb, hp, q3⟩ := q2
  cases rx
  obtain ⟨z, hd, xs, rel, dd⟩ := dt_of I3.hok hp
  cases rel
  refine ⟨[(ks, b, u2)], ⟨rfl, rfl, key_of I3.hok hb, trivial⟩, dd, fun h' tk dd' hs => ⟨.ref s.heap.objs.size, _, ?_, rfl, q3⟩⟩
  obtain ⟨qo, es, ep, hq, h2, h3, h4, _, h5⟩ := dd'
  refine d_write (t' := tk) I3 (by rw [hp]; exact True.intro) hs ⟨qo, hq⟩ ⟨by show 1 ≤ sizeLine; decide, hd, _, ?_, qo, es, ep, hq, h2, h3, h4, h5⟩
  refine .cons ⟨rfl, ?_, ry⟩ .nil
  have hne : b ≠ s.heap.objs.size := fun e => by rw [e, hp] at hb; cases hb
  show upd H2 s.heap.objs.size (.dT [(ks, y)]) b = _
  rw [upd_ne hne]
  exact hb
/-! dicts at the level of data -/
def getV {κ : Type} [DecidableEq κ] (kvs : List (κ × Val)) (k : κ) : Option Val := (kvs.find? fun kv => decide (kv.1 = k)).map (·.2)
def putV {κ : Type} [DecidableEq κ] (kvs : List (κ × Val)) (k : κ) (v : Val) : List (κ × Val) :=
  if (kvs.any fun kv => decide (kv.1 = k)) then kvs.map (fun kv => if kv.1 = k then (kv.1, v) else kv) else kvs ++ [(k, v)]
section
variable {K : PySem.W.Frag} {G : Hp} {κ : Type} [DecidableEq κ]
theorem KVs.len : ∀ {kvs : List (κ × Val)} {es : List (κ × V)}, KVs K G kvs es → es.length = kvs.length
  | [], es, h => by
    have h : es = [] := h
    rw [h]; rfl
  | (k, r) :: t, es, h => by
    obtain ⟨v, u, rfl, _, h3⟩ := h
    rw [List.length_cons, List.length_cons, KVs.len h3]
theorem KVs.get (k : κ) : ∀ {kvs : List (κ × Val)} {es : List (κ × V)}, KVs K G kvs es → (∀ r, getV kvs k = some r → ∃ v, valV es k = some v ∧ VR K G r v) ∧ (getV kvs k = none → valV es k = none)
  | [], es, h => by
    have h : es = [] := h
    subst h
    exact ⟨(fun r e => nomatch e), fun _ => rfl⟩
  | (j, x) :: t, es, h => by
    obtain ⟨v, u, rfl, h2, h3⟩ := h
    obtain ⟨ih1, ih2⟩ := KVs.get k h3
    by_cases e : j = k
    · have e1 : getV ((j, x) :: t) k = some x := by simp [getV, List.find?_cons, e]
      rw [e1, valV_pos (p := (j, v)) e]
      exact ⟨fun r hr => ⟨v, rfl, by cases hr; exact h2⟩, fun z => nomatch z⟩
    · have e1 : getV ((j, x) :: t) k = getV t k := by simp [getV, List.find?_cons, e]
      rw [e1, valV_neg (p := (j, v)) e]
      exact ⟨ih1, ih2⟩
theorem KVs.any (k : κ) : ∀ {kvs : List (κ × Val)} {es : List (κ × V)}, KVs K G kvs es → (es.any fun kv => decide (kv.1 = k)) = (kvs.any fun kv => decide (kv.1 = k))
  | [], es, h => by
    have h : es = [] := h
    subst h; rfl
  | (j, x) :: t, es, h => by
    obtain ⟨v, u, rfl, h2, h3⟩ := h
    rw [List.any_cons, List.any_cons, KVs.any k h3]
theorem KVs.repl (k : κ) {y : Val} {v : V} (hv : VR K G y v) : ∀ {kvs : List (κ × Val)} {es : List (κ × V)}, KVs K G kvs es → KVs K G (kvs.map fun kv => if kv.1 = k then (kv.1, y) else kv) (es.map fun kv => if kv.1 = k then (kv.1, v) else kv)
  | [], es, h => by
    have h : es = [] := h
    subst h; exact rfl
  | (j, x) :: t, es, h => by
    obtain ⟨w, u, rfl, h2, h3⟩ := h
    rw [List.map_cons, List.map_cons]
    by_cases e : j = k
    · simp only [e, if_true]
      exact ⟨v, _, rfl, hv, by simpa [e] using KVs.repl k hv h3⟩
    · simp only [e, if_false]
      exact ⟨w, _, rfl, h2, by simpa [e] using KVs.repl k hv h3⟩
theorem KVs.snoc (k : κ) {y : Val} {v : V} (hv : VR K G y v) : ∀ {kvs : List (κ × Val)} {es : List (κ × V)}, KVs K G kvs es → KVs K G (kvs ++ [(k, y)]) (es ++ [(k, v)])
  | [], es, h => by
    have h : es = [] := h
    subst h; exact ⟨v, [], rfl, hv, rfl⟩
  | (j, x) :: t, es, h => by
    obtain ⟨w, u, rfl, h2, h3⟩ := h
    exact ⟨w, u ++ [(k, v)], rfl, h2, KVs.snoc k hv h3⟩
theorem KVs.put (k : κ) {y : Val} {v : V} {kvs : List (κ × Val)} {es : List (κ × V)} (h : KVs K G kvs es) (hv : VR K G y v) : KVs K G (putV kvs k y) (putK es k v) := by
  unfold putV putK
  rw [h.any k]
  split
  · exact h.repl k hv
  · exact h.snoc k hv
theorem putV_new {kvs : List (κ × Val)} {k : κ} (y : Val) (h : ∀ p ∈ kvs, p.1 ≠ k) : putV kvs k y = kvs ++ [(k, y)] := by
  unfold putV
  rw [if_neg]
  intro e
  obtain ⟨p, h1, h2⟩ := List.any_eq_true.mp e
  exact h p h1 (of_decide_eq_true h2)
end
/-- a key of whole numbers -/
def kI (ns : List Int) : List Key := ns.map Sum.inl
theorem kI_kV (ns : List Int) : (kI ns).map kV = ns.map V.int := by
  unfold kI
  rw [List.map_map]; rfl
theorem kI_inj {a b : List Int} (h : kI a = kI b) : a = b := List.map_inj_right (fun _ _ e => Sum.inl.inj e) |>.mp h
section
variable {K : PySem.W.Frag} {r : List Val} {m : Mm} {Q : Val → Mm → Prop} {ta tb tc te td ty tv tx : TE} {tt : TT} {N : List Val → Mm → Prop} {E : Val → Mm → Prop} {t : TS}
/-- the dict at p, as it may be read -/
def Dat (m : Mm) (p : Addr) (kvs : List (List Key × Val)) : Prop := m p = some (.dT kvs) ∨ ∃ od es, m p = some (.lk od es kvs)
theorem Dat.rd {p : Addr} {kvs : List (List Key × Val)} {H G : Hp} (h : Dat m p kvs) (S : Sta K m H G) : ∃ es, Rd H p (.dT es) ∧ KVs K G kvs es := by
  rcases h with h | ⟨od, es, h⟩
  · obtain ⟨es, h1, h2⟩ := S.mem p _ h
    exact ⟨es, Or.inl h1, h2⟩
  · obtain ⟨h1, h2⟩ := S.mem p _ h
    exact ⟨es, Or.inr ⟨od, h1⟩, h2⟩
theorem t_of {G : Hp} {ns : List Int} {v : V} (h : VR K G (.t ns) v) : ∃ b, v = .ref b ∧ G b = some (.tup ((kI ns).map kV)) := by
  cases h with
  | t h => exact ⟨_, rfl, by rw [kI_kV]; exact h⟩
theorem t_d {G : Hp} {ns : List Int} {v : V} (h : VR K G (.t ns) v) : VR K G (.d (tupI ns)) v := by
  cases h with
  | t h => exact .d (rp_tuple.mpr ⟨_, _, rfl, SqT.of h, rpa_ints ns⟩)
theorem ev_t2d (h : Ev K te r m fun x m1 => ∃ ns, x = .t ns ∧ Q (.d (tupI ns)) m1) : Ev K te r m Q := fun σ H G S L R k =>
  h σ H G S L R fun v H1 G1 x m1 ⟨ns, hx, q⟩ S1 e1 r1 => by
    subst hx
    exact k v H1 G1 _ m1 q S1 e1 (t_d r1)
theorem ev_varT {i : Nat} {ns : List Int} (h : r[i]? = some (.t ns)) (q : Q (.d (tupI ns)) m) : Ev K (tVar i) r m Q := ev_t2d (ev_var h (fun z => nomatch z) ⟨ns, rfl, q⟩)
theorem ev_varTN {i : Nat} {ks : List Nat} (h : r[i]? = some (.t (ks.map fun (k : Nat) => (k : Int)))) (q : Q (.d (tupN ks)) m) : Ev K (tVar i) r m Q := ev_varT h q
theorem ev_dget (h : Ev K td r m fun x m1 => ∃ p, x = .v (.ref p) ∧ Ev K ty r m1 fun y m2 => ∃ ns kvs z, y = .t ns ∧ Dat m2 p kvs ∧ getV kvs (kI ns) = some z ∧ Q z m2) : Ev K (tDGet td ty) r m Q := fun σ H G S L R k =>
  h σ H G S L _ fun v H1 G1 x m1 ⟨p, hx, h1⟩ S1 e1 r1 => h1 σ H1 G1 S1 (L.mono e1) _ fun w H2 G2 y m2 ⟨ns, kvs, z, hy, hd, hg, q⟩ S2 e2 r2 => by
    subst hx hy
    have r1 := r1.eq
    subst r1
    obtain ⟨b, rfl, hb⟩ := t_of r2
    obtain ⟨es, g1, g2⟩ := hd.rd S2
    obtain ⟨u, hu, ru⟩ := (g2.get (kI ns)).1 z hg
    exact ⟨p, u, rfl, Or.inr ⟨es, kI ns, b, g1, rfl, S2.sub _ _ hb, hu.symm⟩, k u H2 G2 z m2 q S2 (e1.trans e2) ru⟩
theorem dat_isD {p : Addr} {kvs : List (List Key × Val)} {H G : Hp} (h : Dat m p kvs) (S : Sta K m H G) : IsD H p := by
  obtain ⟨es, h1, _⟩ := h.rd S
  exact Or.inr ⟨es, h1⟩
/-- d.get(k, e) -/
theorem ev_dget2 (h : Ev K td r m fun x m1 => ∃ p kvs, x = .v (.ref p) ∧ Dat m1 p kvs ∧ Ev K ty r m1 fun y m2 => ∃ ns, y = .t ns ∧ Ev K tx r m2 fun z m3 => ∃ kvs', Dat m3 p kvs' ∧ Q ((getV kvs' (kI ns)).getD z) m3) : Ev K (tDGet2 td ty tx) r m Q := fun σ H G S L R k =>
  h σ H G S L _ fun v H1 G1 x m1 ⟨p, kvs, hx, hd1, h1⟩ S1 e1 r1 => by
    subst hx
    have r1 := r1.eq
    subst r1
    refine ⟨p, rfl, dat_isD hd1 S1, ?_⟩
    refine h1 σ H1 G1 S1 (L.mono e1) _ fun w H2 G2 y m2 ⟨ns, hy, h2⟩ S2 e2 r2 => h2 σ H2 G2 S2 (L.mono (e1.trans e2)) _ fun u H3 G3 z m3 ⟨kvs', hd, q⟩ S3 e3 r3 => ?_
    subst hy
    obtain ⟨b, rfl, hb⟩ := t_of r2
    obtain ⟨es, g1, g2⟩ := hd.rd S3
    refine ⟨valV es (kI ns), Or.inr ⟨es, kI ns, b, g1, rfl, S3.sub _ _ (e3 _ _ hb), rfl⟩, ?_⟩
    have e0 := e1.trans (e2.trans e3)
    cases hg : getV kvs' (kI ns) with
    | none =>
      rw [hg] at q
      rw [(g2.get (kI ns)).2 hg]
      exact k _ H3 G3 _ m3 q S3 e0 r3
    | some y =>
      rw [hg] at q
      obtain ⟨u', hu, ru⟩ := (g2.get (kI ns)).1 y hg
      rw [hu]
      exact k _ H3 G3 _ m3 q S3 e0 ru
theorem ev_dnew (q : ∀ p, m p = none → Q (.v (.ref p)) (put m p (.dT []))) : Ev K tDNewT r m Q := fun σ H G S L R k p hp =>
  k (.ref p) _ G _ _ (q p (S.freeM hp)) (S.new hp ⟨[], upd_same, rfl⟩) (Le.refl G) .v
/-- {k: e} -/
theorem ev_disp1 (h : ∀ p, m p = none → Ev K ta r (put m p (.dT [])) fun x m1 => ∃ ns, x = .t ns ∧ Ev K tv r m1 fun y m2 => m2 p = some (.dT []) ∧ Q (.v (.ref p)) (put m2 p (.dT [(kI ns, y)]))) : Ev K (tDisp1 ta tv) r m Q := fun σ H G S L R k p hp =>
  h p (S.freeM hp) σ _ G (S.new hp ⟨[], upd_same, rfl⟩) L _ fun v H1 G1 x m1 ⟨ns, hx, h1⟩ S1 e1 r1 => h1 σ H1 G1 S1 (L.mono e1) _ fun w H2 G2 y m2 ⟨hm, q⟩ S2 e2 r2 => by
    subst hx
    obtain ⟨b, rfl, hb⟩ := t_of r1
    obtain ⟨es, g1, g2⟩ := S2.mem p _ hm
    have g2 : es = [] := g2
    subst g2
    exact ⟨b, kI ns, rfl, S2.sub _ _ (e2 _ _ hb), g1, k (.ref p) _ G2 _ _ q (S2.chg hm ⟨_, upd_same, w, [], rfl, r2, rfl⟩) (e1.trans e2) .v⟩
/-- d[k] = e -/
theorem w_dput (h : Ev K tv r m fun x m1 => Ev K td r m1 fun y m2 => ∃ p, y = .v (.ref p) ∧ Ev K ty r m2 fun z m3 => ∃ ns kvs, z = .t ns ∧ m3 p = some (.dT kvs) ∧ kvs.length < 100000 ∧ N r (put m3 p (.dT (putV kvs (kI ns) x)))) : Wp K (sDPut td ty tv) r m N E := fun σ H G D S L a b =>
  h σ H G S L _ fun v H1 G1 x m1 h1 S1 e1 r1 => h1 σ H1 G1 S1 (L.mono e1) _ fun w H2 G2 y m2 ⟨p, hy, h2⟩ S2 e2 r2 => h2 σ H2 G2 S2 (L.mono (e1.trans e2)) _ fun u H3 G3 z m3 ⟨ns, kvs, hz, hm, hl, q⟩ S3 e3 r3 => by
    subst hy hz
    have r2 := r2.eq
    subst r2
    obtain ⟨bk, rfl, hb⟩ := t_of r3
    obtain ⟨es, g1, g2⟩ := S3.mem p _ hm
    have hput : KVs K G3 (putV kvs (kI ns) x) (putK es (kI ns) v) := g2.put (kI ns) (r1.mono (e2.trans e3))
    refine ⟨p, upd H3 p (.dT (putK es (kI ns) v)), rfl, DPut.t g1 (S3.sub _ _ hb) (Nat.lt_of_lt_of_le (by rw [g2.len]; exact hl) (by decide)), ?_⟩
    exact a σ _ G3 r _ q (S3.chg hm ⟨_, upd_same, hput⟩) (e1.trans (e2.trans e3)) (L.mono (e1.trans (e2.trans e3)))
end
end DL
namespace DL
open PySem L2
section
variable {K : PySem.W.Frag} {r : List Val} {m : Mm} {Q : Val → Mm → Prop} {ta tb tc te tl : TE} {tt : TT} {N : List Val → Mm → Prop} {E : Val → Mm → Prop} {t : TS}
/-! tuples of ints that the code makes -/
theorem VRs.ints {G : Hp} : ∀ {ns : List Int} {xs : List V}, VRs K G (ns.map fun n => .d (.int n)) xs → xs = ns.map V.int
  | [], xs, h => h
  | n :: ns, xs, h => by
    obtain ⟨x, u, rfl, h1, h2⟩ := h
    rw [int_of h1, VRs.ints h2]; rfl
theorem ev_tupT {t : TA} (h : EvA K t r m fun xs m1 => ∃ ns : List Int, xs = ns.map (fun n => Val.d (.int n)) ∧ ns.length ≤ 100000 ∧ Q (.t ns) m1) : Ev K (tTup t) r m Q := fun σ H G S L R k =>
  h σ H G S L _ fun vs H1 G1 xs m1 ⟨ns, hx, hl, q⟩ S1 e1 r1 => by
    subst hx
    have hv := r1.ints
    subst hv
    refine ⟨by rw [List.length_map]; exact Nat.le_trans hl (by decide), fun p hp => ?_⟩
    have hg := S1.free hp
    exact k (.ref p) _ (upd G1 p _) _ m1 q (S1.fix hp) (e1.trans (Le.new hg)) (.t upd_same)
theorem on_tupLt {ns : List Int} (q : Q (.t ns) m) : OpN K (rTupO K) [.d (.list (ns.map PyData.int))] m Q := fun H G vs S a R k => by
  obtain ⟨v, rfl, h⟩ := vrs1 a
  obtain ⟨p, xs, hv, h2, h3⟩ := rp_list.mp h.rp
  have hx := h3.ints
  subst hx
  refine ⟨p, _, by rw [hv], Or.inl ⟨Or.inl (Le.rd S.sub h2), fun l hl => ?_⟩⟩
  have hg := S.free hl
  exact k _ _ (upd G l _) _ m q (S.fix hl) (Le.new hg) (.t upd_same)
theorem on_tupLtN {ks : List Nat} (q : Q (.t (ks.map fun (k : Nat) => (k : Int))) m) : OpN K (rTupO K) [.d (.list (ks.map intN))] m Q := by
  have e : ks.map intN = (ks.map fun (k : Nat) => (k : Int)).map PyData.int := by rw [List.map_map]; rfl
  rw [e]
  exact on_tupLt q
theorem o2_addTt {a b : List Int} (hz : a.length + b.length ≤ 100000) (q : Q (.t (a ++ b)) m) : Op2 K (rAdd K) (.t a) (.t b) m Q := fun H G v w S x y R k => by
  cases x with
  | @t _ p h1 =>
    cases y with
    | @t _ p' h2 =>
      refine Or.inr (Or.inl ⟨p, p', a.map V.int, b.map V.int, rfl, rfl, S.sqT (SqT.of h1), S.sqT (SqT.of h2), ?_, fun e => ?_, fun _ e => ?_, fun _ _ l hl => ?_⟩)
      · rw [List.length_map, List.length_map]; exact Nat.le_trans hz (by decide)
      · have e := List.map_eq_nil_iff.mp e
        subst e
        exact k _ H G _ m q S (Le.refl G) (.t h2)
      · have e := List.map_eq_nil_iff.mp e
        subst e
        rw [List.append_nil] at q
        exact k _ H G _ m q S (Le.refl G) (.t h1)
      · have hg := S.free hl
        exact k _ _ (upd G l _) _ m q (S.fix hl) (Le.new hg) (.t (by rw [List.map_append]; exact upd_same))
/-! lists of them -/
theorem VRs.toT {G : Hp} : ∀ {nss : List (List Int)} {xs : List V}, VRs K G (nss.map Val.t) xs → TAll G nss xs
  | [], xs, h => h
  | ns :: r, xs, h => by
    obtain ⟨x, u, rfl, h1, h2⟩ := h
    obtain ⟨b, rfl, hb⟩ := t_of h1
    rw [kI_kV] at hb
    exact ⟨b, u, rfl, hb, VRs.toT h2⟩
theorem TAll.len {G : Hp} : ∀ {nss : List (List Int)} {xs : List V}, TAll G nss xs → xs.length = nss.length
  | [], xs, h => by
    have h : xs = [] := h
    rw [h]; rfl
  | ns :: r, xs, h => by
    obtain ⟨b, t, rfl, _, h3⟩ := h
    rw [List.length_cons, List.length_cons, TAll.len h3]
theorem TAll.at {G : Hp} : ∀ {nss : List (List Int)} {xs : List V} {i : Nat} {x : V}, TAll G nss xs → xs[i]? = some x → ∃ ns b, nss[i]? = some ns ∧ x = .ref b ∧ G b = some (.tup (ns.map V.int))
  | [], xs, i, x, h, e => by
    have h : xs = [] := h
    subst h; simp at e
  | ns :: r, xs, 0, x, h, e => by
    obtain ⟨b, t, rfl, h2, h3⟩ := h
    have e : V.ref b = x := by simpa using e
    exact ⟨ns, b, rfl, e.symm, h2⟩
  | ns :: r, xs, i + 1, x, h, e => by
    obtain ⟨b, t, rfl, h2, h3⟩ := h
    obtain ⟨n2, b2, e1, e2, e3⟩ := TAll.at (i := i) (x := x) h3 (by simpa using e)
    exact ⟨n2, b2, by simpa using e1, e2, e3⟩
theorem TAll.append {G : Hp} : ∀ {a b : List (List Int)} {xs ys : List V}, TAll G a xs → TAll G b ys → TAll G (a ++ b) (xs ++ ys)
  | [], b, xs, ys, h, g => by
    have h : xs = [] := h
    subst h; exact g
  | ns :: r, b, xs, ys, h, g => by
    obtain ⟨c, t, rfl, h2, h3⟩ := h
    exact ⟨c, t ++ ys, rfl, h2, TAll.append h3 g⟩
theorem ev_lstT {t : TA} (h : EvA K t r m fun xs m1 => ∃ nss : List (List Int), xs = nss.map Val.t ∧ nss.length ≤ 100000 ∧ Q (.lt nss) m1) : Ev K (tLst t) r m Q := fun σ H G S L R k =>
  h σ H G S L _ fun vs H1 G1 xs m1 ⟨nss, hx, hl, q⟩ S1 e1 r1 => by
    subst hx
    have hv := r1.toT
    refine ⟨by rw [hv.len]; exact Nat.le_trans hl (by decide), fun p hp => ?_⟩
    have hg := S1.free hp
    exact k (.ref p) _ (upd G1 p _) _ m1 q (S1.fix hp) (e1.trans (Le.new hg)) (.lt (Rd.of upd_same) (hv.mono (Le.new hg)))
theorem o2_addLt {a b : List (List Int)} (hz : a.length + b.length ≤ 100000) (q : Q (.lt (a ++ b)) m) : Op2 K (rAdd K) (.lt a) (.lt b) m Q := fun H G v w S x y R k => by
  cases x with
  | @lt _ p xs h1 h1' =>
    cases y with
    | @lt _ p' ys h2 h2' =>
      refine Or.inr (Or.inr (Or.inl ⟨p, p', xs, ys, rfl, rfl, Le.rd S.sub h1, Le.rd S.sub h2, ?_, fun l hl => ?_⟩))
      · rw [h1'.len, h2'.len]; exact Nat.le_trans hz (by decide)
      · have hg := S.free hl
        exact k _ _ (upd G l (.lst (xs ++ ys))) _ m q (S.fix hl) (Le.new hg) (.lt (Rd.of upd_same) ((h1'.append h2').mono (Le.new hg)))
theorem w_forLt {j : Nat} {nss : List (List Int)} (h : Ev K tl r m fun x m1 => x = .lt nss ∧ m1 = m) (W : Nat → List Val → Mm → Prop) (h0 : W 0 r m)
    (hs : ∀ (i : Nat) (ns : List Int) r' m', nss[i]? = some ns → W i r' m' → Wp K t (r'.set j (.t ns)) m' (W (i + 1)) E) (hd : ∀ r' m', W nss.length r' m' → N r' m') : Wp K (tFor (iList K tl) (gName j) t) r m N E := fun σ H G D S L a b =>
  h σ H G S L _ fun v H1 G1 x m1 ⟨hx, hm⟩ S1 e1 r1 => by
    subst hx hm
    cases r1 with
    | @lt _ p xs hs1 hA =>
      have hs1 : SqL K G1 p xs := Or.inl hs1
      refine ⟨p, rfl, ⟨xs, S1.sqL hs1⟩, for_list (xs := xs) (fun i σ' H' => ∃ G' r' m', W i r' m' ∧ Sta K m' H' G' ∧ Le G1 G' ∧ Sl K G' r' σ') ⟨G1, r, _, h0, S1, Le.refl G1, L.mono e1⟩ ?_ ?_ ?_⟩
      · rintro i σ' H' hi ⟨G', r', m', _, S', e', _⟩
        exact S'.sqL (e'.sqL hs1)
      · rintro i y σ' H' hy ⟨G', r', m', hw, S', e', L'⟩
        obtain ⟨ns, c, hns, rfl, hc⟩ := hA.at hy
        refine hs i ns r' m' hns hw (σ'.set j (some (.ref c))) H' G' _ S' (L'.set (r := .t ns) (.t (e' _ _ hc)) j) (fun σ3 H3 G3 r3 m3 h3 S3 e3 L3 => ⟨G3, r3, m3, h3, S3, e'.trans e3, L3⟩) (fun v H3 G3 x m3 n3 S3 e3 L3 => b v H3 G3 x m3 n3 S3 (e1.trans (e'.trans e3)) L3)
      · rintro σ' H' ⟨G', r', m', hw, S', e', L'⟩
        rw [hA.len] at hw
        exact a σ' H' G' r' m' (hd r' m' hw) S' (e1.trans e') L'
/-! comprehensions whose items are any values -/
def LcV (K : PySem.W.Frag) (m : Mm) (G : Hp) (D : Addr) (W : Nat → List Val → Prop) (i : Nat) (H' : Hp) : Prop :=
  ∃ G' acc, W i acc ∧ acc.length ≤ i ∧ Sta K (put m D (.lst acc)) H' G' ∧ Le G G'
theorem lcv_turn {G : Hp} {D : Addr} {W : Nat → List Val → Prop} {i : Nat} {σ : L2.St} {H' : Hp} {r' : List Val} (hm : m D = none) (hi : i < 100000) (L : ∀ G', Le G G' → Sl K G' r' σ)
    (hs : ∀ m' acc, Ext m m' → W i acc → EvT K tt r' m' fun b m2 => m2 = m' ∧ (b = true → Ev K te r' m' fun x m3 => m3 = m' ∧ W (i + 1) (acc ++ [x])) ∧ (b = false → W (i + 1) acc))
    (h : LcV K m G D W i H') : tt σ H' fun b H3 => if b = true then te σ H3 fun y H4 => ∃ acc, H4 D = some (.lst acc) ∧ acc.length < sizeLine ∧ LcV K m G D W (i + 1) (upd H4 D (.lst (acc ++ [y]))) else LcV K m G D W (i + 1) H3 := by
  obtain ⟨G', acc, hw, hl, S, e⟩ := h
  have hx : Ext m (put m D (.lst acc)) := fun a o ha => by
    rw [put_ne (ne_of_get ha hm)]; exact ha
  refine hs _ acc hx hw σ H' G' S (L G' e) _ fun H3 G3 b m3 ⟨e3, h1, h2⟩ S3 l3 => ?_
  subst e3
  cases b with
  | true =>
    show te σ H3 _
    refine h1 rfl σ H3 G3 S3 (L G3 (e.trans l3)) _ fun v H4 G4 x m4 ⟨e4, hw'⟩ S4 l4 r4 => ?_
    subst e4
    obtain ⟨xs, g1, g2⟩ := S4.mem D _ put_same
    have hlen := g2.length
    refine ⟨xs, g1, Nat.lt_of_lt_of_le (show xs.length < 100000 by omega) (by decide), G4, acc ++ [x], hw', by rw [List.length_append]; show acc.length + 1 ≤ i + 1; omega, ?_, e.trans (l3.trans l4)⟩
    have S5 := S4.chg (u := .lst (acc ++ [x])) (o := .lst (xs ++ [v])) put_same ⟨_, upd_same, g2.append ⟨v, [], rfl, r4, rfl⟩⟩
    rw [put_put] at S5
    exact S5
  | false =>
    show LcV K m G D W (i + 1) H3
    exact ⟨G3, acc, h2 rfl, by omega, S3, e.trans l3⟩
theorem lcv_end {G : Hp} {D : Addr} {W : Nat → List Val → Prop} {n : Nat} {H' : Hp} {R : VK} (hm : m D = none) (h : LcV K m G D W n H') (hd : ∀ acc, W n acc → ∃ nss, acc = nss.map Val.t ∧ Q (.lt nss) m)
    (k : ∀ v H' G' x m', Q x m' → Sta K m' H' G' → Le G G' → VR K G' x v → R v H') : R (.ref D) H' := by
  obtain ⟨G', acc, hw, hl, S, e⟩ := h
  obtain ⟨nss, rfl, q⟩ := hd acc hw
  obtain ⟨xs, g1, g2⟩ := S.mem D _ put_same
  have hg := S.dis D _ put_same
  have S2 := S.freeze put_same g1
  rw [del_put hm] at S2
  exact k _ H' _ _ m q S2 (e.trans (Le.new hg)) (.lt (Rd.of upd_same) (g2.toT.mono (Le.new hg)))
theorem lcv_start {H G : Hp} {D : Addr} {W : Nat → List Val → Prop} (S : Sta K m H G) (hD : H D = none) (h0 : W 0 []) : LcV K m G D W 0 (upd H D (.lst [])) :=
  ⟨G, [], h0, Nat.le_refl _, S.new hD ⟨[], upd_same, rfl⟩, Le.refl G⟩
theorem ev_lcLt {j : Nat} {nss : List (List Int)} (h : Ev K tl r m fun x m1 => x = .lt nss ∧ m1 = m) (hn : nss.length ≤ 100000) (W : Nat → List Val → Prop) (h0 : W 0 [])
    (hs : ∀ (i : Nat) (ns : List Int) m' acc, nss[i]? = some ns → Ext m m' → W i acc → EvT K tt (r.set j (.t ns)) m' fun b m2 => m2 = m' ∧ (b = true → Ev K te (r.set j (.t ns)) m' fun x m3 => m3 = m' ∧ W (i + 1) (acc ++ [x])) ∧ (b = false → W (i + 1) acc))
    (hd : ∀ acc, W nss.length acc → ∃ out, acc = out.map Val.t ∧ Q (.lt out) m) : Ev K (tLc (iList K tl) (gName j) tt te [j]) r m Q := fun σ H G S L R k =>
  h σ H G S L _ fun v H1 G1 x m1 ⟨hx, hm⟩ S1 e1 r1 => by
    subst hx hm
    cases r1 with
    | @lt _ p xs hs1 hA =>
      have hs1 : SqL K G1 p xs := Or.inl hs1
      refine ⟨p, rfl, ⟨xs, S1.sqL hs1⟩, fun D hD => ?_⟩
      have hmD := S1.freeM hD
      refine lc_list (xs := xs) (LcV K m1 G1 D W) (lcv_start S1 hD h0) ?_ ?_ ?_
      · rintro i H' hi ⟨G', acc, _, _, S', e'⟩
        exact S'.sqL (e'.sqL hs1)
      · intro i y H' hy hP
        obtain ⟨ns, c, hns, rfl, hc⟩ := hA.at hy
        have hi : i < 100000 := by
          have := (List.getElem?_eq_some_iff.mp hy).1
          rw [hA.len] at this
          omega
        refine ⟨wipe1 σ j _, lcv_turn hmD hi (fun G' e' => ?_) (fun m' acc hx hw => hs i ns m' acc hns hx hw) hP⟩
        have := (L.mono (e1.trans e')).set (r := .t ns) (.t (e' _ _ hc)) j
        show Sl K G' (r.set j (.t ns)) ((σ.set j none).set j (some (.ref c)))
        rw [List.set_set]
        exact this
      · intro H' hP
        rw [hA.len] at hP
        exact lcv_end hmD hP hd fun v H' G' x m' q S' e' r' => k v H' G' x m' q S' (e1.trans e') r'
theorem ev_mapLt {j : Nat} {nss : List (List Int)} (h : Ev K tl r m fun x m1 => x = .lt nss ∧ m1 = m) (hn : nss.length ≤ 100000) (f : List Int → List Int)
    (hs : ∀ (ns : List Int) m', ns ∈ nss → Ext m m' → Ev K te (r.set j (.t ns)) m' fun x m3 => x = .t (f ns) ∧ m3 = m') (q : Q (.lt (nss.map f)) m) : Ev K (tLc (iList K tl) (gName j) tYes te [j]) r m Q :=
  ev_lcLt h hn (fun i acc => acc = ((nss.take i).map f).map Val.t) (by simp) (fun i ns m' acc hd hx hw => evt_yes ⟨rfl, fun _ => (hs ns m' (List.mem_of_getElem? hd) hx).imp fun x m3 e => ⟨e.2, by rw [hw, take_one hd, List.map_append, List.map_append, e.1]; rfl⟩, (fun g => nomatch g)⟩)
    (fun acc hw => ⟨_, hw.trans (by rw [List.take_length]), q⟩)
theorem ev_filLt {j : Nat} {nss : List (List Int)} (h : Ev K tl r m fun x m1 => x = .lt nss ∧ m1 = m) (hn : nss.length ≤ 100000) (p : List Int → Bool)
    (ht : ∀ (ns : List Int) m', ns ∈ nss → Ext m m' → EvT K tt (r.set j (.t ns)) m' fun b m3 => b = p ns ∧ m3 = m')
    (hs : ∀ (ns : List Int) m', ns ∈ nss → Ext m m' → Ev K te (r.set j (.t ns)) m' fun x m3 => x = .t ns ∧ m3 = m') (q : Q (.lt (nss.filter p)) m) : Ev K (tLc (iList K tl) (gName j) tt te [j]) r m Q :=
  ev_lcLt h hn (fun i acc => acc = ((nss.take i).filter p).map Val.t) (by simp) (fun i ns m' acc hd hx hw => by
    have hm := List.mem_of_getElem? hd
    exact (ht ns m' hm hx).imp fun b m2 e => ⟨e.2, fun hb => (hs ns m' hm hx).imp fun x m3 e2 => ⟨e2.2, by rw [hw, take_one hd, List.filter_append, List.filter_cons, if_pos (e.1.symm.trans hb), List.map_append, e2.1]; rfl⟩, fun hb => by rw [hw, take_one hd, List.filter_append, List.filter_cons, if_neg (by rw [← e.1, hb]; decide)]; simp⟩)
    (fun acc hw => ⟨_, hw.trans (by rw [List.take_length]), q⟩)
/-- sorted(.., key=len) -/
def byLen (nss : List (List Int)) : List (List Int) := nss.mergeSort fun a b => decide ((a.length : Int) ≤ (b.length : Int))
theorem TAll.zip {G : Hp} : ∀ {nss : List (List Int)} {xs : List V}, TAll G nss xs → ((xs.zip nss).map (·.1) = xs ∧ (xs.zip nss).map (·.2) = nss ∧ ∀ b ∈ xs.zip nss, ∃ t, b.1 = .ref t ∧ G t = some (.tup (b.2.map V.int)))
  | [], xs, h => by
    have h : xs = [] := h
    subst h
    exact ⟨rfl, rfl, fun b hb => nomatch hb⟩
  | ns :: r, xs, h => by
    obtain ⟨c, t, rfl, h2, h3⟩ := h
    obtain ⟨a1, a2, a3⟩ := TAll.zip h3
    refine ⟨by rw [List.zip_cons_cons, List.map_cons, a1], by rw [List.zip_cons_cons, List.map_cons, a2], fun b hb => ?_⟩
    rw [List.zip_cons_cons] at hb
    rcases List.mem_cons.mp hb with rfl | hb
    · exact ⟨c, rfl, h2⟩
    · exact a3 b hb
theorem tall_of {G : Hp} : ∀ (bs : List (V × List Int)), (∀ b ∈ bs, ∃ t, b.1 = .ref t ∧ G t = some (.tup (b.2.map V.int))) → TAll G (bs.map (·.2)) (bs.map (·.1))
  | [], _ => rfl
  | b :: bs, h => by
    obtain ⟨t, h1, h2⟩ := h b (List.mem_cons_self ..)
    exact ⟨t, bs.map (·.1), by rw [List.map_cons, h1], h2, tall_of bs fun c hc => h c (List.mem_cons_of_mem _ hc)⟩
theorem ev_sortLen {t : TA} (h : EvA K t r m fun xs m1 => ∃ nss, xs = [.lt nss] ∧ nss.length ≤ 100000 ∧ Q (.lt (byLen nss)) m1) : Ev K (tSortLen K t) r m Q := fun σ H G S L R k =>
  h σ H G S L _ fun vs H1 G1 xs m1 ⟨nss, hx, hl, q⟩ S1 e1 r1 => by
    subst hx
    obtain ⟨v, rfl, rv⟩ := vrs1 r1
    cases rv with
    | @lt _ p xs hs1 hA =>
      obtain ⟨z1, z2, z3⟩ := hA.zip
      refine ⟨p, xs.zip nss, rfl, by rw [z1]; exact S1.sqL (Or.inl hs1), fun b hb => ?_, fun l hl => ?_⟩
      · obtain ⟨t, e1, e2⟩ := z3 b hb
        exact ⟨t, e1, S1.sqT (SqT.of e2)⟩
      · have hg := S1.free hl
        have hperm : ∀ b ∈ (xs.zip nss).mergeSort fun a b => decide ((a.2.length : Int) ≤ (b.2.length : Int)), ∃ t, b.1 = .ref t ∧ G1 t = some (.tup (b.2.map V.int)) := fun b hb => z3 b ((List.mergeSort_perm _ _).mem_iff.mp hb)
        have hT := tall_of _ hperm
        have e2 : ((xs.zip nss).mergeSort fun a b => decide ((a.2.length : Int) ≤ (b.2.length : Int))).map (·.2) = byLen nss := by
          unfold byLen
          rw [List.map_mergeSort (s := fun a b : List Int => decide ((a.length : Int) ≤ (b.length : Int))) (fun a _ b _ => rfl), z2]
        rw [e2] at hT
        exact k _ _ (upd G1 l _) _ m1 q (S1.fix hl) (e1.trans (Le.new hg)) (.lt (Rd.of upd_same) (hT.mono (Le.new hg)))
/-! a key that a name holds -/
theorem ev_dgetV {td : TE} {i : Nat} {ns : List Int} (hk : r[i]? = some (.t ns)) (h : Ev K td r m fun x m1 => ∃ p kvs z, x = .v (.ref p) ∧ Dat m1 p kvs ∧ getV kvs (kI ns) = some z ∧ Q z m1) : Ev K (tDGet td (tVar i)) r m Q :=
  ev_dget (h.imp fun x m1 ⟨p, kvs, z, hx, hd, hg, q⟩ => ⟨p, hx, ev_var hk (fun h => nomatch h) ⟨ns, kvs, z, rfl, hd, hg, q⟩⟩)
theorem ev_dget2V {td tx : TE} {i : Nat} {ns : List Int} (hk : r[i]? = some (.t ns)) (h : Ev K td r m fun x m1 => ∃ p kvs, x = .v (.ref p) ∧ Dat m1 p kvs ∧ Ev K tx r m1 fun z m3 => ∃ kvs', Dat m3 p kvs' ∧ Q ((getV kvs' (kI ns)).getD z) m3) : Ev K (tDGet2 td (tVar i) tx) r m Q :=
  ev_dget2 (h.imp fun x m1 ⟨p, kvs, hx, hd, h2⟩ => ⟨p, kvs, hx, hd, ev_var hk (fun h => nomatch h) ⟨ns, rfl, h2⟩⟩)
theorem w_dputV {td tv : TE} {i : Nat} {ns : List Int} (hk : r[i]? = some (.t ns)) (h : Ev K tv r m fun x m1 => Ev K td r m1 fun y m2 => ∃ p kvs, y = .v (.ref p) ∧ m2 p = some (.dT kvs) ∧ kvs.length < 100000 ∧ N r (put m2 p (.dT (putV kvs (kI ns) x)))) : Wp K (sDPut td (tVar i) tv) r m N E :=
  w_dput (h.imp fun x m1 h1 => h1.imp fun y m2 ⟨p, kvs, hy, hm, hl, q⟩ => ⟨p, hy, ev_var hk (fun h => nomatch h) ⟨ns, kvs, rfl, hm, hl, q⟩⟩)
end
end DL
namespace DL
open PySem L2
abbrev kn (ks : List Nat) : List Int := ks.map fun (k : Nat) => (k : Int)
theorem kn_inj {a b : List Nat} (h : kn a = kn b) : a = b := List.map_inj_right (fun _ _ e => by omega) |>.mp h
/-! fractions from nought on, bounded -/
structure QB (q : Rat) (d v : Nat) : Prop where
  nn : 0 ≤ q
  le : q ≤ (v : Rat)
  den : q.den ≤ 2 ^ d
theorem QB.mono {q : Rat} {d v d' v' : Nat} (h : QB q d v) (hd : d ≤ d') (hv : v ≤ v') : QB q d' v' :=
  ⟨h.nn, Rat.le_trans h.le (Rat.natCast_le_natCast.mpr hv), Nat.le_trans h.den (Nat.pow_le_pow_right (by decide) hd)⟩
theorem QB.frB {q : Rat} {d v e : Nat} (h : QB q d v) (hv : v < 2 ^ e) : FrB q (d + e + 1) := by
  have hden := den_pos q
  refine ⟨?_, ?_⟩
  · have h0 : 0 ≤ q.num := Rat.num_nonneg.mpr h.nn
    have h1 : q.num ≤ (v : Int) * (q.den : Int) := by
      have := (Rat.le_iff q ((v : Nat) : Rat)).mp h.le
      have e1 : ((v : Nat) : Rat).den = 1 := rfl
      have e2 : ((v : Nat) : Rat).num = (v : Int) := rfl
      rw [e1, e2] at this
      simpa using this
    have h2 : q.num.natAbs ≤ v * q.den := by
      have : ((q.num.natAbs : Nat) : Int) ≤ ((v * q.den : Nat) : Int) := by rw [Int.natAbs_of_nonneg h0, Int.natCast_mul]; exact h1
      omega
    show q.num.natAbs < 2 ^ (d + e + 1)
    have h3 : v * q.den ≤ 2 ^ e * 2 ^ d := Nat.mul_le_mul (by omega) h.den
    rw [← Nat.pow_add] at h3
    refine Nat.lt_of_le_of_lt (Nat.le_trans h2 h3) ?_
    exact Nat.pow_lt_pow_right (by decide) (by omega)
  · show ((q.den : Nat) : Int).natAbs < 2 ^ (d + e + 1)
    rw [Int.natAbs_natCast]
    exact Nat.lt_of_le_of_lt h.den (Nat.pow_lt_pow_right (by decide) (by omega))
theorem den_mk_le (t : Int) (b : Nat) (hb : 0 < b) : (mkRat t b).den ≤ b := by
  rw [Rat.den_mkRat, if_neg (by omega)]
  exact Nat.div_le_self _ _
theorem QB.add {p q : Rat} {a b u v : Nat} (h : QB p a u) (g : QB q b v) : QB (p + q) (a + b) (u + v) := by
  refine ⟨Rat.add_nonneg h.nn g.nn, ?_, ?_⟩
  · have h1 := h.le
    have h2 := g.le
    rw [Rat.natCast_add]
    grind
  · rw [Rat.add_def']
    refine Nat.le_trans (den_mk_le _ _ (Nat.mul_pos (den_pos p) (den_pos q))) ?_
    rw [Nat.pow_add]
    exact Nat.mul_le_mul h.den g.den
theorem QB.mulN {q : Rat} {d v : Nat} (h : QB q d v) (n : Nat) : QB (((n : Int) : Rat) * q) d (n * v) := by
  have hn : (0 : Rat) ≤ ((n : Nat) : Rat) := Rat.natCast_nonneg
  refine ⟨?_, ?_, ?_⟩
  · rw [Rat.intCast_natCast]; exact Rat.mul_nonneg hn h.nn
  · rw [Rat.intCast_natCast, Rat.natCast_mul]
    exact Rat.mul_le_mul_of_nonneg_left h.le hn
  · rw [Rat.mul_def']
    have e : (((n : Int) : Rat)).den = 1 := rfl
    rw [e, Nat.one_mul]
    exact Nat.le_trans (den_mk_le _ _ (den_pos q)) h.den
theorem QB.over {q : Rat} {d v : Nat} (h : QB q d v) {n e w : Nat} (h0 : 0 < n) (he : n ≤ 2 ^ e) (hv : v ≤ w * n) : QB (q * mkRat 1 n) (d + e) w := by
  have hn : ((n : Nat) : Rat) ≠ 0 := nat_ne h0
  have hn0 : (0 : Rat) < ((n : Nat) : Rat) := Rat.natCast_pos.mpr h0
  have e1 : mkRat 1 n = 1 / ((n : Nat) : Rat) := by rw [Rat.mkRat_eq_div]; rfl
  have hinv : (0 : Rat) ≤ mkRat 1 n := Rat.num_nonneg.mp (by rw [Rat.num_mkRat, if_neg (by omega)]; exact Int.ediv_nonneg (by decide) (Int.natCast_nonneg _))
  refine ⟨Rat.mul_nonneg h.nn hinv, ?_, ?_⟩
  · have h1 : q ≤ ((w : Nat) : Rat) * ((n : Nat) : Rat) := by
      rw [← Rat.natCast_mul]
      exact Rat.le_trans h.le (Rat.natCast_le_natCast.mpr hv)
    rw [e1]
    generalize ((n : Nat) : Rat) = N at *
    generalize ((w : Nat) : Rat) = W at *
    have h2 : q * (1 / N) * N ≤ W * N := by
      have : q * (1 / N) * N = q := by grind
      rw [this]; exact h1
    exact Rat.le_of_mul_le_mul_right h2 hn0
  · rw [Rat.mul_def']
    refine Nat.le_trans (den_mk_le _ _ (Nat.mul_pos (den_pos q) (den_pos _))) ?_
    rw [Nat.pow_add]
    exact Nat.mul_le_mul h.den (Nat.le_trans (den_mk_le 1 n h0) he)
theorem QB.nat (n : Nat) : QB ((n : Int) : Rat) 0 n := by
  refine ⟨?_, ?_, ?_⟩
  · rw [Rat.intCast_natCast]; exact Rat.natCast_nonneg
  · rw [Rat.intCast_natCast]; exact Rat.le_refl
  · exact Nat.le_refl 1
/-! the time paper -/
def dueAcc (ss : List Int) (P : List Nat → Rat) (s : List Nat) (l : List Nat) : Rat := l.foldl (fun acc k => acc + ((ss.getD k 0 : Int) : Rat) * P (s.filter fun x => !decide (x = k))) ((ss.sum : Int) : Rat)
def dueT (ss : List Int) (P : List Nat → Rat) (s : List Nat) : Rat := dueAcc ss P s s * mkRat 1 (sumP ss s).toNat
def timeF (ss : List Int) : Nat → List Nat → Rat
  | 0, _ => 0
  | n + 1, s => dueT ss (timeF ss n) s
def timeT (ss : List Int) (s : List Nat) : Rat := timeF ss s.length s
theorem without_len {s : List Nat} (hs : s.Pairwise (· < ·)) {k : Nat} (hk : k ∈ s) : (s.filter fun x => !decide (x = k)).length + 1 = s.length := by
  induction s with
  | nil => cases hk
  | cons a t ih =>
    obtain ⟨h1, h2⟩ := List.pairwise_cons.mp hs
    rcases List.mem_cons.mp hk with rfl | hk
    · rw [List.filter_cons, if_neg (by simp)]
      have : (t.filter fun x => !decide (x = k)) = t := List.filter_eq_self.mpr fun x hx => by have := h1 x hx; simp; omega
      rw [this]; rfl
    · have : a ≠ k := by have := h1 k hk; omega
      rw [List.filter_cons, if_pos (by simp [this]), List.length_cons, List.length_cons, ih h2 hk]
theorem dueAcc_congr {ss : List Int} {P P' : List Nat → Rat} {s : List Nat} (h : ∀ k ∈ s, P (s.filter fun x => !decide (x = k)) = P' (s.filter fun x => !decide (x = k))) : ∀ l : List Nat, (∀ k ∈ l, k ∈ s) → dueAcc ss P s l = dueAcc ss P' s l := by
  intro l hl
  unfold dueAcc
  generalize ((ss.sum : Int) : Rat) = a
  induction l generalizing a with
  | nil => rfl
  | cons k t ih =>
    rw [List.foldl_cons, List.foldl_cons, h k (hl k (List.mem_cons_self ..))]
    exact ih (fun x hx => hl x (List.mem_cons_of_mem _ hx)) _
theorem timeT_step (ss : List Int) {s : List Nat} (hs : s.Pairwise (· < ·)) (h0 : s ≠ []) : timeT ss s = dueT ss (timeT ss) s := by
  unfold timeT
  cases hn : s.length with
  | zero => exact absurd (List.length_eq_zero_iff.mp hn) h0
  | succ n =>
    show dueT ss (timeF ss n) s = _
    unfold dueT
    rw [dueAcc_congr (P' := fun o => timeF ss o.length o) (fun k hk => ?_) s (fun _ h => h)]
    have := without_len hs hk
    have e : (s.filter fun x => !decide (x = k)).length = n := by omega
    show timeF ss n _ = timeF ss _ _
    rw [e]
theorem timeT_nil (ss : List Int) : timeT ss [] = 0 := rfl
/-- bits of the paper's bottoms -/
def dB : Nat → Nat
  | 0 => 0
  | n + 1 => (n + 1) * dB n + 6
theorem acc_bound {ss : List Int} (hs : Shares ss) {P : List Nat → Rat} {s : List Nat} {d n : Nat} (hP : ∀ k ∈ s, QB (P (s.filter fun x => !decide (x = k))) d (45 * n)) : ∀ l : List Nat, (∀ k ∈ l, k ∈ s) → QB (dueAcc ss P s l) (l.length * d) (45 + 45 * n * (sumP ss l).toNat) := by
  intro l
  have hsum := shares_sum hs
  have gen : ∀ (l : List Nat) (a : Rat) (c v : Nat), QB a c v → (∀ k ∈ l, k ∈ s) → QB (l.foldl (fun acc k => acc + ((ss.getD k 0 : Int) : Rat) * P (s.filter fun x => !decide (x = k))) a) (c + l.length * d) (v + 45 * n * (sumP ss l).toNat) := by
    intro l
    induction l with
    | nil =>
      intro a c v h _
      exact h.mono (by simp) (by simp)
    | cons k t ih =>
      intro a c v h hl
      rw [List.foldl_cons]
      have hb := getD_bounds hs k
      have e1 : ss.getD k 0 = (((ss.getD k 0).toNat : Nat) : Int) := by omega
      have h1 := (hP k (hl k (List.mem_cons_self ..))).mulN (ss.getD k 0).toNat
      rw [← e1] at h1
      have h2 := ih _ _ _ (h.add h1) fun x hx => hl x (List.mem_cons_of_mem _ hx)
      refine h2.mono ?_ ?_
      · rw [List.length_cons, Nat.succ_mul]; omega
      · have e2 : (sumP ss (k :: t)).toNat = (ss.getD k 0).toNat + (sumP ss t).toNat := by
          have := sumP_nonneg hs t
          rw [sumP_cons]; omega
        rw [e2, Nat.mul_add]
        have e3 : (ss.getD k 0).toNat * (45 * n) = 45 * n * (ss.getD k 0).toNat := Nat.mul_comm _ _
        omega
  intro hl
  have e : ss.sum = ((ss.sum.toNat : Nat) : Int) := by omega
  have h0 : QB ((ss.sum : Int) : Rat) 0 45 := by
    rw [e]
    exact (QB.nat _).mono (Nat.le_refl _) (by omega)
  exact (gen l _ 0 45 h0 hl).mono (by omega) (Nat.le_refl _)
theorem sumP_pos {ss : List Int} (hs : Shares ss) {s : List Nat} (h0 : s ≠ []) (hk : ∀ k ∈ s, k < ss.length) : 1 ≤ sumP ss s := by
  cases s with
  | nil => exact absurd rfl h0
  | cons k t =>
    have := sumP_nonneg hs t
    rw [sumP_cons]
    have : 1 ≤ ss.getD k 0 := by
      rw [List.getD_eq_getElem?_getD, List.getElem?_eq_getElem (hk k (by simp))]
      exact (hs.each _ (List.getElem_mem _)).1
    omega
theorem due_bound {ss : List Int} (hs : Shares ss) {P : List Nat → Rat} {s : List Nat} (hk : Kinds ss.length s) (h0 : s ≠ []) {d n : Nat} (hl : s.length = n + 1) (hP : ∀ k ∈ s, QB (P (s.filter fun x => !decide (x = k))) d (45 * n)) : QB (dueT ss P s) ((n + 1) * d + 6) (45 * (n + 1)) := by
  have h1 := acc_bound hs hP s (fun _ h => h)
  have hp := sumP_pos hs h0 hk.lt
  have hle := sumP_le hs hk
  unfold dueT
  refine (h1.over (n := (sumP ss s).toNat) (e := 6) (w := 45 * (n + 1)) (by omega) (by show _ ≤ 64; omega) ?_).mono (by rw [hl]; exact Nat.le_refl _) (Nat.le_refl _)
  generalize hS : (sumP ss s).toNat = S
  have : 1 ≤ S := by omega
  rw [Nat.mul_add, Nat.add_mul, Nat.mul_one]
  have : 45 ≤ 45 * S := by omega
  omega
theorem kinds_without {n : Nat} {s : List Nat} (h : Kinds n s) (k : Nat) : Kinds n (s.filter fun x => !decide (x = k)) := ⟨h.up.filter _, fun x hx => h.lt x (List.mem_filter.mp hx).1⟩
theorem time_bound {ss : List Int} (hs : Shares ss) : ∀ (n : Nat) (s : List Nat), s.length = n → Kinds ss.length s → QB (timeT ss s) (dB n) (45 * n)
  | 0, s, hl, hk => by
    have : s = [] := List.length_eq_zero_iff.mp hl
    subst this
    rw [timeT_nil]
    exact ⟨Rat.le_refl, Rat.le_refl, Nat.le_refl 1⟩
  | n + 1, s, hl, hk => by
    have h0 : s ≠ [] := fun e => by rw [e] at hl; cases hl
    rw [timeT_step ss hk.up h0]
    exact due_bound hs hk h0 hl fun k hks => time_bound hs n _ (by have := without_len hk.up hks; omega) (kinds_without hk k)
theorem dB_le {n : Nat} (h : n ≤ 5) : dB n ≤ 1236 := by
  have : n = 0 ∨ n = 1 ∨ n = 2 ∨ n = 3 ∨ n = 4 ∨ n = 5 := by omega
  rcases this with rfl | rfl | rfl | rfl | rfl | rfl <;> decide
theorem time_fr {ss : List Int} (hs : Shares ss) {s : List Nat} (hk : Kinds ss.length s) : FrB (timeT ss s) 1300 := by
  have h1 := hk.len
  have h2 := hs.few
  have h3 := dB_le (n := s.length) (by omega)
  exact ((time_bound hs s.length s rfl hk).frB (e := 10) (by show _ < 1024; omega)).mono (by omega)
end DL
namespace DL
open PySem L2
def allSL (ks : List Nat) : List (List Nat) := ks.foldl (fun acc k => acc ++ acc.map fun s => s ++ [k]) [[]]
theorem allSL_snoc (ks : List Nat) (k : Nat) : allSL (ks ++ [k]) = allSL ks ++ (allSL ks).map fun s => s ++ [k] := by
  unfold allSL; rw [List.foldl_append]; rfl
theorem allSL_range : ∀ n, allSL (List.range n) = allS n
  | 0 => rfl
  | n + 1 => by rw [range_one, allSL_snoc, allSL_range n, allS]
theorem allSL_len (ks : List Nat) : (allSL ks).length = 2 ^ ks.length := by
  have gen : ∀ (ks : List Nat) (acc : List (List Nat)), (ks.foldl (fun acc k => acc ++ acc.map fun s => s ++ [k]) acc).length = acc.length * 2 ^ ks.length := by
    intro ks
    induction ks with
    | nil => intro acc; simp
    | cons k t ih => intro acc; rw [List.foldl_cons, ih, List.length_append, List.length_map, List.length_cons, Nat.pow_succ, ← Nat.mul_two, Nat.mul_assoc, Nat.mul_comm 2]
  have := gen ks [[]]
  simpa [allSL] using this
theorem allSL_mem_len {ks : List Nat} : ∀ s ∈ allSL ks, s.length ≤ ks.length := by
  have gen : ∀ (ks : List Nat) (acc : List (List Nat)) (c : Nat), (∀ a ∈ acc, a.length ≤ c) → ∀ s ∈ ks.foldl (fun acc k => acc ++ acc.map fun s => s ++ [k]) acc, s.length ≤ c + ks.length := by
    intro ks
    induction ks with
    | nil => intro acc c h s hs; exact h s hs
    | cons k t ih =>
      intro acc c h s hs
      rw [List.foldl_cons] at hs
      have := ih _ (c + 1) (fun a ha => by
        rcases List.mem_append.mp ha with ha | ha
        · have := h a ha; omega
        · obtain ⟨u, hu, rfl⟩ := List.mem_map.mp ha
          have := h u hu
          rw [List.length_append, List.length_singleton]; omega) s hs
      rw [List.length_cons]; omega
  intro s hs
  have := gen ks [[]] 0 (fun a ha => by rw [List.mem_singleton.mp ha]; exact Nat.le_refl _) s hs
  omega
theorem rngD_intN (n : Nat) : rngD 0 n = (List.range n).map intN := by
  unfold rngD
  exact List.map_congr_left fun i _ => by rw [Nat.zero_add]
def f_allSome : FSp := fun args m R => ∃ ks : List Nat, args = [.d (.list (ks.map intN))] ∧ ks.length ≤ 8 ∧ R (.lt ((allSL ks).map kn)) m
/-- the same, by their lengths -/
def ordS (n : Nat) : List (List Nat) := (allS n).mergeSort fun a b => decide ((a.length : Int) ≤ (b.length : Int))
theorem byLen_kn (n : Nat) : byLen ((allS n).map kn) = (ordS n).map kn := by
  unfold byLen ordS
  rw [List.map_mergeSort (s := fun a b : List Int => decide ((a.length : Int) ≤ (b.length : Int))) (fun a _ b _ => by simp)]
theorem ordS_perm (n : Nat) : (ordS n).Perm (allS n) := List.mergeSort_perm _ _
theorem ordS_sorted (n : Nat) : (ordS n).Pairwise fun a b => a.length ≤ b.length := by
  have h := List.pairwise_mergeSort (le := fun a b : List Nat => decide ((a.length : Int) ≤ (b.length : Int))) (fun a b c h1 h2 => by simp at *; omega) (fun a b => by simp; omega) (allS n)
  exact h.imp fun h => by simpa using h
theorem ordS_ahead {n i : Nat} {s o : List Nat} (hs : (ordS n)[i]? = some s) (ho : o ∈ allS n) (hl : o.length < s.length) : o ∈ (ordS n).take i := by
  have ho := (ordS_perm n).mem_iff.mpr ho
  obtain ⟨j, hj⟩ := List.getElem?_of_mem ho
  obtain ⟨hi1, hi2⟩ := List.getElem?_eq_some_iff.mp hs
  obtain ⟨hj1, hj2⟩ := List.getElem?_eq_some_iff.mp hj
  have hji : j < i := by
    rcases Nat.lt_trichotomy j i with h | h | h
    · exact h
    · subst h
      rw [hi2] at hj2
      rw [hj2] at hl
      omega
    · have := List.pairwise_iff_getElem.mp (ordS_sorted n) i j hi1 hj1 h
      rw [hi2, hj2] at this
      omega
  refine List.mem_of_getElem? (i := j) ?_
  rw [List.getElem?_take, if_pos hji]; exact hj
theorem allS_nodup : ∀ n : Fin 6, (allS n).Nodup := by decide +kernel
theorem ordS_nodup {n : Nat} (h : n ≤ 5) : (ordS n).Nodup := (ordS_perm n).nodup_iff.mpr (allS_nodup ⟨n, by omega⟩)
theorem allS_without : ∀ n : Fin 6, ∀ s ∈ allS n, ∀ k ∈ s, (s.filter fun x => !decide (x = k)) ∈ allS n := by decide +kernel
theorem allS_kinds {n : Nat} {s : List Nat} (h : s ∈ allS n) : Kinds n s := ⟨allSup n s h, fun k hk => (allS_mem n s h).2 k hk⟩
  where allSup : ∀ n, ∀ s ∈ allS n, s.Pairwise (· < ·)
  | 0, s, h => by
    have : s = [] := by simpa [allS] using h
    subst this; exact List.Pairwise.nil
  | n + 1, s, h => by
    rw [allS] at h
    rcases List.mem_append.mp h with h | h
    · exact allSup n s h
    · obtain ⟨t, ht, rfl⟩ := List.mem_map.mp h
      exact List.pairwise_append.mpr ⟨allSup n t ht, List.pairwise_singleton .., fun x hx y hy => by rw [List.mem_singleton.mp hy]; exact (allS_mem n t ht).2 x hx⟩
/-! tables -/
def tabT (f : List Nat → Rat) (l : List (List Nat)) : List (List Key × Val) := l.map fun s => (kI (kn s), .d (frac (f s)))
theorem getV_tab {f : List Nat → Rat} {s : List Nat} : ∀ {l : List (List Nat)}, s ∈ l → getV (tabT f l) (kI (kn s)) = some (.d (frac (f s)))
  | [], h => nomatch h
  | a :: l, h => by
    unfold tabT
    rw [List.map_cons]
    by_cases e : a = s
    · subst e
      simp [getV, List.find?_cons]
    · have e2 : ¬ kI (kn a) = kI (kn s) := fun z => e (kn_inj (kI_inj z))
      have h2 : s ∈ l := by
        rcases List.mem_cons.mp h with h | h
        · exact absurd h.symm e
        · exact h
      have := getV_tab (f := f) h2
      unfold tabT at this
      simp only [getV, List.find?_cons, e2, decide_false] at this ⊢
      exact this
theorem putV_tab {f : List Nat → Rat} {s : List Nat} {l : List (List Nat)} (h : s ∉ l) : putV (tabT f l) (kI (kn s)) (.d (frac (f s))) = tabT f (l ++ [s]) := by
  rw [putV_new]
  · unfold tabT
    rw [List.map_append]; rfl
  · intro p hp e
    obtain ⟨a, ha, rfl⟩ := List.mem_map.mp hp
    exact h (kn_inj (kI_inj e) ▸ ha)
theorem tab_len (f : List Nat → Rat) (l : List (List Nat)) : (tabT f l).length = l.length := List.length_map ..
def noNil (s : List Nat) : Bool := !decide (s = [])
def doneL (L : List (List Nat)) (i : Nat) : List (List Nat) := [] :: (L.take i).filter noNil
theorem doneL_step {L : List (List Nat)} {i : Nat} {s : List Nat} (h : L[i]? = some s) : doneL L (i + 1) = if s = [] then doneL L i else doneL L i ++ [s] := by
  unfold doneL
  rw [take_one h, List.filter_append]
  by_cases e : s = []
  · rw [if_pos e, List.filter_cons, if_neg (by simp [noNil, e])]; simp
  · rw [if_neg e, List.filter_cons, if_pos (by simp [noNil, e])]; rfl
theorem doneL_fresh {L : List (List Nat)} (hn : L.Nodup) {i : Nat} {s : List Nat} (h : L[i]? = some s) (h0 : s ≠ []) : s ∉ doneL L i := by
  intro hm
  rcases List.mem_cons.mp hm with e | hm
  · exact h0 e
  · have hm := (List.mem_filter.mp hm).1
    obtain ⟨j, hj⟩ := List.getElem?_of_mem hm
    rw [List.getElem?_take] at hj
    split at hj
    · rename_i hji
      obtain ⟨a1, a2⟩ := List.getElem?_eq_some_iff.mp hj
      obtain ⟨b1, b2⟩ := List.getElem?_eq_some_iff.mp h
      have := List.pairwise_iff_getElem.mp hn j i a1 b1 hji
      exact this (a2.trans b2.symm)
    · cases hj
theorem doneL_mem {L : List (List Nat)} {i : Nat} {o : List Nat} (h : o ∈ L.take i) : o ∈ doneL L i := by
  by_cases e : o = []
  · rw [e]; exact List.mem_cons_self ..
  · exact List.mem_cons_of_mem _ (List.mem_filter.mpr ⟨h, by simp [noNil, e]⟩)
theorem doneL_len (L : List (List Nat)) (i : Nat) : (doneL L i).length ≤ L.length + 1 := by
  unfold doneL
  rw [List.length_cons]
  have h1 := List.length_filter_le noNil (L.take i)
  rw [List.length_take] at h1
  omega
def f_dueNumber : FSp := fun args m R => ∃ (ss : List Int) (s : List Nat) (p : Addr) (kvs : List (List Key × Val)), args = [.d (tupI ss), .v (.ref p), .d (tupN s)] ∧ Shares ss ∧ Kinds ss.length s ∧ s ≠ [] ∧ Dat m p kvs ∧
  (∀ k ∈ s, getV kvs (kI (kn (s.filter fun x => !decide (x = k)))) = some (.d (frac (timeT ss (s.filter fun x => !decide (x = k)))))) ∧ R (.d (frac (timeT ss s))) m
def f_paperT : FSp := fun args m R => ∃ ss : List Int, args = [.d (tupI ss)] ∧ Shares ss ∧ ∀ p, m p = none → R (.v (.ref p)) (put m p (.dT (tabT (timeT ss) (doneL (ordS ss.length) (ordS ss.length).length))))
theorem eqv_nilT (ns : List Int) : PyData.eqv (tupI ns) (.tuple []) = decide (ns = []) := by
  cases ns with
  | nil => rfl
  | cons a t => simp [tupI, PyData.eqv, PyData.eqvAll]
end DL
namespace DL
open PySem L2 PyProof.Rows
end DL
namespace DL
open PySem L2
def sgn (d : Nat) : Int := 1 - 2 * ((d : Int) % 2)
def wo (t : List Nat) (k : Nat) : List Nat := t.filter fun x => !decide (x = k)
/-! bounds -/
theorem allSL_sub {ks : List Nat} : ∀ s ∈ allSL ks, s.Sublist ks := by
  have gen : ∀ (ks : List Nat) (acc : List (List Nat)), ∀ s ∈ ks.foldl (fun acc k => acc ++ acc.map fun s => s ++ [k]) acc, ∃ a ∈ acc, ∃ u, s = a ++ u ∧ u.Sublist ks := by
    intro ks
    induction ks with
    | nil => intro acc s hs; exact ⟨s, hs, [], by simp, List.Sublist.refl _⟩
    | cons k t ih =>
      intro acc s hs
      rw [List.foldl_cons] at hs
      obtain ⟨a, ha, u, rfl, hu⟩ := ih _ s hs
      rcases List.mem_append.mp ha with ha | ha
      · exact ⟨a, ha, u, rfl, hu.cons k⟩
      · obtain ⟨b, hb, rfl⟩ := List.mem_map.mp ha
        exact ⟨b, hb, k :: u, by simp, hu.cons_cons k⟩
  intro s hs
  obtain ⟨a, ha, u, rfl, hu⟩ := gen ks [[]] s hs
  rw [List.mem_singleton.mp ha]
  exact hu
theorem kinds_sub {n : Nat} {s t : List Nat} (h : Kinds n t) (hs : s.Sublist t) : Kinds n s := ⟨h.up.sublist hs, fun k hk => h.lt k (hs.subset hk)⟩
theorem natAbs_sum_le {α : Type} (f : α → Int) (B : Nat) : ∀ l : List α, (∀ x ∈ l, (f x).natAbs ≤ B) → ((l.map f).sum).natAbs ≤ l.length * B
  | [], _ => by simp
  | a :: l, h => by
    have h1 := h a (List.mem_cons_self ..)
    have h2 := natAbs_sum_le f B l fun x hx => h x (List.mem_cons_of_mem _ hx)
    simp only [List.map_cons, List.sum_cons, List.length_cons]
    have := Int.natAbs_add_le (f a) ((l.map f).sum)
    rw [Nat.succ_mul]
    omega
theorem pow_bt {x : Int} (h0 : 0 ≤ x) (h1 : x ≤ 45) {n : Nat} (hn : n ≤ 12) : Bt (x ^ n) 73 := by
  have hb : Bt x 6 := bt_lit (n := 6) (by show _ < 64; omega) (by decide)
  exact (hb.pow n).mono (by omega)
theorem sgn_bt (d : Nat) : Bt (sgn d) 1 := by
  show (sgn d).natAbs < 2
  unfold sgn; omega
/-! the turns -/
def addF (G : List Nat → Int) (p : List Nat × Int) : List Nat → Int := fun u => if u = p.1 then G u + p.2 else G u
/-! tables of whole numbers -/
def insL (l : List (List Nat)) (t : List Nat) : List (List Nat) := if t ∈ l then l else l ++ [t]
abbrev dI (kvs : List (List Int × Val)) : List (List Key × Val) := kvs.map fun kv => (kI kv.1, kv.2)
structure TabOk (n : Nat) (G : List Nat → Int) (l : List (List Nat)) : Prop where
  nd : l.Nodup
  sub : ∀ s ∈ l, s ∈ allS n
  off : ∀ s, s ∉ l → G s = 0
theorem TabOk.add {n : Nat} {G : List Nat → Int} {l : List (List Nat)} (h : TabOk n G l) {t : List Nat} (ht : t ∈ allS n) (x : Int) : TabOk n (addF G (t, x)) (insL l t) := by
  unfold insL
  by_cases hm : t ∈ l
  · rw [if_pos hm]
    refine ⟨h.nd, h.sub, fun s hs => ?_⟩
    have : s ≠ t := fun e => hs (e ▸ hm)
    simp [addF, this, h.off s hs]
  · rw [if_neg hm]
    refine ⟨List.nodup_append.mpr ⟨h.nd, List.pairwise_singleton .., fun a ha b hb => by rw [List.mem_singleton.mp hb]; exact fun e => hm (e ▸ ha)⟩, fun s hs => ?_, fun s hs => ?_⟩
    · rcases List.mem_append.mp hs with hs | hs
      · exact h.sub s hs
      · rw [List.mem_singleton.mp hs]; exact ht
    · have h1 : s ∉ l := fun z => hs (List.mem_append_left _ z)
      have h2 : s ≠ t := fun e => hs (List.mem_append_right _ (by rw [e]; simp))
      simp [addF, h2, h.off s h1]
theorem TabOk.len {n : Nat} {G : List Nat → Int} {l : List (List Nat)} (h : TabOk n G l) (hn : n ≤ 5) : l.length ≤ 32 := by
  have h1 : l.Perm ((allS n).filter fun s => decide (s ∈ l)) := (List.perm_ext_iff_of_nodup h.nd ((allS_nodup ⟨n, by omega⟩).filter _)).mpr fun s => by
    rw [List.mem_filter]
    constructor
    · intro z; exact ⟨h.sub s z, decide_eq_true z⟩
    · intro z; exact of_decide_eq_true z.2
  have h2 := h1.length_eq
  have h3 := List.length_filter_le (fun s => decide (s ∈ l)) (allS n)
  have h4 := allS_len n
  have h5 : 2 ^ n ≤ 2 ^ 5 := Nat.pow_le_pow_right (by decide) hn
  omega
/-! words -/
section
variable {K : PySem.W.Frag} {r : List Val} {m : Mm} {N : List Val → Mm → Prop} {E : Val → Mm → Prop} {t : TS}
/-- less told of what may change -/
theorem w_less {m' : Mm} (hl : ∀ a o, m' a = some o → m a = some o) (h : Wp K t r m' N E) : Wp K t r m N E := fun σ H G D S L a b => h σ H G D (S.less hl) L a b
end
theorem tot_pow {ss : List Int} (hs : Shares ss) (n : Nat) : ss.sum ^ n = ((ss.sum.toNat ^ n : Nat) : Int) := by
  have := shares_sum hs
  have e : ss.sum = ((ss.sum.toNat : Nat) : Int) := by omega
  rw [Int.natCast_pow, ← e]
end DL
namespace DL
open PySem L2
/-! all together -/
end DL
namespace DL
open PySem L2
/-- what is walked is a list, or it is a tuple -/
def iSeq (K : PySem.W.Frag) (tl : TE) : TI := fun σ H R => iList K tl σ H R ∨ iTup K tl σ H R
theorem pi_either {X : Cx} {tg l : Expr} {w1 w2 : TI} (a : PI X tg l w1) (b : PI X tg l w2) : PI X tg l (fun σ H R => w1 σ H R ∨ w2 σ H R) :=
  ⟨fun pins s σ H R I h => h.elim (fun h => a.run pins s σ H R I h) (fun h => b.run pins s σ H R I h)⟩
theorem kiA {X : Cx} (K : PySem.W.Frag) {tg l : Expr} {tl : TE} (hl : PE X l tl) (h : X.K = K := by rfl) : PI X tg l (iSeq K tl) := h ▸ pi_either (pi_list hl) (pi_tup hl)
section
variable {K : PySem.W.Frag} {r : List Val} {m : Mm} {N : List Val → Mm → Prop} {E : Val → Mm → Prop} {t : TS} {tl : TE} {j : Nat} {α : Type} {xs : List α} {f : α → PyData}
theorem w_forS (h : Ev K tl r m (fun x m1 => x = .d (.list (xs.map f)) ∧ m1 = m) ∨ Ev K tl r m (fun x m1 => x = .d (.tuple (xs.map f)) ∧ m1 = m)) (W : Nat → List Val → Mm → Prop) (h0 : W 0 r m)
    (hs : ∀ (i : Nat) (x : α) r' m', xs[i]? = some x → W i r' m' → Wp K t (r'.set j (.d (f x))) m' (W (i + 1)) E) (hd : ∀ r' m', W xs.length r' m' → N r' m') : Wp K (tFor (iSeq K tl) (gName j) t) r m N E := fun σ H G D S L a b => by
  rcases h with h | h
  · exact Or.inl (w_forLf h W h0 hs hd σ H G D S L a b)
  · exact Or.inr (w_forTf h W h0 hs hd σ H G D S L a b)
end
def f_allSomeB : FSp := fun args m R => ∃ (ks : List Nat) (x : Val), args = [x] ∧ (x = .d (.list (ks.map intN)) ∨ x = .d (tupN ks)) ∧ ks.length ≤ 8 ∧ R (.lt ((allSL ks).map kn)) m
end DL
namespace DL
open PySem L2
def f_box2 : FSp := fun args m R => ∃ (ns : List Int) (k : Nat), args = [.scr ns, .d (.int (k : Int))] ∧ k ≤ 1000 ∧ ∀ p, m p = none → R (.v (.ref p)) (put m p .box)
def f_shares2 : FSp := fun args m R => ∃ (p : Addr) (a : Int), args = [.v (.ref p), .d (.int a)] ∧ m p = some .box ∧ 1 ≤ a ∧ a ≤ 5 ∧ ∀ ss : List Int, Shares ss → (ss.length : Int) ≤ a → R (.d (tupI ss)) m
end DL
/-! enumerate over a tuple -/
namespace DL
open PySem L2
end DL
/-! sum(d.values()) of a dict whose keys are tuples -/
namespace DL
open PySem L2
section
variable {K : PySem.W.Frag} {r : List Val} {m : Mm} {Q : Val → Mm → Prop} {te : TE}
theorem KVs.ints {G : Hp} {α : Type} : ∀ {kvs : List (α × Val)} {es : List (α × V)} {ns : List Int}, KVs K G kvs es → kvs.map (·.2) = ns.map (fun n => Val.d (.int n)) → es.map (·.2) = ns.map V.int
  | [], es, ns, h, e => by
    have h : es = [] := h
    subst h
    cases ns with
    | nil => rfl
    | cons _ _ => simp at e
  | (k, x) :: t, es, ns, h, e => by
    obtain ⟨v, u, rfl, h2, h3⟩ := h
    cases ns with
    | nil => simp at e
    | cons n ns =>
      rw [List.map_cons, List.map_cons] at e
      injection e with e1 e2
      rw [List.map_cons, List.map_cons, KVs.ints h3 e2]
      have e1 : x = .d (.int n) := e1
      subst e1
      rw [show v = .int n from int_of h2]
end
end DL
/-! no kind twice -/
namespace DL
open PySem L2
end DL
/-! dict(list of pairs) with tuples as keys -/
namespace DL
open PySem L2
end DL
/-! some kinds, the fewer ahead: told number by number -/
namespace DL
open PySem L2
def ordX (n : Nat) : List (List Nat) := (List.range (n + 1)).flatMap fun k => (allS n).filter fun s => decide (s.length = k)
theorem flatMap_ext {α β : Type} {f g : α → List β} : ∀ {l : List α}, (∀ x ∈ l, f x = g x) → l.flatMap f = l.flatMap g
  | [], _ => rfl
  | a :: l, h => by rw [List.flatMap_cons, List.flatMap_cons, h a List.mem_cons_self, flatMap_ext fun x hx => h x (List.mem_cons_of_mem _ hx)]
theorem part_sorted {l : List (List Nat)} (h : l.Pairwise fun a b => a.length ≤ b.length) (c : Nat) : l = (l.filter fun s => decide (s.length < c)) ++ (l.filter fun s => !decide (s.length < c)) := by
  induction l with
  | nil => rfl
  | cons a t ih =>
    obtain ⟨h1, h2⟩ := List.pairwise_cons.mp h
    by_cases ha : a.length < c
    · rw [List.filter_cons, if_pos (by simp [ha]), List.filter_cons, if_neg (by simp [ha]), List.cons_append, ← ih h2]
    · have e1 : (t.filter fun s => decide (s.length < c)) = [] := List.filter_eq_nil_iff.mpr fun x hx => by have := h1 x hx; simp; omega
      have e2 : (t.filter fun s => !decide (s.length < c)) = t := List.filter_eq_self.mpr fun x hx => by have := h1 x hx; simp; omega
      rw [List.filter_cons, if_neg (by simp [ha]), List.filter_cons, if_pos (by simp [ha]), e1, e2, List.nil_append]
theorem flat_sorted : ∀ (n : Nat) (l : List (List Nat)), (l.Pairwise fun a b => a.length ≤ b.length) → (∀ s ∈ l, s.length < n) → l = (List.range n).flatMap fun k => l.filter fun s => decide (s.length = k)
  | 0, l, _, h => by
    cases l with
    | nil => rfl
    | cons a t => exact absurd (h a List.mem_cons_self) (Nat.not_lt_zero _)
  | n + 1, l, hs, h => by
    have ih := flat_sorted n (l.filter fun s => decide (s.length < n)) (hs.filter _) fun s hs' => by simpa using (List.mem_filter.mp hs').2
    have e := part_sorted hs n
    rw [List.range_succ, List.flatMap_append]
    have e1 : (l.filter fun s => !decide (s.length < n)) = l.filter fun s => decide (s.length = n) := List.filter_congr fun s hs' => by
      have := h s hs'
      by_cases hh : s.length = n
      · simp [hh]
      · have : s.length < n := by omega
        simp [hh, this]
    have e2 : ((List.range n).flatMap fun k => (l.filter fun s => decide (s.length < n)).filter fun s => decide (s.length = k)) = (List.range n).flatMap fun k => l.filter fun s => decide (s.length = k) := by
      refine flatMap_ext fun k hk => ?_
      have := List.mem_range.mp hk
      rw [List.filter_filter]
      exact List.filter_congr fun s _ => by simp; omega
    rw [e2] at ih
    rw [← ih]
    simp only [List.flatMap_cons, List.flatMap_nil, List.append_nil]
    rw [← e1]
    exact e
theorem ordS_filter (n k : Nat) : (ordS n).filter (fun s => decide (s.length = k)) = (allS n).filter fun s => decide (s.length = k) := by
  have h1 : ((allS n).filter fun s => decide (s.length = k)).Pairwise fun a b => (decide ((a.length : Int) ≤ (b.length : Int))) = true := by
    refine List.Pairwise.imp_of_mem (R := fun _ _ => True) (fun ha hb _ => ?_) (List.pairwise_of_forall fun _ _ => trivial)
    have := (List.mem_filter.mp ha).2
    have := (List.mem_filter.mp hb).2
    simp at *; omega
  have h2 : ((allS n).filter fun s => decide (s.length = k)).Sublist (ordS n) := List.sublist_mergeSort (fun a b c h1 h2 => by simp at h1 h2 ⊢; omega) (fun a b => by simp; omega) h1 List.filter_sublist
  have h3 := h2.filter fun s => decide (s.length = k)
  rw [List.filter_filter] at h3
  simp only [Bool.and_self] at h3
  exact (h3.eq_of_length ((ordS_perm n).filter _).length_eq.symm).symm
theorem ordS_eq (n : Nat) : ordS n = ordX n := by
  have h := flat_sorted (n + 1) (ordS n) ((ordS_sorted n).imp fun z => by first | exact z | (simp at z; omega)) fun s hs => by
    have := (allS_mem n s ((ordS_perm n).mem_iff.mp hs)).1
    omega
  rw [h]
  unfold ordX
  exact flatMap_ext fun k _ => ordS_filter n k
end DL
/-! in which share of the cases just some kinds are left at some time -/
namespace DL
open PySem L2
theorem ordX_facts : ∀ n : _root_.Fin 6, (ordX n.val).length ≤ 32 ∧ (∀ s ∈ ordX n.val, s ∈ allS n.val) ∧ (∀ s ∈ allS n.val, ∀ k ∈ s, wo s k ∈ allS n.val ∧ wo s k ≠ s ∧ (wo s k).length + 1 = s.length) := by decide +kernel
/-! bounds -/
def InD (q : Rat) (D : Nat) : Prop := ∃ z : Int, q * ((D : Nat) : Rat) = (z : Rat)
theorem InD.add {p q : Rat} {D : Nat} (h : InD p D) (g : InD q D) : InD (p + q) D := by
  obtain ⟨x, hx⟩ := h
  obtain ⟨y, hy⟩ := g
  exact ⟨x + y, by rw [Rat.add_mul, hx, hy, Rat.intCast_add]⟩
theorem InD.int (z : Int) (D : Nat) : InD (z : Rat) D := ⟨z * D, by rw [Rat.intCast_mul, Rat.intCast_natCast]⟩
theorem InD.sum {α : Type} {f : α → Rat} {D : Nat} : ∀ {l : List α}, (∀ x ∈ l, InD (f x) D) → InD (l.map f).sum D
  | [], _ => by have := InD.int 0 D; simpa using this
  | x :: l, h => by
    rw [List.map_cons, List.sum_cons]
    exact (h x List.mem_cons_self).add (InD.sum fun y hy => h y (List.mem_cons_of_mem _ hy))
theorem InD.den {q : Rat} {D : Nat} (h : InD q D) (h0 : 0 < D) : q.den ≤ D := by
  obtain ⟨z, hz⟩ := h
  have e : q = mkRat z D := by
    have hn := nat_ne h0
    rw [Rat.mkRat_eq_div, ← hz]
    generalize ((D : Nat) : Rat) = E at *
    grind
  rw [e]
  exact den_mk_le z D h0
structure ChB (q : Rat) (D v : Nat) : Prop where
  nn : 0 ≤ q
  le : q ≤ (v : Rat)
  ind : InD q D
theorem ChB.frB {q : Rat} {D v d e : Nat} (h : ChB q D v) (h0 : 0 < D) (hD : D ≤ 2 ^ d) (hv : v < 2 ^ e) : FrB q (d + e + 1) :=
  QB.frB ⟨h.nn, h.le, Nat.le_trans (h.ind.den h0) hD⟩ hv
end DL
/-! how long until so many kinds have come: by who is left, forth and back -/
namespace DL
open PySem L2
/-! words -/
end DL
/-! code that runs while an exception is handled: comprehensions over a range, defs that are handed the exception -/
namespace DL
open PySem L2 PySem.Spec PyProof.Rows L2H
end DL
/-! defs that are handed the exception that is handled; isinstance of it -/
namespace DL
open PySem L2 PySem.Spec PyProof.Rows L2H
/-! at the level of data -/
end DL
/-! try .. except C as n, n a name that a comprehension of the suite reads (a cell); all that is raised is of C -/
namespace DL
open PySem L2 PySem.Spec PyProof.Rows L2H
end DL
/-! defs that may refuse, and the try that catches, at the level of data -/
namespace DL
open PySem L2 PySem.Spec PyProof.Rows L2H
abbrev FSpX := List Val → Mm → (Val → Mm → Prop) → (Addr → Mm → Prop) → Prop
def spX (K : PySem.W.Frag) (f : FSpX) : Sp := fun vs H Q E => ∃ m G args R X, Sta K m H G ∧ VRs K G args vs ∧ f args m R X ∧ (∀ v H' G' x m', R x m' → Sta K m' H' G' → Le G G' → VR K G' x v → Q v H') ∧
  (∀ C m' H' G', X C m' → Sta K m' H' G' → Le G G' → E (.ref C) none H')
def EvX (K : PySem.W.Frag) (G0 : Hp) (t : TE) (r : List Val) (m : Mm) (Q : Val → Mm → Prop) : Prop :=
  ∀ σ H G, Le G0 G → Sta K m H G → Sl K G r σ → ∀ R : VK, (∀ v H' G' x m', Q x m' → Sta K m' H' G' → Le G G' → VR K G' x v → R v H') → t σ H R
def Wx (K : PySem.W.Frag) (G0 : Hp) (t : TS) (r : List Val) (m : Mm) (N : List Val → Mm → Prop) (E : Val → Mm → Prop) : Prop :=
  ∀ σ H G (D : Ends), Le G0 G → Sta K m H G → Sl K G r σ → (∀ σ' H' G' r' m', N r' m' → Sta K m' H' G' → Le G G' → Sl K G' r' σ' → D.nx σ' H') →
    (∀ v H' G' x m', E x m' → Sta K m' H' G' → Le G G' → VR K G' x v → D.rt v H') → t D σ H
/-- what is refused here is taken -/
def TkX (K : PySem.W.Frag) (G0 : Hp) (r : List Val) (W : L2.WX) (X : Addr → Mm → Prop) : Prop := ∀ C m' H' G' σ, X C m' → Sta K m' H' G' → Le G0 G' → Sl K G' r σ → W (.ref C) none σ H'
section
variable {K : PySem.W.Frag} {G0 : Hp} {r : List Val} {m : Mm} {Q : Val → Mm → Prop} {N : List Val → Mm → Prop} {E : Val → Mm → Prop} {t u : TS} {te ta tb : TE} {tt : TT} {W : L2.WX} {X : Addr → Mm → Prop}
theorem EvX.of (h : Ev K te r m Q) : EvX K G0 te r m Q := fun σ H G _ S L R k => h σ H G S L R k
theorem Wx.of (h : Wp K t r m N E) : Wx K G0 t r m N E := fun σ H G D _ S L a b => h σ H G D S L a b
theorem wx_next (q : N r m) : Wx K G0 tNext r m N E := .of (w_next q)
theorem wx_seq (h : Wx K G0 t r m (fun r1 m1 => Wx K G0 u r1 m1 N E) E) : Wx K G0 (tSeq t u) r m N E := fun σ H G D g0 S L a b =>
  h σ H G { D with nx := u D } g0 S L (fun σ1 H1 G1 r1 m1 h1 S1 e1 L1 => h1 σ1 H1 G1 D (g0.trans e1) S1 L1 (fun σ2 H2 G2 r2 m2 n2 S2 e2 L2 => a σ2 H2 G2 r2 m2 n2 S2 (e1.trans e2) L2)
    (fun v H2 G2 x m2 n2 S2 e2 L2 => b v H2 G2 x m2 n2 S2 (e1.trans e2) L2)) b
theorem wx_if (h : EvT K tt r m fun c m1 => (c = true → Wx K G0 t r m1 N E) ∧ (c = false → Wx K G0 u r m1 N E)) : Wx K G0 (tIfS tt t u) r m N E := fun σ H G D g0 S L a b =>
  h σ H G S L _ fun H1 G1 c m1 h1 S1 e1 => by
    cases c with
    | true =>
      show t D σ H1
      exact h1.1 rfl σ H1 G1 D (g0.trans e1) S1 (L.mono e1) (fun σ2 H2 G2 r2 m2 n2 S2 e2 L2 => a σ2 H2 G2 r2 m2 n2 S2 (e1.trans e2) L2) (fun v H2 G2 x m2 n2 S2 e2 L2 => b v H2 G2 x m2 n2 S2 (e1.trans e2) L2)
    | false =>
      show u D σ H1
      exact h1.2 rfl σ H1 G1 D (g0.trans e1) S1 (L.mono e1) (fun σ2 H2 G2 r2 m2 n2 S2 e2 L2 => a σ2 H2 G2 r2 m2 n2 S2 (e1.trans e2) L2) (fun v H2 G2 x m2 n2 S2 e2 L2 => b v H2 G2 x m2 n2 S2 (e1.trans e2) L2)
theorem wx_ret (h : EvX K G0 te r m E) : Wx K G0 (tRet te) r m N E := fun σ H G D g0 S L a b => h σ H G g0 S L _ b
/-- raise C(..) -/
def tRaise (C : Addr) (W : L2.WX) : TS := fun _ σ H => W (.ref C) none σ H
theorem wx_raise {C : Addr} (hW : TkX K G0 r W X) (q : X C m) : Wx K G0 (tRaise C W) r m N E := fun σ H G D g0 S L a b => hW C m H G σ q S g0 L
end
theorem ps_raiseN {X : Cx} {W : L2.WX} {C : Addr} {x m : Str} {j : Nat} {p p2 pos pos' : Pos} {bmB : List Value} {B newId initId : String} (hc : X.calm = true) (tk : L2N.Takes X W) (F : ExcBaseFacts B newId initId bmB) (q : PySem.W.excIn X.K C bmB newId = true) (gC : X.mg x = some (.ref C))
    (kC : PySem.W.keepIn X.K (.ref C) = true) (r : Raises X (.ref C)) (hg : Gl X x) (hdb : (x == ("__debug__" : Str)) = false := by decide) :
    PS X (.Raise (some (.Call (.Name x p) [.Constant (.str m) j p2] [] pos)) none pos') (tRaise C W) := L2N.ps_raise hc tk (L2N.pmk_own F q gC kC r hg hdb)
/-- what the written part says of a class of refusals -/
structure RfT (K : PySem.W.Frag) (mg : Str → Option Value) (x : Str) (C : Addr) : Prop where
  g : mg x = some (.ref C)
  q : PySem.W.excIn K C [.type "ValueError", .type "Exception", .type "BaseException", .type "object"] "ValueError.__new__" = true
  kp : PySem.W.keepIn K (.ref C) = true
  bs : PySem.W.subIn K (.ref C) (.type "BaseException") = some true
  ty : PySem.W.typeIn K (.ref C) = some (.type "type")
theorem ps_rf {X : Cx} {K : PySem.W.Frag} {mg : Str → Option Value} {W : L2.WX} {C : Addr} {x m : Str} {j : Nat} {p p2 pos pos' : Pos} (T : RfT K mg x C) (tk : L2N.Takes X W) (hg : Gl X x) (hc : X.calm = true := by rfl) (hK : X.K = K := by rfl) (hmg : X.mg = mg := by rfl)
    (hdb : (x == ("__debug__" : Str)) = false := by decide) : PS X (.Raise (some (.Call (.Name x p) [.Constant (.str m) j p2] [] pos)) none pos') (tRaise C W) := by
  subst hK hmg
  exact ps_raiseN hc tk PySem.F.excBase_ValueError T.q T.g T.kp (raises_own T.bs T.ty) hg hdb
section
variable {P : Program} {w : World} {K : PySem.W.Frag} {mg : Str → Option Value} {base : Heap}
structure ClX (P : Program) (w : World) (K : PySem.W.Frag) (mg : Str → Option Value) (base : Heap) (k : Nat) (x : Str) (sp : FSpX) : Prop where
  ex : ∃ f fd ps, FnOk P w K mg base (L2N.CX P w) k f fd ps (spX K sp) ∧ mg x = some (.ref f) ∧ PySem.W.keepIn K (.ref f) = true ∧ Binds K fd ps []
theorem fnX_ok {x qual : Str} {st : Stmt} {f : Addr} {fd : FuncData} {N ps : List Str} {k : Nat} {sp : FSpX} (F : Fun K x qual st f fd) (S : FnScope N ps (defScope st)) (hl : ∀ args m R X, sp args m R X → args.length = ps.length)
    (hb : ∀ (cdv : Value) (A : Around) (outer : List Env) (s : Shared) (H : Hp) (E : XK), Room k (A.deeper (envOfC qual (defScope st) s.heap.objs.size f cdv)) →
      ∃ t, PSs (cxOf (L2N.CX P w) P w K mg base N qual (defScope st) f cdv A outer s H E) (defBody st) t ∧
        ∀ args m R X, sp args m R X → ∀ G0, (∀ r, TkX K G0 r (fun cls d _ H => E cls d H) X) → Wx K G0 t (args ++ List.replicate (N.length - args.length) .any) m (fun _ m' => R (.d .none) m') R) :
    FnOk P w K mg base (L2N.CX P w) (k + 1) f fd ps (spX K sp) := by
  obtain ⟨oc, od, kV, doc, pm, an, cdv, ct, osl, rfl, lk, hcd⟩ := F.ex
  refine fn_of lk hcd S (fun vs H Q E h => ?_) fun A outer s H vs Q E hr h => ?_
  · obtain ⟨m, G, args, R, X, S1, r1, h1, _⟩ := h
    rw [r1.length]; exact hl args m R X h1
  · obtain ⟨m, G, args, R, X, S1, r1, h1, k1, k2⟩ := h
    obtain ⟨t, ht, hw⟩ := hb cdv A outer s H E hr
    refine ⟨t, ht, ?_⟩
    refine hw args m R X h1 G (fun r C m' H' G' σ hx S' e' _ => k2 C m' H' G' hx S' e') _ H G _ (Le.refl G) S1 ?_ (fun σ' H' G' r' m' hn S' e' L' => k1 .non H' G' (.d .none) m' hn S' e' (.d (rp_none.mpr rfl))) (fun v H' G' x m' hn S' e' L' => k1 v H' G' x m' hn S' e' L')
    unfold L2.start
    rw [r1.length]
    exact Sl.start _ r1
end
end DL
/-! what is refused: words -/
namespace DL
open PySem L2 PySem.Spec PyProof.Rows L2H
/-! the cases of the small words -/
/-! slices -/
theorem join_eq : ∀ (ss : List Int) (v : Int) (lo hi : Nat), ss.length ≤ 5 → lo < hi → hi < ss.length → ss.take lo ++ [v] ++ (ss.drop (lo + 1)).take (hi - (lo + 1)) ++ ss.drop (hi + 1) = (ss.set lo v).take hi ++ (ss.set lo v).drop (hi + 1) := by
  intro ss v lo hi h5 h1 h2
  have hlo : lo < 4 := by omega
  have hhi : hi < 5 := by omega
  match ss, h5, h2 with
  | [a, b], _, h2 =>
    have : lo = 0 ∧ hi = 1 := by simp at h2; omega
    obtain ⟨rfl, rfl⟩ := this; rfl
  | [a, b, c], _, h2 =>
    have : (lo = 0 ∧ hi = 1) ∨ (lo = 0 ∧ hi = 2) ∨ (lo = 1 ∧ hi = 2) := by simp at h2; omega
    rcases this with ⟨rfl, rfl⟩ | ⟨rfl, rfl⟩ | ⟨rfl, rfl⟩ <;> rfl
  | [a, b, c, d], _, h2 =>
    have : (lo = 0 ∧ hi = 1) ∨ (lo = 0 ∧ hi = 2) ∨ (lo = 1 ∧ hi = 2) ∨ (lo = 0 ∧ hi = 3) ∨ (lo = 1 ∧ hi = 3) ∨ (lo = 2 ∧ hi = 3) := by simp at h2; omega
    rcases this with ⟨rfl, rfl⟩ | ⟨rfl, rfl⟩ | ⟨rfl, rfl⟩ | ⟨rfl, rfl⟩ | ⟨rfl, rfl⟩ | ⟨rfl, rfl⟩ <;> rfl
  | [a, b, c, d, e], _, h2 =>
    have : (lo = 0 ∧ hi = 1) ∨ (lo = 0 ∧ hi = 2) ∨ (lo = 1 ∧ hi = 2) ∨ (lo = 0 ∧ hi = 3) ∨ (lo = 1 ∧ hi = 3) ∨ (lo = 2 ∧ hi = 3) ∨ (lo = 0 ∧ hi = 4) ∨ (lo = 1 ∧ hi = 4) ∨ (lo = 2 ∧ hi = 4) ∨ (lo = 3 ∧ hi = 4) := by simp at h2; omega
    rcases this with ⟨rfl, rfl⟩ | ⟨rfl, rfl⟩ | ⟨rfl, rfl⟩ | ⟨rfl, rfl⟩ | ⟨rfl, rfl⟩ | ⟨rfl, rfl⟩ | ⟨rfl, rfl⟩ | ⟨rfl, rfl⟩ | ⟨rfl, rfl⟩ | ⟨rfl, rfl⟩ <;> rfl
  | [], _, h2 => simp at h2
  | [a], _, h2 => simp at h2; omega
end DL
/-! a def that refuses, called where it answers; a def that answers here and refuses there -/
namespace DL
open PySem L2 PySem.Spec PyProof.Rows L2H
section
variable {P : Program} {w : World} {K : PySem.W.Frag} {mg : Str → Option Value} {base : Heap}
theorem ClX.cl {k : Nat} {x : Str} {sp : FSpX} {fs : FSp} (c : ClX P w K mg base k x sp) (h : ∀ args m R, fs args m R → sp args m R fun _ _ => False) : Cl P w K mg base k x fs := by
  obtain ⟨f, fd, ps, F, hm, hk, hb⟩ := c.ex
  have conv : ∀ vs H Q E, spD K fs vs H Q E → spX K sp vs H Q E0 := fun vs H Q E ⟨m, G, args, R, S, r, hf, k⟩ => ⟨m, G, args, R, fun _ _ => False, S, r, h _ _ _ hf, k, fun _ _ _ _ z => z.elim⟩
  refine ⟨f, fd, ps, ⟨fun vs H Q E q => F.len vs H Q E0 (conv _ _ _ _ q), fun A outer s H args us vs Q E hr he hB hv q => ?_⟩, hm, hk, hb⟩
  refine codeAny_mono (F.run A outer s H args us vs Q E0 hr he hB hv (conv _ _ _ _ q)) fun res s' g => ?_
  match res, g with
  | .ok (.ret u), g => exact g
  | .error e, g =>
    obtain ⟨_, _, _, _, _, _, _, _, _, _, _, _, z⟩ := g
    exact z.elim
end
end DL
/-! orders; what the laws on refusals ask -/
namespace DL
open PySem L2 PySem.Spec PyProof.Rows L2H
end DL
/-! chances of orders; for a, b in a list of pairs -/
namespace DL
open PySem L2 PySem.Spec PyProof.Rows L2H
section
variable {P : Program} {w : World} {K : PySem.W.Frag} {mg : Str → Option Value} {base : Heap}
theorem Cl.imp {k : Nat} {x : Str} {f g : FSp} (c : Cl P w K mg base k x f) (h : ∀ args m R, g args m R → f args m R) : Cl P w K mg base k x g := by
  obtain ⟨a, fd, ps, F, hm, hk, hb⟩ := c.ex
  exact ⟨a, fd, ps, F.imp fun vs H Q E ⟨m, G, args, R, S, r, hf, k⟩ => ⟨m, G, args, R, S, r, h _ _ _ hf, k⟩, hm, hk, hb⟩
end
theorem allSomeB_L : ∀ args m R, f_allSome args m R → f_allSomeB args m R := fun args m R ⟨ks, e, hn, q⟩ => ⟨ks, _, e, Or.inl rfl, hn, q⟩
/-! what an order's kinds have -/
end DL
/-! repr of data with dicts (and no lists) -/
namespace DL
open PySem L2 PySem.Spec PyProof.Rows L2H
end DL
/-! taking items out of a list; a list mixed up -/
namespace DL
open PySem L2 PySem.Spec PyProof.Rows L2H
theorem VRs.erase {K : PySem.W.Frag} {G : Hp} : ∀ {rs : List Val} {xs : List V} (i : Nat), VRs K G rs xs → VRs K G (rs.eraseIdx i) (xs.eraseIdx i)
  | [], xs, i, h => by
    have h : xs = [] := h
    subst h
    exact rfl
  | r :: rs, xs, 0, h => by
    obtain ⟨v, t, rfl, h1, h2⟩ := h
    exact h2
  | r :: rs, xs, i + 1, h => by
    obtain ⟨v, t, rfl, h1, h2⟩ := h
    exact ⟨v, _, rfl, h1, VRs.erase i h2⟩
end DL
/-! what are no orders; what may be shown -/
namespace DL
open PySem L2 PySem.Spec PyProof.Rows L2H
/-! shown, with or without dicts -/
end DL
/-! [e for i, x in enumerate(a tuple)] -/
namespace DL
open PySem L2 PySem.Spec PyProof.Rows L2H
section
variable {K : PySem.W.Frag} {r : List Val} {m : Mm} {Q : Val → Mm → Prop} {te : TE}
theorem LcW.fix {G : Hp} {D T : Addr} {W : Nat → List PyData → Prop} {i : Nat} {H' : Hp} {o : HO} (h : LcW K m G D W i H') (hT : H' T = none) : ∃ G', Le G G' ∧ LcW K m (upd G' T o) D W i (upd H' T o) ∧ Le G (upd G' T o) := by
  obtain ⟨G', acc, hw, hl, S, e⟩ := h
  have hn := Le.new (o := o) (S.free hT)
  exact ⟨G', e, ⟨upd G' T o, acc, hw, hl, S.fix hT, Le.refl _⟩, e.trans hn⟩
end
end DL
/-! evened, named -/
namespace DL
open PySem L2 PySem.Spec PyProof.Rows L2H
end DL
/-! orders, and the chances by who is left -/
namespace DL
open PySem L2 PySem.Spec PyProof.Rows L2H
def lft (n : Nat) (p : List Nat) : List Nat := (List.range n).filter fun k => !decide (k ∈ p)
end DL
/-! all orders -/
namespace DL
open PySem L2 PySem.Spec PyProof.Rows L2H
end DL
/-! whole orders: what comes to one, what rises -/
namespace DL
open PySem L2
theorem sumP_leS {ss : List Int} (hs : Shares ss) {s : List Nat} (h : s ∈ allS ss.length) : sumP ss s ≤ ss.sum := by
  have h1 := sumP_others (ss := ss) (allS_kinds h)
  have h2 := sumP_nonneg hs (othersF ss.length s)
  omega
/-! some kind twice -/
/-! the sums so far -/
end DL
/-! the mean until all have come, over a list of shares: by parts that alternate -/
namespace DL
open PySem L2
/-! the paper's number is this one -/
end DL
/-! k13: cases, what lacks and means, in another order and each so many times -/
namespace DL
open PySem L2
/-! what comes of a list, n draws, with a beside -/
/-! each so many times -/
/-! the program's numbers -/
end DL
/-! tuples that are known to have no attributes: their methods -/
namespace DL
open PySem L2 PySem.Spec PyProof.Rows
/-- a method of such a tuple -/
def tyF (x : V) (H : Hp) : Prop := ∃ p ob xs, x = .ref p ∧ H p = some (.frz ob (.tup xs)) ∧ ob.cls = .type "tuple" ∧ ob.dict = none
def tBMF (r : V → List V → Hp → VK → Prop) (to : TE) (t : TA) : TE := fun σ H Q => to σ H fun x H1 => tyF x H1 ∧ t σ H1 fun xs H2 => r x xs H2 Q
section
variable {X : Cx} {o e : Expr} {es : List Expr} {to : TE} {t : TA} {name : Str} {apos cpos : Pos} {id : String} {r : V → List V → Hp → VK → Prop}
theorem pe_bmF (slot : Slot "tuple" name id) (hty : typeOf (.builtin id) = pure (.type "method_descriptor")) (hm : MtR X id r) (ho : PE X o to) (ha : PA X (e :: es) t)
    (hbase : attributeBase o name X.env (eval o X.env) = eval o X.env := by rfl)
    (hfew : ((backTo cpos (starEach (e :: es) X.env)).all (fun x => !x.1) && (backToKw cpos (keywordEach [] X.env)).all (fun x => x.1.isSome)
      && decide ((e :: es).length + ([] : List Keyword).length + (if ([] : List Keyword).isEmpty then 0 else 1) < 30)) = true := by rfl)
    (hline : (apos.endLine == cpos.line) = true := by rfl) (hs : starEach (e :: es) X.env = (false, eval e X.env) :: starEach es X.env := by rfl) (hplain : (backTo cpos (starEach es X.env)).any (·.1) = false := by rfl) :
    PE X (.Call (.Attribute o name apos) (e :: es) [] cpos) (tBMF r to t) := by
  constructor
  intro pins s σ H Q I h
  refine wpAny_Call_method_late hbase hfew hline rfl (thn (ho.run pins s σ H _ I h) ?_)
  rintro v s1 ⟨x, H1, I1, r1, ⟨p, ob, ys, rfl, hp, hc, hd⟩, q1⟩
  cases r1
  obtain ⟨g1, g2⟩ := I1.hok p _ hp
  refine ⟨"tuple", id, PySem.F.plainAttrs_tuple, slot, hty, ⟨ob, g1, hc⟩, fun a z => ?_, ?_⟩
  · cases z
    exact ⟨ob, g1, hd⟩
  · have hA := ha.run cpos pins s1 σ H1 _ I1 q1
    rw [hs] at hA ⊢
    refine Calls.callWith_builtin (by show (false || (backTo cpos (starEach es X.env)).any (·.1)) = false; rw [hplain] <;> rfl) (Calls.evalArgs_plain (thn hA ?_))
    rintro us s2 ⟨vs, H2, I2, r2, q2⟩
    exact hm pins s2 σ H2 (.ref p) vs _ us Q I2 rfl r2 q2
end
theorem kBMF (K : PySem.W.Frag) {X : Cx} {e : Expr} {r : PySem.W.Frag → V → List V → Hp → VK → Prop} {to : TE} {ta : TA} (hp : PE X e (tBMF (r X.K) to ta)) (h : X.K = K := by rfl) : PE X e (tBMF (r K) to ta) := h ▸ hp
section
variable {K : PySem.W.Frag} {r : List Val} {m : Mm} {Q : Val → Mm → Prop} {to te : TE}
theorem f_d {G : Hp} {ns : List Int} {v : V} (h : VR K G (.f ns) v) : VR K G (.d (tupI ns)) v := by
  cases h with
  | f h h1 h2 => exact .d (rp_tuple.mpr ⟨_, _, rfl, Or.inl (Or.inr ⟨_, h⟩), rpa_ints ns⟩)
end
end DL
/-! kinds bought or drawn -/
namespace DL
open PySem L2
section
variable {K : PySem.W.Frag} {r : List Val} {m : Mm} {Q : Val → Mm → Prop} {te tl : TE} {tt : TT}
theorem TAll.drop {G : Hp} : ∀ {nss : List (List Int)} {xs : List V} (n : Nat), TAll G nss xs → TAll G (nss.drop n) (xs.drop n)
  | nss, xs, 0, h => h
  | [], xs, n + 1, h => by
    have h : xs = [] := h
    subst h; exact rfl
  | ns :: r, xs, n + 1, h => by
    obtain ⟨b, t, rfl, h2, h3⟩ := h
    exact TAll.drop n h3
end
/-! some kinds but none, the fewer ahead -/
def rsX (n : Nat) : List (List Nat) := (ordX n).filter noNil
theorem rsX_facts : ∀ n : _root_.Fin 6, ordX n.val = [] :: rsX n.val ∧ (ordX n.val).drop 1 = rsX n.val ∧ (rsX n.val).Nodup ∧ (rsX n.val).length ≤ 31 ∧ (rsX n.val).length + 1 = (allS n.val).length ∧ ∀ s ∈ rsX n.val, s ∈ allS n.val ∧ s ≠ [] := by decide +kernel
theorem rsX_ahead : ∀ n : _root_.Fin 6, ∀ i : _root_.Fin 32, ∀ s, (rsX n.val)[i.val]? = some s → (∀ k ∈ s, wo s k ∈ [] :: (rsX n.val).take i.val) ∧ s ∉ [] :: (rsX n.val).take i.val := by
  have h : ∀ n : _root_.Fin 6, ∀ i : _root_.Fin 32, ((rsX n.val)[i.val]?).all (fun s => (s.all fun k => decide (wo s k ∈ [] :: (rsX n.val).take i.val)) && decide (s ∉ [] :: (rsX n.val).take i.val)) = true := by decide +kernel
  intro n i s hs
  have h1 := h n i
  rw [hs] at h1
  simp only [Option.all_some, Bool.and_eq_true, List.all_eq_true, decide_eq_true_eq] at h1
  exact ⟨fun k hk => h1.1 k hk, h1.2⟩
theorem rsX_filter (n : Nat) : ((ordX n).map kn).filter (fun ks => !decide (ks = [])) = (rsX n).map kn := by
  unfold rsX
  rw [List.filter_map]
  refine congrArg (List.map kn) (List.filter_congr fun s _ => ?_)
  show (!decide (kn s = [])) = noNil s
  unfold noNil
  rw [show decide (kn s = []) = decide (s = []) from decide_eq_decide.mpr List.map_eq_nil_iff]
/-! numbers by who is left, one told by the others -/
def genF (ss : List Int) (g : List Nat → Rat → Rat) : Nat → List Nat → Rat
  | 0, _ => 0
  | n + 1, s => g s (dueT ss (genF ss g n) s)
def genT (ss : List Int) (g : List Nat → Rat → Rat) (s : List Nat) : Rat := genF ss g s.length s
theorem genT_step (ss : List Int) (g : List Nat → Rat → Rat) {s : List Nat} (hs : s.Pairwise (· < ·)) (h0 : s ≠ []) : genT ss g s = g s (dueT ss (genT ss g) s) := by
  unfold genT
  cases hn : s.length with
  | zero => exact absurd (List.length_eq_zero_iff.mp hn) h0
  | succ n =>
    show g s (dueT ss (genF ss g n) s) = _
    refine congrArg (g s) ?_
    unfold dueT
    rw [dueAcc_congr (P' := fun o => genF ss g o.length o) (fun k hk => ?_) s (fun _ h => h)]
    have := without_len hs hk
    have e : (s.filter fun x => !decide (x = k)).length = n := by omega
    show genF ss g n _ = genF ss g _ _
    rw [e]
/-! bounds -/
def PB (ss : List Int) (P : List Nat → Rat) : Prop := ∀ s, Kinds ss.length s → QB (P s) (dB s.length) (99 * s.length)
theorem accG {ss : List Int} (hs : Shares ss) {P : List Nat → Rat} {s : List Nat} {d n : Nat} (hP : ∀ k ∈ s, QB (P (s.filter fun x => !decide (x = k))) d (99 * n)) : ∀ l : List Nat, (∀ k ∈ l, k ∈ s) → QB (dueAcc ss P s l) (l.length * d) (45 + 99 * n * (sumP ss l).toNat) := by
  intro l
  have hsum := shares_sum hs
  have gen : ∀ (l : List Nat) (a : Rat) (c v : Nat), QB a c v → (∀ k ∈ l, k ∈ s) → QB (l.foldl (fun acc k => acc + ((ss.getD k 0 : Int) : Rat) * P (s.filter fun x => !decide (x = k))) a) (c + l.length * d) (v + 99 * n * (sumP ss l).toNat) := by
    intro l
    induction l with
    | nil =>
      intro a c v h _
      exact h.mono (by simp) (by simp)
    | cons k t ih =>
      intro a c v h hl
      rw [List.foldl_cons]
      have hb := getD_bounds hs k
      have e1 : ss.getD k 0 = (((ss.getD k 0).toNat : Nat) : Int) := by omega
      have h1 := (hP k (hl k (List.mem_cons_self ..))).mulN (ss.getD k 0).toNat
      rw [← e1] at h1
      have h2 := ih _ _ _ (h.add h1) fun x hx => hl x (List.mem_cons_of_mem _ hx)
      refine h2.mono ?_ ?_
      · rw [List.length_cons, Nat.succ_mul]; omega
      · have e2 : (sumP ss (k :: t)).toNat = (ss.getD k 0).toNat + (sumP ss t).toNat := by
          have := sumP_nonneg hs t
          rw [sumP_cons]; omega
        rw [e2, Nat.mul_add]
        have e3 : (ss.getD k 0).toNat * (99 * n) = 99 * n * (ss.getD k 0).toNat := Nat.mul_comm _ _
        omega
  intro hl
  have e : ss.sum = ((ss.sum.toNat : Nat) : Int) := by omega
  have h0 : QB ((ss.sum : Int) : Rat) 0 45 := by
    rw [e]
    exact (QB.nat _).mono (Nat.le_refl _) (by omega)
  exact (gen l _ 0 45 h0 hl).mono (by omega) (Nat.le_refl _)
theorem PB.sub {ss : List Int} {P : List Nat → Rat} (h : PB ss P) {s : List Nat} (hk : Kinds ss.length s) {n : Nat} (hl : s.length = n + 1) : ∀ k ∈ s, QB (P (s.filter fun x => !decide (x = k))) (dB n) (99 * n) := fun k hks => by
  have := h _ (kinds_without hk k)
  have hw := without_len hk.up hks
  rw [show (s.filter fun x => !decide (x = k)).length = n by omega] at this
  exact this
theorem PB.due {ss : List Int} (hs : Shares ss) {P : List Nat → Rat} (h : PB ss P) {s : List Nat} (hk : Kinds ss.length s) (h0 : s ≠ []) : QB (dueT ss P s) (dB s.length) (99 * s.length) := by
  cases hn : s.length with
  | zero => exact absurd (List.length_eq_zero_iff.mp hn) h0
  | succ n =>
    have h1 := accG hs (h.sub hk hn) s (fun _ h => h)
    have hp := sumP_pos hs h0 hk.lt
    have hle := sumP_le hs hk
    unfold dueT
    refine (h1.over (n := (sumP ss s).toNat) (e := 6) (w := 99 * (n + 1)) (by omega) (by show _ ≤ 64; omega) ?_).mono (by rw [hn]; exact Nat.le_refl _) (Nat.le_refl _)
    generalize hS : (sumP ss s).toNat = S
    have : 1 ≤ S := by omega
    rw [Nat.mul_add, Nat.add_mul, Nat.mul_one]
    have : 99 ≤ 99 * S := by omega
    omega
theorem PB.fr {ss : List Int} (hs : Shares ss) {P : List Nat → Rat} (h : PB ss P) {s : List Nat} (hk : Kinds ss.length s) : FrB (P s) 1300 := by
  have h1 := hk.len
  have h2 := hs.few
  have h3 := dB_le (n := s.length) (by omega)
  exact ((h s hk).frB (e := 10) (by show _ < 1024; omega)).mono (by omega)
theorem PB.dueFr {ss : List Int} (hs : Shares ss) {P : List Nat → Rat} (h : PB ss P) {s : List Nat} (hk : Kinds ss.length s) (h0 : s ≠ []) : FrB (dueT ss P s) 1300 := by
  have h1 := hk.len
  have h2 := hs.few
  have h3 := dB_le (n := s.length) (by omega)
  exact ((h.due hs hk h0).frB (e := 10) (by show _ < 1024; omega)).mono (by omega)
theorem PB.accFr {ss : List Int} (hs : Shares ss) {P : List Nat → Rat} (h : PB ss P) {s : List Nat} (hk : Kinds ss.length s) (i : Nat) : FrB (dueAcc ss P s (s.take i)) 1300 := by
  have h1 := hk.len
  have h2 := hs.few
  cases hn : s.length with
  | zero =>
    have : s = [] := List.length_eq_zero_iff.mp hn
    subst this
    have := shares_sum hs
    have e : ss.sum = ((ss.sum.toNat : Nat) : Int) := by omega
    have : dueAcc ss P [] (List.take i []) = ((ss.sum : Int) : Rat) := by simp [dueAcc]
    rw [this, e]
    exact ((QB.nat ss.sum.toNat).frB (e := 10) (by show _ < 1024; omega)).mono (by decide)
  | succ n =>
    have hb := accG hs (h.sub hk hn) (s.take i) fun k hk => List.mem_of_mem_take hk
    have hl : (s.take i).length ≤ n + 1 := by rw [List.length_take]; omega
    have hsl : sumP ss (s.take i) ≤ 45 := by
      have := sumP_le9 hs (s.take i)
      omega
    have hd : (s.take i).length * dB n + 6 ≤ dB (n + 1) := by
      show _ ≤ (n + 1) * dB n + 6
      exact Nat.add_le_add_right (Nat.mul_le_mul_right _ hl) 6
    have hd2 := dB_le (n := n + 1) (by omega)
    have hv : 45 + 99 * n * (sumP ss (s.take i)).toNat ≤ 45 + 99 * 4 * 45 := by
      refine Nat.add_le_add_left (Nat.mul_le_mul (Nat.mul_le_mul_left _ (by omega)) (by omega)) _
    exact (hb.frB (e := 15) (by show _ < 32768; omega)).mono (by omega)
def priceQ (c : Nat) (s : List Nat) : Rat := ((c * s.length : Nat) : Int)
theorem price_QB {c : Nat} (hc : c ≤ 99) (s : List Nat) : QB (priceQ c s) (dB s.length) (99 * s.length) := (QB.nat (c * s.length)).mono (Nat.zero_le _) (Nat.mul_le_mul_right _ hc)
theorem gen_PB {ss : List Int} (hs : Shares ss) {c : Nat} (hc : c ≤ 99) {g : List Nat → Rat → Rat} (hg : ∀ s x, g s x = x ∨ g s x = priceQ c s) : PB ss (genT ss g) := by
  have : ∀ (n : Nat) (s : List Nat), s.length ≤ n → Kinds ss.length s → QB (genT ss g s) (dB s.length) (99 * s.length) := by
    intro n
    induction n with
    | zero =>
      intro s hl hk
      have : s = [] := List.length_eq_zero_iff.mp (by omega)
      subst this
      exact ⟨Rat.le_refl, Rat.le_refl, Nat.le_refl 1⟩
    | succ n ih =>
      intro s hl hk
      by_cases h0 : s = []
      · subst h0; exact ⟨Rat.le_refl, Rat.le_refl, Nat.le_refl 1⟩
      · rw [genT_step ss g hk.up h0]
        have hd : QB (dueT ss (genT ss g) s) (dB s.length) (99 * s.length) := by
          have hP : PB ss (fun t => if t.length ≤ n then genT ss g t else 0) := fun t ht => by
            show QB (if t.length ≤ n then genT ss g t else 0) _ _
            split
            · exact ih t (by assumption) ht
            · exact ⟨Rat.le_refl, by exact_mod_cast Nat.zero_le _, Nat.one_le_two_pow⟩
          have h1 := hP.due hs hk h0
          have e : dueT ss (fun t => if t.length ≤ n then genT ss g t else 0) s = dueT ss (genT ss g) s := by
            unfold dueT
            rw [dueAcc_congr (P' := genT ss g) (fun k hks => ?_) s (fun _ h => h)]
            show (if _ then _ else _) = _
            rw [if_pos (by have := without_len hk.up hks; omega)]
          rw [e] at h1
          exact h1
        rcases hg s (dueT ss (genT ss g) s) with h | h
        · rw [h]; exact hd
        · rw [h]; exact price_QB hc s
  exact fun s hk => this s.length s (Nat.le_refl _) hk
/-! the laws of costs -/
def minQ (a b : Rat) : Rat := if a < b then a else b
def costT (ss : List Int) (c : Nat) : List Nat → Rat := genT ss fun s x => minQ (priceQ c s) x
def buyP (ss : List Int) (c : Nat) (s : List Nat) : Bool := !decide (dueT ss (costT ss c) s < priceQ c s)
theorem cost_PB {ss : List Int} (hs : Shares ss) {c : Nat} (hc : c ≤ 99) : PB ss (costT ss c) := gen_PB hs hc fun s x => by
  unfold minQ
  split
  · exact Or.inr rfl
  · exact Or.inl rfl
theorem cost_step (ss : List Int) (c : Nat) {s : List Nat} (hs : s.Pairwise (· < ·)) (h0 : s ≠ []) : costT ss c s = minQ (priceQ c s) (dueT ss (costT ss c) s) := genT_step ss _ hs h0
theorem time_PB {ss : List Int} (hs : Shares ss) : PB ss (timeT ss) := fun s hk => (time_bound hs s.length s rfl hk).mono (Nat.le_refl _) (Nat.mul_le_mul_right _ (by decide))
/-! words -/
def f_dueG : FSp := fun args m R => ∃ (ss : List Int) (s : List Nat) (p : Addr) (kvs : List (List Key × Val)) (P : List Nat → Rat), args = [.d (tupI ss), .v (.ref p), .d (tupN s)] ∧ Shares ss ∧ Kinds ss.length s ∧ s ≠ [] ∧ Dat m p kvs ∧ PB ss P ∧
  (∀ k ∈ s, getV kvs (kI (kn (s.filter fun x => !decide (x = k)))) = some (.d (frac (P (s.filter fun x => !decide (x = k)))))) ∧ R (.d (frac (dueT ss P s))) m
theorem dueG_T : ∀ args m R, f_dueNumber args m R → f_dueG args m R := by
  rintro args m R ⟨ss, s, p, kvs, rfl, hs, hk, h0, hd, hg, q⟩
  rw [timeT_step ss hk.up h0] at q
  exact ⟨ss, s, p, kvs, timeT ss, rfl, hs, hk, h0, hd, time_PB hs, hg, q⟩
def f_rising : FSp := fun args m R => ∃ ss : List Int, args = [.d (tupI ss)] ∧ Shares ss ∧ R (.lt ((rsX ss.length).map kn)) m
def f_lesser : FSp := fun args m R => ∃ p q : Rat, args = [.d (frac p), .d (frac q)] ∧ FrB p 3900 ∧ FrB q 3900 ∧ R (.d (frac (minQ p q))) m
def f_needPrice : FSp := fun args m R => ∃ (ss : List Int) (c : Nat), args = [.d (tupI ss), .d (.int (c : Int))] ∧ Shares ss ∧ c ≤ 99 ∧ R (.d .none) m
def f_costsOf : FSp := fun args m R => ∃ (ss : List Int) (c : Nat), args = [.d (tupI ss), .d (.int (c : Int))] ∧ Shares ss ∧ c ≤ 99 ∧ ∀ p, m p = none → R (.v (.ref p)) (put m p (.dT (tabT (costT ss c) ([] :: rsX ss.length))))
def tabS (f : List Nat → Str) (l : List (List Nat)) : List (List Int × Val) := l.map fun s => (kn s, .d (.str (f s)))
def told (b : Bool) : Str := if b = true then "buy" else "draw"
def f_planOf : FSp := fun args m R => ∃ (ss : List Int) (c : Nat), args = [.d (tupI ss), .d (.int (c : Int))] ∧ Shares ss ∧ c ≤ 99 ∧ ∀ p, m p = none → R (.v (.ref p)) (put m p (.dT (dI (tabS (fun s => told (buyP ss c s)) (rsX ss.length)))))
theorem getV_tabS {f : List Nat → Str} {s : List Nat} : ∀ {l : List (List Nat)}, s ∈ l → getV (dI (tabS f l)) (kI (kn s)) = some (.d (.str (f s)))
  | [], h => by cases h
  | t :: l, h => by
    unfold getV tabS dI
    rw [List.map_cons, List.map_cons, List.find?_cons]
    by_cases e : t = s
    · subst e; simp
    · have h1 : ¬ kI (kn t) = kI (kn s) := fun z => e (kn_inj (kI_inj z))
      rw [show decide (kI (kn t) = kI (kn s)) = false from decide_eq_false h1]
      rcases List.mem_cons.mp h with h | h
      · exact absurd h.symm e
      · exact getV_tabS h
theorem putV_tabS {f : List Nat → Str} {s : List Nat} {l : List (List Nat)} (h : s ∉ l) : putV (dI (tabS f l)) (kI (kn s)) (.d (.str (f s))) = dI (tabS f (l ++ [s])) := by
  rw [putV_new _ fun p hp => ?_]
  · unfold tabS dI; rw [List.map_append, List.map_append]; rfl
  · obtain ⟨kv, hkv, rfl⟩ := List.mem_map.mp hp
    obtain ⟨t, ht, rfl⟩ := List.mem_map.mp hkv
    exact fun z => h (kn_inj (kI_inj z) ▸ ht)
end DL
/-! sorted(d.items()), d with tuples for keys -/
namespace DL
open PySem L2 PySem.Spec PyProof.Rows
/-! everything that is known and may not change -/
section
variable {K : PySem.W.Frag} {m : Mm} {H G : Hp}
theorem Sta.all (S : Sta K m H G) : Sta K m H (fun a => if m a = none then H a else none) ∧ Le G (fun a => if m a = none then H a else none) := by
  have hle : Le G (fun a => if m a = none then H a else none) := fun a o h => by
    have hm : m a = none := by
      cases e : m a with
      | none => rfl
      | some u => rw [S.dis a u e] at h; cases h
    show (if m a = none then H a else none) = some o
    rw [if_pos hm]; exact S.sub a o h
  refine ⟨⟨fun a o h => ?_, fun a o h => (S.mem a o h).mono hle rfl, fun a o h => ?_⟩, hle⟩
  · have h : (if m a = none then H a else none) = some o := h
    by_cases hm : m a = none
    · rw [if_pos hm] at h; exact h
    · rw [if_neg hm] at h; cases h
  · show (if m a = none then H a else none) = none
    rw [if_neg (by rw [h]; exact fun z => nomatch z)]
theorem Sta.grow {H' : Hp} (S : Sta K m H G) (h : ∀ b o, H b = some o → H' b = some o) : Sta K m H' G := by
  refine ⟨fun a o e => h a o (S.sub a o e), fun a o e => ?_, S.dis⟩
  obtain ⟨u, hu⟩ := (S.mem a o e).some
  exact (S.mem a o e).mono (Le.refl G) ((h a u hu).trans hu.symm)
theorem Le.at {G G' : Hp} (h : Le G G') {a : Addr} {o : HO} (e : G a = some o) : G' a = some o := h a o e
variable {r : List Val} {Q : Val → Mm → Prop} {te : TE}
end
/-! in whatever order they were put in -/
/-! d.clear() -/
/-! the numbers of a paper, as pairs -/
end DL
/-! k63: papers and plans told; for a, b in two pairs; d.pop(k) -/
namespace DL
open PySem L2 PySem.Spec PyProof.Rows
/-! d.pop(k), the key there -/
/-! plans as pairs -/
end DL
/-! k01: shares and fractions known among all sorts of things -/
namespace DL
open PySem L2 PySem.Spec PyProof.Rows
/-! == of lists of unlike length -/
def rEqLen (K : PySem.W.Frag) : R2 := fun x y H Q => ∃ (a b : Addr) (xs ys : List V), x = .ref a ∧ y = .ref b ∧ SqL K H a xs ∧ SqL K H b ys ∧ xs.length ≠ ys.length ∧ Q (.bl false) H
theorem op_eqLen {X : Cx} (hu : X.A.units + 64 < cLine) : OpR X (compareOp .Eq) (rEqLen X.K) := by
  intro pins s σ H x y v u Q I rx ry h
  obtain ⟨a, b, xs, ys, rfl, rfl, h1, h2, hn, q⟩ := h
  cases rx
  cases ry
  obtain ⟨i1, r1, l1, _⟩ := I.list h1
  obtain ⟨i2, r2, l2, _⟩ := I.list h2
  refine SeqAt.eq_list_lengthsAt l1.isList l2.isList ?_ (by omega) ⟨.bl false, H, I, rfl, q⟩
  have e1 := r1.length
  have e2 := r2.length
  simp only [List.size_toArray, bne_iff_ne]
  omega
def rEqL (K : PySem.W.Frag) : R2 := fun x y H Q => rEqA K x y H Q ∨ rEqLen K x y H Q
theorem kEqL (K : PySem.W.Frag) {X : Cx} {j : Nat} (hr : Room j X.A) (h : X.K = K := by rfl) : OpR X (compareOp .Eq) (rEqL K) := h ▸ ((oEq hr).or (op_eqLen hr.units))
/-! what may be shown -/
end DL
/-! so many of each: defs that call themselves, needs, the mean by what is still needed -/
namespace DL
open PySem L2
/-! slices of tuples of ints -/
/-! needs -/
structure NeedV (n : Nat) (v : List Nat) : Prop where
  len : v.length = n
  few : ∀ x ∈ v, x ≤ 3
def lessV (v : List Nat) (k : Nat) : List Nat := v.take k ++ [v.getD k 0 - 1] ++ v.drop (k + 1)
theorem lessV_set {v : List Nat} {k : Nat} (h : k < v.length) : lessV v k = v.set k (v.getD k 0 - 1) := by
  unfold lessV
  rw [List.set_eq_take_append_cons_drop, if_pos h, List.append_assoc]; rfl
theorem NeedV.less {n : Nat} {v : List Nat} (h : NeedV n v) {k : Nat} (hk : k < n) : NeedV n (lessV v k) := by
  have hk : k < v.length := by rw [h.len]; exact hk
  rw [lessV_set hk]
  refine ⟨by rw [List.length_set]; exact h.len, fun x hx => ?_⟩
  rcases List.mem_or_eq_of_mem_set hx with hx | hx
  · exact h.few x hx
  · have : v.getD k 0 ≤ 3 := by
      rw [List.getD_eq_getElem?_getD, List.getElem?_eq_getElem hk]
      exact h.few _ (List.getElem_mem hk)
    omega
/-! the mean by what is still needed -/
/-! bounds -/
theorem allS_filter : ∀ (n : Nat) (p : Nat → Bool), (List.range n).filter p ∈ allS n
  | 0, p => by simp [allS]
  | n + 1, p => by
    have ih := allS_filter n p
    rw [List.range_succ, List.filter_append]
    unfold allS
    by_cases h : p n = true
    · simp [h, ih]
    · simp [h, ih]
/-! what is known -/
structure TabN (n : Nat) (l : List (List Nat)) : Prop where
  nd : l.Nodup
  nv : ∀ v ∈ l, NeedV n v
  zero : List.replicate n 0 ∈ l
theorem nd_len {α : Type} [BEq α] [LawfulBEq α] : ∀ {l r : List α}, l.Nodup → (∀ x ∈ l, x ∈ r) → l.length ≤ r.length
  | [], r, _, _ => Nat.zero_le _
  | x :: l, r, hn, hs => by
    obtain ⟨h1, h2⟩ := List.nodup_cons.mp hn
    have := nd_len (r := r.erase x) h2 fun y hy => (List.mem_erase_of_ne (fun (e : y = x) => h1 (by rw [← e]; exact hy))).mpr (hs y (List.mem_cons_of_mem _ hy))
    have hx := hs x List.mem_cons_self
    have e := List.length_erase_of_mem hx
    have := List.length_pos_of_mem hx
    rw [List.length_cons]
    omega
def allN : Nat → List (List Nat)
  | 0 => [[]]
  | n + 1 => (allN n).flatMap fun v => (List.range 4).map fun x => x :: v
theorem allN_len : ∀ n, (allN n).length = 4 ^ n
  | 0 => rfl
  | n + 1 => by
    have ih := allN_len n
    unfold allN
    rw [Nat.pow_succ, ← ih]
    generalize allN n = l
    induction l with
    | nil => rfl
    | cons a t ih => rw [List.flatMap_cons, List.length_append, ih, List.length_cons, List.length_map, List.length_range]; omega
theorem need_mem : ∀ {n : Nat} {v : List Nat}, NeedV n v → v ∈ allN n
  | 0, [], _ => List.mem_singleton.mpr rfl
  | 0, x :: v, h => by have := h.len; simp at this
  | n + 1, [], h => by have := h.len; simp at this
  | n + 1, x :: v, h => List.mem_flatMap.mpr ⟨v, need_mem ⟨by have := h.len; simpa using this, fun y hy => h.few y (List.mem_cons_of_mem _ hy)⟩, List.mem_map.mpr ⟨x, List.mem_range.mpr (by have := h.few x List.mem_cons_self; omega), rfl⟩⟩
theorem TabN.len {n : Nat} (hn : n ≤ 5) {l : List (List Nat)} (h : TabN n l) : l.length ≤ 1024 := by
  refine Nat.le_trans (nd_len h.nd fun v hv => need_mem (h.nv v hv)) ?_
  rw [allN_len]
  exact Nat.pow_le_pow_right (by decide) hn
theorem TabN.add {n : Nat} {l : List (List Nat)} (h : TabN n l) {v : List Nat} (hv : NeedV n v) (hm : v ∉ l) : TabN n (l ++ [v]) :=
  ⟨List.nodup_append.mpr ⟨h.nd, by simp, fun a ha b hb => by rw [List.mem_singleton.mp hb]; exact fun e => hm (e ▸ ha)⟩, fun u hu => by
    rcases List.mem_append.mp hu with hu | hu
    · exact h.nv u hu
    · rw [List.mem_singleton.mp hu]; exact hv, List.mem_append_left _ h.zero⟩
theorem put_self {m : Mm} {a : Addr} {o : MO} (h : m a = some o) : put m a o = m := by
  funext b
  by_cases e : b = a
  · subst e; rw [put_same, h]
  · rw [put_ne e]
/-! (0,) * n as a key -/
/-! how many states, what is right -/
end DL
/-! k24: so many draws with so many of each, by times: plain mathematics -/
namespace DL
open PySem L2 RZ
/-- how many ways to choose -/
def ch : Nat → Nat → Nat
  | _, 0 => 1
  | 0, _ + 1 => 0
  | n + 1, m + 1 => ch n m + ch n (m + 1)
/-! turn by turn -/
/-! the dict of a turn -/
def totF (F : List Nat → Int) (l : List (List Nat)) (φ : List Nat → Int) : Int := (l.map fun s => F s * φ s).sum
structure TabG (n : Nat) (F : List Nat → Int) (l : List (List Nat)) : Prop where
  nd : l.Nodup
  nv : ∀ s ∈ l, NeedV n s
  off : ∀ s, s ∉ l → F s = 0
  nn : ∀ s, 0 ≤ F s
theorem TabG.add {n : Nat} {F : List Nat → Int} {l : List (List Nat)} (h : TabG n F l) {t : List Nat} (ht : NeedV n t) {x : Int} (hx : 0 ≤ x) : TabG n (addF F (t, x)) (insL l t) := by
  have nn : ∀ s, 0 ≤ addF F (t, x) s := fun s => by
    have := h.nn s
    unfold addF
    split <;> omega
  unfold insL
  by_cases hm : t ∈ l
  · rw [if_pos hm]
    exact ⟨h.nd, h.nv, fun s hs => by
      have : s ≠ t := fun e => hs (e ▸ hm)
      simp [addF, this, h.off s hs], nn⟩
  · rw [if_neg hm]
    refine ⟨List.nodup_append.mpr ⟨h.nd, by simp, fun a ha b hb => by rw [List.mem_singleton.mp hb]; exact fun e => hm (e ▸ ha)⟩, fun s hs => ?_, fun s hs => ?_, nn⟩
    · rcases List.mem_append.mp hs with hs | hs
      · exact h.nv s hs
      · rw [List.mem_singleton.mp hs]; exact ht
    · have h1 : s ∉ l := fun z => hs (List.mem_append_left _ z)
      have h2 : s ≠ t := fun e => hs (by rw [e]; exact List.mem_append_right _ (List.mem_singleton.mpr rfl))
      simp [addF, h2, h.off s h1]
theorem TabG.len {n : Nat} (hn : n ≤ 5) {F : List Nat → Int} {l : List (List Nat)} (h : TabG n F l) : l.length ≤ 1024 := by
  refine Nat.le_trans (nd_len h.nd fun v hv => need_mem (h.nv v hv)) ?_
  rw [allN_len]
  exact Nat.pow_le_pow_right (by decide) hn
theorem tot_ge {F : List Nat → Int} (nn : ∀ s, 0 ≤ F s) : ∀ (l : List (List Nat)), 0 ≤ totF F l (fun _ => 1) ∧ ∀ s ∈ l, F s ≤ totF F l fun _ => 1
  | [] => ⟨Int.le_refl _, fun _ h => nomatch h⟩
  | a :: l => by
    obtain ⟨h1, h2⟩ := tot_ge nn l
    have ha := nn a
    have e : totF F (a :: l) (fun _ => 1) = F a + totF F l fun _ => 1 := by
      unfold totF
      rw [List.map_cons, List.sum_cons, Int.mul_one]
    rw [e]
    refine ⟨by omega, fun s hs => ?_⟩
    rcases List.mem_cons.mp hs with rfl | hs
    · omega
    · have := h2 s hs; omega
theorem TabG.le {n : Nat} {F : List Nat → Int} {l : List (List Nat)} (h : TabG n F l) (s : List Nat) : F s ≤ totF F l fun _ => 1 := by
  obtain ⟨h1, h2⟩ := tot_ge h.nn l
  by_cases hs : s ∈ l
  · exact h2 s hs
  · rw [h.off s hs]; exact h1
/-- what is left at nothing more to need -/
theorem tot_none {n : Nat} {F : List Nat → Int} : ∀ {l : List (List Nat)}, l.Nodup → (∀ s ∈ l, s.length = n) → totF F l (fun s => if s = List.replicate s.length 0 then 1 else 0) = if List.replicate n 0 ∈ l then F (List.replicate n 0) else 0
  | [], _, _ => rfl
  | a :: l, hn, hl => by
    obtain ⟨h1, h2⟩ := List.nodup_cons.mp hn
    have ih := tot_none (F := F) h2 fun s hs => hl s (List.mem_cons_of_mem _ hs)
    have e : totF F (a :: l) (fun s => if s = List.replicate s.length 0 then 1 else 0) = F a * (if a = List.replicate a.length 0 then 1 else 0) + totF F l fun s => if s = List.replicate s.length 0 then 1 else 0 := by
      unfold totF
      rw [List.map_cons, List.sum_cons]
    rw [e, ih, hl a List.mem_cons_self]
    by_cases ha : a = List.replicate n 0
    · subst ha
      rw [if_pos rfl, if_neg h1, if_pos List.mem_cons_self]
      omega
    · have : (List.replicate n 0 ∈ a :: l) ↔ List.replicate n 0 ∈ l := by
        rw [List.mem_cons]
        exact ⟨fun h => h.resolve_left fun e => ha e.symm, Or.inr⟩
      rw [if_neg ha, Int.mul_zero, Int.zero_add]
      simp only [this]
theorem TabG.none {n : Nat} {F : List Nat → Int} {l : List (List Nat)} (h : TabG n F l) : totF F l (fun s => if s = List.replicate s.length 0 then 1 else 0) = F (List.replicate n 0) := by
  rw [tot_none h.nd fun s hs => (h.nv s hs).len]
  by_cases hz : List.replicate n 0 ∈ l
  · rw [if_pos hz]
  · rw [if_neg hz, h.off _ hz]
/-! bounds -/
/-! rows -/
end DL
/-! comprehensions over what is not known ahead -/
namespace DL
open PySem L2
end DL
/-! pairs of a whole number and a tuple of ints, lists of such, these sorted -/
namespace DL
open PySem L2 PySem.Spec PyProof.Rows
def qP (i : Int) (ns : List Int) : Hp → V → Prop := fun G v => ∃ b c, v = .ref b ∧ G b = some (.tup [.int i, .ref c]) ∧ G c = some (.tup (ns.map V.int))
theorem qP.mono {i : Int} {ns : List Int} {v : V} (G G' : Hp) (e : Le G G') (h : qP i ns G v) : qP i ns G' v := by
  obtain ⟨b, c, h1, h2, h3⟩ := h
  exact ⟨b, c, h1, e _ _ h2, e _ _ h3⟩
def lqP (qs : List (Int × List Int)) : Hp → V → Prop := fun G v => ∃ (a : Addr) (bs : List (V × Int × List Int)), v = .ref a ∧ Rd G a (.lst (bs.map (·.1))) ∧ bs.map (·.2) = qs ∧ ∀ b ∈ bs, qP b.2.1 b.2.2 G b.1
theorem lqP.mono {qs : List (Int × List Int)} {v : V} (G G' : Hp) (e : Le G G') (h : lqP qs G v) : lqP qs G' v := by
  obtain ⟨a, bs, h1, h2, h3, h4⟩ := h
  exact ⟨a, bs, h1, e.rd h2, h3, fun b hb => (h4 b hb).mono _ _ e⟩
/-! sorted of such a list -/
end DL
/-! dicts whose keys are pairs of tuples of ints -/
namespace DL
open PySem L2 PySem.Spec PyProof.Rows
abbrev PK := List Int × List Int
def pkK (k : PK) : NestedKey := .tup [.tup (k.1.map NestedKey.num), .tup (k.2.map NestedKey.num)]
def PkAt (H : Hp) (b : Addr) (k : PK) : Prop := ∃ c d, H b = some (.tup [.ref c, .ref d]) ∧ H c = some (.tup (k.1.map V.int)) ∧ H d = some (.tup (k.2.map V.int))
theorem PkAt.keep {H H' : Hp} {b : Addr} {k : PK} (e : ∀ c xs, H c = some (.tup xs) → H' c = some (.tup xs)) (h : PkAt H b k) : PkAt H' b k := by
  obtain ⟨c, d, h1, h2, h3⟩ := h
  exact ⟨c, d, e _ _ h1, e _ _ h2, e _ _ h3⟩
theorem PkAt.mono {H H' : Hp} {b : Addr} {k : PK} (e : Le H H') (h : PkAt H b k) : PkAt H' b k := h.keep fun c xs z => e _ _ z
section
variable {P : Program} {w : World} {H : Hp} {h : Heap}
theorem nest_all : ∀ {ns : List Int} {us : List Value}, Vals (ns.map V.int) us → NestedAll h (ns.map NestedKey.num) us
  | [], us, r => by cases r; exact .nil
  | n :: ns, us, r => by
    cases r with
    | cons r1 r2 =>
      obtain ⟨t, rfl⟩ := r1
      exact .cons (.int n t) (nest_all r2)
theorem nest_ints {c : Addr} {ns : List Int} (ok : HOk P w H h) (e : H c = some (.tup (ns.map V.int))) : NestedIs h (.tup (ns.map NestedKey.num)) (.ref c) := by
  have hok := ok c _ e
  obtain ⟨_, us, r, o, g1, g2, n, g3⟩ := hok
  exact .tup g1 g2 g3 (by rw [List.toList_toArray]; exact nest_all r)
theorem depth_nums : ∀ ns : List Int, NestedKey.depthAll (ns.map NestedKey.num) = 0
  | [] => by simp [NestedKey.depthAll]
  | n :: ns => by simp [NestedKey.depthAll, NestedKey.depth, depth_nums ns]
theorem pk_is {b : Addr} {k : PK} (ok : HOk P w H h) (e : PkAt H b k) : (nestedKind P w).is h (pkK k) b := by
  obtain ⟨c, d, h1, h2, h3⟩ := e
  have hok := ok b _ h1
  obtain ⟨_, us, r, o, g1, g2, n, g3⟩ := hok
  refine ⟨.tup g1 g2 g3 ?_, ?_⟩
  · rw [List.toList_toArray]
    cases r with
    | cons r1 r2 =>
      cases r2 with
      | cons r3 r4 =>
        cases r4
        cases r1
        cases r3
        exact .cons (nest_ints ok h2) (.cons (nest_ints ok h3) .nil)
  · unfold pkK
    simp only [NestedKey.depth, NestedKey.depthAll, depth_nums]
    decide
end
abbrev PkE := PK × Addr × V
def PkR (p : PkE) (q : NestedKey × Addr × Value) : Prop := q.1 = pkK p.1 ∧ q.2.1 = p.2.1 ∧ RelV p.2.2 q.2.2
/-- the dict at a as one object -/
def pkO (P : Program) (w : World) (a : Addr) (es : List PkE) : HO := .ext fun h => (a == sysModules) = false ∧ ∃ xs, Paired PkR es xs ∧ ∃ o en ep, h.get? a = some o ∧ o.ExactDict ∧ o.data = .dict en ep ∧ en.toList = xs.map (entryOfKey (nestedKind P w)) ∧ (xs.map (·.1)).Nodup
def PkOb (P : Program) (w : World) (H : Hp) (a : Addr) (es : List PkE) : Prop := H a = some (pkO P w a es) ∨ es = [] ∧ H a = some (.dT [])
structure PkD (P : Program) (w : World) (H : Hp) (a : Addr) (es : List PkE) : Prop where
  obj : PkOb P w H a es
  keys : ∀ e ∈ es, PkAt H e.2.1 e.1
  few : es.length ≤ 100000
theorem PkD.dict {P : Program} {w : World} {H : Hp} {h : Heap} {a : Addr} {es : List PkE} (ok : HOk P w H h) (x : PkD P w H a es) : (a == sysModules) = false ∧ ∃ xs, Paired PkR es xs ∧ h.DictOfH (nestedKind P w) a xs := by
  rcases x.obj with e | ⟨rfl, e⟩
  · obtain ⟨⟨h0, xs, r, o, en, ep, g1, g2, g3, g4, g5⟩, _⟩ := (show ObjOk P w H h a (pkO P w a es) from ok a _ e)
    refine ⟨h0, xs, r, o, en, ep, g1, g2, g3, g4, fun y hy => ?_, g5⟩
    have all : ∀ {l : List PkE} {ys : List (NestedKey × Addr × Value)}, Paired PkR l ys → (∀ e ∈ l, PkAt H e.2.1 e.1) → ∀ y ∈ ys, (nestedKind P w).is h y.1 y.2.1 := fun {l ys} r => by
      induction r with
      | nil => exact fun _ _ z => nomatch z
      | @cons p q ps qs hpq _ ih =>
        intro hk y hy
        rcases List.mem_cons.mp hy with rfl | hy
        · obtain ⟨e1, e2, _⟩ := hpq
          rw [e1, e2]
          exact pk_is ok (hk p List.mem_cons_self)
        · exact ih (fun e he => hk e (List.mem_cons_of_mem _ he)) y hy
    exact all r x.keys y hy
  · obtain ⟨z, y, xs, r, o, en, ep, g1, g2, g3, g4, _⟩ := (show ObjOk P w H h a (.dT []) from ok a _ e)
    cases r
    exact ⟨y, [], .nil, o, en, ep, g1, g2, g3, g4, (fun _ z => nomatch z), List.nodup_nil⟩
/-! readings and rules -/
/-! at the level of data -/
def pkP (k : PK) : Hp → V → Prop := fun G v => ∃ b, v = .ref b ∧ PkAt G b k
theorem pkP.mono {k : PK} {v : V} (G G' : Hp) (e : Le G G') (h : pkP k G v) : pkP k G' v := by
  obtain ⟨b, h1, h2⟩ := h
  exact ⟨b, h1, h2.mono e⟩
end DL
/-! what the second gatherer lacks when the first one has all -/
namespace DL
open PySem L2
structure GS (n : Nat) (a b : List Nat) : Prop where
  ka : Kinds n a
  kb : Kinds n b
  sub : ∀ k ∈ a, k ∈ b
theorem wo_kinds {n : Nat} {a : List Nat} (h : Kinds n a) (k : Nat) : Kinds n (wo a k) := kinds_without h k
theorem GS.left {n : Nat} {a b : List Nat} (h : GS n a b) (k : Nat) : GS n (wo a k) b := ⟨wo_kinds h.ka k, h.kb, fun x hx => h.sub x (List.mem_filter.mp hx).1⟩
theorem kinds_filter {n : Nat} {s : List Nat} (h : Kinds n s) : (List.range n).filter (fun x => decide (x ∈ s)) = s := by
  have n1 : ((List.range n).filter fun x => decide (x ∈ s)).Nodup := List.nodup_range.filter _
  have n2 : s.Nodup := h.up.imp fun e => Nat.ne_of_lt e
  have hp : ((List.range n).filter fun x => decide (x ∈ s)).Perm s := (List.perm_ext_iff_of_nodup n1 n2).mpr fun x => by
    rw [List.mem_filter, List.mem_range, decide_eq_true_eq]
    exact ⟨fun z => z.2, fun z => ⟨h.lt x z, z⟩⟩
  exact hp.eq_of_pairwise (fun a b _ _ h1 h2 => by omega) (List.pairwise_lt_range.filter _) h.up
theorem kinds_allS {n : Nat} {s : List Nat} (h : Kinds n s) : s ∈ allS n := by
  rw [← kinds_filter h]
  exact allS_filter n _
/-! the tables -/
abbrev PN := List Nat × List Nat
structure TabK (n : Nat) (l : List PN) : Prop where
  nd : l.Nodup
  gs : ∀ k ∈ l, Kinds n k.1 ∧ Kinds n k.2
theorem TabK.len {n : Nat} (hn : n ≤ 5) {l : List PN} (h : TabK n l) : l.length ≤ 1024 := by
  have hm : ∀ k ∈ l, k ∈ (allS n).flatMap fun a => (allS n).map fun b => (a, b) := fun k hk => List.mem_flatMap.mpr ⟨k.1, kinds_allS (h.gs k hk).1, List.mem_map.mpr ⟨k.2, kinds_allS (h.gs k hk).2, rfl⟩⟩
  refine Nat.le_trans (nd_len h.nd hm) ?_
  have hl : ∀ (x y : List (List Nat)), (x.flatMap fun a => y.map fun b => (a, b)).length = x.length * y.length := fun x y => by
    induction x with
    | nil => simp
    | cons a t ih => rw [List.flatMap_cons, List.length_append, ih, List.length_map, List.length_cons, Nat.succ_mul, Nat.add_comm]
  rw [hl, allS_len]
  have : 2 ^ n ≤ 2 ^ 5 := Nat.pow_le_pow_right (by decide) hn
  exact Nat.mul_le_mul this this
theorem TabK.put {n : Nat} {l l' : List PN} (h : TabK n l) {k : PN} (hk : Kinds n k.1 ∧ Kinds n k.2) (hs : ∀ x ∈ l', x ∈ l ∨ x = k) (hn : l.Nodup → l'.Nodup) : TabK n l' := ⟨hn h.nd, fun x hx => by
  rcases hs x hx with hx | rfl
  · exact h.gs x hx
  · exact hk⟩
/-! the words -/
end DL
/-! repr of any data; the end of a law that knows that sys.modules stands ahead of it -/
namespace DL
open PySem L2 PySem.Spec PyProof.Rows L2H
/-! how long it is shown -/
structure ShB (d : PyData) (k n : Nat) : Prop where
  dp : d.depth ≤ k
  sh : d.showable = true
  ln : d.shown.length ≤ n
theorem ShB.mono {d : PyData} {k n k' n' : Nat} (h : ShB d k n) (h1 : k ≤ k') (h2 : n ≤ n') : ShB d k' n' := ⟨Nat.le_trans h.dp h1, h.sh, Nat.le_trans h.ln h2⟩
end DL
/-! unlike things are shown unlike, where one of them is made of ints, tuples, lists -/
namespace DL
open PySem
def sL (x : PyData) : List Nat := x.shown.cps.toList
theorem cps_app (a b : Str) : (a ++ b).cps.toList = a.cps.toList ++ b.cps.toList := by
  show (a.cps ++ b.cps).toList = _
  exact Array.toList_append
theorem sL_int (i : Int) : sL (.int i) = (toString i).toList.map Char.toNat := by
  unfold sL
  simp only [PyData.shown]
  rw [Str.ofString_eq_toList]
def bdT (c : Nat) : List PyData → List Nat
  | [] => [c]
  | x :: t => 44 :: 32 :: (sL x ++ bdT c t)
theorem join_bd (c : Nat) : ∀ (t : List PyData) (x : PyData), (Str.join ", " (PyData.shownAll (x :: t))).cps.toList ++ [c] = sL x ++ bdT c t
  | [], x => by
    simp only [PyData.shownAll, Str.join]
    rfl
  | y :: t, x => by
    have ih := join_bd c t y
    simp only [PyData.shownAll] at ih ⊢
    rw [Str.join]
    · rw [cps_app, cps_app, List.append_assoc, List.append_assoc, ih]
      rfl
    · exact fun h => nomatch h
theorem sL_nil : sL (.list []) = [91, 93] := by decide +kernel
theorem sL_list (x : PyData) (t : List PyData) : sL (.list (x :: t)) = 91 :: (sL x ++ bdT 93 t) := by
  have h : (PyData.list (x :: t)).shown = ("[" : Str) ++ Str.join ", " (PyData.shownAll (x :: t)) ++ "]" := by
    simp only [PyData.shown, PyData.shownAll]
    unfold PySem.listText
    rw [show textFrom 0 "[" (PyData.shown x :: PyData.shownAll t) = textFrom 1 (("[" : Str) ++ PyData.shown x) (PyData.shownAll t) by rfl]
    rw [textFrom_pos _ _ _ _ (by decide)]
  unfold sL
  rw [h, cps_app, cps_app, List.append_assoc]
  rw [show ("]" : Str).cps.toList = [93] by decide +kernel, show ("[" : Str).cps.toList = [91] by decide +kernel, join_bd 93 t x]
  rfl
theorem sL_tnil : sL (.tuple []) = [40, 41] := by decide +kernel
theorem sL_tone (x : PyData) : sL (.tuple [x]) = 40 :: (sL x ++ [44, 41]) := by
  unfold sL
  simp only [PyData.shown, PyData.shownAll]
  unfold PySem.tupleText
  rw [cps_app, cps_app]
  rw [show ("(" : Str).cps.toList = [40] by decide +kernel]
  rfl
theorem sL_tup (x y : PyData) (t : List PyData) : sL (.tuple (x :: y :: t)) = 40 :: (sL x ++ bdT 41 (y :: t)) := by
  have h : (PyData.tuple (x :: y :: t)).shown = ("(" : Str) ++ Str.join ", " (PyData.shownAll (x :: y :: t)) ++ ")" := by
    simp only [PyData.shown]
    unfold PySem.tupleText
    have hl : ((PyData.shownAll (x :: y :: t)).length == 1) = false := by simp [PyData.shownAll]
    rw [hl]
    rfl
  unfold sL
  rw [h, cps_app, cps_app, List.append_assoc]
  rw [show (")" : Str).cps.toList = [41] by decide +kernel, show ("(" : Str).cps.toList = [40] by decide +kernel, join_bd 41 (y :: t) x]
  rfl
/-! the first sign -/
def hc : PyData → Nat → Prop
  | .none, c => c = 78
  | .bool _, c => c = 84 ∨ c = 70
  | .int _, c => (48 ≤ c ∧ c ≤ 57) ∨ c = 45
  | .str _, c => c = 39 ∨ c = 34
  | .list _, c => c = 91
  | .tuple _, c => c = 40
  | .dict _, c => c = 123
def dgS (c : Nat) : Prop := (48 ≤ c ∧ c ≤ 57) ∨ c = 45
theorem int_dgS (i : Int) : ∀ c ∈ sL (.int i), dgS c := fun c hc => by
  rw [sL_int] at hc
  obtain ⟨ch, h1, rfl⟩ := List.mem_map.mp hc
  rcases PyProof.Rows.int_sign i ch h1 with h | h
  · have h : (48 : UInt32) ≤ ch.val ∧ ch.val ≤ 57 := by simpa [Char.isDigit] using h
    exact Or.inl ⟨UInt32.le_iff_toNat_le.mp h.1, UInt32.le_iff_toNat_le.mp h.2⟩
  · exact Or.inr (by rw [h]; rfl)
theorem int_ne (i : Int) : sL (.int i) ≠ [] := fun h => by
  rw [sL_int] at h
  have h : (toString i).toList = [] := List.map_eq_nil_iff.mp h
  cases i with
  | ofNat n =>
    have h : (Nat.repr n).toList = [] := h
    rw [Nat.toList_repr] at h
    exact Nat.toDigits_ne_nil h
  | negSucc n =>
    have h : ("-" ++ Nat.repr (n + 1)).toList = [] := h
    simp at h
theorem fold_head (f : Nat → List Nat) : ∀ (l : List Nat) (acc : Array Nat), ∃ t, (l.foldl (fun out c => out ++ (f c).toArray) acc).toList = acc.toList ++ t
  | [], acc => ⟨[], by simp⟩
  | c :: l, acc => by
    obtain ⟨t, ht⟩ := fold_head f l (acc ++ (f c).toArray)
    exact ⟨f c ++ t, by rw [List.foldl_cons, ht]; simp⟩
theorem sL_head : ∀ x : PyData, ∃ c l, sL x = c :: l ∧ hc x c
  | .none => ⟨78, [111, 110, 101], by decide +kernel, rfl⟩
  | .bool true => ⟨84, [114, 117, 101], by decide +kernel, Or.inl rfl⟩
  | .bool false => ⟨70, [97, 108, 115, 101], by decide +kernel, Or.inr rfl⟩
  | .int i => by
    cases h : sL (.int i) with
    | nil => exact absurd h (int_ne i)
    | cons c l => exact ⟨c, l, rfl, int_dgS i c (by rw [h]; exact List.mem_cons_self)⟩
  | .str x => by
    have hq : reprQuote x = 39 ∨ reprQuote x = 34 := by
      unfold reprQuote
      split <;> simp
    obtain ⟨t, ht⟩ := fold_head (PySem.Builtin.Str.reprChar (reprQuote x)) x.cps.toList #[reprQuote x]
    refine ⟨reprQuote x, t ++ [reprQuote x], ?_, hq⟩
    unfold sL
    simp only [PyData.shown]
    unfold reprText
    show ((x.cps.foldl (fun out c => out ++ (PySem.Builtin.Str.reprChar (reprQuote x) c).toArray) #[reprQuote x]).push (reprQuote x)).toList = _
    rw [Array.toList_push, ← Array.foldl_toList, ht]
    rfl
  | .list [] => ⟨91, [93], sL_nil, rfl⟩
  | .list (x :: t) => ⟨91, _, sL_list x t, rfl⟩
  | .tuple [] => ⟨40, [41], sL_tnil, rfl⟩
  | .tuple [x] => ⟨40, _, sL_tone x, rfl⟩
  | .tuple (x :: y :: t) => ⟨40, _, sL_tup x y t, rfl⟩
  | .dict kvs => by
    refine ⟨123, (Str.join ", " (PyData.shownKv kvs)).cps.toList ++ ("}" : Str).cps.toList, ?_, rfl⟩
    unfold sL
    simp only [PyData.shown]
    unfold PySem.dictText
    rw [cps_app, cps_app, show ("{" : Str).cps.toList = [123] by decide +kernel]
    rfl
/-- what may stand behind an item -/
def sep (r : List Nat) : Prop := ∀ c l, r = c :: l → c = 44 ∨ c = 41 ∨ c = 93
theorem dgS_cut : ∀ {l1 l2 r1 r2 : List Nat}, (∀ c ∈ l1, dgS c) → (∀ c ∈ l2, dgS c) → sep r1 → sep r2 → l1 ++ r1 = l2 ++ r2 → l1 = l2 ∧ r1 = r2
  | [], [], r1, r2, _, _, _, _, h => ⟨rfl, h⟩
  | [], c :: l2, r1, r2, _, h2, s1, _, h => by
    have := s1 c _ h
    have := h2 c List.mem_cons_self
    unfold dgS at this
    omega
  | c :: l1, [], r1, r2, h1, _, _, s2, h => by
    have := s2 c _ h.symm
    have := h1 c List.mem_cons_self
    unfold dgS at this
    omega
  | c :: l1, d :: l2, r1, r2, h1, h2, s1, s2, h => by
    rw [List.cons_append, List.cons_append] at h
    injection h with e h
    obtain ⟨h3, h4⟩ := dgS_cut (fun c hc => h1 c (List.mem_cons_of_mem _ hc)) (fun c hc => h2 c (List.mem_cons_of_mem _ hc)) s1 s2 h
    exact ⟨by rw [e, h3], h4⟩
theorem int_text_inj {i j : Int} (h : sL (.int i) = sL (.int j)) : i = j := by
  rw [sL_int, sL_int] at h
  have hc : ∀ {a b : Char}, a.toNat = b.toNat → a = b := fun {a b} e => Char.ext (UInt32.toNat_inj.mp e)
  have h2 : (toString i).toList = (toString j).toList := (List.map_inj_right (fun _ _ e => hc e)).mp h
  exact Int.repr_injective (String.toList_inj.mp h2)
mutual
def itl : PyData → Bool
  | .int _ => true
  | .list ys => itlAll ys
  | .tuple ys => itlAll ys
  | .none => false
  | .bool _ => false
  | .str _ => false
  | .dict _ => false
def itlAll : List PyData → Bool
  | [] => true
  | y :: t => itl y && itlAll t
end
theorem bd_head (c : Nat) (hc : c = 41 ∨ c = 93) (t : List PyData) (r : List Nat) : sep (bdT c t ++ r) := fun d l h => by
  cases t with
  | nil =>
    have h : c :: r = d :: l := h
    injection h with h _
    omega
  | cons x t =>
    have h : 44 :: (32 :: (sL x ++ bdT c t) ++ r) = d :: l := h
    injection h with h _
    omega
theorem same_head {x y : PyData} {r1 r2 : List Nat} (h : sL x ++ r1 = sL y ++ r2) : ∃ c, hc x c ∧ hc y c := by
  obtain ⟨c, l, e1, h1⟩ := sL_head x
  obtain ⟨d, k, e2, h2⟩ := sL_head y
  rw [e1, e2, List.cons_append, List.cons_append] at h
  injection h with e _
  exact ⟨c, h1, e ▸ h2⟩
theorem not_close {y : PyData} (hy : itl y = true) {r1 r2 : List Nat} {c : Nat} (hc' : c = 41 ∨ c = 93) : c :: r1 ≠ sL y ++ r2 := fun h => by
  obtain ⟨d, k, e2, h2⟩ := sL_head y
  rw [e2, List.cons_append] at h
  injection h with e _
  subst e
  cases y <;> simp [itl] at hy <;> simp only [hc] at h2 <;> omega
mutual
theorem cut : ∀ (y x : PyData) (r1 r2 : List Nat), itl y = true → sep r1 → sep r2 → sL x ++ r1 = sL y ++ r2 → x = y ∧ r1 = r2
  | .int i, x, r1, r2, _, s1, s2, h => by
    obtain ⟨c, h1, h2⟩ := same_head h
    cases x with
    | int j =>
      obtain ⟨h3, h4⟩ := dgS_cut (int_dgS j) (int_dgS i) s1 s2 h
      exact ⟨by rw [int_text_inj h3], h4⟩
    | _ => simp only [hc] at h1 h2; omega
  | .list ys, x, r1, r2, hy, s1, s2, h => by
    obtain ⟨c, h1, h2⟩ := same_head h
    cases x with
    | list xs =>
      cases ys with
      | nil =>
        cases xs with
        | nil => exact ⟨rfl, List.append_cancel_left h⟩
        | cons a t =>
          rw [sL_nil, sL_list] at h
          injection h with _ h
          obtain ⟨d, k, e2, h2⟩ := sL_head a
          rw [e2] at h
          injection h with h _
          subst h
          cases a <;> simp only [hc] at h2 <;> omega
      | cons b u =>
        have hy : itl b = true ∧ itlAll u = true := by simpa [itl, itlAll] using hy
        cases xs with
        | nil =>
          rw [sL_nil, sL_list] at h
          injection h with _ h
          have h : 93 :: ([] ++ r1) = (sL b ++ bdT 93 u) ++ r2 := h
          rw [List.append_assoc] at h
          exact absurd h (not_close hy.1 (Or.inr rfl))
        | cons a t =>
          rw [sL_list, sL_list] at h
          injection h with _ h
          have h : (sL a ++ bdT 93 t) ++ r1 = (sL b ++ bdT 93 u) ++ r2 := h
          rw [List.append_assoc, List.append_assoc] at h
          obtain ⟨h3, h4⟩ := cut b a _ _ hy.1 (bd_head 93 (Or.inr rfl) t r1) (bd_head 93 (Or.inr rfl) u r2) h
          obtain ⟨h5, h6⟩ := cutT u t 93 r1 r2 hy.2 (Or.inr rfl) h4
          exact ⟨by rw [h3, h5], h6⟩
    | _ => simp only [hc] at h1 h2; omega
  | .tuple ys, x, r1, r2, hy, s1, s2, h => by
    obtain ⟨c, h1, h2⟩ := same_head h
    cases x with
    | tuple xs =>
      have s41 : ∀ r : List Nat, sep (44 :: r) := fun r d l e => by injection e with e _; omega
      cases ys with
      | nil =>
        cases xs with
        | nil => exact ⟨rfl, List.append_cancel_left h⟩
        | cons a t =>
          obtain ⟨d, k, e2, h2⟩ := sL_head a
          have h3 : d = 41 := by
            cases t with
            | nil =>
              rw [sL_tnil, sL_tone, e2] at h
              injection h with _ h
              injection h with h _
            | cons b t =>
              rw [sL_tnil, sL_tup, e2] at h
              injection h with _ h
              injection h with h _
          subst h3
          cases a <;> simp only [hc] at h2 <;> omega
      | cons b u =>
        have hy : itl b = true ∧ itlAll u = true := by simpa [itl, itlAll] using hy
        cases xs with
        | nil =>
          rw [sL_tnil] at h
          cases u with
          | nil =>
            rw [sL_tone] at h
            injection h with _ h
            have h : 41 :: ([] ++ r1) = (sL b ++ [44, 41]) ++ r2 := h
            rw [List.append_assoc] at h
            exact absurd h (not_close hy.1 (Or.inl rfl))
          | cons b2 u =>
            rw [sL_tup] at h
            injection h with _ h
            have h : 41 :: ([] ++ r1) = (sL b ++ bdT 41 (b2 :: u)) ++ r2 := h
            rw [List.append_assoc] at h
            exact absurd h (not_close hy.1 (Or.inl rfl))
        | cons a t =>
          cases t with
          | nil =>
            cases u with
            | nil =>
              rw [sL_tone, sL_tone] at h
              injection h with _ h
              have h : (sL a ++ [44, 41]) ++ r1 = (sL b ++ [44, 41]) ++ r2 := h
              rw [List.append_assoc, List.append_assoc] at h
              obtain ⟨h3, h4⟩ := cut b a _ _ hy.1 (s41 _) (s41 _) h
              exact ⟨by rw [h3], by injection h4 with _ h4; injection h4 with _ h4⟩
            | cons b2 u =>
              rw [sL_tone, sL_tup] at h
              injection h with _ h
              have h : (sL a ++ [44, 41]) ++ r1 = (sL b ++ bdT 41 (b2 :: u)) ++ r2 := h
              rw [List.append_assoc, List.append_assoc] at h
              obtain ⟨h3, h4⟩ := cut b a _ _ hy.1 (s41 _) (s41 _) h
              have h4 : 44 :: (41 :: r1) = 44 :: (32 :: (sL b2 ++ bdT 41 u) ++ r2) := h4
              injection h4 with _ h4
              injection h4 with h4 _
              omega
          | cons a2 t =>
            cases u with
            | nil =>
              rw [sL_tup, sL_tone] at h
              injection h with _ h
              have h : (sL a ++ bdT 41 (a2 :: t)) ++ r1 = (sL b ++ [44, 41]) ++ r2 := h
              rw [List.append_assoc, List.append_assoc] at h
              obtain ⟨h3, h4⟩ := cut b a _ _ hy.1 (s41 _) (s41 _) h
              have h4 : 44 :: (32 :: (sL a2 ++ bdT 41 t) ++ r1) = 44 :: (41 :: r2) := h4
              injection h4 with _ h4
              injection h4 with h4 _
              omega
            | cons b2 u =>
              rw [sL_tup, sL_tup] at h
              injection h with _ h
              have h : (sL a ++ bdT 41 (a2 :: t)) ++ r1 = (sL b ++ bdT 41 (b2 :: u)) ++ r2 := h
              rw [List.append_assoc, List.append_assoc] at h
              obtain ⟨h3, h4⟩ := cut b a _ _ hy.1 (s41 _) (s41 _) h
              obtain ⟨h5, h6⟩ := cutT (b2 :: u) (a2 :: t) 41 r1 r2 hy.2 (Or.inl rfl) h4
              exact ⟨by rw [h3, h5], h6⟩
    | _ => simp only [hc] at h1 h2; omega
  | .none, _, _, _, hy, _, _, _ => by simp [itl] at hy
  | .bool _, _, _, _, hy, _, _, _ => by simp [itl] at hy
  | .str _, _, _, _, hy, _, _, _ => by simp [itl] at hy
  | .dict _, _, _, _, hy, _, _, _ => by simp [itl] at hy
theorem cutT : ∀ (ys xs : List PyData) (c : Nat) (r1 r2 : List Nat), itlAll ys = true → (c = 41 ∨ c = 93) → bdT c xs ++ r1 = bdT c ys ++ r2 → xs = ys ∧ r1 = r2
  | [], xs, c, r1, r2, _, hc', h => by
    cases xs with
    | nil => exact ⟨rfl, List.append_cancel_left h⟩
    | cons a t =>
      have h : 44 :: (32 :: (sL a ++ bdT c t) ++ r1) = c :: r2 := h
      injection h with h _
      omega
  | b :: u, xs, c, r1, r2, hy, hc', h => by
    have hy : itl b = true ∧ itlAll u = true := by simpa [itlAll] using hy
    cases xs with
    | nil =>
      have h : c :: r1 = 44 :: (32 :: (sL b ++ bdT c u) ++ r2) := h
      injection h with h _
      omega
    | cons a t =>
      have h : 44 :: (32 :: ((sL a ++ bdT c t) ++ r1)) = 44 :: (32 :: ((sL b ++ bdT c u) ++ r2)) := h
      injection h with _ h
      injection h with _ h
      rw [List.append_assoc, List.append_assoc] at h
      obtain ⟨h3, h4⟩ := cut b a _ _ hy.1 (bd_head c hc' t r1) (bd_head c hc' u r2) h
      obtain ⟨h5, h6⟩ := cutT u t c r1 r2 hy.2 hc' h4
      exact ⟨by rw [h3, h5], h6⟩
end
end DL
/-! k33: pack papers among things that are told otherwise -/
namespace DL
open PySem L2
/-! it is the paper where it is shown as the paper -/
end DL
/-! list.sort of tuples of which the first one is empty -/
/-! list(d), sorted(d), dict(d) of a dict with tuple keys -/
namespace DL
open PySem L2 PySem.Spec PyProof.Rows
/-! list(d) -/
/-! sorted(d) -/
end DL
/-! dict(d), and these at the level of data -/
namespace DL
open PySem L2 PySem.Spec PyProof.Rows
def hI (ns : List Int) : Int := reduceHash (Builtin.Tuple.tupleHashOf (ns.map hashInt))
/-! at the level of data -/
end DL
/-! k21: rules, papers that are over or under, words -/
namespace DL
open PySem L2
end DL
/-! k21: papers that are over or under: plain mathematics, words -/
namespace DL
open PySem L2
def hQ : Rat := mkRat 1 2
/-- papers whose numbers are small enough -/
structure FB (ss : List Int) (P : List Nat → Rat) : Prop where
  nn : ∀ s, Kinds ss.length s → 0 ≤ P s
  fr : ∀ s, Kinds ss.length s → FrB (P s) 1400
  acc : ∀ s, Kinds ss.length s → ∀ i, FrB (dueAcc ss P s (s.take i)) 1400
theorem PB.fb {ss : List Int} (hs : Shares ss) {P : List Nat → Rat} (h : PB ss P) : FB ss P := ⟨fun s hk => (h s hk).nn, fun s hk => (h.fr hs hk).mono (by decide), fun s hk i => (h.accFr hs hk i).mono (by decide)⟩
theorem FB.due {ss : List Int} (hs : Shares ss) {P : List Nat → Rat} (h : FB ss P) {s : List Nat} (hk : Kinds ss.length s) (h0 : s ≠ []) : FrB (dueT ss P s) 1420 := by
  have ha := h.acc s hk s.length
  rw [List.take_length] at ha
  have hp := sumP_pos hs h0 hk.lt
  have hl := sumP_le hs hk
  exact ha.mul (b := 8) (frB_mk (bt_lit (n := 1) (by decide) (by decide)) (bt_lit (n := 8) (by show _ < 256; omega) (by decide)) (by omega)) (by decide)
/-- 1/2 more -/
def addH (P : List Nat → Rat) : List Nat → Rat := fun s => if s = [] then P s else P s + hQ
/-! the time paper's own numbers -/
/-! words -/
/-- a paper stands at p -/
structure PapAt (ss : List Int) (m : Mm) (p : Addr) (P : List Nat → Rat) : Prop where
  sh : Shares ss
  fb : FB ss P
  nil : P [] = 0
  mem : m p = some (.dT (tabT P ([] :: rsX ss.length)))
theorem PapAt.less {ss : List Int} {m m' : Mm} {p : Addr} {P : List Nat → Rat} (h : PapAt ss m p P) (hl : ∀ a o, m a = some o → m' a = some o) : PapAt ss m' p P := ⟨h.sh, h.fb, h.nil, hl _ _ h.mem⟩
theorem rs_all : ∀ n : _root_.Fin 6, ∀ s ∈ allS n.val, s ∈ [] :: rsX n.val := by decide +kernel
/-! what they tell -/
/-- the paper while 1/2 is added -/
def hF (ss : List Int) (l : List (List Nat)) : List Nat → Rat := fun s => if s ∈ l then addH (timeT ss) s else timeT ss s
end DL
/-! things that may be dicts with tuple keys, lists of such things -/
namespace DL
open PySem L2
/-! dicts of data -/
section
variable {K : PySem.W.Frag} {r : List Val} {m : Mm} {Q : Val → Mm → Prop} {te tl ta tb : TE} {tt : TT} {N : List Val → Mm → Prop} {E : Val → Mm → Prop} {t : TS}
/-! len of anything that has one -/
/-! lists of any values, that stay -/
def vL (K : PySem.W.Frag) (rs : List Val) : Val := .g fun G v => ∃ a xs, v = .ref a ∧ Rd G a (.lst xs) ∧ VRs K G rs xs
theorem vL_mono (rs : List Val) (v : V) : ∀ G G', Le G G' → (∃ a xs, v = .ref a ∧ Rd G a (.lst xs) ∧ VRs K G rs xs) → ∃ a xs, v = .ref a ∧ Rd G' a (.lst xs) ∧ VRs K G' rs xs := fun G G' e ⟨a, xs, h1, h2, h3⟩ => ⟨a, xs, h1, e.rd h2, h3.mono e⟩
theorem vL_mk {G : Hp} {rs : List Val} {a : Addr} {xs : List V} (h : Rd G a (.lst xs)) (h2 : VRs K G rs xs) : VR K G (vL K rs) (.ref a) := .g ⟨a, xs, rfl, h, h2⟩ (vL_mono rs _)
theorem vL_of {G : Hp} {rs : List Val} {v : V} (h : VR K G (vL K rs) v) : ∃ a xs, v = .ref a ∧ Rd G a (.lst xs) ∧ VRs K G rs xs := by
  cases h with
  | g h _ => exact h
theorem ev_lstV {t : TA} (h : EvA K t r m fun xs m1 => xs.length ≤ 100000 ∧ Q (vL K xs) m1) : Ev K (tLst t) r m Q := fun σ H G S L R k =>
  h σ H G S L _ fun vs H1 G1 xs m1 ⟨hl, q⟩ S1 e1 r1 => by
    refine ⟨by rw [r1.length]; exact Nat.le_trans hl (by decide), fun p hp => ?_⟩
    have hg := S1.free hp
    exact k (.ref p) _ (upd G1 p _) _ m1 q (S1.fix hp) (e1.trans (Le.new hg)) (vL_mk (Rd.of upd_same) (r1.mono (Le.new hg)))
theorem o2_ixV {rs : List Val} {i : Nat} {x : Val} (h : rs[i]? = some x) (q : Q x m) : Op2 K (rIx K) (vL K rs) (.d (.int (i : Int))) m Q := fun H G v w S a b R k => by
  rw [int_of b]
  obtain ⟨p, xs, rfl, h1, h2⟩ := vL_of a
  obtain ⟨y, hy, ry⟩ := VRs.atI h2 h
  exact Or.inl ⟨p, xs, (i : Int), y, rfl, rfl, S.sqL (Or.inl h1), L2.atI_nat hy, k _ H G _ m q S (Le.refl G) ry⟩
/-! x in a list of tuples -/
end
end DL
/-! instances of a class: attributes, methods, at the level of data; tuples of any things; tuples known whole put together -/
namespace DL
open PySem L2 PySem.Spec PyProof.Rows L2H
/-! tuples known whole: displays and sums -/
def tTupFz (t : TA) : TE := fun σ H Q => t σ H fun xs H1 => xs.length ≤ sizeLine ∧ ∀ p ob, H1 p = none → ob.cls = .type "tuple" → ob.dict = none → Q (.ref p) (upd H1 p (.frz ob (.tup xs)))
section
variable {X : Cx} {es : List Expr} {t : TA} {pos : Pos}
theorem pe_tupFz {x1} (h : PA X es t) : PE X (.Tuple es x1 pos) (tTupFz t) := by
  refine ⟨fun pins s σ H Q I hq => ?_⟩
  refine wpAny_Tuple_spliced (thn (h.run pos pins s σ H _ I hq) fun us s1 ⟨xs, H1, I1, r, z, q⟩ => ⟨by rw [← r.length]; exact z, ?_⟩)
  have hf : H1 s1.heap.objs.size = none := I1.hok.fresh (Nat.le_refl _)
  refine ⟨.ref s1.heap.objs.size, _, I1.laid (a := s1.heap.objs.size) (o := .frz { cls := .type "tuple", data := .seq us.toArray } (.tup xs)) (t' := s1.toks) (fun b u e => Heap.get?_push_of_some _ e) (Nat.le_refl _) ?_, rfl, q _ _ hf rfl rfl⟩
  exact ⟨Heap.get?_push_size _ rfl, z, us, r, ⟨_, Heap.get?_push_size _ rfl, rfl, _, rfl⟩⟩
def rCatF : R2 := fun x y H Q => ∃ a b xs ys oa ob, x = .ref a ∧ y = .ref b ∧ H a = some (.frz oa (.tup xs)) ∧ H b = some (.frz ob (.tup ys)) ∧ xs.length + ys.length ≤ sizeLine ∧
  (xs = [] → Q (.ref b) H) ∧ (xs ≠ [] → ys = [] → Q (.ref a) H) ∧ (xs ≠ [] → ys ≠ [] → ∀ p o, H p = none → o.cls = .type "tuple" → o.dict = none → Q (.ref p) (upd H p (.frz o (.tup (xs ++ ys)))))
theorem op_catF : OpR X (binaryOp .Add) rCatF := by
  intro pins s σ H x y v u Q I rx ry h
  obtain ⟨a, b, xs, ys, oa, ob, rfl, rfl, ha, hb, hz, q0, q1, q2⟩ := h
  cases rx
  cases ry
  have ha : SqT X.K H a xs := Or.inl (Or.inr ⟨_, ha⟩)
  have hb : SqT X.K H b ys := Or.inl (Or.inr ⟨_, hb⟩)
  obtain ⟨its, r1, p1, _⟩ := I.tuple ha
  obtain ⟨its2, r2, p2, _⟩ := I.tuple hb
  by_cases hx : xs = []
  · subst hx
    cases r1
    exact cat_tup0 p1 p2 ⟨.ref b, H, I, rfl, q0 rfl⟩
  refine HT.cat_tup p1 p2 (fun z => hx (r1.nil_iff.mp z)) (fun z => ⟨.ref a, H, I, rfl, q1 hx (r2.nil_iff.mp z)⟩) (fun z => ?_) (by rw [← r1.length, ← r2.length]; exact hz)
  refine ⟨.ref s.heap.objs.size, _, I.laid (t' := s.toks) (a := s.heap.objs.size) (o := .frz { cls := .type "tuple", data := .seq (its ++ its2).toArray } (.tup (xs ++ ys))) (fun b ob q => Heap.get?_push_of_some _ q) (Nat.le_refl _) ?_, rfl, q2 hx (fun w => z (r2.nil_iff.mpr w)) _ _ (I.hok.fresh (Nat.le_refl _)) rfl rfl⟩
  refine ⟨?_, by rw [List.length_append]; exact hz, _, r1.append r2, IsTup.new _ _⟩
  exact Heap.get?_push_size _ rfl
end
/-! attributes as targets -/
def gFld (K : PySem.W.Frag) (to : TE) (f : Str) : TG := fun v σ H Q => to σ H fun x H1 => ∃ a C dx fs, x = .ref a ∧ H1 a = some (.ins C dx fs) ∧ Cls K C ∧ NoAttr K C f ∧ fs.length < 1000 ∧ Q σ (upd H1 a (.ins C dx (putF f v fs)))
theorem pg_fld {X : Cx} {o : Expr} {to : TE} {f : Str} {pos : Pos} (ho : PE X o to)
    (ha : ∀ v, assign (.Attribute o f pos) X.env v = (do
      let ov ← holding [v] (eval o X.env)
      standAt pos.atName
      holding [v, ov] (setAttr ov f v)
      release [v, ov] []) := by intro _; rfl) : PG X (.Attribute o f pos) (gFld X.K to f) := by
  refine ⟨fun pins s σ H v u Q I r h => ?_⟩
  rw [ha]
  refine wpAny_bind (wpAny_holding (thn (ho.run pins s σ H _ I h) fun ov s1 ⟨x, H1, I1, r1, a, C, dx, fs, ex, ea, c, n, l, q⟩ => ?_))
  subst ex
  obtain rfl : ov = Value.ref a := r1
  refine wpAny_bind (wpAny_standAt (wpAny_bind (wpAny_holding (setattr_ok I1 ea c n l r fun s3 I3 => ?_))))
  exact wpAny_release ⟨σ, _, I3, q⟩
/-! methods -/
structure Mt (P : Program) (w : World) (K : PySem.W.Frag) (mg : Str → Option Value) (base : Heap) (C : Addr) (k : Nat) (m : Str) (sp : FSp) : Prop where
  ex : ∃ f fd ps, FnOk P w K mg base CX0 k f fd ps (spD K sp) ∧ Meth K C m f ∧ Binds K fd ps []
structure MtX (P : Program) (w : World) (K : PySem.W.Frag) (mg : Str → Option Value) (base : Heap) (C : Addr) (k : Nat) (m : Str) (sp : FSpX) : Prop where
  ex : ∃ f fd ps, FnOk P w K mg base (L2N.CX P w) k f fd ps (spX K sp) ∧ Meth K C m f ∧ Binds K fd ps []
/-- o.m(..), a method that may refuse -/
def tMethX (C : Addr) (m : Str) (sp : Sp) (E : L2.St → XK) (ta : TE) (t : TA) : TE := fun σ H Q => ta σ H fun x H1 => ∃ a dx fs, x = .ref a ∧ H1 a = some (.ins C dx fs) ∧ fs.lookup m = none ∧ t σ H1 fun vs H2 => sp (x :: vs) H2 Q (E σ)
section
variable {X : Cx} {k j : Nat} {m : Str} {sp : FSp} {sx : FSpX} {o e : Expr} {es : List Expr} {ta : TE} {t : TA} {pos apos : Pos} {P : Program} {w : World} {K : PySem.W.Frag} {mg : Str → Option Value} {base : Heap} {C : Addr} {pl : Sem Bool}
theorem pe_mt (c : Mt P w K mg base C k m sp) (T : Cls K C) (hr : Room j X.A) (hk : k ≤ j) (ho : PE X o ta) (ha : PA X (e :: es) t) (hP : X.prog = P := by rfl) (hw : X.w = w := by rfl) (hK : X.K = K := by rfl) (hmg : X.mg = mg := by rfl) (hbs : X.base = base := by rfl)
    (hst : starEach (e :: es) X.env = (false, eval e X.env) :: starEach es X.env := by rfl) (hpl : (backTo pos (starEach es X.env)).any (·.1) = false := by rfl)
    (ht : eval (.Call (.Attribute o m apos) (e :: es) [] pos) X.env = (do
      let ov ← eval o X.env
      standAt apos.atName
      let (f, first) ← holding [ov] (getMethod ov m pl)
      callWith pos f first (backTo pos (starEach (e :: es) X.env)) (backToKw pos (keywordEach [] X.env))) := by rfl) :
    PE X (.Call (.Attribute o m apos) (e :: es) [] pos) (tMeth C m (spD K sp) [] E0 ta t) := by
  subst hP hw hK hmg hbs
  obtain ⟨f, fd, ps, F, hm, hb⟩ := c.ex
  exact pe_meth ho T hm F (hr.mono hk) hb .nil pass0 ha hst hpl ht
theorem pe_mt0 (c : Mt P w K mg base C k m sp) (T : Cls K C) (hr : Room j X.A) (hk : k ≤ j) (ho : PE X o ta) (hP : X.prog = P := by rfl) (hw : X.w = w := by rfl) (hK : X.K = K := by rfl) (hmg : X.mg = mg := by rfl) (hbs : X.base = base := by rfl)
    (ht : eval (.Call (.Attribute o m apos) [] [] pos) X.env = (do
      let ov ← eval o X.env
      standAt apos.atName
      let (f, first) ← holding [ov] (getMethod ov m pl)
      callWith pos f first (backTo pos (starEach [] X.env)) (backToKw pos (keywordEach [] X.env))) := by rfl) :
    PE X (.Call (.Attribute o m apos) [] [] pos) (tMeth C m (spD K sp) [] E0 ta tNil) := by
  subst hP hw hK hmg hbs
  obtain ⟨f, fd, ps, F, hm, hb⟩ := c.ex
  exact pe_meth0 ho T hm F (hr.mono hk) hb .nil pass0 ht
theorem run_fnSX {CX : CXT} {pins : List (Addr × Obj)} {σ : L2.St} {H : Hp} {s : Shared} {Q : VK} {us : List Value} {vs : List V} {f : Addr} {fd : FuncData} {ps : List Str} {sp : Sp} {E : L2.St → XK} (F : FnOk X.prog X.w X.K X.mg X.base CX k f fd ps sp) (hr : Room k X.A) (hb : Binds X.K fd ps []) (hx : PassesAt CX X σ (E σ))
    (I : L2.Inv X pins σ H s) (r : Vals vs us) (h : sp vs H Q (E σ)) : wpAny (model X.prog X.w) X.A (call (.ref f) us) (EP X pins σ Q) X.xe s := by
  have hl : (us ++ []).length = ps.length := by rw [List.append_nil, ← r.length]; exact F.len _ _ _ _ h
  have hb' := hb s us I.kIn hl
  rw [List.append_nil] at hb'
  refine wpAny_call (codeAny_mono (F.run X.A X.stack s H ⟨us, []⟩ us vs Q (E σ) hr I.env0 hb' r h) fun r s' hq => ?_)
  match r, hq with
  | .error er, hq => exact hx pins H s er s' I hq
  | .ok (.ret _), hq => exact I.after hq
theorem pe_mtX {W : L2.WX} (c : MtX P w K mg base C k m sx) (T : Cls K C) (hr : Room j X.A) (hk : k ≤ j) (tk : L2N.Takes X W) (ho : PE X o ta) (ha : PA X (e :: es) t) (hP : X.prog = P := by rfl) (hw : X.w = w := by rfl) (hK : X.K = K := by rfl) (hmg : X.mg = mg := by rfl) (hbs : X.base = base := by rfl)
    (hst : starEach (e :: es) X.env = (false, eval e X.env) :: starEach es X.env := by rfl) (hpl : (backTo pos (starEach es X.env)).any (·.1) = false := by rfl)
    (ht : eval (.Call (.Attribute o m apos) (e :: es) [] pos) X.env = (do
      let ov ← eval o X.env
      standAt apos.atName
      let (f, first) ← holding [ov] (getMethod ov m pl)
      callWith pos f first (backTo pos (starEach (e :: es) X.env)) (backToKw pos (keywordEach [] X.env))) := by rfl) :
    PE X (.Call (.Attribute o m apos) (e :: es) [] pos) (tMethX C m (spX K sx) (WE W) ta t) := by
  subst hP hw hK hmg hbs
  obtain ⟨f, fd, ps, F, hm, hb⟩ := c.ex
  refine ⟨fun pins s σ H Q I h => ?_⟩
  refine PySem.W.methodCall_KW (pl := pl) (thn (ho.run pins s σ H _ I h) fun u s1 ⟨x, H1, I1, rx, a, dx, fs, ex, ea, l, q⟩ => ?_) ht
  subst ex
  obtain rfl : u = Value.ref a := rx
  refine getmeth_ok I1 ea T hm l ?_
  refine PySem.W.callWith_K (first := [.ref a]) (h₀ := X.base) I.ok.mod.kin hm.kp (thn (ha.run pos pins s1 σ H1 _ I1 q) fun us s2 ⟨vs, H2, I2, r, q2⟩ => ⟨I2.kIn, ?_⟩) hst hpl
  exact run_fnSX (us := .ref a :: us) (vs := .ref a :: vs) (E := WE W) F (hr.mono hk) hb (L2N.passAt tk σ) I2 (.cons rfl r) q2
theorem pe_mtX0 {W : L2.WX} (c : MtX P w K mg base C k m sx) (T : Cls K C) (hr : Room j X.A) (hk : k ≤ j) (tk : L2N.Takes X W) (ho : PE X o ta) (hP : X.prog = P := by rfl) (hw : X.w = w := by rfl) (hK : X.K = K := by rfl) (hmg : X.mg = mg := by rfl) (hbs : X.base = base := by rfl)
    (ht : eval (.Call (.Attribute o m apos) [] [] pos) X.env = (do
      let ov ← eval o X.env
      standAt apos.atName
      let (f, first) ← holding [ov] (getMethod ov m pl)
      callWith pos f first (backTo pos (starEach [] X.env)) (backToKw pos (keywordEach [] X.env))) := by rfl) :
    PE X (.Call (.Attribute o m apos) [] [] pos) (tMethX C m (spX K sx) (WE W) ta tNil) := by
  subst hP hw hK hmg hbs
  obtain ⟨f, fd, ps, F, hm, hb⟩ := c.ex
  refine ⟨fun pins s σ H Q I h => ?_⟩
  refine PySem.W.methodCall_KW (pl := pl) (thn (ho.run pins s σ H _ I h) fun u s1 ⟨x, H1, I1, rx, a, dx, fs, ex, ea, l, q⟩ => ?_) ht
  subst ex
  obtain rfl : u = Value.ref a := rx
  refine getmeth_ok I1 ea T hm l ?_
  exact PySem.W.callWith_K0 (first := [.ref a]) I1.kIn hm.kp (run_fnSX (us := [.ref a]) (vs := [.ref a]) (E := WE W) F (hr.mono hk) hb (L2N.passAt tk σ) I1 (.cons rfl .nil) q)
end
/-! K-named rules -/
section
variable {X : Cx} (K : PySem.W.Frag)
theorem kFld {o : Expr} {ta : TE} {f : Str} {pos : Pos} (ho : PE X o ta) (hb : attributeBase o f X.env (eval o X.env) = eval o X.env := by rfl) (h : X.K = K := by rfl) : PE X (.Attribute o f pos) (tFld K ta f) := h ▸ pe_fld ho hb
theorem kSFld {o value : Expr} {ta tv : TE} {f : Str} {pos pos' : Pos} (ho : PE X o ta) (hv : PE X value tv) (hs : swapsWith value (some (.Attribute o f pos')) pos.line X.env = pure false := by rfl) (h : X.K = K := by rfl) : PS X (.Assign [.Attribute o f pos'] value pos) (sFld K ta tv f) := h ▸ ps_fld ho hv hs
theorem kgFld {o : Expr} {to : TE} {f : Str} {pos : Pos} (ho : PE X o to) (h : X.K = K := by rfl) : PG X (.Attribute o f pos) (gFld K to f) := h ▸ pg_fld ho
def rAddF : R2 := fun x y H Q => rCatF x y H Q ∨ rAdd K x y H Q
theorem kAddF (h : X.K = K := by rfl) : OpR X (binaryOp .Add) (rAddF K) := h ▸ op_catF.or oAdd
theorem kBM0 {e : Expr} {T : String} {r : V → List V → Hp → VK → Prop} {to : TE} (hp : PE X e (tBM0 X.K T r to)) (h : X.K = K := by rfl) : PE X e (tBM0 K T r to) := h ▸ hp
end
/-! ## the level of data -/
def fRel (K : PySem.W.Frag) (G : Hp) (p : Str × Val) (q : Str × V) : Prop := q.1 = p.1 ∧ VR K G p.2 q.2
def insQ (K : PySem.W.Frag) (C : Addr) (fs : List (Str × Val)) : Hp → Hp → Addr → Prop := fun G H a => ∃ dx vs, H a = some (.ins C dx vs) ∧ Paired (fRel K G) fs vs
/-- an instance of the class at C -/
def insM (K : PySem.W.Frag) (C : Addr) (fs : List (Str × Val)) : MO := .g (insQ K C fs)
def putFV (f : Str) (x : Val) : List (Str × Val) → List (Str × Val)
  | [] => [(f, x)]
  | (g, y) :: r => if g = f then (g, x) :: r else (g, y) :: putFV f x r
def vtQ (K : PySem.W.Frag) (rs : List Val) : Hp → V → Prop := fun G v => ∃ p xs, v = .ref p ∧ G p = some (.tup xs) ∧ VRs K G rs xs
/-- a tuple of any things -/
def vT (K : PySem.W.Frag) (rs : List Val) : Val := .g (vtQ K rs)
section
variable {K : PySem.W.Frag} {G H : Hp} {a p C : Addr} {fs : List (Str × Val)} {m : Mm}
theorem frel_mono {G' : Hp} (e : Le G G') : ∀ {fs : List (Str × Val)} {vs : List (Str × V)}, Paired (fRel K G) fs vs → Paired (fRel K G') fs vs
  | _, _, .nil => .nil
  | _, _, .cons h t => .cons ⟨h.1, h.2.mono e⟩ (frel_mono e t)
theorem mr_ins (h : insQ K C fs G H a) : MR K G H a (insM K C fs) := by
  refine ⟨h, fun G G' H H' e hh ⟨dx, vs, h1, h2⟩ => ⟨dx, vs, hh.trans h1, frel_mono e h2⟩, ?_, ?_⟩
  · obtain ⟨dx, vs, h1, _⟩ := h
    exact ⟨_, h1⟩
  · obtain ⟨dx, vs, h1, _⟩ := h
    intro xs z
    rw [z] at h1; cases h1
theorem Sta.ins (S : Sta K m H G) (hm : m p = some (insM K C fs)) : ∃ dx vs, H p = some (.ins C dx vs) ∧ Paired (fRel K G) fs vs := (S.mem p _ hm).1
theorem frel_some {f : Str} {x : Val} : ∀ {fs : List (Str × Val)} {vs : List (Str × V)}, Paired (fRel K G) fs vs → fs.lookup f = some x → ∃ v, vs.lookup f = some v ∧ VR K G x v
  | _, _, .nil, h => nomatch h
  | _, _, @Paired.cons _ _ _ (g, y) (g', v) _ _ h t, hl => by
    obtain ⟨h1, h2⟩ := h
    have h1 : g' = g := h1
    subst h1
    rw [List.lookup] at hl ⊢
    cases e : (f == g') with
    | true => rw [e] at hl; cases hl; exact ⟨v, rfl, h2⟩
    | false => rw [e] at hl; exact frel_some t hl
theorem frel_none {f : Str} : ∀ {fs : List (Str × Val)} {vs : List (Str × V)}, Paired (fRel K G) fs vs → fs.lookup f = none → vs.lookup f = none
  | _, _, .nil, h => rfl
  | _, _, @Paired.cons _ _ _ (g, y) (g', v) _ _ h t, hl => by
    obtain ⟨h1, h2⟩ := h
    have h1 : g' = g := h1
    subst h1
    rw [List.lookup] at hl ⊢
    cases e : (f == g') with
    | true => rw [e] at hl; cases hl
    | false => rw [e] at hl; exact frel_none t hl
theorem frel_put {f : Str} {x : Val} {v : V} (hx : VR K G x v) : ∀ {fs : List (Str × Val)} {vs : List (Str × V)}, Paired (fRel K G) fs vs → Paired (fRel K G) (putFV f x fs) (putF f v vs)
  | _, _, .nil => .cons ⟨rfl, hx⟩ .nil
  | _, _, @Paired.cons _ _ _ (g, y) (g', u) _ _ h t => by
    obtain ⟨h1, h2⟩ := h
    have h1 : g' = g := h1
    subst h1
    unfold putFV putF
    by_cases e : g' = f
    · rw [if_pos e, if_pos e]; exact .cons ⟨rfl, hx⟩ t
    · rw [if_neg e, if_neg e]; exact .cons ⟨rfl, h2⟩ (frel_put hx t)
theorem vtQ.mono {rs : List Val} {v : V} (G G' : Hp) (e : Le G G') (h : vtQ K rs G v) : vtQ K rs G' v := by
  obtain ⟨p, xs, h1, h2, h3⟩ := h
  exact ⟨p, xs, h1, e _ _ h2, h3.mono e⟩
end
section
variable {K : PySem.W.Frag} {r : List Val} {m : Mm} {Q : Val → Mm → Prop} {ta tv te to : TE} {t : TA} {N : List Val → Mm → Prop} {E : Val → Mm → Prop} {C : Addr} {f : Str}
/-- o.f -/
theorem ev_fld (T : Cls K C) (nf : NoAttr K C f) (h : Ev K ta r m fun x m1 => ∃ p fs y, x = .v (.ref p) ∧ m1 p = some (insM K C fs) ∧ fs.lookup f = some y ∧ Q y m1) : Ev K (tFld K ta f) r m Q := fun σ H G S L R k =>
  h σ H G S L _ fun v H1 G1 x m1 ⟨p, fs, y, hx, hm, hl, q⟩ S1 e1 r1 => by
    subst hx
    obtain rfl := r1.eq
    obtain ⟨dx, vs, g1, g2⟩ := S1.ins hm
    obtain ⟨u, h1, h2⟩ := frel_some g2 hl
    exact ⟨p, C, dx, vs, u, rfl, g1, T, nf, h1, k u H1 G1 y m1 q S1 e1 h2⟩
/-- o.f, a tuple known whole, as data -/
theorem ev_fldF (T : Cls K C) (nf : NoAttr K C f) (h : Ev K ta r m fun x m1 => ∃ p fs ns, x = .v (.ref p) ∧ m1 p = some (insM K C fs) ∧ fs.lookup f = some (.f ns) ∧ Q (.d (tupI ns)) m1) : Ev K (tFld K ta f) r m Q := fun σ H G S L R k =>
  h σ H G S L _ fun v H1 G1 x m1 ⟨p, fs, ns, hx, hm, hl, q⟩ S1 e1 r1 => by
    subst hx
    obtain rfl := r1.eq
    obtain ⟨dx, vs, g1, g2⟩ := S1.ins hm
    obtain ⟨u, h1, h2⟩ := frel_some g2 hl
    exact ⟨p, C, dx, vs, u, rfl, g1, T, nf, h1, k u H1 G1 _ m1 q S1 e1 (f_d h2)⟩
/-- o.f = e -/
theorem w_fld (T : Cls K C) (nf : NoAttr K C f) (h : Ev K tv r m fun y m1 => Ev K ta r m1 fun x m2 => ∃ p fs, x = .v (.ref p) ∧ m2 p = some (insM K C fs) ∧ fs.length < 900 ∧ N r (put m2 p (insM K C (putFV f y fs)))) : Wp K (sFld K ta tv f) r m N E := fun σ H G D S L a b =>
  h σ H G S L _ fun v H1 G1 y m1 h1 S1 e1 r1 => h1 σ H1 G1 S1 (L.mono e1) _ fun u H2 G2 x m2 ⟨p, fs, hx, hm, hl, q⟩ S2 e2 r2 => by
    subst hx
    obtain rfl := r2.eq
    obtain ⟨dx, vs, g1, g2⟩ := S2.ins hm
    have hlen := Paired.length g2
    refine ⟨p, C, dx, vs, rfl, g1, T, nf, by omega, ?_⟩
    exact a σ _ G2 r _ q (S2.chg hm (mr_ins ⟨dx, _, upd_same, frel_put (r1.mono e2) g2⟩)) (e1.trans e2) (L.mono (e1.trans e2))
/-- o.f, o.g = a pair -/
theorem w_asgF2 {g : Str} {ta' : TE} (T : Cls K C) (nf : NoAttr K C f) (ng : NoAttr K C g) (h : Ev K te r m fun x m1 => ∃ a b, x = vT K [a, b] ∧ Ev K ta r m1 fun y m2 => ∃ p fs, y = .v (.ref p) ∧ m2 p = some (insM K C fs) ∧ fs.length < 900 ∧
    Ev K ta' r (put m2 p (insM K C (putFV f a fs))) fun z m3 => ∃ p' fs', z = .v (.ref p') ∧ m3 p' = some (insM K C fs') ∧ fs'.length < 900 ∧ N r (put m3 p' (insM K C (putFV g b fs')))) :
    Wp K (tAsg te (gTup K 2 (gCons (gFld K ta f) (gCons (gFld K ta' g) gNil)))) r m N E := fun σ H G D S L A B =>
  h σ H G S L _ fun v H1 G1 x m1 ⟨a, b, hx, h1⟩ S1 e1 r1 => by
    subst hx
    cases r1 with
    | g hv _ =>
      obtain ⟨q, xs, rfl, hq, hA⟩ := hv
      obtain ⟨x1, t1, rfl, a1, hA⟩ := hA
      obtain ⟨x2, t2, rfl, a2, hA⟩ := hA
      have hA : t2 = [] := hA
      subst hA
      refine ⟨q, _, rfl, SqT.of (S1.sub _ _ hq), rfl, x1, [x2], rfl, ?_⟩
      refine h1 σ H1 G1 S1 (L.mono e1) _ fun u H2 G2 y m2 ⟨p, fs, hy, hm, hl, h2⟩ S2 e2 r2 => ?_
      subst hy
      obtain rfl := r2.eq
      obtain ⟨dx, vs, g1, g2⟩ := S2.ins hm
      have hlen := Paired.length g2
      refine ⟨p, C, dx, vs, rfl, g1, T, nf, by omega, x2, [], rfl, ?_⟩
      have S3 := S2.chg (o := .ins C dx (putF f x1 vs)) hm (mr_ins ⟨dx, _, upd_same, frel_put (a1.mono e2) g2⟩)
      refine h2 σ _ G2 S3 (L.mono (e1.trans e2)) _ fun u H4 G4 z m4 ⟨p', fs', hz, hm', hl', n⟩ S4 e4 r4 => ?_
      subst hz
      obtain rfl := r4.eq
      obtain ⟨dx', vs', g3, g4⟩ := S4.ins hm'
      have hlen' := Paired.length g4
      refine ⟨p', C, dx', vs', rfl, g3, T, ng, by omega, rfl, ?_⟩
      exact A σ _ G4 r _ n (S4.chg hm' (mr_ins ⟨dx', _, upd_same, frel_put (a2.mono (e2.trans e4)) g4⟩)) (e1.trans (e2.trans e4)) (L.mono (e1.trans (e2.trans e4)))
/-- a pair of any things -/
theorem ev_tupV (h : EvA K t r m fun xs m1 => xs.length ≤ 100000 ∧ Q (vT K xs) m1) : Ev K (tTup t) r m Q := fun σ H G S L R k =>
  h σ H G S L _ fun vs H1 G1 xs m1 ⟨hl, q⟩ S1 e1 r1 => by
    refine ⟨by rw [r1.length]; exact Nat.le_trans hl (by decide), fun p hp => ?_⟩
    have hg := S1.free hp
    exact k (.ref p) _ (upd G1 p _) _ m1 q (S1.fix hp) (e1.trans (Le.new hg)) (.g ⟨p, vs, rfl, upd_same, r1.mono (Le.new hg)⟩ vtQ.mono)
/-- a display known whole -/
theorem ev_tupFz (h : EvA K t r m fun xs m1 => ∃ ns : List Int, xs = ns.map (fun n => Val.d (.int n)) ∧ ns.length ≤ 100000 ∧ Q (.f ns) m1) : Ev K (tTupFz t) r m Q := fun σ H G S L R k =>
  h σ H G S L _ fun vs H1 G1 xs m1 ⟨ns, hx, hl, q⟩ S1 e1 r1 => by
    subst hx
    have hv := r1.ints
    subst hv
    refine ⟨by rw [List.length_map]; exact Nat.le_trans hl (by decide), fun p ob hp hc hd => ?_⟩
    have hg := S1.free hp
    exact k (.ref p) _ (upd G1 p _) _ m1 q (S1.fix hp) (e1.trans (Le.new hg)) (.f upd_same hc hd)
theorem o2_addF {a b : List Int} (hz : a.length + b.length ≤ 100000) (q : Q (.f (a ++ b)) m) : Op2 K (rAddF K) (.f a) (.f b) m Q := fun H G v w S x y R k => by
  cases x with
  | @f _ p oa h1 c1 d1 =>
    cases y with
    | @f _ p' ob h2 c2 d2 =>
      refine Or.inl ⟨p, p', a.map V.int, b.map V.int, oa, ob, rfl, rfl, S.sub _ _ h1, S.sub _ _ h2, ?_, fun e => ?_, fun _ e => ?_, fun _ _ l o hl hc hd => ?_⟩
      · rw [List.length_map, List.length_map]; exact Nat.le_trans hz (by decide)
      · have e := List.map_eq_nil_iff.mp e
        subst e
        exact k _ H G _ m q S (Le.refl G) (.f h2 c2 d2)
      · have e := List.map_eq_nil_iff.mp e
        subst e
        rw [List.append_nil] at q
        exact k _ H G _ m q S (Le.refl G) (.f h1 c1 d1)
      · have hg := S.free hl
        exact k _ _ (upd G l _) _ m q (S.fix hl) (Le.new hg) (.f (by rw [List.map_append]; exact upd_same) hc hd)
/-- o.m(..), a method that answers -/
theorem ev_mt {fm : FSp} (h : Ev K ta r m fun x m1 => ∃ p fs, x = .v (.ref p) ∧ m1 p = some (insM K C fs) ∧ fs.lookup f = none ∧ EvA K t r m1 fun xs m2 => fm (.v (.ref p) :: xs) m2 Q) : Ev K (tMeth C f (spD K fm) [] E0 ta t) r m Q := fun σ H G S L R k =>
  h σ H G S L _ fun v H1 G1 x m1 ⟨p, fs, hx, hm, hl, h1⟩ S1 e1 r1 => by
    subst hx
    obtain rfl := r1.eq
    obtain ⟨dx, vs, g1, g2⟩ := S1.ins hm
    refine ⟨p, dx, vs, rfl, g1, frel_none g2 hl, ?_⟩
    refine h1 σ H1 G1 S1 (L.mono e1) _ fun us H2 G2 xs m2 h2 S2 e2 r2 => ?_
    rw [List.append_nil]
    exact ⟨m2, G2, .v (.ref p) :: xs, Q, S2, ⟨_, _, rfl, .v, r2⟩, h2, fun v' H3 G3 z m3 h3 S3 e3 r3 => k v' H3 G3 z m3 h3 S3 (e1.trans (e2.trans e3)) r3⟩
/-- o.m(..), a method that may refuse -/
theorem evx_mt {fm : FSpX} {G0 : Hp} {W : L2.WX} {X : Addr → Mm → Prop} (hW : TkX K G0 r W X) (h : Ev K ta r m fun x m1 => ∃ p fs, x = .v (.ref p) ∧ m1 p = some (insM K C fs) ∧ fs.lookup f = none ∧ EvA K t r m1 fun xs m2 => fm (.v (.ref p) :: xs) m2 Q X) : EvX K G0 (tMethX C f (spX K fm) (WE W) ta t) r m Q := fun σ H G g0 S L R k =>
  h σ H G S L _ fun v H1 G1 x m1 ⟨p, fs, hx, hm, hl, h1⟩ S1 e1 r1 => by
    subst hx
    obtain rfl := r1.eq
    obtain ⟨dx, vs, g1, g2⟩ := S1.ins hm
    refine ⟨p, dx, vs, rfl, g1, frel_none g2 hl, ?_⟩
    refine h1 σ H1 G1 S1 (L.mono e1) _ fun us H2 G2 xs m2 h2 S2 e2 r2 => ?_
    exact ⟨m2, G2, .v (.ref p) :: xs, Q, X, S2, ⟨_, _, rfl, .v, r2⟩, h2, fun v' H3 G3 z m3 h3 S3 e3 r3 => k v' H3 G3 z m3 h3 S3 (e1.trans (e2.trans e3)) r3, fun D m' H' G' hx S' e' => hW D m' H' G' σ hx S' (g0.trans (e1.trans (e2.trans e'))) (L.mono (e1.trans (e2.trans e')))⟩
/-- C() -/
theorem ev_make0 {fm : FSp} (h : ∀ p, m p = none → fm [.v (.ref p)] (put m p (insM K C [])) fun v m' => v = .d .none ∧ Q (.v (.ref p)) m') : Ev K (tMake C (spD K fm) [] E0 tNil) r m Q := fun σ H G S L R k => by
  refine fun x dx hx hd hne => ?_
  have S1 : Sta K m (upd H dx (.own x)) G := S.grow fun b o e => by rw [upd_ne (ne_of_none e hd)]; exact e
  have hx1 : upd H dx (.own x) x = none := by rw [upd_ne hne.symm]; exact hx
  have S2 := S1.new (u := insM K C []) hx1 (mr_ins ⟨dx, [], upd_same, .nil⟩)
  refine ⟨_, G, [.v (.ref x)], _, S2, ⟨_, [], rfl, .v, rfl⟩, h x (S1.freeM hx1), fun v H3 G3 z m3 ⟨hz, hq⟩ S3 e3 r3 => ?_⟩
  subst hz
  exact ⟨rp_none.mp r3.rp, k _ H3 G3 _ m3 hq S3 e3 .v⟩
/-- l.pop() -/
theorem ev_pop0 (h : Ev K to r m fun x m1 => ∃ p rs y, x = .v (.ref p) ∧ m1 p = some (.lst (rs ++ [y])) ∧ Q y (put m1 p (.lst rs))) : Ev K (tBM0 K "list" rPop to) r m Q := fun σ H G S L R k =>
  h σ H G S L _ fun v H1 G1 x m1 ⟨p, rs, y, hx, hm, q⟩ S1 e1 r1 => by
    subst hx
    obtain rfl := r1.eq
    obtain ⟨xs, g1, g2⟩ := S1.mem p _ hm
    have snoc : ∀ {rs : List Val} {xs : List V}, VRs K G1 (rs ++ [y]) xs → ∃ ys u, xs = ys ++ [u] ∧ VRs K G1 rs ys ∧ VR K G1 y u := fun {rs} => by
      induction rs with
      | nil =>
        intro xs h
        obtain ⟨u, t, rfl, h1, h2⟩ := h
        have h2 : t = [] := h2
        subst h2
        exact ⟨[], u, rfl, rfl, h1⟩
      | cons a rs ih =>
        intro xs h
        obtain ⟨u, t, rfl, h1, h2⟩ := h
        obtain ⟨ys, w, rfl, h3, h4⟩ := ih h2
        exact ⟨u :: ys, w, rfl, ⟨u, ys, rfl, h1, h3⟩, h4⟩
    obtain ⟨ys, u, rfl, h3, h4⟩ := snoc g2
    refine ⟨Or.inl ⟨rfl, _, Or.inl (Or.inl g1)⟩, p, _, u, rfl, rfl, g1, ?_, ?_⟩
    · rw [List.length_append, List.length_singleton, Nat.add_sub_cancel, List.getElem?_append_right (Nat.le_refl _), Nat.sub_self]; rfl
    · rw [List.dropLast_concat]
      exact k u _ G1 _ _ q (S1.chg hm ⟨_, upd_same, h3⟩) e1 h4
/-- a list that may change == [] -/
theorem o2_eqNilM {rs : List Val} {p : Addr} (hm : m p = some (.lst rs)) (q : Q (.d (.bool (decide (rs = [])))) m) : Op2 K (rEqL K) (.v (.ref p)) (.d (.list [])) m Q := by
  by_cases h : rs = []
  · subst h
    intro H G v w S a b R k
    have a := a.eq
    subst a
    obtain ⟨xs, g1, g2⟩ := S.mem p _ hm
    have g2 : xs = [] := g2
    subst g2
    rw [decide_eq_true rfl] at q
    have hr : Rp K H (.list []) (.ref p) := rp_list.mpr ⟨p, [], rfl, Or.inl g1, rpa_nil.mpr rfl⟩
    exact Or.inl (Or.inr ⟨.list [], .list [], rp_dp _ _ (by decide) hr, dp_of S (by decide +kernel) b, by decide +kernel, by decide +kernel, by rw [show PyData.eqv (.list []) (.list []) = true by decide +kernel]; exact k _ H G _ m q S (Le.refl G) vr_bool⟩)
  · intro H G v w S a b R k
    have a := a.eq
    subst a
    obtain ⟨xs, g1, g2⟩ := S.mem p _ hm
    rw [decide_eq_false h] at q
    obtain ⟨p', ys, rfl, h4, h5⟩ := rp_list.mp b.rp
    refine Or.inr ⟨p, p', xs, ys, rfl, rfl, Or.inl (Or.inl g1), Or.inl (Le.rd S.sub h4), ?_, k _ H G _ m q S (Le.refl G) vr_bool⟩
    rw [g2.length, h5.length]
    intro e
    exact h (List.length_eq_zero_iff.mp e)
end
end DL
/-! the desk: further rules (count, or of texts, signs of a text, parts of a text, a try that is not needed), its attributes -/
namespace DL
open PySem L2 PySem.Spec PyProof.Rows L2H
def rTCn (K : PySem.W.Frag) : V → List V → Hp → VK → Prop := fun x xs H Q => ∃ (p : Addr) (ns : List Int) (k : Int), x = .ref p ∧ xs = [.int k] ∧ SqT K H p (ns.map V.int) ∧ Q (.int (ns.count k : Nat)) H
theorem mt_tcn {X : Cx} : MtR X "tuple.count" (rTCn X.K) := by
  intro pins s σ H x xs v us Q I rx rxs h
  obtain ⟨p, ns, k, rfl, rfl, hs, q⟩ := h
  cases rx
  obtain ⟨u, rfl, ru⟩ := rxs.one
  obtain ⟨t, rfl⟩ := ru
  obtain ⟨its, rv, ⟨⟨cls, dd, dt, sl⟩, ho, hc, n, hd⟩, hz⟩ := I.tuple hs
  obtain rfl : cls = .type "tuple" := hc
  obtain rfl : dt = .seq its.toArray n := hd
  have hi := ints_of_vals rv
  refine call_meets PySem.F.slot_tuple_count ⟨_, ho, rfl⟩ PySem.F.entry_tuple_count (PySem.F.args_tuple_count_2 _ _)
    (SeqAt.tuple_countAt p its.toArray n dd sl (.int k t) (eqk k)) ⟨ho, fun y hy => (eqk_gives hi y (by simpa using hy)).at _ _, ?_⟩
  have ec : its.toArray.toList.countP (eqk k) = ns.count k := eqk_count hi
  refine ⟨.int (ns.count k : Nat), H, I.tok _, ⟨s.toks, ?_⟩, q⟩
  show Value.int ((its.toArray.toList.countP (eqk k) : Nat) : Int) s.toks = Value.int ((ns.count k : Nat) : Int) s.toks
  rw [ec]
theorem kOrT (K : PySem.W.Frag) {X : Cx} {a b : Expr} {ta tb : TE} {rest : List Expr} {pos : Pos} (ha : PE X a ta) (hb : PE X (.BoolOp .Or (b :: rest) pos) tb) (h : X.K = K := by rfl) : PE X (.BoolOp .Or (a :: b :: rest) pos) (tOrT K ta tb) := h ▸ pe_orT ha hb
def rInStr : R2 := fun x y H Q => ∃ i j, x = .str i ∧ y = .str j ∧ Q (.bl (!(Builtin.Str.occurrences j i 0 j.length 1).isEmpty)) H
theorem oInStr {X : Cx} : OpR X (compareOp .In) rInStr := op_in_str
/-- C() -/
structure Mk0 (P : Program) (w : World) (K : PySem.W.Frag) (mg : Str → Option Value) (base : Heap) (C : Addr) (k : Nat) (x : Str) (sp : FSp) : Prop where
  ex : ∃ f fd, FnOk P w K mg base CX0 k f fd ["self"] (spD K sp) ∧ Mk K C f ∧ Binds K fd ["self"] []
  g : mg x = some (.ref C)
section
variable {X : Cx} {k j : Nat} {x : Str} {sp : FSp} {pos p : Pos} {P : Program} {w : World} {K : PySem.W.Frag} {mg : Str → Option Value} {base : Heap} {C : Addr}
theorem pe_mk0 (c : Mk0 P w K mg base C k x sp) (hr : Room j X.A) (hk : k + 1 ≤ j) (hg : Gl X x) (hP : X.prog = P := by rfl) (hw : X.w = w := by rfl) (hK : X.K = K := by rfl) (hmg : X.mg = mg := by rfl) (hbs : X.base = base := by rfl)
    (hdb : (x == ("__debug__" : Str)) = false := by decide) : PE X (.Call (.Name x p) [] [] pos) (tMake C (spD K sp) [] E0 tNil) := by
  subst hP hw hK hmg hbs
  obtain ⟨f, fd, F, M, hb⟩ := c.ex
  exact pe_make0 M F (hr.mono hk) hg c.g hb .nil pass0 hdb
theorem MtX.mt {m : Str} {sx : FSpX} {fs : FSp} (c : MtX P w K mg base C k m sx) (h : ∀ args m R, fs args m R → sx args m R fun _ _ => False) : Mt P w K mg base C k m fs := by
  obtain ⟨f, fd, ps, F, hm, hb⟩ := c.ex
  have conv : ∀ vs H Q E, spD K fs vs H Q E → spX K sx vs H Q E0 := fun vs H Q E ⟨m, G, args, R, S, r, hf, k⟩ => ⟨m, G, args, R, fun _ _ => False, S, r, h _ _ _ hf, k, fun _ _ _ _ z => z.elim⟩
  refine ⟨f, fd, ps, ⟨fun vs H Q E q => F.len vs H Q E0 (conv _ _ _ _ q), fun A outer s H args us vs Q E hr he hB hv q => ?_⟩, hm, hb⟩
  refine codeAny_mono (F.run A outer s H args us vs Q E0 hr he hB hv (conv _ _ _ _ q)) fun res s' g => ?_
  match res, g with
  | .ok (.ret u), g => exact g
  | .error e, g =>
    obtain ⟨_, _, _, _, _, _, _, _, _, _, _, _, z⟩ := g
    exact z.elim
end
theorem takesL0 {X : Cx} : L2.Takes X (fun _ _ _ _ => False) := fun _ _ x => by
  obtain ⟨_, _, _, _, _, _, _, _, _, _, _, _, _, _, _, _, z⟩ := x
  exact z.elim
/-! ## the level of data -/
section
variable {K : PySem.W.Frag} {r : List Val} {m : Mm} {Q : Val → Mm → Prop} {ta tb te to tl : TE} {t : TS} {N : List Val → Mm → Prop} {E : Val → Mm → Prop}
/-- t.count(i) -/
theorem ev_cntF (h : Ev K to r m fun x m1 => ∃ ns, x = .f ns ∧ Ev K te r m1 fun y m2 => ∃ z : Int, y = .d (.int z) ∧ Q (.d (.int (ns.count z : Nat))) m2) : Ev K (tBMF (rTCn K) to (tCons te tNil)) r m Q := fun σ H G S L R k =>
  h σ H G S L _ fun v H1 G1 x m1 ⟨ns, hx, h1⟩ S1 e1 r1 => by
    subst hx
    cases r1 with
    | f hf hc hd =>
      refine ⟨⟨_, _, _, rfl, S1.sub _ _ hf, hc, hd⟩, ?_⟩
      refine h1 σ H1 G1 S1 (L.mono e1) _ fun w H2 G2 y m2 ⟨z, hy, q⟩ S2 e2 r2 => ?_
      subst hy
      have r2 := int_of r2
      subst r2
      exact ⟨_, ns, z, rfl, rfl, Or.inl (Or.inr ⟨_, S2.sub _ _ (e2 _ _ hf)⟩), k _ H2 G2 _ m2 q S2 (e1.trans e2) vr_int⟩
/-- a text or another one -/
theorem ev_orS (h : Ev K ta r m fun x m1 => ∃ s : Str, x = .d (.str s) ∧ s.length ≤ 100000 ∧ (s.length ≠ 0 → Q (.d (.str s)) m1) ∧ (s.length = 0 → Ev K tb r m1 Q)) : Ev K (tOrT K ta tb) r m Q := fun σ H G S L R k =>
  h σ H G S L _ fun v H1 G1 x m1 ⟨s, hx, hl, q1, q2⟩ S1 e1 r1 => by
    subst hx
    have r1 := str_of r1
    subst r1
    refine ⟨((s.length : Int) != 0), ⟨Nat.le_trans hl (by decide), rfl⟩, ?_⟩
    by_cases h0 : s.length = 0
    · rw [h0, if_neg (by decide)]
      exact q2 h0 σ H1 G1 S1 (L.mono e1) R fun v' H3 G3 z m3 h3 S3 e3 r3 => k v' H3 G3 z m3 h3 S3 (e1.trans e3) r3
    · rw [if_pos (by rw [bne_iff_ne]; omega)]
      exact k _ H1 G1 _ m1 (q1 h0) S1 e1 vr_str
theorem o2_inStr {x y : Str} (q : Q (.d (.bool (!(Builtin.Str.occurrences y x 0 y.length 1).isEmpty))) m) : Op2 K rInStr (.d (.str x)) (.d (.str y)) m Q := fun H G v w S a b R k => by
  rw [str_of a, str_of b]
  exact ⟨x, y, rfl, rfl, k _ H G _ m q S (Le.refl G) vr_bool⟩
/-- s[a:b] -/
theorem ev_slS {tl th : TO} (h : Ev K te r m fun x m1 => ∃ s : Str, x = .d (.str s) ∧ s.length ≤ 100000 ∧ EvO K tl r m1 fun lo m2 => EvO K th r m2 fun hi m3 => Q (.d (.str (cutS s lo hi))) m3) : Ev K (tSl rSlS te tl th) r m Q := fun σ H G S L R k =>
  h σ H G S L _ fun v H1 G1 x m1 ⟨s, hx, hz, h1⟩ S1 e1 r1 => h1 σ H1 G1 S1 (L.mono e1) _ fun H2 G2 lo m2 h2 S2 e2 => h2 σ H2 G2 S2 (L.mono (e1.trans e2)) _ fun H3 G3 hi m3 q S3 e3 => by
    subst hx
    have r1 := str_of r1
    subst r1
    exact ⟨s, rfl, Nat.le_trans hz (by decide), k _ H3 G3 _ m3 q S3 (e1.trans (e2.trans e3)) vr_str⟩
/-- [e for sign in text] -/
theorem ev_mapStr {j : Nat} {x : Str} (h : Ev K tl r m fun y m1 => y = .d (.str x) ∧ m1 = m) (hn : x.cps.size ≤ 100000) (g : Str → PyData)
    (hs : ∀ (c : Str) m', Ext m m' → Ev K te (r.set j (.d (.str c))) m' fun y m3 => y = .d (g c) ∧ m3 = m') (q : Q (.d (.list (x.cps.toList.map fun c => g ⟨#[c]⟩))) m) : Ev K (tLc (iStr tl) (gName j) tYes te [j]) r m Q := fun σ H G S L R k =>
  h σ H G S L _ fun v H1 G1 y m1 ⟨hx, hm⟩ S1 e1 r1 => by
    subst hx hm
    have r1 := str_of r1
    subst r1
    refine ⟨x, rfl, fun D hD => ?_⟩
    have hmD := S1.freeM hD
    refine lc_it (walk_str (z := x)) (LcV K m1 G1 D (fun i acc => acc = ((x.cps.toList.take i).map fun c => g ⟨#[c]⟩).map Val.d)) (lcv_start S1 hD (by simp)) ?_ ?_ ?_
    · intros; trivial
    · rintro i y H' H2 hi hP ⟨rfl, c, hc, rfl⟩
      have hc : x.cps.toList[i]? = some c := by rw [← hc]; simp
      refine ⟨wipe1 σ j _, ?_⟩
      refine lcv_turn (r' := r.set j (.d (.str ⟨#[c]⟩))) hmD (by omega) (fun G' e' => ?_) (fun m' acc hx hw => ?_) hP
      · have := (L.mono (e1.trans e')).set (r := .d (.str ⟨#[c]⟩)) vr_str j
        show Sl K _ (r.set j (.d (.str ⟨#[c]⟩))) ((σ.set j none).set j (some (.str ⟨#[c]⟩)))
        rw [List.set_set]
        exact this
      · refine evt_yes ⟨rfl, fun _ => (hs ⟨#[c]⟩ m' hx).imp fun y m3 e => ⟨e.2, ?_⟩, fun z => nomatch z⟩
        rw [hw, e.1, take_one hc, List.map_append, List.map_append]
        rfl
    · intro H' hP
      obtain ⟨G', acc, hw, hl, S', e'⟩ := hP
      have hw : acc = ((x.cps.toList.take x.cps.size).map fun c => g ⟨#[c]⟩).map Val.d := hw
      rw [List.take_of_length_le (by simp)] at hw
      subst hw
      obtain ⟨xs, g1, g2⟩ := S'.mem D _ put_same
      have hg := S'.dis D _ put_same
      have S2 := S'.freeze put_same g1
      rw [del_put hmD] at S2
      exact k _ H' _ _ m1 q S2 (e1.trans (e'.trans (Le.new hg))) (.d (rp_list.mpr ⟨D, xs, rfl, Rd.of upd_same, RpAll.mono (Le.new hg) _ _ g2.toAll⟩))
theorem ev_mapS {j : Nat} {α : Type} {xs : List α} {f : α → PyData} (h : Ev K tl r m (fun x m1 => x = .d (.list (xs.map f)) ∧ m1 = m) ∨ Ev K tl r m (fun x m1 => x = .d (.tuple (xs.map f)) ∧ m1 = m)) (hn : xs.length ≤ 100000) (g : α → PyData)
    (hs : ∀ (x : α) m', x ∈ xs → Ext m m' → Ev K te (r.set j (.d (f x))) m' fun y m3 => y = .d (g x) ∧ m3 = m') (q : Q (.d (.list (xs.map g))) m) : Ev K (tLc (iSeq K tl) (gName j) tYes te [j]) r m Q := fun σ H G S L R k => by
  rcases h with h | h
  · exact Or.inl (ev_mapLf h hn g hs q σ H G S L R k)
  · exact Or.inr (ev_mapTf h hn g hs q σ H G S L R k)
theorem ev_isN (h : Ev K ta r m fun x m1 => ∃ i : Int, x = .d (.int i) ∧ Q (.d (.bool false)) m1) : Ev K (tIsN ta) r m Q := fun σ H G S L R k =>
  h σ H G S L _ fun v H1 G1 x m1 ⟨i, hx, q⟩ S1 e1 r1 => by
    subst hx
    rw [int_of r1]
    exact k _ H1 G1 _ m1 q S1 e1 vr_bool
/-- what was made on the way is forgotten at the end -/
theorem w_retLs (h : Wp K t r m N fun x m1 => ∃ m2, (∀ a o, m2 a = some o → m1 a = some o) ∧ E x m2) : Wp K t r m N E := fun σ H G D S L a b =>
  h σ H G D S L a fun v H1 G1 x m1 ⟨m2, hl, q⟩ S1 e1 r1 => b v H1 G1 x m2 q (S1.less hl) e1 r1
end
theorem putFV_len (f : Str) (x : Val) : ∀ fs : List (Str × Val), (putFV f x fs).length ≤ fs.length + 1
  | [] => Nat.le_refl _
  | (g, y) :: r => by
    unfold putFV
    split
    · exact Nat.le_succ _
    · exact Nat.succ_le_succ (putFV_len f x r)
/-! the attributes of the desk -/
structure DeskC (K : PySem.W.Frag) (C : Addr) : Prop where
  cl : Cls K C
  ns : NoAttr K C "shares"
  nr : NoAttr K C "row"
  np : NoAttr K C "past"
def dF (ss : List Int) (row : List Nat) (l : Addr) : List (Str × Val) := [("shares", .d (tupI ss)), ("row", .f (kn row)), ("past", .v (.ref l))]
def pastL (K : PySem.W.Frag) (pst : List (List Int × List Nat)) : List Val := pst.map fun e => vT K [.d (tupI e.1), .f (kn e.2)]
/-- a desk at p, what was there ahead at l -/
structure DeskIn (K : PySem.W.Frag) (C : Addr) (m : Mm) (p l : Addr) (ss : List Int) (row : List Nat) (pst : List (List Int × List Nat)) : Prop where
  ob : m p = some (insM K C (dF ss row l))
  ls : m l = some (.lst (pastL K pst))
def dskM (K : PySem.W.Frag) (C : Addr) (m : Mm) (p l : Addr) (ss : List Int) (row : List Nat) (pst : List (List Int × List Nat)) : Mm := put (put m l (.lst (pastL K pst))) p (insM K C (dF ss row l))
section
variable {K : PySem.W.Frag} {C : Addr} {m : Mm} {p l : Addr} {ss ss' : List Int} {row row' : List Nat} {pst pst' : List (List Int × List Nat)}
theorem DeskIn.ne (h : DeskIn K C m p l ss row pst) : p ≠ l := fun e => by
  have h1 := h.ob
  rw [e, h.ls] at h1
  cases h1
theorem DeskIn.same (h : DeskIn K C m p l ss row pst) : dskM K C m p l ss row pst = m := by
  unfold dskM
  rw [put_self h.ls, put_self h.ob]
theorem DeskIn.to (h : p ≠ l) : DeskIn K C (dskM K C m p l ss row pst) p l ss row pst := ⟨put_same, by unfold dskM; rw [put_ne h.symm]; exact put_same⟩
theorem dskM_ne {a : Addr} (h1 : a ≠ p) (h2 : a ≠ l) : dskM K C m p l ss row pst a = m a := by unfold dskM; rw [put_ne h1, put_ne h2]
theorem dskM_two (h : p ≠ l) : dskM K C (dskM K C m p l ss row pst) p l ss' row' pst' = dskM K C m p l ss' row' pst' := by
  unfold dskM
  rw [put_comm h, put_put, put_put]
theorem lk_shares : (dF ss row l).lookup ("shares" : Str) = some (.d (tupI ss)) := rfl
theorem lk_row : (dF ss row l).lookup ("row" : Str) = some (.f (kn row)) := by
  unfold dF
  rw [List.lookup, show (("row" : Str) == "shares") = false by decide +kernel]
  rfl
theorem lk_past : (dF ss row l).lookup ("past" : Str) = some (.v (.ref l)) := by
  unfold dF
  rw [List.lookup, show (("past" : Str) == "shares") = false by decide +kernel]
  show List.lookup _ _ = _
  rw [List.lookup, show (("past" : Str) == "row") = false by decide +kernel]
  rfl
theorem lk_no {f : Str} (h1 : (f == ("shares" : Str)) = false) (h2 : (f == ("row" : Str)) = false) (h3 : (f == ("past" : Str)) = false) : (dF ss row l).lookup f = none := by
  unfold dF
  rw [List.lookup, h1]
  show List.lookup _ _ = _
  rw [List.lookup, h2]
  show List.lookup _ _ = _
  rw [List.lookup, h3]
  rfl
theorem pf_two : putFV "row" (.f (kn row')) (putFV "shares" (.d (tupI ss')) (dF ss row l)) = dF ss' row' l := by
  unfold dF
  have e1 : ¬ (("shares" : Str) = "row") := by decide +kernel
  simp only [putFV, if_pos, if_neg e1]
theorem pf_init : putFV "past" (.v (.ref l)) (putFV "row" (.f (kn row)) (putFV "shares" (.d (tupI ss)) [])) = dF ss row l := by
  have e1 : ¬ (("shares" : Str) = "row") := by decide +kernel
  have e2 : ¬ (("shares" : Str) = "past") := by decide +kernel
  have e3 : ¬ (("row" : Str) = "past") := by decide +kernel
  unfold dF
  simp only [putFV, if_neg e1, if_neg e2, if_neg e3]
end
end DL
set_option exponentiation.threshold 9000
/-! the desk: what it answers, words -/
namespace DL
open PySem L2
def leftL (ss : List Int) (row : List Nat) : List Nat := (List.range ss.length).filter fun k => !decide (k ∈ row)
def spcS (ns : List Int) : Str := if (Txt.join " " (ns.map dg)).length = 0 then "none" else Txt.join " " (ns.map dg)
def wrQ (q : Rat) : Str := dg q.num ++ ("/" : Str) ++ dg (q.den : Int)
/-- in how many cases all that are left come -/
def comeI (ss : List Int) (lft : List Nat) (n : Nat) : Int := ((allSL lft).map fun s => sgn s.length * (ss.sum - sumP ss s) ^ n).sum
def comeQ (ss : List Int) (lft : List Nat) (n : Nat) : Rat := mkRat (comeI ss lft n) (ss.sum.toNat ^ n)
inductive Cmd where
  | back | told | left | drawn | mean | next
  | got (d : Nat)
  | all (n : Nat)
  | buy (c : Nat)
  | shares (ss : List Int)
def Cmd.text : Cmd → Str
  | .back => "back"
  | .told => "told"
  | .left => "left"
  | .drawn => "drawn"
  | .mean => "mean"
  | .next => "next"
  | .got d => ("got " : Str) ++ dg (d : Int)
  | .all n => ("all " : Str) ++ dg (n : Int)
  | .buy c => ("buy " : Str) ++ dg (c : Int)
  | .shares ss => ("shares " : Str) ++ showS ss
def Cmd.Ok : Cmd → Prop
  | .got d => d ≤ 9
  | .all n => n ≤ 99
  | .buy c => c ≤ 99
  | .shares ss => Shares ss
  | _ => True
/-- a word alone -/
def Cmd.alone : Cmd → Prop
  | .got _ => False
  | .all _ => False
  | .buy _ => False
  | .shares _ => False
  | _ => True
inductive SayR where
  | ok (t : Str) (ss : List Int) (row : List Nat) (pst : List (List Int × List Nat))
  | no (i : Nat)
def costS (ss : List Int) (lft : List Nat) (c : Nat) : Str := if lft = [] then "0/1 none" else wrQ (costT ss c lft) ++ (" " : Str) ++ told (buyP ss c lft)
def leftS (ss : List Int) (row : List Nat) : Str := spcS (kn (leftL ss row))
def run : Cmd → List Int → List Nat → List (List Int × List Nat) → SayR
  | .back, _, _, pst => match pst.getLast? with
    | none => .no 2
    | some e => .ok (leftS e.1 e.2) e.1 e.2 pst.dropLast
  | .told, ss, row, pst => .ok (showS ss) ss row pst
  | .left, ss, row, pst => .ok (leftS ss row) ss row pst
  | .drawn, ss, row, pst => .ok (spcS ((List.range ss.length).map fun k => ((row.count k : Nat) : Int))) ss row pst
  | .mean, ss, row, pst => .ok (wrQ (timeT ss (leftL ss row))) ss row pst
  | .next, ss, row, pst => .ok (wrQ (mkRat (sumP ss (leftL ss row)) ss.sum.toNat)) ss row pst
  | .got d, ss, row, pst => if ss.length ≤ d then .no 1 else .ok (leftS ss (row ++ [d])) ss (row ++ [d]) (pst ++ [(ss, row)])
  | .all n, ss, row, pst => if 12 < n then .no 2 else .ok (wrQ (comeQ ss (leftL ss row) n)) ss row pst
  | .buy c, ss, row, pst => .ok (costS ss (leftL ss row) c) ss row pst
  | .shares ss', ss, row, pst => .ok (leftS ss' []) ss' [] (pst ++ [(ss, row)])
/-- what is kept, after so many deeds -/
structure DsOk (n : Nat) (ss : List Int) (row : List Nat) (pst : List (List Int × List Nat)) : Prop where
  sh : Shares ss
  rl : row.length ≤ n
  pl : pst.length ≤ n
  each : ∀ e ∈ pst, Shares e.1 ∧ e.2.length ≤ n
theorem DsOk.mono {n n' : Nat} {ss : List Int} {row : List Nat} {pst : List (List Int × List Nat)} (h : DsOk n ss row pst) (hn : n ≤ n') : DsOk n' ss row pst := ⟨h.sh, Nat.le_trans h.rl hn, Nat.le_trans h.pl hn, fun e he => ⟨(h.each e he).1, Nat.le_trans (h.each e he).2 hn⟩⟩
theorem run_ok {c : Cmd} {n : Nat} {ss ss' : List Int} {row row' : List Nat} {pst pst' : List (List Int × List Nat)} {t : Str} (hc : c.Ok) (h : DsOk n ss row pst) (e : run c ss row pst = .ok t ss' row' pst') : DsOk (n + 1) ss' row' pst' := by
  have hm := h.mono (Nat.le_succ n)
  have push : ∀ {ss2 : List Int} {row2 : List Nat}, Shares ss2 → row2.length ≤ n + 1 → DsOk (n + 1) ss2 row2 (pst ++ [(ss, row)]) := fun {ss2 row2} h1 h2 => ⟨h1, h2, by rw [List.length_append, List.length_singleton]; have := h.pl; omega, fun e he => by
    rcases List.mem_append.mp he with he | he
    · exact hm.each e he
    · rw [List.mem_singleton.mp he]; exact ⟨h.sh, hm.rl⟩⟩
  cases c with
  | back =>
    cases hl : pst.getLast? with
    | none => simp [run, hl] at e
    | some z =>
      simp [run, hl] at e
      obtain ⟨_, rfl, rfl, rfl⟩ := e
      have hz := List.mem_of_getLast? hl
      exact ⟨(h.each z hz).1, Nat.le_succ_of_le (h.each z hz).2, by rw [List.length_dropLast]; have := h.pl; omega, fun e he => hm.each e ((List.dropLast_sublist _).subset he)⟩
  | got d =>
    by_cases hd : ss.length ≤ d
    · simp [run, hd] at e
    · simp [run, hd] at e
      obtain ⟨_, rfl, rfl, rfl⟩ := e
      exact push h.sh (by rw [List.length_append, List.length_singleton]; have := h.rl; omega)
  | all n =>
    by_cases hd : 12 < n
    · simp [run, hd] at e
    · simp [run, hd] at e
      obtain ⟨_, rfl, rfl, rfl⟩ := e
      exact hm
  | shares s2 => cases e; exact push hc (Nat.zero_le _)
  | told => cases e; exact hm
  | left => cases e; exact hm
  | drawn => cases e; exact hm
  | mean => cases e; exact hm
  | next => cases e; exact hm
  | buy c => cases e; exact hm
/-! how the texts are cut -/
theorem alone_cut : Txt.split "back" " " = [("back" : Str)] ∧ Txt.split "told" " " = [("told" : Str)] ∧ Txt.split "left" " " = [("left" : Str)] ∧ Txt.split "drawn" " " = [("drawn" : Str)] ∧ Txt.split "mean" " " = [("mean" : Str)] ∧ Txt.split "next" " " = [("next" : Str)] := by decide +kernel
theorem got_cut : ∀ d : _root_.Fin 10, Txt.split (("got " : Str) ++ dg (d.val : Int)) " " = [("got" : Str), dg (d.val : Int)] ∧ (("got " : Str) ++ dg (d.val : Int)).length ≤ 6 := by decide +kernel
theorem all_cut : ∀ d : _root_.Fin 100, Txt.split (("all " : Str) ++ dg (d.val : Int)) " " = [("all" : Str), dg (d.val : Int)] ∧ (("all " : Str) ++ dg (d.val : Int)).length ≤ 6 := by decide +kernel
theorem buy_cut : ∀ d : _root_.Fin 100, Txt.split (("buy " : Str) ++ dg (d.val : Int)) " " = [("buy" : Str), dg (d.val : Int)] ∧ (("buy " : Str) ++ dg (d.val : Int)).length ≤ 6 := by decide +kernel
theorem cut_short {s : Str} (h : s.length ≤ 6) : decide (cutS s none (some 7) = "shares ") = false := by
  refine decide_eq_false fun e => ?_
  have h1 : (cutS s none (some 7)).length ≤ s.length := by
    unfold cutS Str.length
    rw [List.size_toArray]
    refine Nat.le_trans (List.length_take_le' ..) ?_
    rw [List.length_drop, Array.length_toList]
    exact Nat.sub_le _ _
  rw [e, show (("shares " : Str)).length = 7 by decide +kernel] at h1
  omega
theorem cut_shares (x : Str) : cutS (("shares " : Str) ++ x) none (some 7) = "shares " ∧ cutS (("shares " : Str) ++ x) (some 7) none = x := by
  have h7 : (("shares " : Str)).cps.toList.length = 7 := by decide +kernel
  have hl : (("shares " : Str) ++ x).length = 7 + x.length := by rw [PySem.Str.length_append]; rw [show (("shares " : Str)).length = 7 by decide +kernel]
  have hc : (("shares " : Str) ++ x).cps.toList = (("shares " : Str)).cps.toList ++ x.cps.toList := by rw [PySem.Str.cps_append, Array.toList_append]
  constructor
  · unfold cutS
    rw [HT.sIx_none, show (some (7 : Int)) = some ((7 : Nat) : Int) from rfl, HT.sIx_nat, hl, Nat.min_eq_left (by omega), hc, List.drop_zero, Nat.sub_zero, List.take_append_of_le_length (by omega), List.take_of_length_le (by omega)]
  · unfold cutS
    rw [HT.sIx_none, show (some (7 : Int)) = some ((7 : Nat) : Int) from rfl, HT.sIx_nat, hl, Nat.min_eq_left (by omega), hc, List.drop_append_of_le_length (by omega), List.drop_of_length_le (by omega), List.nil_append, List.take_of_length_le (by rw [Array.length_toList]; show x.length ≤ _; omega)]
/-! words of figures -/
theorem fig_one : ∀ d : _root_.Fin 10, (dg (d.val : Int)).length = 1 ∧ PySem.intText? (dg (d.val : Int)) = some (d.val : Int) ∧ (((dg (d.val : Int)).cps.toList.map fun c => !(Builtin.Str.occurrences "0123456789" ⟨#[c]⟩ 0 (Str.ofString "0123456789").length 1).isEmpty).all fun b => b) = true := by decide +kernel
theorem fig_two : ∀ d : _root_.Fin 100, (1 ≤ (dg (d.val : Int)).length ∧ (dg (d.val : Int)).length ≤ 2) ∧ PySem.intText? (dg (d.val : Int)) = some (d.val : Int) ∧ (((dg (d.val : Int)).cps.toList.map fun c => !(Builtin.Str.occurrences "0123456789" ⟨#[c]⟩ 0 (Str.ofString "0123456789").length 1).isEmpty).all fun b => b) = true := by decide +kernel
theorem dg_len {i : Int} (h : 0 ≤ i ∧ i ≤ 10000) : (dg i).length ≤ 15 := by
  have hl := (sh_int (a := 14) (i := i) (bt_lit (n := 14) (by show _ < 16384; omega) (by decide)) (by decide) (by decide)).ln
  simp only [PyData.shown] at hl
  exact hl
/-! words -/
section
variable (K : PySem.W.Frag) (C : Addr)
def f_dinit : FSp := fun args m R => ∃ p, args = [.v (.ref p)] ∧ m p = some (insM K C []) ∧ ∀ l, m l = none → R (.d .none) (dskM K C m p l [1] [] [])
def f_left : FSp := fun args m R => ∃ (p l : Addr) (ss : List Int) (row : List Nat) (pst : List (List Int × List Nat)), args = [.v (.ref p)] ∧ DeskIn K C m p l ss row pst ∧ Shares ss ∧ row.length ≤ 10000 ∧ (R (.t (kn (leftL ss row))) m ∨ R (.d (tupI (kn (leftL ss row)))) m)
def f_become : FSp := fun args m R => ∃ (p l : Addr) (ss ss' : List Int) (row row' : List Nat) (pst : List (List Int × List Nat)), args = [.v (.ref p), .d (tupI ss'), .f (kn row')] ∧ DeskIn K C m p l ss row pst ∧ Shares ss' ∧ row'.length ≤ 10000 ∧ pst.length ≤ 10000 ∧
  R (.d (.str (leftS ss' row'))) (dskM K C m p l ss' row' (pst ++ [(ss, row)]))
def f_back (cs : List Addr) : FSpX := fun args m R X => ∃ (p l : Addr) (n : Nat) (ss : List Int) (row : List Nat) (pst : List (List Int × List Nat)), args = [.v (.ref p)] ∧ DeskIn K C m p l ss row pst ∧ DsOk n ss row pst ∧ n ≤ 9000 ∧
  ((pst = [] ∧ X (cs.getD 2 0) m) ∨ ∃ pst' e, pst = pst' ++ [e] ∧ R (.d (.str (leftS e.1 e.2))) (dskM K C m p l e.1 e.2 pst'))
def f_laid : FSp := fun args m R => ∃ (p l : Addr) (ss ss' : List Int) (row : List Nat) (pst : List (List Int × List Nat)), args = [.v (.ref p), .d (.str (showS ss'))] ∧ DeskIn K C m p l ss row pst ∧ Shares ss' ∧ pst.length ≤ 10000 ∧ R (.d (.str (leftS ss' []))) (dskM K C m p l ss' [] (pst ++ [(ss, row)]))
def f_comeBy (cs : List Addr) : FSpX := fun args m R X => ∃ (p l : Addr) (n : Nat) (ss : List Int) (row : List Nat) (pst : List (List Int × List Nat)), args = [.v (.ref p), .d (.int (n : Int))] ∧ DeskIn K C m p l ss row pst ∧ Shares ss ∧ row.length ≤ 10000 ∧
  ((12 < n ∧ X (cs.getD 2 0) m) ∨ (n ≤ 12 ∧ R (.d (.str (wrQ (comeQ ss (leftL ss row) n)))) m))
def f_bought : FSp := fun args m R => ∃ (p l : Addr) (c : Nat) (ss : List Int) (row : List Nat) (pst : List (List Int × List Nat)), args = [.v (.ref p), .d (.int (c : Int))] ∧ DeskIn K C m p l ss row pst ∧ Shares ss ∧ row.length ≤ 10000 ∧ c ≤ 99 ∧ R (.d (.str (costS ss (leftL ss row) c))) m
def SayOut (cs : List Addr) (m : Mm) (p l : Addr) (R : Val → Mm → Prop) (X : Addr → Mm → Prop) : SayR → Prop
  | .ok t ss row pst => R (.d (.str t)) (dskM K C m p l ss row pst)
  | .no i => X (cs.getD i 0) m
def f_answer (cs : List Addr) : FSpX := fun args m R X => ∃ (c : Cmd) (p l : Addr) (n : Nat) (ss : List Int) (row : List Nat) (pst : List (List Int × List Nat)), args = [.v (.ref p), .d (.str c.text)] ∧ c.alone ∧ DeskIn K C m p l ss row pst ∧ DsOk n ss row pst ∧ n ≤ 9000 ∧ SayOut K C cs m p l R X (run c ss row pst)
/-- a word with a number behind it -/
def Cmd.wn : Cmd → Option (Str × Nat)
  | .got d => some ("got", d)
  | .all n => some ("all", n)
  | .buy c => some ("buy", c)
  | _ => none
def f_numbered (cs : List Addr) : FSpX := fun args m R X => ∃ (c : Cmd) (x : Str) (i : Nat) (p l : Addr) (n : Nat) (ss : List Int) (row : List Nat) (pst : List (List Int × List Nat)), args = [.v (.ref p), .d (.str x), .d (.int (i : Int))] ∧ c.wn = some (x, i) ∧ c.Ok ∧ DeskIn K C m p l ss row pst ∧ DsOk n ss row pst ∧ n ≤ 9000 ∧ SayOut K C cs m p l R X (run c ss row pst)
def f_say (cs : List Addr) : FSpX := fun args m R X => ∃ (c : Cmd) (p l : Addr) (n : Nat) (ss : List Int) (row : List Nat) (pst : List (List Int × List Nat)), args = [.v (.ref p), .d (.str c.text)] ∧ c.Ok ∧ DeskIn K C m p l ss row pst ∧ DsOk n ss row pst ∧ n ≤ 9000 ∧ SayOut K C cs m p l R X (run c ss row pst)
end
def f_spaced : FSp := fun args m R => ∃ (ns : List Int) (x : Val), args = [x] ∧ (x = .d (tupI ns) ∨ x = .d (.list (ns.map PyData.int))) ∧ ns.length ≤ 100 ∧ (∀ n ∈ ns, 0 ≤ n ∧ n ≤ 10000) ∧ R (.d (.str (spcS ns))) m
def f_written : FSp := fun args m R => ∃ q : Rat, args = [.d (frac q)] ∧ FrB q 1900 ∧ R (.d (.str (wrQ q))) m
def f_figure : FSp := fun args m R => ∃ (w : Str) (n d : Nat), args = [.d (.str w), .d (.int (n : Int))] ∧ w = dg (d : Int) ∧ ((n = 1 ∧ d ≤ 9) ∨ (n = 2 ∧ d ≤ 99)) ∧ R (.d (.int (d : Int))) m
theorem leftL_len (ss : List Int) (row : List Nat) : (leftL ss row).length ≤ ss.length := by
  unfold leftL
  refine Nat.le_trans (List.length_filter_le ..) ?_
  rw [List.length_range]; exact Nat.le_refl _
theorem leftL_kinds (ss : List Int) (row : List Nat) : Kinds ss.length (leftL ss row) := by
  refine ⟨List.Pairwise.filter _ List.pairwise_lt_range, fun k hk => ?_⟩
  exact List.mem_range.mp (List.mem_filter.mp hk).1
theorem spc_join {ns : List Int} (h : ∀ n ∈ ns, 0 ≤ n ∧ n ≤ 10000) (hl : ns.length ≤ 100) : ((ns.map dg).map (·.length)).sum + (ns.map dg).length * (Str.ofString " ").length ≤ 16777216 := by
  have e : (Str.ofString " ").length = 1 := by decide +kernel
  rw [e, Nat.mul_one, List.length_map]
  have : ((ns.map dg).map (·.length)).sum ≤ 15 * ns.length := by
    clear hl
    induction ns with
    | nil => exact Nat.zero_le _
    | cons n ns ih =>
      have ih := ih fun x hx => h x (List.mem_cons_of_mem _ hx)
      have hd := dg_len (h n List.mem_cons_self)
      rw [List.map_cons, List.map_cons, List.sum_cons, List.length_cons]
      omega
  omega
theorem spc_len {ns : List Int} (h : ∀ n ∈ ns, 0 ≤ n ∧ n ≤ 10000) (hl : ns.length ≤ 100) : (Txt.join " " (ns.map dg)).length ≤ 100000 := by
  unfold Txt.join
  rw [StrLaws.glued_eq_join]
  refine Nat.le_trans (StrLaws.join_length_le _ _) ?_
  have e : (Str.ofString " ").length = 1 := by decide +kernel
  have : ((ns.map dg).map (·.length)).sum ≤ 15 * ns.length := by
    clear hl
    induction ns with
    | nil => exact Nat.zero_le _
    | cons n ns ih =>
      have ih := ih fun x hx => h x (List.mem_cons_of_mem _ hx)
      have hd := dg_len (h n List.mem_cons_self)
      rw [List.map_cons, List.map_cons, List.sum_cons, List.length_cons]
      omega
  rw [List.length_map, e]
  omega
theorem dg_bt {i : Int} (h : Bt i 1900) : (dg i).length ≤ 1901 := by
  have hl := (sh_int (a := 1900) (i := i) h (by decide) (by decide)).ln
  simp only [PyData.shown] at hl
  exact hl
theorem count_kn (k : Nat) (row : List Nat) : (kn row).count (k : Int) = row.count k := by
  unfold kn
  induction row with
  | nil => rfl
  | cons a r ih =>
    rw [List.map_cons, List.count_cons, List.count_cons, ih]
    by_cases h : a = k
    · subst h; simp
    · have h2 : ¬ ((a : Nat) : Int) = (k : Int) := by omega
      simp [h, h2]
theorem strF {x y : Str} (h : (x.cps.toList == y.cps.toList) = false) : decide (x = y) = false := decide_eq_false fun e => by
  rw [e] at h
  simp at h
theorem DeskIn.less {K : PySem.W.Frag} {C : Addr} {m m' : Mm} {p l : Addr} {ss : List Int} {row : List Nat} {pst : List (List Int × List Nat)} (h : DeskIn K C m p l ss row pst) (hx : Ext m m') : DeskIn K C m' p l ss row pst := ⟨hx _ _ h.ob, hx _ _ h.ls⟩
theorem leftL_bd (ss : List Int) (row : List Nat) (hs : Shares ss) : (kn (leftL ss row)).length ≤ 100 ∧ ∀ n ∈ kn (leftL ss row), 0 ≤ n ∧ n ≤ 10000 := by
  have h1 := leftL_len ss row
  have h5 := hs.few
  refine ⟨by unfold kn; rw [List.length_map]; omega, fun n hn => ?_⟩
  obtain ⟨k, hk, rfl⟩ := List.mem_map.mp hn
  have := (leftL_kinds ss row).lt k hk
  omega
theorem ev_spLeft {K : PySem.W.Frag} {C : Addr} {r : List Val} {m : Mm} {Q : Val → Mm → Prop} {p l : Addr} {ss : List Int} {row : List Nat} {pst : List (List Int × List Nat)} (hd : DeskIn K C m p l ss row pst) (hs : Shares ss) (hr : row.length ≤ 10000) (h0 : r[0]? = some (.v (.ref p))) (q : Q (.d (.str (leftS ss row))) m) :
    Ev K (tCall (spD K f_spaced) [] E0 (tCons (tMeth C "kinds_left" (spD K (f_left K C)) [] E0 (tVar 0) tNil) tNil)) r m Q := by
  obtain ⟨b1, b2⟩ := leftL_bd ss row hs
  refine ev_call (eva_cons (ev_mt (ev_var h0 (fun h => nomatch h) ⟨p, _, rfl, hd.ob, lk_no (by decide +kernel) (by decide +kernel) (by decide +kernel), eva_nil ⟨p, l, ss, row, pst, rfl, hd, hs, hr, Or.inr ?_⟩⟩)))
  exact eva_nil ⟨_, _, rfl, Or.inl rfl, b1, b2, q⟩
theorem text_kind {c : Cmd} (h : c.Ok) : (∃ ss, c = .shares ss) ∨ (c.alone ∧ c.text.length ≤ 6 ∧ Txt.split c.text " " = [c.text]) ∨ ∃ (x : Str) (i : Nat), c.wn = some (x, i) ∧ c.text.length ≤ 6 ∧ Txt.split c.text " " = [x, dg (i : Int)] ∧ (x = "got" → i ≤ 9) ∧ i ≤ 99 := by
  obtain ⟨a1, a2, a3, a4, a5, a6⟩ := alone_cut
  cases c with
  | back => exact Or.inr (Or.inl ⟨trivial, by decide +kernel, a1⟩)
  | told => exact Or.inr (Or.inl ⟨trivial, by decide +kernel, a2⟩)
  | left => exact Or.inr (Or.inl ⟨trivial, by decide +kernel, a3⟩)
  | drawn => exact Or.inr (Or.inl ⟨trivial, by decide +kernel, a4⟩)
  | mean => exact Or.inr (Or.inl ⟨trivial, by decide +kernel, a5⟩)
  | next => exact Or.inr (Or.inl ⟨trivial, by decide +kernel, a6⟩)
  | shares ss => exact Or.inl ⟨ss, rfl⟩
  | got d =>
    have h : d ≤ 9 := h
    obtain ⟨g1, g2⟩ := got_cut ⟨d, by omega⟩
    exact Or.inr (Or.inr ⟨"got", d, rfl, g2, g1, fun _ => h, by omega⟩)
  | all d =>
    have h : d ≤ 99 := h
    obtain ⟨g1, g2⟩ := all_cut ⟨d, by omega⟩
    exact Or.inr (Or.inr ⟨"all", d, rfl, g2, g1, fun e => absurd e (of_decide_eq_false (strF (by decide +kernel))), h⟩)
  | buy d =>
    have h : d ≤ 99 := h
    obtain ⟨g1, g2⟩ := buy_cut ⟨d, by omega⟩
    exact Or.inr (Or.inr ⟨"buy", d, rfl, g2, g1, fun e => absurd e (of_decide_eq_false (strF (by decide +kernel))), h⟩)
theorem text_len {c : Cmd} (h : c.Ok) : c.text.length ≤ 2000 := by
  rcases text_kind h with ⟨ss, rfl⟩ | ⟨_, h6, _⟩ | ⟨_, _, _, h6, _⟩
  · have := show_len (ss := ss) h
    show (("shares " : Str) ++ showS ss).length ≤ 2000
    rw [PySem.Str.length_append, show (("shares " : Str)).length = 7 by decide +kernel]
    omega
  · omega
  · omega
theorem come_nn {ss : List Int} (hs : Shares ss) {s : List Nat} (hk : Kinds ss.length s) : 0 ≤ ss.sum - sumP ss s ∧ ss.sum - sumP ss s ≤ 45 := by
  have h1 := sumP_leS hs (kinds_allS hk)
  have h2 := sumP_nonneg hs s
  have h3 := shares_sum hs
  omega
theorem comeI_bt {ss : List Int} (hs : Shares ss) {t : List Nat} (hk : Kinds ss.length t) {n : Nat} (hn : n ≤ 12) : Bt (comeI ss t n) 80 := by
  have hkl := hk.len
  have hfew := hs.few
  have hal : (allSL t).length ≤ 32 := by
    rw [allSL_len]
    exact Nat.le_trans (Nat.pow_le_pow_right (by decide) (by omega : t.length ≤ 5)) (by decide)
  unfold comeI
  have h := natAbs_sum_le (fun s => sgn s.length * (ss.sum - sumP ss s) ^ n) (2 ^ 74) (allSL t) fun s hf => by
    obtain ⟨a, b⟩ := come_nn hs (kinds_sub hk (allSL_sub s hf))
    exact Nat.le_of_lt (Bt.mono ((sgn_bt _).mul (pow_bt a b hn)) (by decide))
  unfold Bt
  refine Nat.lt_of_le_of_lt h (Nat.lt_of_le_of_lt (Nat.mul_le_mul_right _ hal) (by decide))
end DL
set_option exponentiation.threshold 9000
/-! k81: rules and words of the law -/
namespace DL
open PySem L2
section
variable {K : PySem.W.Frag} {r : List Val} {m : Mm} {Q : Val → Mm → Prop} {ta te : TE} {t : TS} {N : List Val → Mm → Prop} {E : Val → Mm → Prop}
/-- for k in range(n), n not known ahead -/
theorem w_forR1I {ta : TA} {j : Nat} (h : EvA K ta r m fun xs m1 => ∃ (n : Nat) (W : Nat → List Val → Mm → Prop), xs = [.d (.int (n : Int))] ∧ n ≤ 100000 ∧ W 0 r m1 ∧
    (∀ (i : Nat) r' m', i < n → W i r' m' → Wp K t (r'.set j (.d (.int (i : Int)))) m' (W (i + 1)) E) ∧ (∀ r' m', W n r' m' → N r' m')) : Wp K (tFor (iRng1 ta) (gName j) t) r m N E := fun σ H G D S L a b =>
  h σ H G S L _ fun vs H1 G1 xs m1 ⟨n, W, hx, hn, h0, hs, hd⟩ S1 e1 r1 => by
    subst hx
    obtain ⟨v1, t1, rfl, a1, t2⟩ := r1
    have t2 : t1 = [] := t2
    subst t2
    have a1 : v1 = .int (n : Int) := rp_int.mp a1.rp
    subst a1
    have en : ((n : Int)).toNat = n := by omega
    refine ⟨(n : Int), rfl, by omega, by omega, ?_⟩
    rw [en]
    refine for_range (lo := 0) (n := n) (fun i σ' H' => ∃ G' r' m', W i r' m' ∧ Sta K m' H' G' ∧ Le G1 G' ∧ Sl K G' r' σ') ⟨G1, r, _, h0, S1, Le.refl G1, L.mono e1⟩ ?_ ?_
    · rintro i σ' H' hi ⟨G', r', m', hw, S', e', L'⟩
      rw [Int.zero_add]
      exact hs i r' m' hi hw (σ'.set j (some (.int (i : Int)))) H' G' _ S' (L'.set (r := .d (.int (i : Int))) (.d (rp_int.mpr rfl)) j) (fun σ3 H3 G3 r3 m3 h3 S3 e3 L3 => ⟨G3, r3, m3, h3, S3, e'.trans e3, L3⟩) (fun v H3 G3 x m3 n3 S3 e3 L3 => b v H3 G3 x m3 n3 S3 (e1.trans (e'.trans e3)) L3)
    · rintro σ' H' ⟨G', r', m', hw, S', e', L'⟩
      exact a σ' H' G' r' m' (hd r' m' hw) S' (e1.trans e') L'
end
/-! words -/
end DL
set_option exponentiation.threshold 9000
/-! k84: two desks -/
namespace DL
open PySem L2
/-! texts that may be compared in lists -/
def TxOk (s : Str) : Prop := ∀ k ∈ TL.tl s, k < 0x110000
theorem TxOk.append {x y : Str} (h : TxOk x) (g : TxOk y) : TxOk (x ++ y) := fun k hk => by
  rw [TL.tl_append] at hk
  rcases List.mem_append.mp hk with hk | hk
  · exact h k hk
  · exact g k hk
theorem tx_dg (i : Int) : TxOk (dg i) := fun k hk => by
  refine Nat.lt_of_not_le fun hle => ?_
  exact PyProof.Rows.int_text_free' k ⟨by omega, by omega⟩ i hk
theorem dg_no_space (i : Int) : 32 ∉ TL.tl (dg i) := PyProof.Rows.int_text_free' 32 ⟨by decide, by decide⟩ i
theorem tx_join {xs : List Str} (h : ∀ x ∈ xs, TxOk x) : TxOk (Txt.join " " xs) := by
  rw [TL.join_eq]
  induction xs with
  | nil => exact fun k hk => nomatch hk
  | cons x xs ih =>
    cases xs with
    | nil => exact h x List.mem_cons_self
    | cons y ys =>
      show TxOk (x ++ (" " : Str) ++ Str.join " " (y :: ys))
      refine TxOk.append (TxOk.append (h x List.mem_cons_self) ?_) (ih fun z hz => h z (List.mem_cons_of_mem _ hz))
      intro k hk
      have e : TL.tl (" " : Str) = [32] := by decide +kernel
      rw [e, List.mem_singleton] at hk
      omega
theorem tx_lit {s : Str} (h : (s.cps.toList.all fun k => decide (k < 0x110000)) = true) : TxOk s := fun k hk => of_decide_eq_true (List.all_eq_true.mp h k hk)
theorem tx_str {s : Str} (h : TxOk s) : PyData.strOk s = true := by
  unfold PyData.strOk
  rw [← Array.all_toList, List.all_eq_true]
  exact fun k hk => decide_eq_true (h k hk)
theorem shaped_strs {xs : List Str} (h : ∀ x ∈ xs, TxOk x) : SeqAt.shaped (.list (xs.map PyData.str)) = true := by
  have h1 : PyData.canLayAll0 (xs.map PyData.str) = true := by
    rw [PyProof.Rows.canLayAll_strs', List.all_eq_true]
    exact fun x hx => tx_str (h x hx)
  have h2 := PyProof.Rows.depthAll_strs' xs
  simp [SeqAt.shaped, PyData.canLay0, PyData.depth, h1, h2]
theorem tx_spc (ns : List Int) : TxOk (spcS ns) := by
  unfold spcS
  split
  · exact tx_lit (by decide +kernel)
  · exact tx_join fun x hx => by
      obtain ⟨i, _, rfl⟩ := List.mem_map.mp hx
      exact tx_dg i
theorem tx_show (ns : List Int) : TxOk (showS ns) := tx_join fun x hx => by
  obtain ⟨i, _, rfl⟩ := List.mem_map.mp hx
  exact tx_dg i
theorem tx_wr (q : Rat) : TxOk (wrQ q) := ((tx_dg _).append (tx_lit (by decide +kernel))).append (tx_dg _)
theorem tx_told (b : Bool) : TxOk (told b) := by cases b <;> exact tx_lit (by decide +kernel)
theorem tx_cost (ss : List Int) (lft : List Nat) (c : Nat) : TxOk (costS ss lft c) := by
  unfold costS
  split
  · exact tx_lit (by decide +kernel)
  · exact ((tx_wr _).append (tx_lit (by decide +kernel))).append (tx_told _)
/-! what a desk is asked -/
def asks : List Cmd := [.told, .left, .drawn, .mean, .next, .all 4, .buy 3]
def ansS (ss : List Int) (row : List Nat) (c : Cmd) : Str := match run c ss row [] with
  | .ok t _ _ _ => t
  | .no _ => ""
theorem ask_run {c : Cmd} (h : c ∈ asks) (ss : List Int) (row : List Nat) (pst : List (List Int × List Nat)) : c.Ok ∧ run c ss row pst = .ok (ansS ss row c) ss row pst ∧ TxOk (ansS ss row c) := by
  simp only [asks, List.mem_cons, List.not_mem_nil, or_false] at h
  rcases h with rfl | rfl | rfl | rfl | rfl | rfl | rfl
  · exact ⟨trivial, rfl, tx_show ss⟩
  · exact ⟨trivial, rfl, tx_spc _⟩
  · exact ⟨trivial, rfl, tx_spc _⟩
  · exact ⟨trivial, rfl, tx_wr _⟩
  · exact ⟨trivial, rfl, tx_wr _⟩
  · exact ⟨by show 4 ≤ 99; decide, rfl, tx_wr _⟩
  · exact ⟨by show 3 ≤ 99; decide, rfl, tx_cost _ _ _⟩
def aoS (ss : List Int) (row : List Nat) : List Str := asks.map (ansS ss row)
def aoD (ss : List Int) (row : List Nat) : PyData := .list ((aoS ss row).map PyData.str)
theorem shaped_all (ss : List Int) (row : List Nat) : SeqAt.shaped (aoD ss row) = true := shaped_strs fun x hx => by
  obtain ⟨c, hc, rfl⟩ := List.mem_map.mp hx
  exact (ask_run hc ss row []).2.2
theorem leftL_of {ss : List Int} {row row' : List Nat} (h : ∀ k, k < ss.length → (k ∈ row ↔ k ∈ row')) : leftL ss row = leftL ss row' := by
  unfold leftL
  refine List.filter_congr fun k hk => ?_
  have h1 := h k (List.mem_range.mp hk)
  by_cases hm : k ∈ row
  · simp [hm, h1.mp hm]
  · have : ¬ k ∈ row' := fun g => hm (h1.mpr g)
    simp [hm, this]
/-- kinds that were drawn as often make the desk answer alike -/
theorem all_of {ss : List Int} {row row' : List Nat} (h : ∀ k, k < ss.length → row.count k = row'.count k) : aoS ss row = aoS ss row' := by
  have hl : leftL ss row = leftL ss row' := leftL_of fun k hk => by
    have h1 := h k hk
    rw [← List.count_pos_iff, ← List.count_pos_iff, h1]
  have hc : ((List.range ss.length).map fun k => ((row.count k : Nat) : Int)) = (List.range ss.length).map fun k => ((row'.count k : Nat) : Int) := List.map_congr_left fun k hk => by rw [h k (List.mem_range.mp hk)]
  unfold aoS
  refine List.map_congr_left fun c hc2 => ?_
  simp only [asks, List.mem_cons, List.not_mem_nil, or_false] at hc2
  rcases hc2 with rfl | rfl | rfl | rfl | rfl | rfl | rfl
  · rfl
  · show leftS ss row = leftS ss row'
    unfold leftS; rw [hl]
  · show spcS _ = spcS _
    rw [hc]
  · show wrQ (timeT ss (leftL ss row)) = wrQ (timeT ss (leftL ss row'))
    rw [hl]
  · show wrQ (mkRat (sumP ss (leftL ss row)) _) = wrQ (mkRat (sumP ss (leftL ss row')) _)
    rw [hl]
  · show wrQ (comeQ ss (leftL ss row) 4) = wrQ (comeQ ss (leftL ss row') 4)
    rw [hl]
  · show costS ss (leftL ss row) 3 = costS ss (leftL ss row') 3
    rw [hl]
/-! texts of numbers, cut -/
theorem dg100 {i : Int} (h : 0 ≤ i ∧ i < 100) : (1 ≤ (dg i).length ∧ (dg i).length ≤ 2) ∧ PySem.intText? (dg i) = some i := by
  obtain ⟨h1, h2, _⟩ := fig_two ⟨i.toNat, by omega⟩
  have e : (((⟨i.toNat, by omega⟩ : _root_.Fin 100).val : Nat) : Int) = i := by show ((i.toNat : Nat) : Int) = i; omega
  rw [e] at h1 h2
  exact ⟨h1, h2⟩
theorem spc_join_ne {ns : List Int} (h : ns ≠ []) (hb : ∀ n ∈ ns, 0 ≤ n ∧ n < 100) : spcS ns = Txt.join " " (ns.map dg) ∧ Txt.split (spcS ns) " " = ns.map dg ∧ spcS ns ≠ "none" := by
  have hs : Txt.split (Txt.join " " (ns.map dg)) " " = ns.map dg := TL.split_join (s := 32) (S := []) (by decide +kernel) (by decide +kernel) (fun e => h (List.map_eq_nil_iff.mp e)) (fun p hp => by
    obtain ⟨s, _, rfl⟩ := List.mem_map.mp hp
    exact dg_no_space s)
  have e1 : spcS ns = Txt.join " " (ns.map dg) := by
    unfold spcS
    refine if_neg fun e => ?_
    have e0 : Txt.join " " (ns.map dg) = ("" : Str) := by
      refine PySem.Str.ext' ?_
      have h2 : (Txt.join " " (ns.map dg)).cps = #[] := Array.size_eq_zero_iff.mp e
      rw [h2]
      rfl
    rw [e0, show Txt.split "" " " = [("" : Str)] by decide +kernel] at hs
    obtain ⟨i, ns', rfl⟩ := List.exists_cons_of_ne_nil h
    have h3 : dg i = "" := by rw [List.map_cons] at hs; injection hs with a b; exact a.symm
    have h4 := (dg100 (hb i List.mem_cons_self)).1.1
    rw [h3] at h4
    exact absurd h4 (by decide +kernel)
  refine ⟨e1, by rw [e1]; exact hs, fun e => ?_⟩
  rw [← e1, e, show Txt.split "none" " " = [("none" : Str)] by decide +kernel] at hs
  obtain ⟨i, ns', rfl⟩ := List.exists_cons_of_ne_nil h
  have h3 : dg i = "none" := by rw [List.map_cons] at hs; injection hs with a b; exact a.symm
  have h4 : (110 : Nat) ∉ TL.tl (dg i) := PyProof.Rows.int_text_free' 110 ⟨by decide, by decide⟩ i
  rw [h3] at h4
  exact h4 (by decide +kernel)
/-! words -/
section
variable (K : PySem.W.Frag) (C : Addr)
def f_sayD : FSp := fun args m R => ∃ (c : Cmd) (p l : Addr) (n : Nat) (ss : List Int) (row : List Nat) (pst : List (List Int × List Nat)) (t : Str) (ss' : List Int) (row' : List Nat) (pst' : List (List Int × List Nat)), args = [.v (.ref p), .d (.str c.text)] ∧ c.Ok ∧ DeskIn K C m p l ss row pst ∧ DsOk n ss row pst ∧ n ≤ 9000 ∧ run c ss row pst = .ok t ss' row' pst' ∧ R (.d (.str t)) (dskM K C m p l ss' row' pst')
theorem sayD_of (cs : List Addr) : ∀ args m R, f_sayD K C args m R → f_say K C cs args m R fun _ _ => False := by
  rintro args m R ⟨c, p, l, n, ss, row, pst, t, ss', row', pst', rfl, hc, hd, hk, hn, hr, q⟩
  refine ⟨c, p, l, n, ss, row, pst, rfl, hc, hd, hk, hn, ?_⟩
  rw [hr]
  exact q
def f_lawAll : FSp := fun args m R => ∃ (p l : Addr) (n : Nat) (ss : List Int) (row : List Nat) (pst : List (List Int × List Nat)), args = [.v (.ref p)] ∧ DeskIn K C m p l ss row pst ∧ DsOk n ss row pst ∧ n ≤ 9000 ∧ R (.d (aoD ss row)) m
def f_lawDeed : FSp := fun args m R => ∃ (b p l : Addr) (n : Nat) (ss : List Int) (row : List Nat) (pst : List (List Int × List Nat)), args = [.v (.ref b), .v (.ref p)] ∧ m b = some .box ∧ DeskIn K C m p l ss row pst ∧ DsOk n ss row pst ∧ n ≤ 8000 ∧
  ∀ ss' row', DsOk (n + 1) ss' row' (pst ++ [(ss, row)]) → R (.d .none) (dskM K C m p l ss' row' (pst ++ [(ss, row)]))
def f_deskRight : FSp := fun args m R => ∃ (p l : Addr) (n : Nat) (ss : List Int) (row : List Nat) (pst : List (List Int × List Nat)), args = [.v (.ref p)] ∧ DeskIn K C m p l ss row pst ∧ DsOk n ss row pst ∧ n ≤ 8000 ∧ R (.d (.bool true)) m
end
section
variable {K : PySem.W.Frag} {C : Addr} {r : List Val} {m : Mm} {Q : Val → Mm → Prop} {p l : Addr} {n : Nat} {c : Cmd} {ss ss' : List Int} {row row' : List Nat} {pst pst' : List (List Int × List Nat)} {t : Str} {to te : TE}
theorem ev_say (hd : DeskIn K C m p l ss row pst) (hk : DsOk n ss row pst) (hn : n ≤ 9000) (hc : c.Ok) (hr : run c ss row pst = .ok t ss' row' pst') (h1 : Ev K to r m fun x m1 => x = .v (.ref p) ∧ m1 = m) (h2 : Ev K te r m fun y m2 => y = .d (.str c.text) ∧ m2 = m) (q : Q (.d (.str t)) (dskM K C m p l ss' row' pst')) :
    Ev K (tMeth C "say" (spD K (f_sayD K C)) [] E0 to (tCons te tNil)) r m Q :=
  ev_mt (h1.imp fun x m1 e => by
    obtain ⟨rfl, rfl⟩ := e
    exact ⟨p, _, rfl, hd.ob, lk_no (by decide +kernel) (by decide +kernel) (by decide +kernel), eva_cons (h2.imp fun y m2 e2 => by
      obtain ⟨rfl, rfl⟩ := e2
      exact eva_nil ⟨c, p, l, n, ss, row, pst, t, ss', row', pst', rfl, hc, hd, hk, hn, hr, q⟩)⟩)
/-- a line that is known only when it is put together -/
theorem ev_sayG (hd : DeskIn K C m p l ss row pst) (hk : DsOk n ss row pst) (hn : n ≤ 9000) (h1 : Ev K to r m fun x m1 => x = .v (.ref p) ∧ m1 = m) (h2 : Ev K te r m fun y m2 => ∃ (c : Cmd) (t : Str) (ss' : List Int) (row' : List Nat) (pst' : List (List Int × List Nat)), y = .d (.str c.text) ∧ m2 = m ∧ c.Ok ∧ run c ss row pst = .ok t ss' row' pst' ∧ Q (.d (.str t)) (dskM K C m p l ss' row' pst')) :
    Ev K (tMeth C "say" (spD K (f_sayD K C)) [] E0 to (tCons te tNil)) r m Q :=
  ev_mt (h1.imp fun x m1 e => by
    obtain ⟨rfl, rfl⟩ := e
    exact ⟨p, _, rfl, hd.ob, lk_no (by decide +kernel) (by decide +kernel) (by decide +kernel), eva_cons (h2.imp fun y m2 e2 => by
      obtain ⟨c, t, ss', row', pst', rfl, rfl, hc, hr, q⟩ := e2
      exact eva_nil ⟨c, p, l, n, ss, row, pst, t, ss', row', pst', rfl, hc, hd, hk, hn, hr, q⟩)⟩)
/-- what changes nothing -/
theorem ev_sayS (hd : DeskIn K C m p l ss row pst) (hk : DsOk n ss row pst) (hn : n ≤ 9000) (hc : c.Ok) (hr : run c ss row pst = .ok t ss row pst) (h1 : Ev K to r m fun x m1 => x = .v (.ref p) ∧ m1 = m) (h2 : Ev K te r m fun y m2 => y = .d (.str c.text) ∧ m2 = m) (q : Q (.d (.str t)) m) :
    Ev K (tMeth C "say" (spD K (f_sayD K C)) [] E0 to (tCons te tNil)) r m Q := ev_say hd hk hn hc hr h1 h2 (by rw [hd.same]; exact q)
end
theorem run_got {d : Nat} {ss : List Int} {row : List Nat} {pst : List (List Int × List Nat)} (h : d < ss.length) : run (.got d) ss row pst = .ok (leftS ss (row ++ [d])) ss (row ++ [d]) (pst ++ [(ss, row)]) := if_neg (by omega)
theorem run_back {e : List Int × List Nat} {ss : List Int} {row : List Nat} {pst : List (List Int × List Nat)} : run .back ss row (pst ++ [e]) = .ok (leftS e.1 e.2) e.1 e.2 pst := by simp [run]
theorem rs_no0 : ∀ n : _root_.Fin 6, [] ∉ rsX n.val := by decide +kernel
theorem getV_tabSno {f : List Nat → Str} {s : List Nat} : ∀ {l : List (List Nat)}, s ∉ l → getV (dI (tabS f l)) (kI (kn s)) = none
  | [], _ => rfl
  | a :: l, h => by
    have h1 : ¬ kI (kn a) = kI (kn s) := fun e => h (by rw [kn_inj (kI_inj e)]; exact List.mem_cons_self)
    have h2 : s ∉ l := fun e => h (List.mem_cons_of_mem _ e)
    have ih := getV_tabSno (f := f) h2
    unfold tabS dI at ih ⊢
    rw [List.map_cons, List.map_cons]
    simp only [getV, List.find?_cons, h1, decide_false] at ih ⊢
    exact ih
theorem rest_in {ss : List Int} (hs : Shares ss) (row : List Nat) : leftL ss row ∈ [] :: rsX ss.length := rs_all ⟨ss.length, by have := hs.few; omega⟩ _ (kinds_allS (leftL_kinds ss row))
theorem done_rs4 (n : Nat) : doneL (ordS n) (ordS n).length = [] :: rsX n := by
  unfold doneL rsX
  rw [List.take_length, ordS_eq]
/-! all that is left drawn, and taken back -/
def chn (ss : List Int) (row lft : List Nat) (i : Nat) : List (List Int × List Nat) := (List.range i).map fun j => (ss, row ++ lft.take j)
theorem chn_succ (ss : List Int) (row lft : List Nat) (i : Nat) : chn ss row lft (i + 1) = chn ss row lft i ++ [(ss, row ++ lft.take i)] := by
  unfold chn
  rw [List.range_succ, List.map_append]
  rfl
theorem chn_ok {n : Nat} {ss : List Int} {row lft : List Nat} {pst : List (List Int × List Nat)} (h : DsOk n ss row pst) (i : Nat) : DsOk (n + i) ss (row ++ lft.take i) (pst ++ chn ss row lft i) := by
  have h1 := h.rl
  have h2 := h.pl
  refine ⟨h.sh, ?_, ?_, fun e he => ?_⟩
  · rw [List.length_append, List.length_take]; omega
  · unfold chn; rw [List.length_append, List.length_map, List.length_range]; omega
  · rcases List.mem_append.mp he with he | he
    · exact ⟨(h.each e he).1, Nat.le_trans (h.each e he).2 (Nat.le_add_right _ _)⟩
    · obtain ⟨j, hj, rfl⟩ := List.mem_map.mp he
      have hj := List.mem_range.mp hj
      refine ⟨h.sh, ?_⟩
      show (row ++ lft.take j).length ≤ n + i
      rw [List.length_append, List.length_take]
      omega
theorem left_all (ss : List Int) (row : List Nat) : leftL ss (row ++ leftL ss row) = [] := by
  unfold leftL
  refine List.filter_eq_nil_iff.mpr fun k hk => ?_
  by_cases h : k ∈ row
  · simp [h]
  · have : k ∈ (List.range ss.length).filter fun k => !decide (k ∈ row) := List.mem_filter.mpr ⟨hk, by simp [h]⟩
    simp [this]
def ends : List (Cmd × Str) := [(.left, "none"), (.mean, "0/1"), (.next, "0/1"), (.all 0, "1/1")]
theorem ends_text : [PyData.str "left", .str "mean", .str "next", .str "all 0"] = ends.map fun e => PyData.str e.1.text := by
  have e1 : (Cmd.all 0).text = "all 0" := by decide +kernel
  show _ = [PyData.str "left", .str "mean", .str "next", .str (Cmd.all 0).text]
  rw [e1]
theorem come_nil (ss : List Int) : comeQ ss [] 0 = 1 := by
  have e : comeI ss [] 0 = 1 := by
    show (sgn 0 * (ss.sum - sumP ss []) ^ 0 + 0) = 1
    rw [Int.pow_zero]
    decide
  unfold comeQ
  rw [e, Nat.pow_zero]
  rfl
theorem ends_run {ss : List Int} {row : List Nat} (h : leftL ss row = []) (pst : List (List Int × List Nat)) : ∀ e ∈ ends, e.1.Ok ∧ run e.1 ss row pst = .ok e.2 ss row pst := by
  intro e he
  simp only [ends, List.mem_cons, List.not_mem_nil, or_false] at he
  rcases he with rfl | rfl | rfl | rfl
  · refine ⟨trivial, ?_⟩
    have e : leftS ss row = "none" := by unfold leftS; rw [h]; decide +kernel
    show SayR.ok (leftS ss row) _ _ _ = _
    rw [e]
  · refine ⟨trivial, ?_⟩
    show SayR.ok (wrQ (timeT ss (leftL ss row))) _ _ _ = _
    rw [h, timeT_nil, show wrQ (0 : Rat) = "0/1" by decide +kernel]
  · refine ⟨trivial, ?_⟩
    show SayR.ok (wrQ (mkRat (sumP ss (leftL ss row)) _)) _ _ _ = _
    rw [h, show sumP ss [] = 0 from rfl, Rat.zero_mkRat, show wrQ (0 : Rat) = "0/1" by decide +kernel]
  · refine ⟨by show 0 ≤ 99; decide, ?_⟩
    show SayR.ok (wrQ (comeQ ss (leftL ss row) 0)) _ _ _ = _
    rw [h, come_nil, show wrQ (1 : Rat) = "1/1" by decide +kernel]
theorem ends_tx : ∀ x ∈ ends.map (·.2), TxOk x := by
  intro x hx
  simp only [ends, List.map_cons, List.map_nil, List.mem_cons, List.not_mem_nil, or_false] at hx
  rcases hx with rfl | rfl | rfl | rfl <;> exact tx_lit (by decide +kernel)
theorem cost_word (ss : List Int) (s : List Nat) (c : Nat) : wrQ (costT ss c s) ++ (" " : Str) ++ (if s = [] then ("none" : Str) else told (buyP ss c s)) = costS ss s c := by
  unfold costS
  by_cases h : s = []
  · rw [if_pos h, if_pos h, h, show costT ss c [] = 0 from rfl]
    decide +kernel
  · rw [if_neg h, if_neg h]
theorem plan_get {ss : List Int} (hs : Shares ss) (row : List Nat) (c : Nat) : (getV (dI (tabS (fun s => told (buyP ss c s)) (rsX ss.length))) (kI (kn (leftL ss row)))).getD (.d (.str "none")) = .d (.str (if leftL ss row = [] then ("none" : Str) else told (buyP ss c (leftL ss row)))) := by
  have hin := rest_in hs row
  by_cases h : leftL ss row = []
  · rw [if_pos h, h, getV_tabSno (rs_no0 ⟨ss.length, by have := hs.few; omega⟩)]
    rfl
  · rw [if_neg h]
    have h2 : leftL ss row ∈ rsX ss.length := by
      rcases List.mem_cons.mp hin with e | e
      · exact absurd e h
      · exact e
    rw [getV_tabS (f := fun s => told (buyP ss c s)) h2]
    rfl
theorem tel5 (s : List Nat) (b : Bool) : (if s = [] then ("none" : Str) else told b).length ≤ 4 := by
  split
  · decide +kernel
  · cases b <;> decide +kernel
/-! desks beside each other -/
section
variable {K : PySem.W.Frag} {C : Addr} {M m : Mm} {p l p' l' : Addr} {ss ss' : List Int} {row row' : List Nat} {pst pst' : List (List Int × List Nat)}
theorem fresh_desk (hp : M p = none) (hl : put M p (insM K C []) l = none) : M l = none ∧ p ≠ l ∧ DeskIn K C (dskM K C (put M p (insM K C [])) p l [1] [] []) p l [1] [] [] ∧ Ext M (dskM K C (put M p (insM K C [])) p l [1] [] []) := by
  have hpl : p ≠ l := fun e => by rw [← e, put_same] at hl; cases hl
  rw [put_ne hpl.symm] at hl
  refine ⟨hl, hpl, DeskIn.to hpl, fun a o h => ?_⟩
  have h1 : a ≠ p := fun e => by rw [e, hp] at h; cases h
  have h2 : a ≠ l := fun e => by rw [e, hl] at h; cases h
  rw [dskM_ne h1 h2, put_ne h1]
  exact h
theorem ext_dsk (hx : Ext M m) (hp : M p = none) (hl : M l = none) : Ext M (dskM K C m p l ss row pst) := fun a o h => by
  have h1 : a ≠ p := fun e => by rw [e, hp] at h; cases h
  have h2 : a ≠ l := fun e => by rw [e, hl] at h; cases h
  rw [dskM_ne h1 h2]
  exact hx a o h
theorem DeskIn.keep (h : DeskIn K C m p l ss row pst) (h1 : p ≠ p') (h2 : p ≠ l') (h3 : l ≠ p') (h4 : l ≠ l') : DeskIn K C (dskM K C m p' l' ss' row' pst') p l ss row pst := ⟨by rw [dskM_ne h1 h2]; exact h.ob, by rw [dskM_ne h3 h4]; exact h.ls⟩
theorem ok_new : DsOk 0 [1] [] [] := ⟨⟨by decide, by decide, by decide⟩, Nat.le_refl _, Nat.le_refl _, fun _ h => nomatch h⟩
/-- two desks stand apart -/
structure Apart (b : Addr) (p l : Nat → Addr) : Prop where
  pp : p 0 ≠ p 1
  pl : p 0 ≠ l 1
  lp : l 0 ≠ p 1
  ll : l 0 ≠ l 1
  bp : ∀ i, i < 2 → b ≠ p i
  bl : ∀ i, i < 2 → b ≠ l i
theorem Apart.two {b : Addr} {p l : Nat → Addr} (h : Apart b p l) {i j : Nat} (hi : i < 2) (hj : j < 2) (hij : i ≠ j) : p i ≠ p j ∧ p i ≠ l j ∧ l i ≠ p j ∧ l i ≠ l j := by
  have hi : i = 0 ∨ i = 1 := by omega
  have hj : j = 0 ∨ j = 1 := by omega
  rcases hi with rfl | rfl <;> rcases hj with rfl | rfl
  · exact absurd rfl hij
  · exact ⟨h.pp, h.pl, h.lp, h.ll⟩
  · exact ⟨h.pp.symm, h.lp.symm, h.pl.symm, h.ll.symm⟩
  · exact absurd rfl hij
end
def Hd1 (ss : List Int) (row : List Nat) (pst : List (List Int × List Nat)) : Prop := (pst ++ [(ss, row)])[0]? = some ([1], [])
theorem Hd1.push {ss ss' : List Int} {row row' : List Nat} {pst : List (List Int × List Nat)} (h : Hd1 ss row pst) : Hd1 ss' row' (pst ++ [(ss, row)]) := by
  unfold Hd1 at h ⊢
  rw [List.getElem?_append_left (by rw [List.length_append, List.length_singleton]; omega)]
  exact h
theorem Hd1.back {ss : List Int} {row : List Nat} {e : List Int × List Nat} {pst : List (List Int × List Nat)} (h : Hd1 ss row (pst ++ [e])) : Hd1 e.1 e.2 pst := by
  unfold Hd1 at h ⊢
  rw [List.getElem?_append_left (by rw [List.length_append, List.length_singleton]; omega)] at h
  exact h
theorem Hd1.end {ss : List Int} {row : List Nat} (h : Hd1 ss row []) : ss = [1] ∧ row = [] := by
  unfold Hd1 at h
  have h : some (ss, row) = some (([1], []) : List Int × List Nat) := h
  injection h with h
  exact ⟨congrArg Prod.fst h, congrArg Prod.snd h⟩
/-- how each desk stands, after so many laps -/
structure DkOk (K : PySem.W.Frag) (C : Addr) (m : Mm) (p l : Addr) (n a : Nat) (ss : List Int) (row : List Nat) (pst : List (List Int × List Nat)) : Prop where
  d : DeskIn K C m p l ss row pst
  k : DsOk n ss row pst
  len : pst.length = a
  hd : Hd1 ss row pst
theorem back_step {K : PySem.W.Frag} {C : Addr} {m : Mm} {p l : Addr} {n a : Nat} {ss : List Int} {row : List Nat} {pst : List (List Int × List Nat)} (h : DkOk K C m p l n (a + 1) ss row pst) : ∃ t ss' row' pst', run .back ss row pst = .ok t ss' row' pst' ∧ DkOk K C (dskM K C m p l ss' row' pst') p l n a ss' row' pst' := by
  rcases pst.eq_nil_or_concat with rfl | ⟨pst0, e, he⟩
  · have := h.len; simp at this
  · rw [List.concat_eq_append] at he
    subst he
    refine ⟨_, e.1, e.2, pst0, run_back, DeskIn.to h.d.ne, ?_, ?_, h.hd.back⟩
    · have hz := h.k.each e (List.mem_append_right _ (List.mem_singleton.mpr rfl))
      exact ⟨hz.1, hz.2, by have := h.k.pl; rw [List.length_append] at this; omega, fun e2 he2 => h.k.each e2 (List.mem_append_left _ he2)⟩
    · have := h.len
      rw [List.length_append, List.length_singleton] at this
      omega
end DL
namespace Law
open PySem L2 DL
def topS (i : Nat) : Stmt := PySem.Challenge.pw_kindsgathered_k84_whole_desks.main.body.getD i (.Pass ⟨0, 0, 0, 0⟩)
local macro_rules | `(tactic| walk_at "dl1") => `(tactic| first
  | with_reducible refine w_seq ?_
  | with_reducible refine w_asg ?_
  | with_reducible refine w_ret ?_
  | with_reducible refine w_drop ?_
  | with_reducible refine w_if ?_
  | with_reducible refine w_par ?_
  | with_reducible refine evt_B ?_
  | with_reducible refine evt_test ?_
  | with_reducible refine evt_and ?_
  | with_reducible refine evt_or ?_
  | with_reducible refine evt_not ?_
  | with_reducible refine evt_yes ?_
  | with_reducible refine ev_lstMul ?_
  | with_reducible refine ev_op ?_
  | with_reducible refine ev_un ?_
  | with_reducible refine ev_callB ?_
  | with_reducible refine ev_call ?_
  | with_reducible refine eva_cons ?_
  | with_reducible refine eva_nil ?_
  | with_reducible refine evo_none ?_
  | with_reducible refine evo_some ?_
  | with_reducible refine ev_slL ?_
  | with_reducible refine ev_slT ?_
  | with_reducible refine ev_and ?_
  | with_reducible refine ev_or ?_
  | with_reducible refine ev_not ?_
  | with_reducible refine ev_chain ?_
  | with_reducible refine ev_tup ?_
  | with_reducible refine ev_if ?_
  | (refine ev_varTN rfl ?_)
  | (refine ev_varT rfl ?_)
  | (refine ev_var rfl (fun h => nomatch h) ?_)
  | with_reducible refine ev_cI ?_
  | with_reducible refine ev_cB ?_
  | with_reducible refine ev_cS ?_
  | with_reducible refine ev_cN ?_
  | with_reducible refine ev_cTy ?_)
local macro_rules | `(tactic| walk_at "dl2") => `(tactic| first
  | with_reducible refine o2_addI ?_
  | with_reducible refine o2_sub ?_
  | with_reducible refine o2_lt ?_
  | with_reducible refine o2_le ?_
  | with_reducible refine o2_gt ?_
  | with_reducible refine o2_ge ?_
  | with_reducible refine o2_eqI ?_
  | with_reducible refine o2_neI ?_
  | with_reducible refine o2_neS ?_
  | with_reducible refine o2_eqS ?_
  | with_reducible refine o1_neg ?_
  | with_reducible refine o2_isB ?_
  | with_reducible refine o2_isNotB ?_
  | with_reducible refine o2_inN ?_
  | with_reducible refine o2_notInN ?_
  | with_reducible refine on_abs ?_
  | with_reducible refine on_max ?_
  | with_reducible refine on_min ?_
  | with_reducible refine o2_ixF0 ?_
  | with_reducible refine o2_ixF1 ?_
  | with_reducible refine on_lenI ?_
  | with_reducible refine on_lenN ?_
  | with_reducible refine on_sumI ?_
  | with_reducible refine on_lenT ?_
  | with_reducible refine on_lenL ?_
  | with_reducible refine on_lenS ?_
  | with_reducible refine on_tupL ?_
  | with_reducible refine on_tupT ?_
  | with_reducible refine on_lstT ?_
  | with_reducible refine on_isiTup ?_
  | with_reducible refine on_isiInt ?_
  | with_reducible refine on_isiBool ?_
  | with_reducible refine on_isiStr ?_
  | with_reducible refine on_isiList ?_
  | with_reducible refine on_isiDict ?_
  | with_reducible refine on_sumL ?_
  | with_reducible refine on_sumT ?_
  | with_reducible refine on_all ?_
  | with_reducible refine on_any ?_
  | refine ⟨_, rfl, ?_⟩
  | refine ⟨_, _, rfl, ?_⟩
  | refine ⟨[], rfl, Nat.le_of_ble_eq_true rfl, ?_⟩
  | refine ⟨[_], rfl, Nat.le_of_ble_eq_true rfl, ?_⟩
  | refine ⟨[_, _], rfl, Nat.le_of_ble_eq_true rfl, ?_⟩
  | refine ⟨[_, _, _], rfl, Nat.le_of_ble_eq_true rfl, ?_⟩)
local macro_rules | `(tactic| walk_at "dl") => `(tactic| first | walk_at "dl1" | walk_at "dl2")
local macro_rules | `(tactic| walk_at "go") => `(tactic| repeat walk_at "dl")
section
variable {P : Program} {w : World} {K : PySem.W.Frag} {mg : Str → Option Value} {base : Heap}
variable {c_NoShares c_NoKind c_NoNumber c_NoLine c_NoText c_GatherError : Addr}
variable {c_Desk : Addr}
abbrev s_is_whole : Stmt := topS 9
theorem sc_is_whole : FnScope ["thing"] ["thing"] (defScope s_is_whole) := ⟨rfl, rfl, rfl, by decide +kernel, rfl, by decide +kernel, by decide +kernel⟩
theorem ok_is_whole {a : Addr} {fd : FuncData} (F : Fun K "is_whole" "is_whole" s_is_whole a fd) (hm : mg "is_whole" = some (.ref a)) (z_isinstance : mg "isinstance" = none) (z_bool : mg "bool" = none) (z_int : mg "int" = none) :
    Cl P w K mg base 1 "is_whole" f_isWhole := by
  refine ⟨a, fd, ["thing"], fn_ok F sc_is_whole (fun args m R h => ?_) (fun cdv A outer s H E hr => ⟨_, (pss_one (ps_ret (pe_and (pe_callB (kIsi K) (by rfl) z_isinstance (by decide +kernel) (pa_cons (pv 0) (pa_cons (pe_bltn (v := .ty "int") (by rfl) z_int (by decide +kernel) rfl) pa_nil))) (pe_one (pe_not (pe_callB (kIsi K) (by rfl) z_isinstance (by decide +kernel) (pa_cons (pv 0) (pa_cons (pe_bltn (v := .ty "bool") (by rfl) z_bool (by decide +kernel) rfl) pa_nil)))))))), fun args m R h => ?_⟩), hm, F.kp, F.binds (ps := ["thing"]) fun _ _ _ _ _ _ us hl => match us, hl with | [_], _ => rfl⟩
  ·
    obtain ⟨_, rfl, _⟩ := h; rfl
  ·
    obtain ⟨x, rfl, q⟩ := h
    repeat walk_at "dl"
    refine ⟨fun hc => ?_, fun hc => ?_⟩
    · repeat walk_at "dl"
      have e : (!isBoo x) = isInt x := by cases x <;> simp_all [isBoo, isInt, isIntB]
      rw [e]
      exact q
    · have e : isInt x = false := by cases x <;> simp_all [isInt, isIntB]
      rw [e] at q
      exact q
abbrev s_greatest_common : Stmt := topS 10
theorem sc_greatest_common : FnScope ["one", "other"] ["one", "other"] (defScope s_greatest_common) := ⟨rfl, rfl, rfl, by decide +kernel, rfl, by decide +kernel, by decide +kernel⟩
theorem ok_greatest_common {a : Addr} {fd : FuncData} (F : Fun K "greatest_common" "greatest_common" s_greatest_common a fd) (hm : mg "greatest_common" = some (.ref a)) :
    Cl P w K mg base 1 "greatest_common" f_gcd := by
  refine ⟨a, fd, ["one", "other"], fn_ok F sc_greatest_common (fun args m R h => ?_) (fun cdv A outer s H E hr => ⟨_, (pss_cons (ps_while PassesOwn.never (pt_cmpR (kNe K hr) (pv 1) pe_int (nomark _)) (pss_one (ps_par (i := 0) (j := 1) rfl sc_greatest_common.nd rfl rfl (by decide) rfl rfl (pa_cons (pv 1) (pa_cons (pe_op oMod (pv 0) (pv 1)) pa_nil)) rfl)))
      (pss_one (ps_ret (pv 0)))), fun args m R h => ?_⟩), hm, F.kp, F.binds (ps := ["one", "other"]) fun _ _ _ _ _ _ us hl => match us, hl with | [_, _], _ => rfl⟩
  ·
    obtain ⟨_, _, rfl, _⟩ := h; rfl
  ·
    obtain ⟨a0, b0, rfl, q⟩ := h
    refine w_seq (w_while (fun n r m' => m' = m ∧ ∃ x y : Nat, n = y ∧ r = [.d (.int (x : Int)), .d (.int (y : Int))] ∧ Nat.gcd x y = Nat.gcd a0 b0) b0 ⟨rfl, a0, b0, rfl, rfl, rfl⟩ ?_)
    rintro n r m' ⟨rfl, x, y, rfl, rfl, hg⟩
    repeat walk_at "dl"
    refine ⟨fun hc => ?_, fun hc => ?_⟩
    · have hy : n ≠ 0 := by
        intro e
        rw [e] at hc
        simp at hc
      repeat walk_at "dl"
      refine o2_mod (by omega) ?_
      repeat walk_at "dl"
      refine ⟨x % n, Nat.mod_lt x (by omega), rfl, n, x % n, rfl, rfl, ?_⟩
      rw [← hg, Nat.gcd_comm n (x % n), ← Nat.gcd_rec, Nat.gcd_comm]
    · have hy : n = 0 := by
        have : ((n : Nat) : Int) = 0 := by simpa using hc
        omega
      subst hy
      repeat walk_at "dl"
      rw [Nat.gcd_zero_right] at hg
      rw [hg]
      exact q
abbrev s_raised : Stmt := topS 13
theorem sc_raised : FnScope ["number", "often", "found", "turn"] ["number", "often"] (defScope s_raised) := ⟨rfl, rfl, rfl, by decide +kernel, rfl, by decide +kernel, by decide +kernel⟩
theorem ok_raised {a : Addr} {fd : FuncData} (F : Fun K "raised" "raised" s_raised a fd) (hm : mg "raised" = some (.ref a)) (z_range : mg "range" = none) :
    Cl P w K mg base 1 "raised" f_raised := by
  refine ⟨a, fd, ["number", "often"], fn_ok F sc_raised (fun args m R h => ?_) (fun cdv A outer s H E hr => ⟨_, (pss_cons (ps_set (i := 2) sc_raised.nd rfl (by first | exact Or.inl rfl | exact Or.inr rfl) pe_int)
      (pss_cons (ps_for PassesOwn.never rfl (pi_range1 (by rfl) z_range (pa_cons (pv 1) pa_nil)) (pg_name (i := 3) sc_raised.nd rfl (by first | exact Or.inl rfl | exact Or.inr rfl)) (pss_one (ps_set (i := 2) sc_raised.nd rfl (by first | exact Or.inl rfl | exact Or.inr rfl) (pe_op (kMul K) (pv 2) (pv 0)))))
      (pss_one (ps_ret (pv 2))))), fun args m R h => ?_⟩), hm, F.kp, F.binds (ps := ["number", "often"]) fun _ _ _ _ _ _ us hl => match us, hl with | [_, _], _ => rfl⟩
  ·
    obtain ⟨_, _, rfl, _⟩ := h; rfl
  ·
    obtain ⟨b, n, rfl, hn, hb, q⟩ := h
    walk_at "go"
    refine w_forR1 (n := n) ?_ (by omega) (fun i r' m' => m' = m ∧ ∃ y, r' = [.d (.int b), .d (.int (n : Int)), .d (.int (b ^ i)), y]) ⟨rfl, .any, by rw [Int.pow_zero]; rfl⟩ ?_ ?_
    · walk_at "go"
      exact ⟨rfl, rfl⟩
    · rintro i r' m' hi ⟨rfl, y, rfl⟩
      walk_at "go"
      refine o2_mulI ((hb.pow i).cmul hb (by omega)) ?_
      refine ⟨rfl, .d (.int (i : Int)), ?_⟩
      rw [Int.pow_succ]
      rfl
    · rintro r' m' ⟨rfl, y, rfl⟩
      walk_at "go"
      exact q
abbrev s_below : Stmt := topS 16
theorem sc_below : FnScope ["one", "other"] ["one", "other"] (defScope s_below) := ⟨rfl, rfl, rfl, by decide +kernel, rfl, by decide +kernel, by decide +kernel⟩
theorem ok_below {a : Addr} {fd : FuncData} (F : Fun K "below" "below" s_below a fd) (hm : mg "below" = some (.ref a)) :
    Cl P w K mg base 1 "below" f_below := by
  refine ⟨a, fd, ["one", "other"], fn_ok F sc_below (fun args m R h => ?_) (fun cdv A outer s H E hr => ⟨_, (pss_one (ps_ret (pe_cmpR oLt (pe_op (kMul K) (pe_ix (kIx K) (pv 0) pe_int (fun _ _ => rfl)) (pe_ix (kIx K) (pv 1) pe_int (fun _ _ => rfl))) (pe_op (kMul K) (pe_ix (kIx K) (pv 1) pe_int (fun _ _ => rfl)) (pe_ix (kIx K) (pv 0) pe_int (fun _ _ => rfl))) (nomark _)))), fun args m R h => ?_⟩), hm, F.kp, F.binds (ps := ["one", "other"]) fun _ _ _ _ _ _ us hl => match us, hl with | [_, _], _ => rfl⟩
  ·
    obtain ⟨_, _, rfl, _⟩ := h; rfl
  ·
    obtain ⟨p, r, rfl, hp, hr, q⟩ := h
    walk_at "go"
    refine o2_mulI (hp.1.cmul hr.2 (by decide)) ?_
    walk_at "go"
    refine o2_mulI (hr.1.cmul hp.2 (by decide)) ?_
    walk_at "go"
    have e : decide (p.num * (r.den : Int) < r.num * (p.den : Int)) = decide (p < r) := by
      rw [decide_eq_decide]; exact (Rat.lt_iff p r).symm
    rw [e]
    exact q
abbrev s_sum_part : Stmt := topS 22
theorem sc_sum_part : FnScope ["shares", "some", "kind"] ["shares", "some"] (defScope s_sum_part) := ⟨rfl, rfl, rfl, by decide +kernel, rfl, by decide +kernel, by decide +kernel⟩
theorem ok_sum_part {a : Addr} {fd : FuncData} (F : Fun K "sum_part" "sum_part" s_sum_part a fd) (hm : mg "sum_part" = some (.ref a)) (z_sum : mg "sum" = none) :
    Cl P w K mg base 1 "sum_part" f_sumPart := by
  refine ⟨a, fd, ["shares", "some"], fn_ok F sc_sum_part (fun args m R h => ?_) (fun cdv A outer s H E hr => ⟨_, (pss_one (ps_ret (pe_callB (kSum K) (by rfl) z_sum (by decide +kernel) (pa_cons (pe_lc (own := [("kind", 2)]) rfl sc_sum_part.nd (kiT K (pv 1)) (blkOk_by (own := [("kind", 2)]) (N := ["shares", "some", "kind"]) (sc := defScope s_sum_part) (by decide +kernel)) (fun _ _ _ _ _ => (pg_name (i := 2) sc_sum_part.nd rfl (by first | exact Or.inl rfl | exact Or.inr rfl))) (fun _ _ _ _ _ => pts_nil) (fun _ _ _ _ _ => (pe_ix (kIx K) (pv 0) (pv 2) (fun _ _ => rfl)))) pa_nil)))), fun args m R h => ?_⟩), hm, F.kp, F.binds (ps := ["shares", "some"]) fun _ _ _ _ _ _ us hl => match us, hl with | [_, _], _ => rfl⟩
  ·
    obtain ⟨_, _, rfl, _⟩ := h; rfl
  ·
    obtain ⟨ss, ks, rfl, hz, hk, q⟩ := h
    repeat walk_at "dl"
    refine ev_mapT (ds := (ks.map fun (k : Nat) => (k : Int)).map PyData.int) ?_ (by rw [List.length_map, List.length_map]; omega) (fun d => .int (ss.getD (intOf d).toNat 0)) (fun i d m' hd hx => ?_) ?_
    · repeat walk_at "dl"
      exact ⟨rfl, rfl⟩
    · obtain ⟨k, hk1, rfl⟩ : ∃ k, k ∈ ks ∧ d = .int (k : Int) := by
        have := List.mem_of_getElem? hd
        rw [List.map_map] at this
        obtain ⟨k, h1, h2⟩ := List.mem_map.mp this
        exact ⟨k, h1, h2.symm⟩
      repeat walk_at "dl"
      refine o2_ixT (tupI_at (hk k hk1)) ?_
      exact ⟨rfl, rfl⟩
    · repeat walk_at "dl"
      have e : ((ks.map fun (k : Nat) => (k : Int)).map PyData.int).map (fun d => PyData.int (ss.getD (intOf d).toNat 0)) = (ks.map fun k => ss.getD k 0).map PyData.int := by
        rw [List.map_map, List.map_map, List.map_map]
        exact List.map_congr_left fun k _ => rfl
      rw [e]
      refine on_sumL ?_
      exact q
abbrev s_all_some : Stmt := topS 23
theorem sc_all_some : FnScope ["kinds", "found", "kind", "some"] ["kinds"] (defScope s_all_some) := ⟨rfl, rfl, rfl, by decide +kernel, rfl, by decide +kernel, by decide +kernel⟩
theorem ok_all_some {a : Addr} {fd : FuncData} (F : Fun K "all_some" "all_some" s_all_some a fd) (hm : mg "all_some" = some (.ref a)) :
    Cl P w K mg base 1 "all_some" f_allSomeB := by
  refine ⟨a, fd, ["kinds"], fn_ok F sc_all_some (fun args m R h => ?_) (fun cdv A outer s H E hr => ⟨_, (pss_cons (ps_set (i := 1) sc_all_some.nd rfl (by first | exact Or.inl rfl | exact Or.inr rfl) (pe_lst (pa_cons (pe_tup pa_nil) pa_nil)))
      (pss_cons (ps_for PassesOwn.never rfl (kiA K (pv 0)) (pg_name (i := 2) sc_all_some.nd rfl (by first | exact Or.inl rfl | exact Or.inr rfl)) (pss_one (ps_set (i := 1) sc_all_some.nd rfl (by first | exact Or.inl rfl | exact Or.inr rfl) (pe_op (kAdd K) (pv 1) (pe_lc (own := [("some", 3)]) rfl sc_all_some.nd (kiL K (pv 1)) (blkOk_by (own := [("some", 3)]) (N := ["kinds", "found", "kind", "some"]) (sc := defScope s_all_some) (by decide +kernel)) (fun _ _ _ _ _ => (pg_name (i := 3) sc_all_some.nd rfl (by first | exact Or.inl rfl | exact Or.inr rfl))) (fun _ _ _ _ _ => pts_nil) (fun _ _ _ _ _ => (pe_op (kAdd K) (pv 3) (pe_tup (pa_cons (pv 2) pa_nil)))))))))
      (pss_one (ps_ret (pv 1))))), fun args m R h => ?_⟩), hm, F.kp, F.binds (ps := ["kinds"]) fun _ _ _ _ _ _ us hl => match us, hl with | [_], _ => rfl⟩
  ·
    obtain ⟨_, _, rfl, _⟩ := h; rfl
  ·
    obtain ⟨ks, x, rfl, hx, hn, q⟩ := h
    have hxn : x ≠ .any := by
      rcases hx with rfl | rfl <;> exact fun h => nomatch h
    refine w_seq (w_asg (ev_lstT ?_))
    refine eva_cons (ev_tupT ?_)
    walk_at "dl1"
    refine ⟨[], rfl, by decide, ?_⟩
    walk_at "dl1"
    refine ⟨[[]], rfl, by decide, ?_⟩
    refine w_seq (w_forS (xs := ks) (f := intN) ?_ (fun i r' m' => m' = m ∧ ∃ y, r' = [x, .lt ((allSL (ks.take i)).map kn), y, .any]) ⟨rfl, _, rfl⟩ ?_ ?_)
    · rcases hx with h | h
      · exact Or.inl (ev_var rfl hxn ⟨h, rfl⟩)
      · exact Or.inr (ev_var rfl hxn ⟨by rw [h, tupN_eq], rfl⟩)
    · rintro i k r' m' hk ⟨rfl, y, rfl⟩
      have hl := allSL_len (ks.take i)
      have hp : (2 : Nat) ^ (ks.take i).length ≤ 2 ^ 8 := Nat.pow_le_pow_right (by decide) (by rw [List.length_take]; omega)
      refine w_asg (ev_op (ev_var (x := .lt ((allSL (ks.take i)).map kn)) rfl (fun h => nomatch h) ?_))
      refine ev_mapLt (nss := (allSL (ks.take i)).map kn) (ev_var rfl (fun h => nomatch h) ⟨rfl, rfl⟩) (by rw [List.length_map]; omega) (fun ns => ns ++ [(k : Int)]) (fun ns m2 hns hx => ?_) ?_
      · refine ev_op (ev_var (x := .t ns) rfl (fun h => nomatch h) (ev_tupT ?_))
        walk_at "go"
        obtain ⟨s, hs, rfl⟩ := List.mem_map.mp hns
        have := allSL_mem_len s hs
        rw [List.length_take] at this
        refine o2_addTt (by rw [List.length_map]; show s.length + 1 ≤ 100000; omega) ⟨rfl, rfl⟩
      · refine o2_addLt (by rw [List.length_map, List.length_map, List.length_map]; omega) ?_
        refine ⟨rfl, .d (.int (k : Int)), ?_⟩
        rw [take_one hk, allSL_snoc, List.map_append, List.map_map, List.map_map]
        have e : (allSL (ks.take i)).map ((fun ns => ns ++ [(k : Int)]) ∘ kn) = (allSL (ks.take i)).map (kn ∘ fun s => s ++ [k]) := List.map_congr_left fun s _ => by
          show kn s ++ [(k : Int)] = kn (s ++ [k])
          unfold kn
          rw [List.map_append]; rfl
        rw [e]
        rfl
    · rintro r' m' ⟨rfl, y, rfl⟩
      rw [List.take_length]
      refine w_ret (ev_var rfl (fun h => nomatch h) q)
abbrev s_read : Stmt := topS 40
theorem sc_read : FnScope ["text", "found", "at", "word"] ["text"] (defScope s_read) := ⟨rfl, rfl, rfl, by decide +kernel, rfl, by decide +kernel, by decide +kernel⟩
theorem ok_read {a : Addr} {fd : FuncData} (F : Fun K "read" "read" s_read a fd) (hm : mg "read" = some (.ref a)) (z_isinstance : mg "isinstance" = none) (z_str : mg "str" = none) (z_enumerate : mg "enumerate" = none) (z_len : mg "len" = none) (z_int : mg "int" = none) (z_tuple : mg "tuple" = none) (c_FIGURES_texts : ∃ t, mg "FIGURES_texts" = some (.str "123456789" t)) (c_MOST_KINDS : ∃ t, mg "MOST_KINDS" = some (.int 5 t)) :
    Cl P w K mg base 1 "read" f_read := by
  refine ⟨a, fd, ["text"], fn_ok F sc_read (fun args m R h => ?_) (fun cdv A outer s H E hr => ⟨_, (pss_cons (ps_if (pt_not (pt_val (pe_callB (kIsi K) (by rfl) z_isinstance (by decide +kernel) (pa_cons (pv 0) (pa_cons (pe_bltn (v := .ty "str") (by rfl) z_str (by decide +kernel) rfl) pa_nil))))) (pss_one ps_never) pss_nil)
      (pss_cons (ps_set (i := 1) sc_read.nd rfl (by first | exact Or.inl rfl | exact Or.inr rfl) (pe_lst pa_nil))
      (pss_cons (ps_for PassesOwn.never rfl (kiE K (pi_enum (by rfl) z_enumerate (pa_cons (kSplit (pe_split (pv 0) pe_str)) pa_nil))) (kgT K (pg_tup (n := 2) rfl (pgs_cons (pg_name (i := 2) sc_read.nd rfl (by first | exact Or.inl rfl | exact Or.inr rfl)) (pgs_cons (pg_name (i := 3) sc_read.nd rfl (by first | exact Or.inl rfl | exact Or.inr rfl)) pgs_nil)))) (pss_cons (ps_if (PW.pt (pw_or (pt_cmpR (kEq K hr) (pv 2) (pe_gi c_MOST_KINDS (by rfl)) (nomark _)) (pw_or (pt_cmpR (kNe K hr) (pe_callB (kLen K) (by rfl) z_len (by decide +kernel) (pa_cons (pv 3) pa_nil)) pe_int (nomark _)) (pw_or1 (pt_cmpR oNotInStr (pv 3) (pe_gs c_FIGURES_texts (by rfl)) rfl))))) (pss_one ps_never) pss_nil)
      (pss_one (ps_expr (kBM K (pe_bm PySem.F.plainAttrs_list PySem.F.slot_list_append PySem.F.type_list_append mt_append (pv 1) (pa_cons (pe_callTy cInt (by rfl) z_int (by decide +kernel) (pa_cons (pv 3) pa_nil)) pa_nil)))))))
      (pss_one (ps_ret (pe_callTy (kTup K) (by rfl) z_tuple (by decide +kernel) (pa_cons (pv 1) pa_nil))))))), fun args m R h => ?_⟩), hm, F.kp, F.binds (ps := ["text"]) fun _ _ _ _ _ _ us hl => match us, hl with | [_], _ => rfl⟩
  ·
    obtain ⟨_, rfl, _⟩ := h; rfl
  ·
    obtain ⟨ss, rfl, hs, q⟩ := h
    have hf := hs.few
    walk_at "go"
    refine br_f rfl (w_next ?_)
    refine w_seq (w_asg (ev_lstM ?_))
    walk_at "go"
    refine ⟨by decide, fun l hl => ?_⟩
    refine w_seq (w_forE (xs := ss) (f := fun s => .str (dg s)) ?_ (fun i r' m' => m' = put m l (.lst (((ss.take i).map PyData.int).map Val.d)) ∧ ∃ y2 y3, r' = [.d (.str (showS ss)), .v (.ref l), y2, y3]) ⟨rfl, _, _, rfl⟩ ?_ ?_)
    · walk_at "go"
      refine ev_split ?_
      walk_at "go"
      refine ⟨by decide +kernel, Nat.le_trans (show_len hs) (by decide), ?_⟩
      walk_at "go"
      rw [split_show hs, List.map_map]
      exact ⟨rfl, rfl⟩
    · rintro i s r' m' hi ⟨rfl, y2, y3, rfl⟩
      obtain ⟨d1, d2, d3, d4⟩ := dg_ok (hs.each s (List.mem_of_getElem? hi))
      have hil := (List.getElem?_eq_some_iff.mp hi).1
      walk_at "go"
      refine br_f (decide_eq_false (by omega)) ?_
      walk_at "go"
      refine on_lenX (by rw [d1]; decide) ?_
      rw [d1]
      walk_at "go"
      refine br_f rfl ?_
      walk_at "go"
      refine o2_notInStr ?_
      rw [d2]
      walk_at "go"
      refine br_f rfl (w_next ?_)
      refine w_drop (ev_app (p := l) (rs := ((ss.take i).map PyData.int).map Val.d) ?_)
      walk_at "go"
      refine ⟨rfl, put_same, ?_⟩
      walk_at "go"
      refine on_intS d3 (by rw [d1]; decide) ?_
      refine ⟨put_same, by rw [List.length_map, List.length_map, List.length_take]; omega, ?_, _, _, rfl⟩
      rw [put_put, take_one hi, List.map_append, List.map_append]
      rfl
    · rintro r' m' ⟨rfl, y2, y3, rfl⟩
      refine w_freeze (i := 1) rfl put_same ?_
      rw [del_put hl, List.take_length]
      walk_at "go"
      exact q
abbrev s_spaced : Stmt := topS 44
theorem sc_spaced : FnScope ["things", "thing"] ["things"] (defScope s_spaced) := ⟨rfl, rfl, rfl, by decide +kernel, rfl, by decide +kernel, by decide +kernel⟩
theorem ok_spaced {a : Addr} {fd : FuncData} (F : Fun K "spaced" "spaced" s_spaced a fd) (hm : mg "spaced" = some (.ref a)) (z_str : mg "str" = none) :
    Cl P w K mg base 1 "spaced" f_spaced := by
  refine ⟨a, fd, ["things"], fn_ok F sc_spaced (fun args m R h => ?_) (fun cdv A outer s H E hr => ⟨_, (pss_one (ps_ret (kOrT K (kJoin K (pe_join pe_str (pe_lc (own := [("thing", 1)]) rfl sc_spaced.nd (kiA K (pv 0)) (blkOk_by (own := [("thing", 1)]) (N := ["things", "thing"]) (sc := defScope s_spaced) (by decide +kernel)) (fun _ _ _ _ _ => (pg_name (i := 1) sc_spaced.nd rfl (by first | exact Or.inl rfl | exact Or.inr rfl))) (fun _ _ _ _ _ => pts_nil) (fun _ _ _ _ _ => (pe_callTy cStr (by rfl) z_str (by decide +kernel) (pa_cons (pv 1) pa_nil)))))) (pe_one pe_str)))), fun args m R h => ?_⟩), hm, F.kp, F.binds (ps := ["things"]) fun _ _ _ _ _ _ us hl => match us, hl with | [_], _ => rfl⟩
  ·
    obtain ⟨_, _, rfl, _⟩ := h; rfl
  ·
    obtain ⟨ns, x, rfl, hx, hl, hb, q⟩ := h
    refine w_ret (ev_orS (ev_join (a := " ") (ys := ns.map dg) (ev_cS ⟨rfl, ?_⟩)))
    refine ev_mapS (xs := ns) (f := PyData.int) (by rcases hx with rfl | rfl; exact Or.inr (ev_var rfl (fun h => nomatch h) ⟨rfl, rfl⟩); exact Or.inl (ev_var rfl (fun h => nomatch h) ⟨rfl, rfl⟩)) (by omega) (fun s => .str (dg s)) (fun s m2 hs1 hx2 => ?_) ?_
    · have h9 := hb s hs1
      refine ev_callB (eva_cons (ev_var (x := .d (.int s)) rfl (fun h => nomatch h) (eva_nil ?_)))
      exact on_str (a := 14) (bt_lit (n := 14) (by show _ < 16384; omega) (by decide)) (by decide) (by decide) ⟨rfl, rfl⟩
    refine ⟨by rw [List.map_map]; rfl, spc_join hb hl, _, rfl, spc_len hb hl, fun h => ?_, fun h => ?_⟩
    · have e : spcS ns = Txt.join " " (ns.map dg) := if_neg h
      rw [← e]; exact q
    · have e : spcS ns = "none" := if_pos h
      rw [e] at q
      exact ev_cS q
abbrev s_written : Stmt := topS 45
theorem sc_written : FnScope ["fraction"] ["fraction"] (defScope s_written) := ⟨rfl, rfl, rfl, by decide +kernel, rfl, by decide +kernel, by decide +kernel⟩
theorem ok_written {a : Addr} {fd : FuncData} (F : Fun K "written" "written" s_written a fd) (hm : mg "written" = some (.ref a)) (z_str : mg "str" = none) :
    Cl P w K mg base 1 "written" f_written := by
  refine ⟨a, fd, ["fraction"], fn_ok F sc_written (fun args m R h => ?_) (fun cdv A outer s H E hr => ⟨_, (pss_one (ps_ret (pe_op (kAdd K) (pe_op (kAdd K) (pe_callTy cStr (by rfl) z_str (by decide +kernel) (pa_cons (pe_ix (kIx K) (pv 0) pe_int (fun _ _ => rfl)) pa_nil)) pe_str) (pe_callTy cStr (by rfl) z_str (by decide +kernel) (pa_cons (pe_ix (kIx K) (pv 0) pe_int (fun _ _ => rfl)) pa_nil))))), fun args m R h => ?_⟩), hm, F.kp, F.binds (ps := ["fraction"]) fun _ _ _ _ _ _ us hl => match us, hl with | [_], _ => rfl⟩
  ·
    obtain ⟨_, rfl, _⟩ := h; rfl
  ·
    obtain ⟨x, rfl, hb, q⟩ := h
    walk_at "go"
    refine on_str hb.1 (by decide) (by decide) ?_
    walk_at "go"
    have l1 := dg_bt hb.1
    have l2 := dg_bt hb.2
    have l3 : (("/" : Str)).length = 1 := by decide +kernel
    refine o2_addS (by show (dg x.num).length + (("/" : Str)).length ≤ 100000; omega) ?_
    walk_at "go"
    refine on_str hb.2 (by decide) (by decide) ?_
    refine o2_addS (by show (dg x.num ++ ("/" : Str)).length + (dg (x.den : Int)).length ≤ 100000; rw [PySem.Str.length_append]; omega) ?_
    exact q
abbrev s_figure_in : Stmt := topS 46
theorem sc_figure_in : FnScope ["word", "most", "sign"] ["word", "most"] (defScope s_figure_in) := ⟨rfl, rfl, rfl, by decide +kernel, rfl, by decide +kernel, by decide +kernel⟩
theorem ok_figure_in {a : Addr} {fd : FuncData} (F : Fun K "figure_in" "figure_in" s_figure_in a fd) (hm : mg "figure_in" = some (.ref a)) (z_all : mg "all" = none) (z_len : mg "len" = none) (z_str : mg "str" = none) (z_int : mg "int" = none) (c_FIGURES_desk : ∃ t, mg "FIGURES_desk" = some (.str "0123456789" t)) :
    Cl P w K mg base 1 "figure_in" f_figure := by
  refine ⟨a, fd, ["word", "most"], fn_ok F sc_figure_in (fun args m R h => ?_) (fun cdv A outer s H E hr => ⟨_, (pss_cons (ps_if (PW.pt (pw_or (pt_not (pt_chain oLe oLe pe_int (pe_callB (kLen K) (by rfl) z_len (by decide +kernel) (pa_cons (pv 0) pa_nil)) (pv 1))) (pw_or1 (pt_not (pt_val (pe_callB (kAll K) (by rfl) z_all (by decide +kernel) (pa_cons (pe_lc (own := [("sign", 2)]) rfl sc_figure_in.nd (pi_str (pv 0)) (blkOk_by (own := [("sign", 2)]) (N := ["word", "most", "sign"]) (sc := defScope s_figure_in) (by decide +kernel)) (fun _ _ _ _ _ => (pg_name (i := 2) sc_figure_in.nd rfl (by first | exact Or.inl rfl | exact Or.inr rfl))) (fun _ _ _ _ _ => pts_nil) (fun _ _ _ _ _ => (pe_cmpR oInStr (pv 2) (pe_gs c_FIGURES_desk (by rfl)) rfl))) pa_nil))))))) (pss_one (ps_ret pe_non)) pss_nil)
      (pss_one (ps_ret (pe_ifExp (pt_cmpR (kEq K hr) (pe_callTy cStr (by rfl) z_str (by decide +kernel) (pa_cons (pe_callTy cInt (by rfl) z_int (by decide +kernel) (pa_cons (pv 0) pa_nil)) pa_nil)) (pv 0) (nomark _)) (pe_callTy cInt (by rfl) z_int (by decide +kernel) (pa_cons (pv 0) pa_nil)) pe_non)))), fun args m R h => ?_⟩), hm, F.kp, F.binds (ps := ["word", "most"]) fun _ _ _ _ _ _ us hl => match us, hl with | [_, _], _ => rfl⟩
  ·
    obtain ⟨_, _, _, rfl, _⟩ := h; rfl
  ·
    obtain ⟨w, n, d, rfl, rfl, hn, q⟩ := h
    have hf : ((1 : Nat) ≤ (dg (d : Int)).length ∧ (dg (d : Int)).length ≤ n) ∧ PySem.intText? (dg (d : Int)) = some (d : Int) ∧ (((dg (d : Int)).cps.toList.map fun c => !(Builtin.Str.occurrences "0123456789" ⟨#[c]⟩ 0 (Str.ofString "0123456789").length 1).isEmpty).all fun b => b) = true := by
      rcases hn with ⟨rfl, hd⟩ | ⟨rfl, hd⟩
      · obtain ⟨a, b, c⟩ := fig_one ⟨d, by omega⟩
        exact ⟨⟨Nat.le_of_eq a.symm, Nat.le_of_eq a⟩, b, c⟩
      · exact fig_two ⟨d, by omega⟩
    have hd99 : d ≤ 99 := by rcases hn with ⟨_, h⟩ | ⟨_, h⟩ <;> omega
    obtain ⟨⟨l1, l2⟩, hi, ha⟩ := hf
    have hlen : (dg (d : Int)).length ≤ 15 := dg_len ⟨by omega, by omega⟩
    walk_at "go"
    refine on_lenX (by omega) ?_
    walk_at "go"
    refine ⟨fun _ => ?_, fun h => absurd (of_decide_eq_false h) (by omega)⟩
    walk_at "go"
    refine br_f (by rw [decide_eq_true (by omega)]; rfl) ?_
    refine evt_not (evt_B (ev_callB (eva_cons ?_)))
    refine ev_mapStr (x := dg (d : Int)) (ev_var rfl (fun h => nomatch h) ⟨rfl, rfl⟩) (by show (dg (d : Int)).length ≤ 100000; omega) (fun c => .bool (!(Builtin.Str.occurrences "0123456789" c 0 (Str.ofString "0123456789").length 1).isEmpty)) (fun c m2 hx => ?_) ?_
    · refine ev_op (ev_var (x := .d (.str c)) rfl (fun h => nomatch h) (ev_cS (o2_inStr ?_)))
      exact ⟨rfl, rfl⟩
    refine eva_nil ?_
    rw [show ((dg (d : Int)).cps.toList.map fun c => PyData.bool (!(Builtin.Str.occurrences "0123456789" ⟨#[c]⟩ 0 (Str.ofString "0123456789").length 1).isEmpty)) = ((dg (d : Int)).cps.toList.map fun c => !(Builtin.Str.occurrences "0123456789" ⟨#[c]⟩ 0 (Str.ofString "0123456789").length 1).isEmpty).map PyData.bool by rw [List.map_map]; rfl]
    refine on_all ?_
    refine ⟨_, rfl, br_f (by rw [show List.all _ id = true from ha]; rfl) (w_next ?_)⟩
    refine w_ret (ev_if ?_)
    walk_at "go"
    refine on_intS hi (by omega) ?_
    walk_at "go"
    refine on_str (a := 7) (bt_lit (n := 7) (by show _ < 128; omega) (by decide)) (by decide) (by decide) ?_
    walk_at "go"
    refine br_t (decide_eq_true rfl) ?_
    walk_at "go"
    refine on_intS hi (by omega) ?_
    exact q
abbrev s_Desk___init__ : Stmt := inClass (topS 47) 0
theorem sc_Desk___init__ : FnScope ["self"] ["self"] (defScope s_Desk___init__) := ⟨rfl, rfl, rfl, by decide +kernel, rfl, by decide +kernel, by decide +kernel⟩
theorem ok_Desk___init__ {a : Addr} {fd : FuncData} (F : Fun K "__init__" "Desk.__init__" s_Desk___init__ a fd) (hg : mg "Desk" = some (.ref c_Desk)) (hm : Mk K c_Desk a) (TD : DeskC K c_Desk) :
    Mk0 P w K mg base c_Desk 1 "Desk" (f_dinit K c_Desk) := by
  refine ⟨⟨a, fd, fn_ok F sc_Desk___init__ (fun args m R h => ?_) (fun cdv A outer s H E hr => ⟨_, (pss_cons (kSFld K (pv 0) (pe_tup (pa_cons pe_int pa_nil)))
      (pss_cons (kSFld K (pv 0) (pe_tupFz pa_nil))
      (pss_one (kSFld K (pv 0) (pe_lst pa_nil))))), fun args m R h => ?_⟩), hm, F.binds (ps := ["self"]) fun _ _ _ _ _ _ us hl => match us, hl with | [_], _ => rfl⟩, hg⟩
  ·
    obtain ⟨_, rfl, _⟩ := h; rfl
  ·
    obtain ⟨p, rfl, hp, q⟩ := h
    refine w_seq (w_fld TD.cl TD.ns ?_)
    refine ev_tup (eva_cons (ev_cI (eva_nil ⟨[.int 1], rfl, by show 1 ≤ 100000; decide, ?_⟩)))
    refine ev_var rfl (fun h => nomatch h) ⟨p, _, rfl, hp, by decide, ?_⟩
    refine w_seq (w_fld TD.cl TD.nr ?_)
    refine ev_tupFz (eva_nil ⟨[], rfl, by decide, ?_⟩)
    refine ev_var rfl (fun h => nomatch h) ⟨p, _, rfl, put_same, Nat.lt_of_le_of_lt (putFV_len _ _ _) (by decide), ?_⟩
    rw [put_put]
    refine w_fld TD.cl TD.np ?_
    refine ev_lstM (eva_nil ⟨by decide, fun l hl => ?_⟩)
    have hpl : p ≠ l := fun e => by rw [← e, put_same] at hl; cases hl
    have hl0 : m l = none := by rw [put_ne hpl.symm] at hl; exact hl
    refine ev_var rfl (fun h => nomatch h) ⟨p, _, rfl, by rw [put_ne hpl]; exact put_same, Nat.lt_of_le_of_lt (putFV_len _ _ _) (Nat.lt_of_le_of_lt (Nat.succ_le_succ (putFV_len _ _ _)) (by decide)), ?_⟩
    rw [put_comm hpl, put_put]
    have e := pf_init (ss := [1]) (row := []) (l := l)
    have q := q l hl0
    unfold dskM at q
    rw [← e] at q
    exact q
abbrev s_Desk_kinds_left : Stmt := inClass (topS 47) 1
theorem sc_Desk_kinds_left : FnScope ["self", "kind"] ["self"] (defScope s_Desk_kinds_left) := ⟨rfl, rfl, rfl, by decide +kernel, rfl, by decide +kernel, by decide +kernel⟩
theorem ok_Desk_kinds_left {a : Addr} {fd : FuncData} (F : Fun K "kinds_left" "Desk.kinds_left" s_Desk_kinds_left a fd) (hm : Meth K c_Desk "kinds_left" a) (TD : DeskC K c_Desk) (z_tuple : mg "tuple" = none) (z_range : mg "range" = none) (z_len : mg "len" = none) :
    Mt P w K mg base c_Desk 1 "kinds_left" (f_left K c_Desk) := by
  refine ⟨a, fd, ["self"], fn_ok F sc_Desk_kinds_left (fun args m R h => ?_) (fun cdv A outer s H E hr => ⟨_, (pss_one (ps_ret (pe_callTy (kTup K) (by rfl) z_tuple (by decide +kernel) (pa_cons (pe_lc (own := [("kind", 1)]) rfl sc_Desk_kinds_left.nd (pi_range1 (by rfl) z_range (pa_cons (pe_callB (kLen K) (by rfl) z_len (by decide +kernel) (pa_cons (kFld K (pv 0)) pa_nil)) pa_nil)) (blkOk_by (own := [("kind", 1)]) (N := ["self", "kind"]) (sc := defScope s_Desk_kinds_left) (by decide +kernel)) (fun _ _ _ _ _ => (pg_name (i := 1) sc_Desk_kinds_left.nd rfl (by first | exact Or.inl rfl | exact Or.inr rfl))) (fun _ _ _ _ _ => (pts_one (pt_cmpR (oNotInS K) (pv 1) (kFld K (pv 0)) rfl))) (fun _ _ _ _ _ => (pv 1))) pa_nil)))), fun args m R h => ?_⟩), hm, F.binds (ps := ["self"]) fun _ _ _ _ _ _ us hl => match us, hl with | [_], _ => rfl⟩
  ·
    obtain ⟨_, _, _, _, _, rfl, _⟩ := h; rfl
  ·
    obtain ⟨p, l, ss, row, pst, rfl, hd, hs, hr, q⟩ := h
    have hfew := hs.few
    refine w_ret (ev_callB (eva_cons ?_))
    refine ev_filR1 (n := ss.length) ?_ (by omega) (fun k => !decide (k ∈ row)) intN (fun k m' hk hx => ?_) (fun k m' hk hx hp => ?_) ?_
    · refine eva_cons (ev_callB (eva_cons (ev_fld TD.cl TD.ns (ev_var rfl (fun h => nomatch h) ⟨p, _, _, rfl, hd.ob, lk_shares, ?_⟩))))
      walk_at "go"
      exact ⟨rfl, rfl⟩
    · refine evt_test (ev_op (ev_var (x := .d (.int (k : Int))) rfl (fun h => nomatch h) ?_))
      refine ev_fldF TD.cl TD.nr (ev_var rfl (fun h => nomatch h) ⟨p, _, _, rfl, (hd.less hx).ob, lk_row, ?_⟩)
      refine o2_inI (neg := true) ?_
      refine ⟨_, rfl, ?_, rfl⟩
      rw [if_pos rfl, show decide (((k : Nat) : Int) ∈ kn row) = decide (k ∈ row) from decide_eq_decide.mpr ⟨fun h => by
        obtain ⟨j, hj, e⟩ := List.mem_map.mp h
        have e : j = k := by omega
        rw [← e]; exact hj, fun h => List.mem_map.mpr ⟨k, h, rfl⟩⟩]
    · exact ev_var (x := .d (.int (k : Int))) rfl (fun h => nomatch h) ⟨rfl, rfl⟩
    refine eva_nil ?_
    rcases q with q | q
    · exact on_tupLtN q
    · refine on_tupL ?_
      have e : (leftL ss row).map intN = (kn (leftL ss row)).map PyData.int := by unfold kn; rw [List.map_map]; rfl
      show R (.d (.tuple ((leftL ss row).map intN))) m
      rw [e]; exact q
abbrev s__law_box : Stmt := topS 49
theorem sc__law_box : FnScope ["_law_script", "_law_k", "_law_here", "_law_number", "_law_j", "_law_piece"] ["_law_script", "_law_k"] (defScope s__law_box) := ⟨rfl, rfl, rfl, by decide +kernel, rfl, by decide +kernel, by decide +kernel⟩
theorem ok__law_box {a : Addr} {fd : FuncData} (F : Fun K "_law_box" "_law_box" s__law_box a fd) (hm : mg "_law_box" = some (.ref a)) (z_len : mg "len" = none) (z_range : mg "range" = none) :
    Cl P w K mg base 1 "_law_box" f_box2 := by
  refine ⟨a, fd, ["_law_script", "_law_k"], fn_ok F sc__law_box (fun args m R h => ?_) (fun cdv A outer s H E hr => ⟨_, (pss_cons (ps_set (i := 2) sc__law_box.nd rfl (by first | exact Or.inl rfl | exact Or.inr rfl) (pe_op (kAdd K) (pe_op (kMul K) pe_int (pv 1)) pe_int))
      (pss_cons (ps_if (pt_cmpR oLt (pv 1) (pe_callB (kLen K) (by rfl) z_len (by decide +kernel) (pa_cons (pv 0) pa_nil)) (nomark _)) (pss_one (ps_set (i := 2) sc__law_box.nd rfl (by first | exact Or.inl rfl | exact Or.inr rfl) (pe_ix (kIx K) (pv 0) (pv 1) (fun _ _ => rfl)))) pss_nil)
      (pss_cons (ps_if (pt_cmpR (kEq K hr) (pe_op oMod (pv 2) pe_int) pe_int (nomark _)) (pss_one (ps_ret (pe_lst (pa_cons (pe_op oFdv (pv 2) pe_int) pa_nil)))) pss_nil)
      (pss_cons (ps_set (i := 3) sc__law_box.nd rfl (by first | exact Or.inl rfl | exact Or.inr rfl) pe_int)
      (pss_cons (ps_for PassesOwn.never rfl (pi_range1 (by rfl) z_range (pa_cons pe_int pa_nil)) (pg_name (i := 4) sc__law_box.nd rfl (by first | exact Or.inl rfl | exact Or.inr rfl)) (pss_cons (ps_set (i := 5) sc__law_box.nd rfl (by first | exact Or.inl rfl | exact Or.inr rfl) (pe_op oMod (pe_op (kAdd K) (pe_op (kAdd K) (pe_op (kMul K) (pe_op oMod (pv 2) pe_int) pe_int) (pe_op (kMul K) pe_int (pv 4))) pe_int) pe_int))
      (pss_cons (ps_set (i := 5) sc__law_box.nd rfl (by first | exact Or.inl rfl | exact Or.inr rfl) (pe_op oMod (pe_op (kMul K) (pv 5) (pv 5)) pe_int))
      (pss_one (ps_set (i := 3) sc__law_box.nd rfl (by first | exact Or.inl rfl | exact Or.inr rfl) (pe_op (kAdd K) (pe_op (kMul K) (pv 3) pe_int) (pe_op oMod (pe_op (kMul K) (pv 5) (pe_op (kAdd K) (pv 5) pe_int)) pe_int)))))))
      (pss_one (ps_ret (pe_lst (pa_cons (pv 3) pa_nil))))))))), fun args m R h => ?_⟩), hm, F.kp, F.binds (ps := ["_law_script", "_law_k"]) fun _ _ _ _ _ _ us hl => match us, hl with | [_, _], _ => rfl⟩
  ·
    obtain ⟨_, _, rfl, _⟩ := h; rfl
  ·
    obtain ⟨ns, k, rfl, hk, q⟩ := h
    refine w_seq (w_asg ?_)
    walk_at "go"
    refine o2_mulI (cmul_small (by decide) (by omega)) ?_
    refine ev_cI (o2_addI ?_)
    refine w_seq (Wp.imp (N := fun r1 m1 => m1 = m ∧ ∃ z : Int, r1 = [.scr ns, .d (.int (k : Int)), .d (.int z), .any, .any, .any]) (E := fun _ _ => False) (w_if ?_) ?_ (fun _ _ h => h.elim))
    · walk_at "go"
      by_cases hkl : (k : Int) < (ns.length : Int)
      · refine br_t (decide_eq_true hkl) ?_
        walk_at "go"
        refine o2_ixS (List.getElem?_eq_getElem (by omega)) ?_
        exact ⟨rfl, _, rfl⟩
      · refine br_f (decide_eq_false hkl) (w_next ?_)
        exact ⟨rfl, _, rfl⟩
    rintro r1 m1 ⟨rfl, z, rfl⟩
    walk_at "go"
    refine o2_mod (by decide) ?_
    walk_at "go"
    by_cases hz : z % 2 = 0
    · refine br_t (decide_eq_true hz) (w_ret (ev_lstB ?_))
      walk_at "go"
      refine o2_fdv (cdiv_small (by decide) (by decide)) ?_
      walk_at "go"
      exact q
    · refine br_f (decide_eq_false hz) (w_next ?_)
      walk_at "go"
      refine w_forR1 (n := 16) ?_ (by decide) (fun i r' m' => m' = m1 ∧ ∃ (n : Int) (y z1 : Val), r' = [.scr ns, .d (.int (k : Int)), .d (.int z), .d (.int n), y, z1] ∧ 0 ≤ n ∧ Bt n (33 * i + 1)) ⟨rfl, 0, _, _, rfl, by decide, bt_lit (n := 1) (by decide) (by omega)⟩ ?_ ?_
      · walk_at "go"
        exact ⟨rfl, rfl⟩
      · rintro i r' m' hi ⟨rfl, n, y, z1, rfl, hn, hb⟩
        have hc := Int.emod_nonneg z (show (2147483647 : Int) ≠ 0 by decide)
        have hc2 := Int.emod_lt_of_pos z (show (0 : Int) < 2147483647 by decide)
        walk_at "go"
        refine o2_mod (by decide) ?_
        walk_at "go"
        refine o2_mulI (cmul_small (by omega) (by decide)) ?_
        walk_at "go"
        refine o2_mulI (cmul_small (by decide) (by omega)) ?_
        walk_at "go"
        refine o2_mod (by decide) ?_
        generalize hP : (z % 2147483647 * 48271 + 7919 * (i : Int) + 1) % 2147483647 = P
        have hp0 : 0 ≤ P := by rw [← hP]; exact Int.emod_nonneg _ (by decide)
        have hp1 : P < 2147483647 := by rw [← hP]; exact Int.emod_lt_of_pos _ (by decide)
        walk_at "go"
        refine o2_mulI (cmul_small (by omega) (by omega)) ?_
        walk_at "go"
        refine o2_mod (by decide) ?_
        generalize hP2 : P * P % 2147483629 = P2
        have hp2 : 0 ≤ P2 := by rw [← hP2]; exact Int.emod_nonneg _ (by decide)
        have hp3 : P2 < 2147483629 := by rw [← hP2]; exact Int.emod_lt_of_pos _ (by decide)
        walk_at "go"
        refine o2_mulI (hb.cmul (b := 31) (bt_lit (n := 31) (by decide) (by decide)) (by omega)) ?_
        walk_at "go"
        refine o2_mulI (cmul_small (by omega) (by omega)) ?_
        walk_at "go"
        refine o2_mod (by decide) ?_
        walk_at "go"
        have hw := Int.emod_nonneg (P2 * (P2 + 13)) (show (2147483647 : Int) ≠ 0 by decide)
        have hw1 := Int.emod_lt_of_pos (P2 * (P2 + 13)) (show (0 : Int) < 2147483647 by decide)
        generalize P2 * (P2 + 13) % 2147483647 = w at *
        refine ⟨rfl, n * 2147483647 + w, _, _, rfl, by omega, ?_⟩
        have h1 : Bt (n * 2147483647) (33 * i + 1 + 31) := hb.mul (bt_lit (n := 31) (by decide) (Nat.le_refl _))
        exact (h1.add (bt_lit (i := w) (n := 31) (a := 33 * i + 32) (by show _ < 2147483648; omega) (by omega)) (c := 33 * i + 32) (by omega) (Nat.le_refl _)).mono (by omega)
      · rintro r' m' ⟨rfl, n, y, z1, rfl, hn, hb⟩
        refine w_ret (ev_lstB ?_)
        walk_at "go"
        exact q
abbrev s__law_take : Stmt := topS 50
theorem sc__law_take : FnScope ["_law_box_here", "_law_many", "_law_left", "_law_digit"] ["_law_box_here", "_law_many"] (defScope s__law_take) := ⟨rfl, rfl, rfl, by decide +kernel, rfl, by decide +kernel, by decide +kernel⟩
theorem ok__law_take {a : Addr} {fd : FuncData} (F : Fun K "_law_take" "_law_take" s__law_take a fd) (hm : mg "_law_take" = some (.ref a)) (z_divmod : mg "divmod" = none) :
    Cl P w K mg base 1 "_law_take" f_take := by
  refine ⟨a, fd, ["_law_box_here", "_law_many"], fn_ok F sc__law_take (fun args m R h => ?_) (fun cdv A outer s H E hr => ⟨_, (pss_cons (ps_asg (pe_callB cDivmod (by rfl) z_divmod (by decide +kernel) (pa_cons (pe_ix (kIx K) (pv 0) pe_int (fun _ _ => rfl)) (pa_cons (pv 1) pa_nil))) (kgT K (pg_tup (n := 2) rfl (pgs_cons (pg_name (i := 2) sc__law_take.nd rfl (by first | exact Or.inl rfl | exact Or.inr rfl)) (pgs_cons (pg_name (i := 3) sc__law_take.nd rfl (by first | exact Or.inl rfl | exact Or.inr rfl)) pgs_nil)))))
      (pss_cons (ps_asg (pv 2) (pg_sub (pv 0) pe_int set_list))
      (pss_one (ps_ret (pv 3))))), fun args m R h => ?_⟩), hm, F.kp, F.binds (ps := ["_law_box_here", "_law_many"]) fun _ _ _ _ _ _ us hl => match us, hl with | [_, _], _ => rfl⟩
  ·
    obtain ⟨_, _, rfl, _⟩ := h; rfl
  ·
    obtain ⟨p, k, rfl, hp, hk, hb, q⟩ := h
    refine w_seq (w_asg2 ?_)
    repeat walk_at "dl"
    refine o2_ixB hp fun n => ?_
    repeat walk_at "dl"
    refine on_divmod (hb.cdiv hk (by decide)) ?_
    repeat walk_at "dl"
    refine w_setB (p := p) ?_
    repeat walk_at "dl"
    refine ⟨rfl, ?_⟩
    repeat walk_at "dl"
    refine ⟨rfl, hp, ?_⟩
    repeat walk_at "dl"
    exact q _ (Int.emod_nonneg n (by omega)) (Int.emod_lt_of_pos n hk)
abbrev s_made : Stmt := topS 11
theorem sc_made : FnScope ["top", "bottom", "both"] ["top", "bottom"] (defScope s_made) := ⟨rfl, rfl, rfl, by decide +kernel, rfl, by decide +kernel, by decide +kernel⟩
theorem ok_made {a : Addr} {fd : FuncData} (F : Fun K "made" "made" s_made a fd) (hm : mg "made" = some (.ref a)) (z_abs : mg "abs" = none) (k_greatest_common : Cl P w K mg base 1 "greatest_common" f_gcd) :
    Cl P w K mg base 2 "made" f_made := by
  refine ⟨a, fd, ["top", "bottom"], fn_ok F sc_made (fun args m R h => ?_) (fun cdv A outer s H E hr => ⟨_, (pss_cons (ps_set (i := 2) sc_made.nd rfl (by first | exact Or.inl rfl | exact Or.inr rfl) (pe_cl k_greatest_common hr (by decide) (by rfl) (pa_cons (pv 1) (pa_cons (pe_callB cAbs (by rfl) z_abs (by decide +kernel) (pa_cons (pv 0) pa_nil)) pa_nil))))
      (pss_one (ps_ret (pe_tup (pa_cons (pe_op oFdv (pv 0) (pv 2)) (pa_cons (pe_op oFdv (pv 1) (pv 2)) pa_nil)))))), fun args m R h => ?_⟩), hm, F.kp, F.binds (ps := ["top", "bottom"]) fun _ _ _ _ _ _ us hl => match us, hl with | [_, _], _ => rfl⟩
  ·
    obtain ⟨_, _, rfl, _⟩ := h; rfl
  ·
    obtain ⟨t, b, rfl, hb, hz, q⟩ := h
    have hp : 0 < Nat.gcd b t.natAbs := Nat.gcd_pos_of_pos_left _ hb
    have hB : Bt ((Nat.gcd b t.natAbs : Nat) : Int) 8000 := hz.le (by
      have := Nat.le_of_dvd hb (Nat.gcd_dvd_left b t.natAbs)
      omega)
    repeat walk_at "dl"
    refine o2_fdv (hB.cdiv (by omega) (by decide)) ?_
    repeat walk_at "dl"
    refine o2_fdv (hB.cdiv (by omega) (by decide)) ?_
    repeat walk_at "dl"
    rw [frac_mk t b (by omega)] at q
    exact q
abbrev s_need_number : Stmt := topS 12
theorem sc_need_number : FnScope ["number", "least", "most"] ["number", "least", "most"] (defScope s_need_number) := ⟨rfl, rfl, rfl, by decide +kernel, rfl, by decide +kernel, by decide +kernel⟩
theorem ok_need_number {a : Addr} {fd : FuncData} (F : Fun K "need_number" "need_number" s_need_number a fd) (hm : mg "need_number" = some (.ref a)) (k_is_whole : Cl P w K mg base 1 "is_whole" f_isWhole) :
    Cl P w K mg base 2 "need_number" f_needNumber := by
  refine ⟨a, fd, ["number", "least", "most"], fn_ok F sc_need_number (fun args m R h => ?_) (fun cdv A outer s H E hr => ⟨_, (pss_one (ps_if (PW.pt (pw_or (pt_not (pt_val (pe_cl k_is_whole hr (by decide) (by rfl) (pa_cons (pv 0) pa_nil)))) (pw_or1 (pt_not (pt_chain oLe oLe (pv 1) (pv 0) (pv 2)))))) (pss_one ps_never) pss_nil)), fun args m R h => ?_⟩), hm, F.kp, F.binds (ps := ["number", "least", "most"]) fun _ _ _ _ _ _ us hl => match us, hl with | [_, _, _], _ => rfl⟩
  ·
    obtain ⟨_, _, _, rfl, _⟩ := h; rfl
  ·
    obtain ⟨i, lo, hi, rfl, h1, h2, q⟩ := h
    walk_at "go"
    refine br_f rfl ?_
    walk_at "go"
    refine br_t (decide_eq_true h1) ?_
    walk_at "go"
    refine br_f (by rw [decide_eq_true h2]; rfl) ?_
    exact w_next q
abbrev s_is_shares : Stmt := topS 20
theorem sc_is_shares : FnScope ["thing", "one"] ["thing"] (defScope s_is_shares) := ⟨rfl, rfl, rfl, by decide +kernel, rfl, by decide +kernel, by decide +kernel⟩
theorem ok_is_shares {a : Addr} {fd : FuncData} (F : Fun K "is_shares" "is_shares" s_is_shares a fd) (hm : mg "is_shares" = some (.ref a)) (z_len : mg "len" = none) (z_isinstance : mg "isinstance" = none) (z_tuple : mg "tuple" = none) (z_all : mg "all" = none) (c_MOST_KINDS : ∃ t, mg "MOST_KINDS" = some (.int 5 t)) (c_MOST_SHARE : ∃ t, mg "MOST_SHARE" = some (.int 9 t)) (k_is_whole : Cl P w K mg base 1 "is_whole" f_isWhole) :
    Cl P w K mg base 2 "is_shares" f_isShares := by
  refine ⟨a, fd, ["thing"], fn_ok F sc_is_shares (fun args m R h => ?_) (fun cdv A outer s H E hr => ⟨_, (pss_cons (ps_if (PW.pt (pw_or (pt_not (pt_val (pe_callB (kIsi K) (by rfl) z_isinstance (by decide +kernel) (pa_cons (pv 0) (pa_cons (pe_bltn (v := .ty "tuple") (by rfl) z_tuple (by decide +kernel) rfl) pa_nil))))) (pw_or1 (pt_not (pt_chain oLe oLe pe_int (pe_callB (kLen K) (by rfl) z_len (by decide +kernel) (pa_cons (pv 0) pa_nil)) (pe_gi c_MOST_KINDS (by rfl))))))) (pss_one (ps_ret pe_bl)) pss_nil)
      (pss_one (ps_ret (pe_callB (kAll K) (by rfl) z_all (by decide +kernel) (pa_cons (pe_lc (own := [("one", 1)]) rfl sc_is_shares.nd (kiT K (pv 0)) (blkOk_by (own := [("one", 1)]) (N := ["thing", "one"]) (sc := defScope s_is_shares) (by decide +kernel)) (fun _ _ _ _ _ => (pg_name (i := 1) sc_is_shares.nd rfl (by first | exact Or.inl rfl | exact Or.inr rfl))) (fun _ _ _ _ _ => pts_nil) (fun _ _ _ _ _ => (pe_and (pe_cl k_is_whole hr (by decide) (by rfl) (pa_cons (pv 1) pa_nil)) (pe_one (pe_chain oLe oLe pe_int (pv 1) (pe_gi c_MOST_SHARE (by rfl))))))) pa_nil))))), fun args m R h => ?_⟩), hm, F.kp, F.binds (ps := ["thing"]) fun _ _ _ _ _ _ us hl => match us, hl with | [_], _ => rfl⟩
  ·
    obtain ⟨_, rfl, _⟩ := h; rfl
  ·
    obtain ⟨x, rfl, q⟩ := h
    repeat walk_at "dl"
    cases hx : isTup x with
    | false =>
      refine br_t rfl (br_t rfl ?_)
      repeat walk_at "dl"
      have e : isShares x = false := by cases x <;> first | rfl | cases hx
      rw [e] at q
      exact q
    | true =>
      obtain ⟨ds, rfl⟩ := tup_shape hx
      refine br_f rfl ?_
      repeat walk_at "dl"
      by_cases h1 : (1 : Int) ≤ (ds.length : Int)
      · refine br_t (decide_eq_true h1) ?_
        repeat walk_at "dl"
        by_cases h5 : (ds.length : Int) ≤ 5
        · rw [decide_eq_true h5]
          refine br_f rfl ?_
          refine w_next ?_
          repeat walk_at "dl"
          refine ev_mapT (ds := ds) ?_ (by omega) (fun d => .bool (okS d)) (fun i d m' hd hx => ?_) ?_
          · repeat walk_at "dl"
            exact ⟨rfl, rfl⟩
          · repeat walk_at "dl"
            cases hi : isInt d with
            | false =>
              refine br_f rfl ⟨?_, rfl⟩
              cases d <;> first | rfl | cases hi
            | true =>
              obtain ⟨i, rfl⟩ := int_shape hi
              refine br_t rfl ?_
              repeat walk_at "dl"
              by_cases g1 : (1 : Int) ≤ i
              · refine br_t (decide_eq_true g1) ?_
                repeat walk_at "dl"
                refine ⟨?_, rfl⟩
                show Val.d (.bool (decide (i ≤ 9))) = .d (.bool (decide (1 ≤ i) && decide (i ≤ 9)))
                rw [decide_eq_true g1, Bool.true_and]
              · refine br_f (decide_eq_false g1) ⟨?_, rfl⟩
                show Val.d (.bool false) = .d (.bool (decide (1 ≤ i) && decide (i ≤ 9)))
                rw [decide_eq_false g1, Bool.false_and]
          · repeat walk_at "dl"
            have e : (ds.map fun d => PyData.bool (okS d)) = (ds.map okS).map PyData.bool := by rw [List.map_map]; rfl
            rw [e]
            repeat walk_at "dl"
            have e : (ds.map okS).all id = isShares (.tuple ds) := by
              show _ = (decide (1 ≤ ds.length) && (decide (ds.length ≤ 5) && ds.all okS))
              rw [decide_eq_true (show 1 ≤ ds.length by omega), decide_eq_true (show ds.length ≤ 5 by omega), List.all_map]; rfl
            rw [e]
            exact q
        · rw [decide_eq_false h5]
          refine br_t rfl ?_
          repeat walk_at "dl"
          have e : isShares (.tuple ds) = false := by
            show (decide (1 ≤ ds.length) && (decide (ds.length ≤ 5) && ds.all okS)) = false
            rw [decide_eq_false (show ¬ ds.length ≤ 5 by omega), Bool.false_and, Bool.and_false]
          rw [e] at q
          exact q
      · refine br_f (decide_eq_false h1) ⟨_, rfl, br_t rfl ?_⟩
        repeat walk_at "dl"
        have e : isShares (.tuple ds) = false := by
          show (decide (1 ≤ ds.length) && (decide (ds.length ≤ 5) && ds.all okS)) = false
          rw [decide_eq_false (show ¬ 1 ≤ ds.length by omega), Bool.false_and]
        rw [e] at q
        exact q
abbrev s_rising_some : Stmt := topS 30
theorem sc_rising_some : FnScope ["shares", "some"] ["shares"] (defScope s_rising_some) := ⟨rfl, rfl, rfl, by decide +kernel, rfl, by decide +kernel, by decide +kernel⟩
theorem ok_rising_some {a : Addr} {fd : FuncData} (F : Fun K "rising_some" "rising_some" s_rising_some a fd) (hm : mg "rising_some" = some (.ref a)) (z_sorted : mg "sorted" = none) (z_len : mg "len" = none) (z_range : mg "range" = none) (z_list : mg "list" = none) (k_all_some : Cl P w K mg base 1 "all_some" f_allSome) :
    Cl P w K mg base 2 "rising_some" f_rising := by
  refine ⟨a, fd, ["shares"], fn_ok F sc_rising_some (fun args m R h => ?_) (fun cdv A outer s H E hr => ⟨_, (pss_one (ps_ret (pe_lc (own := [("some", 1)]) rfl sc_rising_some.nd (kiL K (kSortLen K (pe_sortLen hr (by rfl) z_sorted (by rfl) z_len (pa_cons (pe_cl k_all_some hr (by decide) (by rfl) (pa_cons (pe_listRg rfl (by rfl) z_list (prg_1 (by rfl) z_range (pe_callB (kLen K) (by rfl) z_len (by decide +kernel) (pa_cons (pv 0) pa_nil)))) pa_nil)) pa_nil)))) (blkOk_by (own := [("some", 1)]) (N := ["shares", "some"]) (sc := defScope s_rising_some) (by decide +kernel)) (fun _ _ _ _ _ => (pg_name (i := 1) sc_rising_some.nd rfl (by first | exact Or.inl rfl | exact Or.inr rfl))) (fun _ _ _ _ _ => (pts_one (pt_cmpR (kNe K hr) (pv 1) (pe_tup pa_nil) (nomark _)))) (fun _ _ _ _ _ => (pv 1))))), fun args m R h => ?_⟩), hm, F.kp, F.binds (ps := ["shares"]) fun _ _ _ _ _ _ us hl => match us, hl with | [_], _ => rfl⟩
  ·
    obtain ⟨_, rfl, _⟩ := h; rfl
  ·
    obtain ⟨ss, rfl, hs, q⟩ := h
    have hfew := hs.few
    have hal : (allS ss.length).length ≤ 32 := by rw [allS_len]; exact Nat.le_trans (Nat.pow_le_pow_right (by decide) hfew) (by decide)
    have hol : (ordX ss.length).length ≤ 32 := (ordX_facts ⟨ss.length, by omega⟩).1
    refine w_ret (ev_filLt (nss := (ordX ss.length).map kn) ?_ (by rw [List.length_map]; omega) (fun ks => !decide (ks = [])) (fun ks m' hks hx => ?_) (fun ks m' hks hx => ?_) ?_)
    · refine ev_sortLen ?_
      walk_at "go"
      refine ev_lstR1 (n := ss.length) (by omega) ?_
      walk_at "go"
      refine ⟨rfl, ?_⟩
      rw [rngD_intN]
      walk_at "go"
      refine ⟨by rw [List.length_range]; omega, ?_⟩
      rw [allSL_range]
      walk_at "go"
      refine ⟨by rw [List.length_map]; omega, ?_⟩
      rw [byLen_kn, ordS_eq]
      exact ⟨rfl, rfl⟩
    · walk_at "go"
      refine o2_ne (shaped_tupI ks) (shaped_tupI []) ?_
      rw [eqv_nilT ks]
      exact ⟨_, rfl, rfl, rfl⟩
    · exact ev_var rfl (fun h => nomatch h) ⟨rfl, rfl⟩
    rw [rsX_filter]
    exact q
abbrev s_lesser : Stmt := topS 32
theorem sc_lesser : FnScope ["one", "other"] ["one", "other"] (defScope s_lesser) := ⟨rfl, rfl, rfl, by decide +kernel, rfl, by decide +kernel, by decide +kernel⟩
theorem ok_lesser {a : Addr} {fd : FuncData} (F : Fun K "lesser" "lesser" s_lesser a fd) (hm : mg "lesser" = some (.ref a)) (k_below : Cl P w K mg base 1 "below" f_below) :
    Cl P w K mg base 2 "lesser" f_lesser := by
  refine ⟨a, fd, ["one", "other"], fn_ok F sc_lesser (fun args m R h => ?_) (fun cdv A outer s H E hr => ⟨_, (pss_one (ps_ret (pe_ifExp (pt_val (pe_cl k_below hr (by decide) (by rfl) (pa_cons (pv 0) (pa_cons (pv 1) pa_nil)))) (pv 0) (pv 1)))), fun args m R h => ?_⟩), hm, F.kp, F.binds (ps := ["one", "other"]) fun _ _ _ _ _ _ us hl => match us, hl with | [_, _], _ => rfl⟩
  ·
    obtain ⟨_, _, rfl, _⟩ := h; rfl
  ·
    obtain ⟨a, b, rfl, ha, hb, q⟩ := h
    unfold minQ at q
    walk_at "go"
    refine ⟨ha, hb, ?_⟩
    walk_at "go"
    by_cases hc : a < b
    · refine br_t (decide_eq_true hc) ?_
      rw [if_pos hc] at q
      walk_at "go"
      exact q
    · refine br_f (decide_eq_false hc) ?_
      rw [if_neg hc] at q
      walk_at "go"
      exact q
abbrev s_Desk_become : Stmt := inClass (topS 47) 2
theorem sc_Desk_become : FnScope ["self", "shares", "row"] ["self", "shares", "row"] (defScope s_Desk_become) := ⟨rfl, rfl, rfl, by decide +kernel, rfl, by decide +kernel, by decide +kernel⟩
theorem ok_Desk_become {a : Addr} {fd : FuncData} (F : Fun K "become" "Desk.become" s_Desk_become a fd) (hm : Meth K c_Desk "become" a) (TD : DeskC K c_Desk) (k_spaced : Cl P w K mg base 1 "spaced" f_spaced) (k_Desk_kinds_left : Mt P w K mg base c_Desk 1 "kinds_left" (f_left K c_Desk)) :
    Mt P w K mg base c_Desk 2 "become" (f_become K c_Desk) := by
  refine ⟨a, fd, ["self", "shares", "row"], fn_ok F sc_Desk_become (fun args m R h => ?_) (fun cdv A outer s H E hr => ⟨_, (pss_cons (ps_expr (kBM K (pe_bm PySem.F.plainAttrs_list PySem.F.slot_list_append PySem.F.type_list_append mt_append (kFld K (pv 0)) (pa_cons (pe_tup (pa_cons (kFld K (pv 0)) (pa_cons (kFld K (pv 0)) pa_nil))) pa_nil))))
      (pss_cons (ps_asg (pe_tup (pa_cons (pv 1) (pa_cons (pv 2) pa_nil))) (kgT K (pg_tup (n := 2) rfl (pgs_cons (kgFld K (pv 0)) (pgs_cons (kgFld K (pv 0)) pgs_nil)))))
      (pss_one (ps_ret (pe_cl k_spaced hr (by decide) (by rfl) (pa_cons (pe_mt0 k_Desk_kinds_left TD.cl hr (by decide) (pv 0)) pa_nil)))))), fun args m R h => ?_⟩), hm, F.binds (ps := ["self", "shares", "row"]) fun _ _ _ _ _ _ us hl => match us, hl with | [_, _, _], _ => rfl⟩
  ·
    obtain ⟨_, _, _, _, _, _, _, rfl, _⟩ := h; rfl
  ·
    obtain ⟨p, l, ss, ss', row, row', pst, rfl, hd, hs', hr', hp, q⟩ := h
    have hpl := hd.ne
    refine w_seq (w_drop (ev_app (p := l) (rs := pastL K pst) (ev_fld TD.cl TD.np (ev_var rfl (fun h => nomatch h) ⟨p, _, _, rfl, hd.ob, lk_past, rfl, hd.ls, ?_⟩))))
    refine ev_tupV (eva_cons (ev_fld TD.cl TD.ns (ev_var rfl (fun h => nomatch h) ⟨p, _, _, rfl, hd.ob, lk_shares, ?_⟩)))
    refine eva_cons (ev_fld TD.cl TD.nr (ev_var rfl (fun h => nomatch h) ⟨p, _, _, rfl, hd.ob, lk_row, ?_⟩))
    refine eva_nil ⟨by show 2 ≤ 100000; decide, hd.ls, by unfold pastL; rw [List.length_map]; omega, ?_⟩
    have epst : pastL K pst ++ [vT K [.d (tupI ss), .f (kn row)]] = pastL K (pst ++ [(ss, row)]) := by unfold pastL; rw [List.map_append]; rfl
    rw [epst]
    refine w_seq (w_asgF2 TD.cl TD.ns TD.nr ?_)
    refine ev_tupV (eva_cons (ev_var rfl (fun h => nomatch h) (eva_cons (ev_var rfl (fun h => nomatch h) (eva_nil ⟨by show 2 ≤ 100000; decide, _, _, rfl, ?_⟩)))))
    refine ev_var rfl (fun h => nomatch h) ⟨p, _, rfl, by rw [put_ne hpl]; exact hd.ob, by show 3 < 900; decide, ?_⟩
    refine ev_var rfl (fun h => nomatch h) ⟨p, _, rfl, put_same, Nat.lt_of_le_of_lt (putFV_len _ _ _) (by show 3 + 1 < 900; decide), ?_⟩
    rw [put_put, pf_two]
    exact w_ret (ev_spLeft (DeskIn.to hpl) hs' hr' rfl q)
abbrev s_Desk_back : Stmt := inClass (topS 47) 3
theorem sc_Desk_back : FnScope ["self"] ["self"] (defScope s_Desk_back) := ⟨rfl, rfl, rfl, by decide +kernel, rfl, by decide +kernel, by decide +kernel⟩
theorem ok_Desk_back {a : Addr} {fd : FuncData} (F : Fun K "back" "Desk.back" s_Desk_back a fd) (hm : Meth K c_Desk "back" a) (TD : DeskC K c_Desk) (k_spaced : Cl P w K mg base 1 "spaced" f_spaced) (k_Desk_kinds_left : Mt P w K mg base c_Desk 1 "kinds_left" (f_left K c_Desk)) (t_NoNumber : RfT K mg "NoNumber" c_NoNumber) :
    MtX P w K mg base c_Desk 2 "back" (f_back K c_Desk [c_NoShares, c_NoKind, c_NoNumber, (0 : Addr), (0 : Addr), (0 : Addr), c_NoLine, c_NoText]) := by
  refine ⟨a, fd, ["self"], fnX_ok F sc_Desk_back (fun args m R X h => ?_) (fun cdv A outer s H E hr => ⟨_, (pss_cons (ps_if (pt_cmpR (kEqL K hr) (kFld K (pv 0)) (pe_lst pa_nil) (nomark _)) (pss_one (ps_rf t_NoNumber (L2N.takes_of rfl rfl rfl rfl) (by rfl))) pss_nil)
      (PSs.nox (pss_cons (ps_asg (kBM0 K (pe_bm0 PySem.F.plainAttrs_list PySem.F.slot_list_pop PySem.F.type_list_pop mt_pop (kFld K (pv 0)))) (kgT K (pg_tup (n := 2) rfl (pgs_cons (kgFld K (pv 0)) (pgs_cons (kgFld K (pv 0)) pgs_nil)))))
      (pss_one (ps_ret (pe_cl k_spaced hr (by decide) (by rfl) (pa_cons (pe_mt0 k_Desk_kinds_left TD.cl hr (by decide) (pv 0)) pa_nil))))))), fun args m R X h G0 hT => ?_⟩), hm, F.binds (ps := ["self"]) fun _ _ _ _ _ _ us hl => match us, hl with | [_], _ => rfl⟩
  ·
    obtain ⟨_, _, _, _, _, _, rfl, _⟩ := h; rfl
  ·
    obtain ⟨p, l, n, ss, row, pst, rfl, hd, hk, hn, q⟩ := h
    have hpl := hd.ne
    refine wx_seq (wx_if (evt_test (ev_op (ev_fld TD.cl TD.np (ev_var rfl (fun h => nomatch h) ⟨p, _, _, rfl, hd.ob, lk_past, ?_⟩)))))
    refine ev_lstD (eva_nil ⟨[], rfl, by decide, ?_⟩)
    refine o2_eqNilM hd.ls ?_
    rcases q with ⟨rfl, hX⟩ | ⟨pst', e, rfl, q⟩
    · refine ⟨_, rfl, fun _ => wx_raise (hT _) hX, fun h => ?_⟩
      simp [pastL] at h
    · refine ⟨_, rfl, fun h => ?_, fun _ => wx_next (.of ?_)⟩
      · simp [pastL] at h
      obtain ⟨he1, he2⟩ := hk.each e (List.mem_append_right _ (List.mem_singleton.mpr rfl))
      refine w_seq (w_asgF2 TD.cl TD.ns TD.nr ?_)
      refine ev_pop0 (ev_fld TD.cl TD.np (ev_var rfl (fun h => nomatch h) ⟨p, _, _, rfl, hd.ob, lk_past, l, pastL K pst', vT K [.d (tupI e.1), .f (kn e.2)], rfl, by rw [hd.ls]; unfold pastL; rw [List.map_append]; rfl, _, _, rfl, ?_⟩))
      refine ev_var rfl (fun h => nomatch h) ⟨p, _, rfl, by rw [put_ne hpl]; exact hd.ob, by show 3 < 900; decide, ?_⟩
      refine ev_var rfl (fun h => nomatch h) ⟨p, _, rfl, put_same, Nat.lt_of_le_of_lt (putFV_len _ _ _) (by show 3 + 1 < 900; decide), ?_⟩
      rw [put_put, pf_two]
      exact w_ret (ev_spLeft (DeskIn.to hpl) he1 (by omega) rfl q)
abbrev s__law_shares : Stmt := topS 51
theorem sc__law_shares : FnScope ["_law_box_here", "_law_most", "_law_many", "_law_kind", "_law_first", "_law_other", "_law_found", "_law_at", "_law_drawn"] ["_law_box_here", "_law_most"] (defScope s__law_shares) := ⟨rfl, rfl, rfl, by decide +kernel, rfl, by decide +kernel, by decide +kernel⟩
theorem ok__law_shares {a : Addr} {fd : FuncData} (F : Fun K "_law_shares" "_law_shares" s__law_shares a fd) (hm : mg "_law_shares" = some (.ref a)) (z_range : mg "range" = none) (z_int : mg "int" = none) (z_tuple : mg "tuple" = none) (k__law_take : Cl P w K mg base 1 "_law_take" f_take) :
    Cl P w K mg base 2 "_law_shares" f_shares2 := by
  refine ⟨a, fd, ["_law_box_here", "_law_most"], fn_ok F sc__law_shares (fun args m R h => ?_) (fun cdv A outer s H E hr => ⟨_, (pss_cons (ps_set (i := 2) sc__law_shares.nd rfl (by first | exact Or.inl rfl | exact Or.inr rfl) (pe_op (kAdd K) pe_int (pe_cl k__law_take hr (by decide) (by rfl) (pa_cons (pv 0) (pa_cons (pv 1) pa_nil)))))
      (pss_cons (ps_set (i := 3) sc__law_shares.nd rfl (by first | exact Or.inl rfl | exact Or.inr rfl) (pe_cl k__law_take hr (by decide) (by rfl) (pa_cons (pv 0) (pa_cons pe_int pa_nil))))
      (pss_cons (ps_par (i := 4) (j := 5) rfl sc__law_shares.nd rfl rfl (by decide) rfl rfl (pa_cons (pe_op (kAdd K) pe_int (pe_cl k__law_take hr (by decide) (by rfl) (pa_cons (pv 0) (pa_cons pe_int pa_nil)))) (pa_cons (pe_op (kAdd K) pe_int (pe_cl k__law_take hr (by decide) (by rfl) (pa_cons (pv 0) (pa_cons pe_int pa_nil)))) pa_nil)) rfl)
      (pss_cons (ps_set (i := 6) sc__law_shares.nd rfl (by first | exact Or.inl rfl | exact Or.inr rfl) (pe_lst pa_nil))
      (pss_cons (ps_for PassesOwn.never rfl (pi_range1 (by rfl) z_range (pa_cons (pv 2) pa_nil)) (pg_name (i := 7) sc__law_shares.nd rfl (by first | exact Or.inl rfl | exact Or.inr rfl)) (pss_cons (ps_set (i := 8) sc__law_shares.nd rfl (by first | exact Or.inl rfl | exact Or.inr rfl) (pe_op (kAdd K) pe_int (pe_cl k__law_take hr (by decide) (by rfl) (pa_cons (pv 0) (pa_cons pe_int pa_nil)))))
      (pss_one (ps_expr (kBM K (pe_bm PySem.F.plainAttrs_list PySem.F.slot_list_append PySem.F.type_list_append mt_append (pv 6) (pa_cons (pe_ix (kIx K) (pe_lst (pa_cons (pv 8) (pa_cons (pv 4) (pa_cons (pe_ix (kIx K) (pe_lst (pa_cons pe_int (pa_cons pe_int pa_nil))) (pe_callTy cInt (by rfl) z_int (by decide +kernel) (pa_cons (pe_cmpR (kEq K hr) (pv 7) (pe_op oMod (pv 4) (pv 2)) (nomark _)) pa_nil)) (fun _ _ => rfl)) (pa_cons (pe_ix (kIx K) (pe_lst (pa_cons (pv 4) (pa_cons (pv 5) pa_nil))) (pe_op oMod (pv 8) pe_int) (fun _ _ => rfl)) pa_nil))))) (pv 3) (fun _ _ => rfl)) pa_nil)))))))
      (pss_one (ps_ret (pe_callTy (kTup K) (by rfl) z_tuple (by decide +kernel) (pa_cons (pv 6) pa_nil))))))))), fun args m R h => ?_⟩), hm, F.kp, F.binds (ps := ["_law_box_here", "_law_most"]) fun _ _ _ _ _ _ us hl => match us, hl with | [_, _], _ => rfl⟩
  ·
    obtain ⟨_, _, rfl, _⟩ := h; rfl
  ·
    obtain ⟨p, a, rfl, hp, ha1, ha5, q⟩ := h
    walk_at "go"
    refine ⟨hp, by omega, bt_lit (n := 3) (by show _ < 8; omega) (by decide), fun n0 h0 h1 => ?_⟩
    obtain ⟨n, rfl⟩ : ∃ n : Nat, n0 = (n : Int) := ⟨n0.toNat, by omega⟩
    walk_at "go"
    refine ⟨hp, by decide, bt_lit (n := 3) (by decide) (by decide), fun kd hk0 hk1 => ?_⟩
    walk_at "go"
    refine ⟨hp, by decide, bt_lit (n := 4) (by decide) (by decide), fun f hf0 hf1 => ?_⟩
    walk_at "go"
    refine ⟨hp, by decide, bt_lit (n := 4) (by decide) (by decide), fun o ho0 ho1 => ?_⟩
    walk_at "go"
    refine ev_lstM ?_
    walk_at "go"
    refine ⟨by decide, fun l hl => ?_⟩
    have hpl : p ≠ l := ne_of_get hp hl
    walk_at "go"
    refine w_forR1 (n := n + 1) ?_ (by omega) (fun i r' m' => ∃ (acc : List Int) (y7 y8 : Val), acc.length = i ∧ (∀ s ∈ acc, 1 ≤ s ∧ s ≤ 9) ∧ m' = put m l (.lst ((acc.map PyData.int).map Val.d)) ∧ r' = [.v (.ref p), .d (.int a), .d (.int (1 + (n : Int))), .d (.int kd), .d (.int (1 + f)), .d (.int (1 + o)), .v (.ref l), y7, y8]) ⟨[], _, _, rfl, (fun _ h => nomatch h), rfl, rfl⟩ ?_ ?_
    · walk_at "go"
      refine ⟨?_, rfl⟩
      rw [show (1 : Int) + (n : Int) = ((n + 1 : Nat) : Int) by omega]
    · rintro i r' m' hi ⟨acc, y7, y8, hal, has, rfl, rfl⟩
      have hpm : put m l (.lst ((acc.map PyData.int).map Val.d)) p = some .box := by rw [put_ne hpl]; exact hp
      walk_at "go"
      refine ⟨hpm, by decide, bt_lit (n := 4) (by decide) (by decide), fun d hd0 hd1 => ?_⟩
      refine o2_addI ?_
      refine w_drop (ev_app (p := l) (rs := (acc.map PyData.int).map Val.d) ?_)
      walk_at "go"
      refine ⟨rfl, put_same, ?_⟩
      refine ev_op (ev_lstD ?_)
      walk_at "go"
      refine ev_lstD ?_
      walk_at "go"
      refine o2_mod (by omega) ?_
      walk_at "go"
      refine on_intB ?_
      obtain ⟨v1, hv1, hb1, hb2⟩ : ∃ v : Int, atI ([.int 1, .int 9] : List PyData) (if decide ((i : Int) = (1 + f) % (1 + (n : Int))) = true then 1 else 0) = some (.int v) ∧ 1 ≤ v ∧ v ≤ 9 := by
        by_cases h : (i : Int) = (1 + f) % (1 + (n : Int))
        · rw [decide_eq_true h]; exact ⟨9, rfl, by decide, by decide⟩
        · rw [decide_eq_false h]; exact ⟨1, rfl, by decide, by decide⟩
      refine o2_ixL hv1 ?_
      walk_at "go"
      refine ev_lstD ?_
      walk_at "go"
      refine o2_mod (by decide) ?_
      obtain ⟨v2, hv2, hb3, hb4⟩ : ∃ v : Int, atI ([.int (1 + f), .int (1 + o)] : List PyData) ((1 + d) % 2) = some (.int v) ∧ 1 ≤ v ∧ v ≤ 9 := by
        have h2 : (1 + d) % 2 = 0 ∨ (1 + d) % 2 = 1 := by omega
        rcases h2 with h | h
        · rw [h]; exact ⟨1 + f, rfl, by omega, by omega⟩
        · rw [h]; exact ⟨1 + o, rfl, by omega, by omega⟩
      refine o2_ixL hv2 ?_
      walk_at "go"
      refine ⟨[.int (1 + d), .int (1 + f), .int v1, .int v2], rfl, Nat.le_of_ble_eq_true rfl, ?_⟩
      walk_at "go"
      obtain ⟨v3, hv3, hb5, hb6⟩ : ∃ v : Int, atI ([.int (1 + d), .int (1 + f), .int v1, .int v2] : List PyData) kd = some (.int v) ∧ 1 ≤ v ∧ v ≤ 9 := by
        have h4 : kd = 0 ∨ kd = 1 ∨ kd = 2 ∨ kd = 3 := by omega
        rcases h4 with rfl | rfl | rfl | rfl
        · exact ⟨1 + d, rfl, by omega, by omega⟩
        · exact ⟨1 + f, rfl, by omega, by omega⟩
        · exact ⟨v1, rfl, hb1, hb2⟩
        · exact ⟨v2, rfl, hb3, hb4⟩
      refine o2_ixL hv3 ?_
      refine ⟨put_same, by rw [List.length_map, List.length_map]; omega, acc ++ [v3], _, _, by rw [List.length_append, hal]; rfl, fun s hs => ?_, ?_, rfl⟩
      · rcases List.mem_append.mp hs with h | h
        · exact has s h
        · rw [List.mem_singleton.mp h]; exact ⟨hb5, hb6⟩
      · rw [put_put, List.map_append, List.map_append]; rfl
    · rintro r' m' ⟨acc, y7, y8, hal, has, rfl, rfl⟩
      refine w_freeze (i := 6) rfl put_same ?_
      rw [del_put hl]
      walk_at "go"
      exact q acc ⟨by omega, by omega, has⟩ (by omega)
abbrev s_sum_of : Stmt := topS 14
theorem sc_sum_of : FnScope ["one", "other"] ["one", "other"] (defScope s_sum_of) := ⟨rfl, rfl, rfl, by decide +kernel, rfl, by decide +kernel, by decide +kernel⟩
theorem ok_sum_of {a : Addr} {fd : FuncData} (F : Fun K "sum_of" "sum_of" s_sum_of a fd) (hm : mg "sum_of" = some (.ref a)) (k_made : Cl P w K mg base 2 "made" f_made) :
    Cl P w K mg base 3 "sum_of" f_sumOf := by
  refine ⟨a, fd, ["one", "other"], fn_ok F sc_sum_of (fun args m R h => ?_) (fun cdv A outer s H E hr => ⟨_, (pss_one (ps_ret (pe_cl k_made hr (by decide) (by rfl) (pa_cons (pe_op (kAdd K) (pe_op (kMul K) (pe_ix (kIx K) (pv 0) pe_int (fun _ _ => rfl)) (pe_ix (kIx K) (pv 1) pe_int (fun _ _ => rfl))) (pe_op (kMul K) (pe_ix (kIx K) (pv 1) pe_int (fun _ _ => rfl)) (pe_ix (kIx K) (pv 0) pe_int (fun _ _ => rfl)))) (pa_cons (pe_op (kMul K) (pe_ix (kIx K) (pv 0) pe_int (fun _ _ => rfl)) (pe_ix (kIx K) (pv 1) pe_int (fun _ _ => rfl))) pa_nil))))), fun args m R h => ?_⟩), hm, F.kp, F.binds (ps := ["one", "other"]) fun _ _ _ _ _ _ us hl => match us, hl with | [_, _], _ => rfl⟩
  ·
    obtain ⟨_, _, rfl, _⟩ := h; rfl
  ·
    obtain ⟨p, r, rfl, hp, hr, q⟩ := h
    walk_at "go"
    refine o2_mulI (hp.1.cmul hr.2 (by decide)) ?_
    walk_at "go"
    refine o2_mulI (hr.1.cmul hp.2 (by decide)) ?_
    walk_at "go"
    refine o2_mulI (hp.2.cmul hr.2 (by decide)) ?_
    walk_at "go"
    refine ⟨Nat.mul_pos (den_pos p) (den_pos r), ?_, ?_⟩
    · rw [Int.natCast_mul]; exact (hp.2.mul hr.2).mono (by decide)
    · rw [← Rat.add_def']; exact q
abbrev s_times_of : Stmt := topS 15
theorem sc_times_of : FnScope ["one", "other"] ["one", "other"] (defScope s_times_of) := ⟨rfl, rfl, rfl, by decide +kernel, rfl, by decide +kernel, by decide +kernel⟩
theorem ok_times_of {a : Addr} {fd : FuncData} (F : Fun K "times_of" "times_of" s_times_of a fd) (hm : mg "times_of" = some (.ref a)) (k_made : Cl P w K mg base 2 "made" f_made) :
    Cl P w K mg base 3 "times_of" f_timesOf := by
  refine ⟨a, fd, ["one", "other"], fn_ok F sc_times_of (fun args m R h => ?_) (fun cdv A outer s H E hr => ⟨_, (pss_one (ps_ret (pe_cl k_made hr (by decide) (by rfl) (pa_cons (pe_op (kMul K) (pe_ix (kIx K) (pv 0) pe_int (fun _ _ => rfl)) (pe_ix (kIx K) (pv 1) pe_int (fun _ _ => rfl))) (pa_cons (pe_op (kMul K) (pe_ix (kIx K) (pv 0) pe_int (fun _ _ => rfl)) (pe_ix (kIx K) (pv 1) pe_int (fun _ _ => rfl))) pa_nil))))), fun args m R h => ?_⟩), hm, F.kp, F.binds (ps := ["one", "other"]) fun _ _ _ _ _ _ us hl => match us, hl with | [_, _], _ => rfl⟩
  ·
    obtain ⟨_, _, rfl, _⟩ := h; rfl
  ·
    obtain ⟨p, r, rfl, hp, hr, q⟩ := h
    walk_at "go"
    refine o2_mulI (hp.1.cmul hr.1 (by decide)) ?_
    walk_at "go"
    refine o2_mulI (hp.2.cmul hr.2 (by decide)) ?_
    walk_at "go"
    refine ⟨Nat.mul_pos (den_pos p) (den_pos r), ?_, ?_⟩
    · rw [Int.natCast_mul]; exact (hp.2.mul hr.2).mono (by decide)
    · rw [← Rat.mul_def']; exact q
abbrev s_need_shares : Stmt := topS 21
theorem sc_need_shares : FnScope ["shares"] ["shares"] (defScope s_need_shares) := ⟨rfl, rfl, rfl, by decide +kernel, rfl, by decide +kernel, by decide +kernel⟩
theorem ok_need_shares {a : Addr} {fd : FuncData} (F : Fun K "need_shares" "need_shares" s_need_shares a fd) (hm : mg "need_shares" = some (.ref a)) (k_is_shares : Cl P w K mg base 2 "is_shares" f_isShares) :
    Cl P w K mg base 3 "need_shares" f_needShares := by
  refine ⟨a, fd, ["shares"], fn_ok F sc_need_shares (fun args m R h => ?_) (fun cdv A outer s H E hr => ⟨_, (pss_one (ps_if (pt_not (pt_val (pe_cl k_is_shares hr (by decide) (by rfl) (pa_cons (pv 0) pa_nil)))) (pss_one ps_never) pss_nil)), fun args m R h => ?_⟩), hm, F.kp, F.binds (ps := ["shares"]) fun _ _ _ _ _ _ us hl => match us, hl with | [_], _ => rfl⟩
  ·
    obtain ⟨_, rfl, _⟩ := h; rfl
  ·
    obtain ⟨x, rfl, hx, q⟩ := h
    repeat walk_at "dl"
    rw [hx]
    refine br_f rfl ?_
    exact w_next q
abbrev s_Desk_laid : Stmt := inClass (topS 47) 4
theorem sc_Desk_laid : FnScope ["self", "text", "shares"] ["self", "text"] (defScope s_Desk_laid) := ⟨rfl, rfl, rfl, by decide +kernel, rfl, by decide +kernel, by decide +kernel⟩
theorem ok_Desk_laid {a : Addr} {fd : FuncData} (F : Fun K "laid" "Desk.laid" s_Desk_laid a fd) (hm : Meth K c_Desk "laid" a) (TD : DeskC K c_Desk) (k_read : Cl P w K mg base 1 "read" f_read) (k_Desk_become : Mt P w K mg base c_Desk 2 "become" (f_become K c_Desk)) (g_NoText : mg "NoText" = some (.ref c_NoText)) :
    Mt P w K mg base c_Desk 3 "laid" (f_laid K c_Desk) := by
  refine ⟨a, fd, ["self", "text"], fn_ok F sc_Desk_laid (fun args m R h => ?_) (fun cdv A outer s H E hr => ⟨_, (pss_cons (L2.ps_try_only rfl rfl ⟨rfl, by decide, .inl g_NoText⟩ DL.takesL0 (fun W pn xe tk _ => (pss_one (ps_set (i := 2) sc_Desk_laid.nd rfl (by first | exact Or.inl rfl | exact Or.inr rfl) (pe_cl k_read hr (by decide) (by rfl) (pa_cons (pv 1) pa_nil))))) (fun a oe cls d pn _ _ => pss_one ps_never))
      (pss_one (ps_ret (pe_mt k_Desk_become TD.cl hr (by decide) (pv 0) (pa_cons (pv 2) (pa_cons (pe_tupFz pa_nil) pa_nil)))))), fun args m R h => ?_⟩), hm, F.binds (ps := ["self", "text"]) fun _ _ _ _ _ _ us hl => match us, hl with | [_, _], _ => rfl⟩
  ·
    obtain ⟨_, _, _, _, _, _, rfl, _⟩ := h; rfl
  ·
    obtain ⟨p, l, ss, ss', row, pst, rfl, hd, hs', hp, q⟩ := h
    refine w_seq (w_asg (ev_call (eva_cons (ev_var rfl (fun h => nomatch h) (eva_nil ⟨ss', rfl, hs', ?_⟩)))))
    refine w_ret (ev_mt (ev_var rfl (fun h => nomatch h) ⟨p, _, rfl, hd.ob, lk_no (by decide +kernel) (by decide +kernel) (by decide +kernel), ?_⟩))
    refine eva_cons (ev_var rfl (fun h => nomatch h) (eva_cons (ev_tupFz (eva_nil ⟨[], rfl, by decide, eva_nil ?_⟩))))
    exact ⟨p, l, ss, ss', row, [], pst, rfl, hd, hs', by decide, hp, q⟩
abbrev s_Desk_come_by : Stmt := inClass (topS 47) 5
theorem sc_Desk_come_by : FnScope ["self", "number", "whole", "cases", "some", "sign"] ["self", "number"] (defScope s_Desk_come_by) := ⟨rfl, rfl, rfl, by decide +kernel, rfl, by decide +kernel, by decide +kernel⟩
theorem ok_Desk_come_by {a : Addr} {fd : FuncData} (F : Fun K "come_by" "Desk.come_by" s_Desk_come_by a fd) (hm : Meth K c_Desk "come_by" a) (TD : DeskC K c_Desk) (z_sum : mg "sum" = none) (z_len : mg "len" = none) (c_MOST_DRAWS : ∃ t, mg "MOST_DRAWS" = some (.int 12 t)) (k_all_some : Cl P w K mg base 1 "all_some" f_allSomeB) (k_raised : Cl P w K mg base 1 "raised" f_raised) (k_sum_part : Cl P w K mg base 1 "sum_part" f_sumPart) (k_written : Cl P w K mg base 1 "written" f_written) (k_made : Cl P w K mg base 2 "made" f_made) (k_Desk_kinds_left : Mt P w K mg base c_Desk 1 "kinds_left" (f_left K c_Desk)) (t_NoNumber : RfT K mg "NoNumber" c_NoNumber) :
    MtX P w K mg base c_Desk 3 "come_by" (f_comeBy K c_Desk [c_NoShares, c_NoKind, c_NoNumber, (0 : Addr), (0 : Addr), (0 : Addr), c_NoLine, c_NoText]) := by
  refine ⟨a, fd, ["self", "number"], fnX_ok F sc_Desk_come_by (fun args m R X h => ?_) (fun cdv A outer s H E hr => ⟨_, (pss_cons (ps_if (pt_cmpR oGt (pv 1) (pe_gi c_MOST_DRAWS (by rfl)) (nomark _)) (pss_one (ps_rf t_NoNumber (L2N.takes_of rfl rfl rfl rfl) (by rfl))) pss_nil)
      (PSs.nox (pss_cons (ps_set (i := 2) sc_Desk_come_by.nd rfl (by first | exact Or.inl rfl | exact Or.inr rfl) (pe_callB (kSum K) (by rfl) z_sum (by decide +kernel) (pa_cons (kFld K (pv 0)) pa_nil)))
      (pss_cons (ps_set (i := 3) sc_Desk_come_by.nd rfl (by first | exact Or.inl rfl | exact Or.inr rfl) pe_int)
      (pss_cons (ps_for PassesOwn.never rfl (kiL K (pe_cl k_all_some hr (by decide) (by rfl) (pa_cons (pe_mt0 k_Desk_kinds_left TD.cl hr (by decide) (pv 0)) pa_nil))) (pg_name (i := 4) sc_Desk_come_by.nd rfl (by first | exact Or.inl rfl | exact Or.inr rfl)) (pss_cons (ps_set (i := 5) sc_Desk_come_by.nd rfl (by first | exact Or.inl rfl | exact Or.inr rfl) (pe_op oSub pe_int (pe_op (kMul K) pe_int (pe_op oMod (pe_callB (kLen K) (by rfl) z_len (by decide +kernel) (pa_cons (pv 4) pa_nil)) pe_int))))
      (pss_one (ps_set (i := 3) sc_Desk_come_by.nd rfl (by first | exact Or.inl rfl | exact Or.inr rfl) (pe_op (kAdd K) (pv 3) (pe_op (kMul K) (pv 5) (pe_cl k_raised hr (by decide) (by rfl) (pa_cons (pe_op oSub (pv 2) (pe_cl k_sum_part hr (by decide) (by rfl) (pa_cons (kFld K (pv 0)) (pa_cons (pv 4) pa_nil)))) (pa_cons (pv 1) pa_nil)))))))))
      (pss_one (ps_ret (pe_cl k_written hr (by decide) (by rfl) (pa_cons (pe_cl k_made hr (by decide) (by rfl) (pa_cons (pv 3) (pa_cons (pe_cl k_raised hr (by decide) (by rfl) (pa_cons (pv 2) (pa_cons (pv 1) pa_nil))) pa_nil))) pa_nil))))))))), fun args m R X h G0 hT => ?_⟩), hm, F.binds (ps := ["self", "number"]) fun _ _ _ _ _ _ us hl => match us, hl with | [_, _], _ => rfl⟩
  ·
    obtain ⟨_, _, _, _, _, _, rfl, _⟩ := h; rfl
  ·
    obtain ⟨p, l, n, ss, row, pst, rfl, hd, hs, hr, q⟩ := h
    refine wx_seq (wx_if (evt_test (ev_op (ev_var rfl (fun h => nomatch h) (ev_cI (o2_gt ?_))))))
    refine ⟨_, rfl, fun h => ?_, fun h => wx_next (.of ?_)⟩
    · rcases q with ⟨_, hX⟩ | ⟨hn, _⟩
      · exact wx_raise (hT _) hX
      · have := of_decide_eq_true h
        omega
    rcases q with ⟨hn, _⟩ | ⟨hn, q⟩
    · have := of_decide_eq_false h
      omega
    have hfew := hs.few
    have hsum := shares_sum hs
    have hk := leftL_kinds ss row
    have hkl := hk.len
    have hlf : leftL ss row = leftL ss row := rfl
    generalize hse : leftL ss row = s at *
    refine w_seq (w_asg (ev_callB (eva_cons (ev_fld TD.cl TD.ns (ev_var rfl (fun h => nomatch h) ⟨p, _, _, rfl, hd.ob, lk_shares, ?_⟩)))))
    refine eva_nil (on_sumI ?_)
    walk_at "go"
    refine w_forLt (nss := (allSL s).map kn) ?_ (fun i r' m' => m' = m ∧ ∃ y4 y5, r' = [.v (.ref p), .d (.int (n : Int)), .d (.int ss.sum), .d (.int ((((allSL s).take i).map fun few => sgn few.length * (ss.sum - sumP ss few) ^ n).sum)), y4, y5]) ⟨rfl, _, _, rfl⟩ ?_ ?_
    · refine ev_call (eva_cons (ev_mt (ev_var rfl (fun h => nomatch h) ⟨p, _, rfl, hd.ob, lk_no (by decide +kernel) (by decide +kernel) (by decide +kernel), eva_nil ⟨p, l, ss, row, pst, rfl, hd, hs, hr, Or.inr ?_⟩⟩)))
      rw [hse]
      exact eva_nil ⟨s, _, rfl, Or.inr rfl, by omega, rfl, rfl⟩
    · rintro i ns r' m' hi ⟨rfl, y4, y5, rfl⟩
      obtain ⟨few, hfi, rfl⟩ : ∃ few, (allSL s)[i]? = some few ∧ ns = kn few := by
        rw [List.getElem?_map] at hi
        cases hx : (allSL s)[i]? with
        | none => rw [hx] at hi; cases hi
        | some u => rw [hx] at hi; cases hi; exact ⟨u, rfl, rfl⟩
      have hfm := List.mem_of_getElem? hfi
      have hkf := kinds_sub hk (allSL_sub few hfm)
      have hfl := allSL_mem_len few hfm
      obtain ⟨h0, h45⟩ := come_nn hs hkf
      walk_at "go"
      refine o2_mod (by decide) ?_
      walk_at "go"
      refine o2_mulI (cmul_small (by decide) (by omega)) ?_
      walk_at "go"
      refine ev_fld TD.cl TD.ns (ev_var rfl (fun h => nomatch h) ⟨p, _, _, rfl, hd.ob, lk_shares, ?_⟩)
      walk_at "go"
      refine ⟨by omega, hkf.lt, ?_⟩
      walk_at "go"
      refine ⟨by omega, bt_lit (n := 7) (by show _ < 128; omega) (by decide), ?_⟩
      have es : (1 : Int) - 2 * ((few.length : Int) % 2) = sgn few.length := rfl
      rw [es]
      refine o2_mulI ((sgn_bt _).cmul (pow_bt h0 h45 hn) (by decide)) ?_
      walk_at "go"
      refine ⟨rfl, .t (kn few), .d (.int (sgn few.length)), ?_⟩
      rw [take_one hfi, List.map_append, List.sum_append]
      simp only [List.map_cons, List.map_nil, List.sum_cons, List.sum_nil, Int.add_zero]
      rfl
    · rintro r' m' ⟨rfl, y4, y5, rfl⟩
      rw [List.length_map, List.take_length]
      have hb := comeI_bt hs hk hn
      have hp0 : 0 < ss.sum.toNat ^ n := Nat.pow_pos (by omega)
      have hpb : Bt ((ss.sum.toNat ^ n : Nat) : Int) 80 := by
        rw [← tot_pow hs]
        exact (pow_bt (by omega) (by omega) hn).mono (by decide)
      walk_at "go"
      refine ⟨by omega, bt_lit (n := 7) (by show _ < 128; omega) (by decide), ?_⟩
      rw [tot_pow hs]
      walk_at "go"
      refine ⟨hp0, hpb.mono (by decide), ?_⟩
      walk_at "go"
      exact ⟨(frB_mk hb hpb hp0).mono (by decide), q⟩
abbrev s_due_number : Stmt := topS 25
theorem sc_due_number : FnScope ["shares", "paper", "some", "found", "kind", "others", "one"] ["shares", "paper", "some"] (defScope s_due_number) := ⟨rfl, rfl, rfl, by decide +kernel, rfl, by decide +kernel, by decide +kernel⟩
theorem ok_due_number {a : Addr} {fd : FuncData} (F : Fun K "due_number" "due_number" s_due_number a fd) (hm : mg "due_number" = some (.ref a)) (z_sum : mg "sum" = none) (z_tuple : mg "tuple" = none) (k_sum_of : Cl P w K mg base 3 "sum_of" f_sumOf) (k_times_of : Cl P w K mg base 3 "times_of" f_timesOf) (k_sum_part : Cl P w K mg base 1 "sum_part" f_sumPart) :
    Cl P w K mg base 4 "due_number" f_dueG := by
  refine ⟨a, fd, ["shares", "paper", "some"], fn_ok F sc_due_number (fun args m R h => ?_) (fun cdv A outer s H E hr => ⟨_, (pss_cons (ps_set (i := 3) sc_due_number.nd rfl (by first | exact Or.inl rfl | exact Or.inr rfl) (pe_tup (pa_cons (pe_callB (kSum K) (by rfl) z_sum (by decide +kernel) (pa_cons (pv 0) pa_nil)) (pa_cons pe_int pa_nil))))
      (pss_cons (ps_for PassesOwn.never rfl (kiT K (pv 2)) (pg_name (i := 4) sc_due_number.nd rfl (by first | exact Or.inl rfl | exact Or.inr rfl)) (pss_cons (ps_set (i := 5) sc_due_number.nd rfl (by first | exact Or.inl rfl | exact Or.inr rfl) (pe_callTy (kTup K) (by rfl) z_tuple (by decide +kernel) (pa_cons (pe_lc (own := [("one", 6)]) rfl sc_due_number.nd (kiT K (pv 2)) (blkOk_by (own := [("one", 6)]) (N := ["shares", "paper", "some", "found", "kind", "others", "one"]) (sc := defScope s_due_number) (by decide +kernel)) (fun _ _ _ _ _ => (pg_name (i := 6) sc_due_number.nd rfl (by first | exact Or.inl rfl | exact Or.inr rfl))) (fun _ _ _ _ _ => (pts_one (pt_cmpR (kNe K hr) (pv 6) (pv 4) (nomark _)))) (fun _ _ _ _ _ => (pv 6))) pa_nil)))
      (pss_one (ps_set (i := 3) sc_due_number.nd rfl (by first | exact Or.inl rfl | exact Or.inr rfl) (pe_cl k_sum_of hr (by decide) (by rfl) (pa_cons (pv 3) (pa_cons (pe_cl k_times_of hr (by decide) (by rfl) (pa_cons (pe_tup (pa_cons (pe_ix (kIx K) (pv 0) (pv 4) (fun _ _ => rfl)) (pa_cons pe_int pa_nil))) (pa_cons (pe_dget (hu_of hr) (pv 1) (pv 5) (fun _ _ => rfl)) pa_nil))) pa_nil)))))))
      (pss_one (ps_ret (pe_cl k_times_of hr (by decide) (by rfl) (pa_cons (pv 3) (pa_cons (pe_tup (pa_cons pe_int (pa_cons (pe_cl k_sum_part hr (by decide) (by rfl) (pa_cons (pv 0) (pa_cons (pv 2) pa_nil))) pa_nil))) pa_nil))))))), fun args m R h => ?_⟩), hm, F.kp, F.binds (ps := ["shares", "paper", "some"]) fun _ _ _ _ _ _ us hl => match us, hl with | [_, _, _], _ => rfl⟩
  ·
    obtain ⟨_, _, _, _, _, rfl, _⟩ := h; rfl
  ·
    obtain ⟨ss, s, p, kvs, P, rfl, hs, hk, h0, hd, hB, hg, q⟩ := h
    have hsl := hk.len
    have hfew := hs.few
    have hsum := shares_sum hs
    walk_at "go"
    refine w_forTf (xs := s) (f := intN) ?_ (fun i r' m' => m' = m ∧ ∃ y4 y5, r' = [.d (tupI ss), .v (.ref p), .d (tupN s), .d (frac (dueAcc ss (P) s (s.take i))), y4, y5, .any]) ⟨rfl, _, _, rfl⟩ ?_ ?_
    · walk_at "go"
      exact ⟨by rw [tupN_eq], rfl⟩
    · rintro i k r' m' hi ⟨rfl, y4, y5, rfl⟩
      have hks := List.mem_of_getElem? hi
      have hkl := hk.lt k hks
      have hf := hB.fr hs (kinds_without hk k)
      have ha := hB.accFr hs hk i
      have hb9 := getD_bounds hs k
      have hw : FrB (((ss.getD k 0 : Int)) : Rat) 8 := ⟨bt_lit (n := 8) (by show (ss.getD k 0).natAbs < 256; omega) (by decide), bt_lit (n := 1) (by show 1 < 2; decide) (by decide)⟩
      walk_at "go"
      refine ev_filTf (xs := s) (f := intN) ?_ (by omega) (fun x => !decide (x = k)) intN (fun x m2 hx hxx => ?_) (fun x m2 hx hxx hq => ?_) ?_
      · walk_at "go"
        exact ⟨by rw [tupN_eq], rfl⟩
      · walk_at "go"
        refine ⟨?_, rfl⟩
        rw [show decide ((x : Int) = (k : Int)) = decide (x = k) from decide_eq_decide.mpr (by omega)]
      · walk_at "go"
        exact ⟨rfl, rfl⟩
      walk_at "dl1"
      refine on_tupLtN ?_
      walk_at "go"
      refine o2_ixT (tupI_at hkl) ?_
      walk_at "go"
      refine ev_dgetV (ns := kn (s.filter fun x => !decide (x = k))) rfl ?_
      refine ev_var rfl (fun h => nomatch h) ⟨p, kvs, _, rfl, hd, hg k hks, ?_⟩
      walk_at "go"
      refine ⟨((ss.getD k 0 : Int) : Rat), _, rfl, hw.mono (by decide), hf.mono (by decide), ?_⟩
      walk_at "go"
      refine ⟨ha.mono (by decide), (hw.mul hf (c := 1400) (by decide)).mono (by decide), ?_⟩
      refine ⟨rfl, .d (.int (k : Int)), .t (kn (s.filter fun x => !decide (x = k))), ?_⟩
      have e : dueAcc ss (P) s (s.take (i + 1)) = dueAcc ss (P) s (s.take i) + ((ss.getD k 0 : Int) : Rat) * P (s.filter fun x => !decide (x = k)) := by
        unfold dueAcc
        rw [take_one hi, List.foldl_append]; rfl
      rw [e]
      rfl
    · rintro r' m' ⟨rfl, y4, y5, rfl⟩
      have ha := hB.accFr hs hk s.length
      have hp := sumP_pos hs h0 hk.lt
      have hle := sumP_le hs hk
      rw [List.take_length] at ha ⊢
      walk_at "go"
      refine ⟨by omega, hk.lt, ?_⟩
      walk_at "go"
      have ho : FrB (mkRat 1 (sumP ss s).toNat) 8 := frB_mk (bt_lit (n := 1) (by decide) (by decide)) (bt_lit (n := 8) (by show _ < 256; omega) (by decide)) (by omega)
      refine ⟨_, mkRat 1 (sumP ss s).toNat, ?_, ha.mono (by decide), ho.mono (by decide), ?_⟩
      · rw [frac_unit (by omega), show (((sumP ss s).toNat : Nat) : Int) = sumP ss s by omega]
      exact q
abbrev s_need_price : Stmt := topS 31
theorem sc_need_price : FnScope ["shares", "price"] ["shares", "price"] (defScope s_need_price) := ⟨rfl, rfl, rfl, by decide +kernel, rfl, by decide +kernel, by decide +kernel⟩
theorem ok_need_price {a : Addr} {fd : FuncData} (F : Fun K "need_price" "need_price" s_need_price a fd) (hm : mg "need_price" = some (.ref a)) (c_MOST_PRICE : ∃ t, mg "MOST_PRICE" = some (.int 99 t)) (k_need_shares : Cl P w K mg base 3 "need_shares" f_needShares) (k_need_number : Cl P w K mg base 2 "need_number" f_needNumber) :
    Cl P w K mg base 4 "need_price" f_needPrice := by
  refine ⟨a, fd, ["shares", "price"], fn_ok F sc_need_price (fun args m R h => ?_) (fun cdv A outer s H E hr => ⟨_, (pss_cons (ps_expr (pe_cl k_need_shares hr (by decide) (by rfl) (pa_cons (pv 0) pa_nil)))
      (pss_one (ps_expr (pe_cl k_need_number hr (by decide) (by rfl) (pa_cons (pv 1) (pa_cons pe_int (pa_cons (pe_gi c_MOST_PRICE (by rfl)) pa_nil))))))), fun args m R h => ?_⟩), hm, F.kp, F.binds (ps := ["shares", "price"]) fun _ _ _ _ _ _ us hl => match us, hl with | [_, _], _ => rfl⟩
  ·
    obtain ⟨_, _, rfl, _⟩ := h; rfl
  ·
    obtain ⟨ss, c, rfl, hs, hc, q⟩ := h
    walk_at "go"
    refine ⟨isShares_of hs, ?_⟩
    walk_at "go"
    refine ⟨_, _, _, rfl, by omega, by omega, ?_⟩
    exact q
abbrev s_show : Stmt := topS 39
theorem sc_show : FnScope ["shares", "one"] ["shares"] (defScope s_show) := ⟨rfl, rfl, rfl, by decide +kernel, rfl, by decide +kernel, by decide +kernel⟩
theorem ok_show {a : Addr} {fd : FuncData} (F : Fun K "show" "show" s_show a fd) (hm : mg "show" = some (.ref a)) (z_str : mg "str" = none) (k_need_shares : Cl P w K mg base 3 "need_shares" f_needShares) :
    Cl P w K mg base 4 "show" f_show := by
  refine ⟨a, fd, ["shares"], fn_ok F sc_show (fun args m R h => ?_) (fun cdv A outer s H E hr => ⟨_, (pss_cons (ps_expr (pe_cl k_need_shares hr (by decide) (by rfl) (pa_cons (pv 0) pa_nil)))
      (pss_one (ps_ret (kJoin K (pe_join pe_str (pe_lc (own := [("one", 1)]) rfl sc_show.nd (kiT K (pv 0)) (blkOk_by (own := [("one", 1)]) (N := ["shares", "one"]) (sc := defScope s_show) (by decide +kernel)) (fun _ _ _ _ _ => (pg_name (i := 1) sc_show.nd rfl (by first | exact Or.inl rfl | exact Or.inr rfl))) (fun _ _ _ _ _ => pts_nil) (fun _ _ _ _ _ => (pe_callTy cStr (by rfl) z_str (by decide +kernel) (pa_cons (pv 1) pa_nil))))))))), fun args m R h => ?_⟩), hm, F.kp, F.binds (ps := ["shares"]) fun _ _ _ _ _ _ us hl => match us, hl with | [_], _ => rfl⟩
  ·
    obtain ⟨_, rfl, _⟩ := h; rfl
  ·
    obtain ⟨ss, rfl, hs, q⟩ := h
    have hf := hs.few
    walk_at "go"
    refine ⟨isShares_of hs, ?_⟩
    refine w_ret (ev_join (a := " ") (ys := ss.map dg) ?_)
    walk_at "go"
    refine ⟨rfl, ?_⟩
    refine ev_mapTf (xs := ss) (f := PyData.int) ?_ (by omega) (fun s => .str (dg s)) (fun s m2 hs1 hx => ?_) ?_
    · walk_at "go"
      exact ⟨rfl, rfl⟩
    · have h9 := hs.each s hs1
      walk_at "go"
      refine on_str (a := 8) (bt_lit (n := 8) (by show _ < 256; omega) (by decide)) (by decide) (by decide) ⟨rfl, rfl⟩
    · refine ⟨by rw [List.map_map]; rfl, ?_, q⟩
      rw [dg_lens hs.each, List.length_map]
      have e : (Str.ofString " ").length = 1 := by decide +kernel
      rw [e]
      omega
abbrev s_paper_of : Stmt := topS 26
theorem sc_paper_of : FnScope ["shares", "found", "some"] ["shares"] (defScope s_paper_of) := ⟨rfl, rfl, rfl, by decide +kernel, rfl, by decide +kernel, by decide +kernel⟩
theorem ok_paper_of {a : Addr} {fd : FuncData} (F : Fun K "paper_of" "paper_of" s_paper_of a fd) (hm : mg "paper_of" = some (.ref a)) (z_sorted : mg "sorted" = none) (z_len : mg "len" = none) (z_range : mg "range" = none) (z_list : mg "list" = none) (c_NOUGHT : ∃ a, mg "NOUGHT" = some (.ref a) ∧ ∀ G, Rp K G (.tuple [.int 0, .int 1]) (.ref a)) (k_all_some : Cl P w K mg base 1 "all_some" f_allSome) (k_due_number : Cl P w K mg base 4 "due_number" f_dueNumber) :
    Cl P w K mg base 5 "paper_of" f_paperT := by
  obtain ⟨a_NOUGHT, h_NOUGHT, d_NOUGHT⟩ := c_NOUGHT
  refine ⟨a, fd, ["shares"], fn_ok F sc_paper_of (fun args m R h => ?_) (fun cdv A outer s H E hr => ⟨_, (pss_cons (ps_set (i := 1) sc_paper_of.nd rfl (by first | exact Or.inl rfl | exact Or.inr rfl) (pe_disp1 hr (pe_tup pa_nil) (pe_glob (v := V.ref a_NOUGHT) (by rfl) h_NOUGHT rfl)))
      (pss_cons (ps_for PassesOwn.never rfl (kiL K (kSortLen K (pe_sortLen hr (by rfl) z_sorted (by rfl) z_len (pa_cons (pe_cl k_all_some hr (by decide) (by rfl) (pa_cons (pe_listRg rfl (by rfl) z_list (prg_1 (by rfl) z_range (pe_callB (kLen K) (by rfl) z_len (by decide +kernel) (pa_cons (pv 0) pa_nil)))) pa_nil)) pa_nil)))) (pg_name (i := 2) sc_paper_of.nd rfl (by first | exact Or.inl rfl | exact Or.inr rfl)) (pss_one (ps_if (pt_cmpR (kNe K hr) (pv 2) (pe_tup pa_nil) (nomark _)) (pss_one (ps_dput (hu_of hr) (pv 1) (pv 2) (pe_cl k_due_number hr (by decide) (by rfl) (pa_cons (pv 0) (pa_cons (pv 1) (pa_cons (pv 2) pa_nil)))) rfl)) pss_nil)))
      (pss_one (ps_ret (pv 1))))), fun args m R h => ?_⟩), hm, F.kp, F.binds (ps := ["shares"]) fun _ _ _ _ _ _ us hl => match us, hl with | [_], _ => rfl⟩
  ·
    obtain ⟨_, rfl, _⟩ := h; rfl
  ·
    obtain ⟨ss, rfl, hs, q⟩ := h
    have hfew := hs.few
    have hol : (ordS ss.length).length ≤ 32 := by
      rw [(ordS_perm ss.length).length_eq, allS_len]
      exact Nat.le_trans (Nat.pow_le_pow_right (by decide) hfew) (by decide)
    refine w_seq (w_asg (ev_disp1 fun p hp => ev_tupT ?_))
    walk_at "dl1"
    refine ⟨[], rfl, by decide, _, rfl, ev_cG d_NOUGHT ⟨put_same, ?_⟩⟩
    rw [put_put]
    refine w_seq (w_forLt (nss := (ordS ss.length).map kn) ?_ (fun i r' m' => m' = put m p (.dT (tabT (timeT ss) (doneL (ordS ss.length) i))) ∧ ∃ y, r' = [.d (tupI ss), .v (.ref p), y]) ⟨rfl, _, rfl⟩ ?_ ?_)
    · refine ev_sortLen ?_
      walk_at "go"
      refine ev_lstR1 (n := ss.length) (by omega) ?_
      walk_at "go"
      refine ⟨rfl, ?_⟩
      rw [rngD_intN]
      walk_at "go"
      refine ⟨by rw [List.length_range]; omega, ?_⟩
      rw [allSL_range]
      walk_at "go"
      refine ⟨by rw [List.length_map, allS_len]; exact Nat.le_trans (Nat.pow_le_pow_right (by decide) hfew) (by decide), ?_⟩
      rw [byLen_kn]
      exact ⟨rfl, rfl⟩
    · rintro i ns r' m' hi ⟨rfl, y, rfl⟩
      obtain ⟨s, hsi, rfl⟩ : ∃ s, (ordS ss.length)[i]? = some s ∧ ns = kn s := by
        rw [List.getElem?_map] at hi
        cases hx : (ordS ss.length)[i]? with
        | none => rw [hx] at hi; cases hi
        | some s => rw [hx] at hi; cases hi; exact ⟨s, rfl, rfl⟩
      have hsa : s ∈ allS ss.length := (ordS_perm ss.length).mem_iff.mp (List.mem_of_getElem? hsi)
      have hk := allS_kinds hsa
      have hdl := doneL_len (ordS ss.length) i
      walk_at "go"
      refine o2_ne (shaped_tupI (kn s)) (shaped_tupI []) ?_
      rw [show PyData.eqv (tupN s) (.tuple []) = decide (s = []) from (eqv_nilT (kn s)).trans (decide_eq_decide.mpr List.map_eq_nil_iff)]
      walk_at "go"
      by_cases h0 : s = []
      · refine br_f (by rw [decide_eq_true h0]; rfl) (w_next ?_)
        rw [doneL_step hsi, if_pos h0]
        exact ⟨rfl, _, rfl⟩
      · refine br_t (by rw [decide_eq_false h0]; rfl) ?_
        refine w_dputV (ns := kn s) rfl ?_
        walk_at "go"
        refine ⟨ss, s, p, _, rfl, hs, hk, h0, Or.inl put_same, fun k hks => ?_, ?_⟩
        · refine getV_tab (doneL_mem (ordS_ahead hsi (allS_without ⟨ss.length, by omega⟩ s hsa k hks) ?_))
          have := without_len hk.up hks
          omega
        refine ev_var rfl (fun h => nomatch h) ⟨p, _, rfl, put_same, ?_, ?_⟩
        · rw [tab_len]; omega
        · rw [put_put, putV_tab (doneL_fresh (ordS_nodup hfew) hsi h0), doneL_step hsi, if_neg h0]
          exact ⟨rfl, _, rfl⟩
    · rintro r' m' ⟨rfl, y, rfl⟩
      rw [List.length_map]
      walk_at "go"
      exact q p hp
abbrev s_costs_of : Stmt := topS 33
theorem sc_costs_of : FnScope ["shares", "price", "found", "some"] ["shares", "price"] (defScope s_costs_of) := ⟨rfl, rfl, rfl, by decide +kernel, rfl, by decide +kernel, by decide +kernel⟩
theorem ok_costs_of {a : Addr} {fd : FuncData} (F : Fun K "costs_of" "costs_of" s_costs_of a fd) (hm : mg "costs_of" = some (.ref a)) (z_len : mg "len" = none) (c_NOUGHT : ∃ a, mg "NOUGHT" = some (.ref a) ∧ ∀ G, Rp K G (.tuple [.int 0, .int 1]) (.ref a)) (k_rising_some : Cl P w K mg base 2 "rising_some" f_rising) (k_lesser : Cl P w K mg base 2 "lesser" f_lesser) (k_due_number : Cl P w K mg base 4 "due_number" f_dueG) :
    Cl P w K mg base 5 "costs_of" f_costsOf := by
  obtain ⟨a_NOUGHT, h_NOUGHT, d_NOUGHT⟩ := c_NOUGHT
  refine ⟨a, fd, ["shares", "price"], fn_ok F sc_costs_of (fun args m R h => ?_) (fun cdv A outer s H E hr => ⟨_, (pss_cons (ps_set (i := 2) sc_costs_of.nd rfl (by first | exact Or.inl rfl | exact Or.inr rfl) (pe_disp1 hr (pe_tup pa_nil) (pe_glob (v := V.ref a_NOUGHT) (by rfl) h_NOUGHT rfl)))
      (pss_cons (ps_for PassesOwn.never rfl (kiL K (pe_cl k_rising_some hr (by decide) (by rfl) (pa_cons (pv 0) pa_nil))) (pg_name (i := 3) sc_costs_of.nd rfl (by first | exact Or.inl rfl | exact Or.inr rfl)) (pss_one (ps_dput (hu_of hr) (pv 2) (pv 3) (pe_cl k_lesser hr (by decide) (by rfl) (pa_cons (pe_tup (pa_cons (pe_op (kMul K) (pv 1) (pe_callB (kLen K) (by rfl) z_len (by decide +kernel) (pa_cons (pv 3) pa_nil))) (pa_cons pe_int pa_nil))) (pa_cons (pe_cl k_due_number hr (by decide) (by rfl) (pa_cons (pv 0) (pa_cons (pv 2) (pa_cons (pv 3) pa_nil)))) pa_nil))) rfl)))
      (pss_one (ps_ret (pv 2))))), fun args m R h => ?_⟩), hm, F.kp, F.binds (ps := ["shares", "price"]) fun _ _ _ _ _ _ us hl => match us, hl with | [_, _], _ => rfl⟩
  ·
    obtain ⟨_, _, rfl, _⟩ := h; rfl
  ·
    obtain ⟨ss, c, rfl, hs, hc, q⟩ := h
    have hfew := hs.few
    have h1 := hs.pos
    obtain ⟨o1, o2, o3, o4, o5, o6⟩ := rsX_facts ⟨ss.length, by omega⟩
    have o4 : (rsX ss.length).length ≤ 31 := o4
    have o6 : ∀ s ∈ rsX ss.length, s ∈ allS ss.length ∧ s ≠ [] := o6
    have hah : ∀ i s, (rsX ss.length)[i]? = some s → (∀ k ∈ s, wo s k ∈ [] :: (rsX ss.length).take i) ∧ s ∉ [] :: (rsX ss.length).take i := fun i s hi => rsX_ahead ⟨ss.length, by omega⟩ ⟨i, by have := (List.getElem?_eq_some_iff.mp hi).1; omega⟩ s hi
    have hB := cost_PB hs hc
    refine w_seq (w_asg (ev_disp1 fun p hp => ev_tupT ?_))
    walk_at "dl1"
    refine ⟨[], rfl, by decide, _, rfl, ev_cG d_NOUGHT ⟨put_same, ?_⟩⟩
    rw [put_put]
    refine w_seq (w_forLt (nss := (rsX ss.length).map kn) ?_ (fun i r' m' => m' = put m p (.dT (tabT (costT ss c) ([] :: (rsX ss.length).take i))) ∧ ∃ y, r' = [.d (tupI ss), .d (.int (c : Int)), .v (.ref p), y]) ⟨rfl, _, rfl⟩ ?_ ?_)
    · walk_at "go"
      refine ⟨hs, ?_⟩
      exact ⟨rfl, rfl⟩
    · rintro i ks r' m' hi ⟨rfl, y, rfl⟩
      obtain ⟨s, hsi, rfl⟩ : ∃ s, (rsX ss.length)[i]? = some s ∧ ks = kn s := by
        rw [List.getElem?_map] at hi
        cases hx : (rsX ss.length)[i]? with
        | none => rw [hx] at hi; cases hi
        | some s => rw [hx] at hi; cases hi; exact ⟨s, rfl, rfl⟩
      obtain ⟨hsa, h0⟩ := o6 s (List.mem_of_getElem? hsi)
      have hk := allS_kinds hsa
      have hkl := hk.len
      obtain ⟨ha1, ha2⟩ := hah i s hsi
      refine w_dputV (ns := kn s) rfl ?_
      walk_at "go"
      refine o2_mulI (cmul_small (by omega) (by omega)) ?_
      walk_at "go"
      refine ⟨ss, s, p, _, costT ss c, rfl, hs, hk, h0, Or.inl put_same, hB, fun k hks => getV_tab (ha1 k hks), ?_⟩
      walk_at "go"
      refine ⟨priceQ c s, dueT ss (costT ss c) s, ?_, ?_, (hB.dueFr hs hk h0).mono (by decide), ?_⟩
      · unfold priceQ
        rw [frac_int, Int.natCast_mul]
      · exact ((price_QB hc s).frB (e := 10) (by show _ < 1024; omega)).mono (by have := dB_le (n := s.length) (by omega); omega)
      rw [← cost_step ss c hk.up h0]
      refine ev_var rfl (fun h => nomatch h) ⟨p, _, rfl, put_same, ?_, ?_⟩
      · rw [tab_len, List.length_cons, List.length_take]; omega
      · rw [put_put, putV_tab ha2, List.cons_append, ← take_one hsi]
        exact ⟨rfl, _, rfl⟩
    · rintro r' m' ⟨rfl, y, rfl⟩
      rw [List.length_map, List.take_length]
      walk_at "go"
      exact q p hp
abbrev s_time_paper : Stmt := topS 27
theorem sc_time_paper : FnScope ["shares"] ["shares"] (defScope s_time_paper) := ⟨rfl, rfl, rfl, by decide +kernel, rfl, by decide +kernel, by decide +kernel⟩
theorem ok_time_paper {a : Addr} {fd : FuncData} (F : Fun K "time_paper" "time_paper" s_time_paper a fd) (hm : mg "time_paper" = some (.ref a)) (k_need_shares : Cl P w K mg base 3 "need_shares" f_needShares) (k_paper_of : Cl P w K mg base 5 "paper_of" f_paperT) :
    Cl P w K mg base 6 "time_paper" f_paperT := by
  refine ⟨a, fd, ["shares"], fn_ok F sc_time_paper (fun args m R h => ?_) (fun cdv A outer s H E hr => ⟨_, (pss_cons (ps_expr (pe_cl k_need_shares hr (by decide) (by rfl) (pa_cons (pv 0) pa_nil)))
      (pss_one (ps_ret (pe_cl k_paper_of hr (by decide) (by rfl) (pa_cons (pv 0) pa_nil))))), fun args m R h => ?_⟩), hm, F.kp, F.binds (ps := ["shares"]) fun _ _ _ _ _ _ us hl => match us, hl with | [_], _ => rfl⟩
  ·
    obtain ⟨_, rfl, _⟩ := h; rfl
  ·
    obtain ⟨ss, rfl, hs, q⟩ := h
    walk_at "go"
    refine ⟨isShares_of hs, ?_⟩
    walk_at "go"
    exact ⟨hs, q⟩
abbrev s_cost_paper : Stmt := topS 34
theorem sc_cost_paper : FnScope ["shares", "price"] ["shares", "price"] (defScope s_cost_paper) := ⟨rfl, rfl, rfl, by decide +kernel, rfl, by decide +kernel, by decide +kernel⟩
theorem ok_cost_paper {a : Addr} {fd : FuncData} (F : Fun K "cost_paper" "cost_paper" s_cost_paper a fd) (hm : mg "cost_paper" = some (.ref a)) (k_need_price : Cl P w K mg base 4 "need_price" f_needPrice) (k_costs_of : Cl P w K mg base 5 "costs_of" f_costsOf) :
    Cl P w K mg base 6 "cost_paper" f_costsOf := by
  refine ⟨a, fd, ["shares", "price"], fn_ok F sc_cost_paper (fun args m R h => ?_) (fun cdv A outer s H E hr => ⟨_, (pss_cons (ps_expr (pe_cl k_need_price hr (by decide) (by rfl) (pa_cons (pv 0) (pa_cons (pv 1) pa_nil))))
      (pss_one (ps_ret (pe_cl k_costs_of hr (by decide) (by rfl) (pa_cons (pv 0) (pa_cons (pv 1) pa_nil)))))), fun args m R h => ?_⟩), hm, F.kp, F.binds (ps := ["shares", "price"]) fun _ _ _ _ _ _ us hl => match us, hl with | [_, _], _ => rfl⟩
  ·
    obtain ⟨_, _, rfl, _⟩ := h; rfl
  ·
    obtain ⟨ss, c, rfl, hs, hc, q⟩ := h
    walk_at "go"
    refine ⟨hs, hc, ?_⟩
    walk_at "go"
    exact ⟨hs, hc, q⟩
abbrev s_plan_of : Stmt := topS 35
theorem sc_plan_of : FnScope ["shares", "price", "known", "found", "some", "dearer"] ["shares", "price"] (defScope s_plan_of) := ⟨rfl, rfl, rfl, by decide +kernel, rfl, by decide +kernel, by decide +kernel⟩
theorem ok_plan_of {a : Addr} {fd : FuncData} (F : Fun K "plan_of" "plan_of" s_plan_of a fd) (hm : mg "plan_of" = some (.ref a)) (z_len : mg "len" = none) (k_costs_of : Cl P w K mg base 5 "costs_of" f_costsOf) (k_rising_some : Cl P w K mg base 2 "rising_some" f_rising) (k_below : Cl P w K mg base 1 "below" f_below) (k_due_number : Cl P w K mg base 4 "due_number" f_dueG) :
    Cl P w K mg base 6 "plan_of" f_planOf := by
  refine ⟨a, fd, ["shares", "price"], fn_ok F sc_plan_of (fun args m R h => ?_) (fun cdv A outer s H E hr => ⟨_, (pss_cons (ps_set (i := 2) sc_plan_of.nd rfl (by first | exact Or.inl rfl | exact Or.inr rfl) (pe_cl k_costs_of hr (by decide) (by rfl) (pa_cons (pv 0) (pa_cons (pv 1) pa_nil))))
      (pss_cons (ps_set (i := 3) sc_plan_of.nd rfl (by first | exact Or.inl rfl | exact Or.inr rfl) pe_dnewT)
      (pss_cons (ps_for PassesOwn.never rfl (kiL K (pe_cl k_rising_some hr (by decide) (by rfl) (pa_cons (pv 0) pa_nil))) (pg_name (i := 4) sc_plan_of.nd rfl (by first | exact Or.inl rfl | exact Or.inr rfl)) (pss_cons (ps_set (i := 5) sc_plan_of.nd rfl (by first | exact Or.inl rfl | exact Or.inr rfl) (pe_cl k_below hr (by decide) (by rfl) (pa_cons (pe_cl k_due_number hr (by decide) (by rfl) (pa_cons (pv 0) (pa_cons (pv 2) (pa_cons (pv 4) pa_nil)))) (pa_cons (pe_tup (pa_cons (pe_op (kMul K) (pv 1) (pe_callB (kLen K) (by rfl) z_len (by decide +kernel) (pa_cons (pv 4) pa_nil))) (pa_cons pe_int pa_nil))) pa_nil))))
      (pss_one (ps_dput (hu_of hr) (pv 3) (pv 4) (pe_ifExp (pt_val (pv 5)) pe_str pe_str) rfl))))
      (pss_one (ps_ret (pv 3)))))), fun args m R h => ?_⟩), hm, F.kp, F.binds (ps := ["shares", "price"]) fun _ _ _ _ _ _ us hl => match us, hl with | [_, _], _ => rfl⟩
  ·
    obtain ⟨_, _, rfl, _⟩ := h; rfl
  ·
    obtain ⟨ss, c, rfl, hs, hc, q⟩ := h
    have hfew := hs.few
    have h1 := hs.pos
    obtain ⟨o1, o2, o3, o4, o5, o6⟩ := rsX_facts ⟨ss.length, by omega⟩
    have o4 : (rsX ss.length).length ≤ 31 := o4
    have o6 : ∀ s ∈ rsX ss.length, s ∈ allS ss.length ∧ s ≠ [] := o6
    have hah : ∀ i s, (rsX ss.length)[i]? = some s → (∀ k ∈ s, wo s k ∈ [] :: (rsX ss.length).take i) ∧ s ∉ [] :: (rsX ss.length).take i := fun i s hi => rsX_ahead ⟨ss.length, by omega⟩ ⟨i, by have := (List.getElem?_eq_some_iff.mp hi).1; omega⟩ s hi
    have hB := cost_PB hs hc
    walk_at "go"
    refine ⟨hs, hc, fun p hp => ?_⟩
    refine w_seq (w_asg (ev_dnew fun d hd => ?_))
    have hpd : d ≠ p := fun e => by rw [e, put_same] at hd; cases hd
    have hdm : m d = none := by rw [put_ne hpd] at hd; exact hd
    refine w_seq (w_forLt (nss := (rsX ss.length).map kn) ?_ (fun i r' m' => m' = put (put m p (.dT (tabT (costT ss c) ([] :: rsX ss.length)))) d (.dT (dI (tabS (fun s => told (buyP ss c s)) ((rsX ss.length).take i)))) ∧ ∃ y z, r' = [.d (tupI ss), .d (.int (c : Int)), .v (.ref p), .v (.ref d), y, z]) ⟨rfl, _, _, rfl⟩ ?_ ?_)
    · walk_at "go"
      refine ⟨hs, ?_⟩
      exact ⟨rfl, rfl⟩
    · rintro i ks r' m' hi ⟨rfl, y, z, rfl⟩
      obtain ⟨s, hsi, rfl⟩ : ∃ s, (rsX ss.length)[i]? = some s ∧ ks = kn s := by
        rw [List.getElem?_map] at hi
        cases hx : (rsX ss.length)[i]? with
        | none => rw [hx] at hi; cases hi
        | some s => rw [hx] at hi; cases hi; exact ⟨s, rfl, rfl⟩
      obtain ⟨hsa, h0⟩ := o6 s (List.mem_of_getElem? hsi)
      have hk := allS_kinds hsa
      have hkl := hk.len
      obtain ⟨ha1, ha2⟩ := hah i s hsi
      have hgp : put (put m p (.dT (tabT (costT ss c) ([] :: rsX ss.length)))) d (.dT (dI (tabS (fun s => told (buyP ss c s)) ((rsX ss.length).take i)))) p = some (.dT (tabT (costT ss c) ([] :: rsX ss.length))) := by rw [put_ne (Ne.symm hpd)]; exact put_same
      walk_at "go"
      refine ⟨ss, s, p, _, costT ss c, rfl, hs, hk, h0, Or.inl hgp, hB, fun k hks => getV_tab (by
        rcases List.mem_cons.mp (ha1 k hks) with h | h
        · exact List.mem_cons.mpr (Or.inl h)
        · exact List.mem_cons.mpr (Or.inr (List.mem_of_mem_take h))), ?_⟩
      walk_at "go"
      refine o2_mulI (cmul_small (by omega) (by omega)) ?_
      walk_at "go"
      refine ⟨dueT ss (costT ss c) s, priceQ c s, ?_, (hB.dueFr hs hk h0).mono (by decide), ?_, ?_⟩
      · unfold priceQ
        rw [frac_int, Int.natCast_mul]
      · exact ((price_QB hc s).frB (e := 10) (by show _ < 1024; omega)).mono (by have := dB_le (n := s.length) (by omega); omega)
      refine w_dputV (ns := kn s) rfl ?_
      refine Ev.imp (Q := fun x m1 => x = .d (.str (told (buyP ss c s))) ∧ m1 = put (put m p (.dT (tabT (costT ss c) ([] :: rsX ss.length)))) d (.dT (dI (tabS (fun s => told (buyP ss c s)) ((rsX ss.length).take i))))) ?_ ?_
      · walk_at "go"
        unfold told buyP
        by_cases hc2 : dueT ss (costT ss c) s < priceQ c s
        · refine br_t (decide_eq_true hc2) ?_
          walk_at "go"
          rw [decide_eq_true hc2]
          exact ⟨rfl, rfl⟩
        · refine br_f (decide_eq_false hc2) ?_
          walk_at "go"
          rw [decide_eq_false hc2]
          exact ⟨rfl, rfl⟩
      rintro x m1 ⟨rfl, rfl⟩
      refine ev_var rfl (fun h => nomatch h) ⟨d, _, rfl, put_same, ?_, ?_⟩
      · unfold dI tabS
        rw [List.length_map, List.length_map, List.length_take]; omega
      · rw [put_put, putV_tabS (f := fun s => told (buyP ss c s)) (fun h => ha2 (List.mem_cons_of_mem _ h)), ← take_one hsi]
        exact ⟨rfl, _, _, rfl⟩
    · rintro r' m' ⟨rfl, y, z, rfl⟩
      rw [List.length_map, List.take_length]
      refine w_ret (ev_forget (ev_var rfl (fun h => nomatch h) ⟨put m d (.dT (dI (tabS (fun s => told (buyP ss c s)) (rsX ss.length)))), fun a o h => ?_, q d hdm⟩))
      by_cases ha : a = d
      · subst ha; rw [put_same] at h ⊢; exact h
      · rw [put_ne ha] at h ⊢
        rw [put_ne (ne_of_get h hp)]; exact h
abbrev s_Desk_answer : Stmt := inClass (topS 47) 7
theorem sc_Desk_answer : FnScope ["self", "word", "kind"] ["self", "word"] (defScope s_Desk_answer) := ⟨rfl, rfl, rfl, by decide +kernel, rfl, by decide +kernel, by decide +kernel⟩
theorem ok_Desk_answer {a : Addr} {fd : FuncData} (F : Fun K "answer" "Desk.answer" s_Desk_answer a fd) (hm : Meth K c_Desk "answer" a) (TD : DeskC K c_Desk) (z_range : mg "range" = none) (z_len : mg "len" = none) (z_sum : mg "sum" = none) (k_show : Cl P w K mg base 4 "show" f_show) (k_spaced : Cl P w K mg base 1 "spaced" f_spaced) (k_written : Cl P w K mg base 1 "written" f_written) (k_paper_of : Cl P w K mg base 5 "paper_of" f_paperT) (k_made : Cl P w K mg base 2 "made" f_made) (k_sum_part : Cl P w K mg base 1 "sum_part" f_sumPart) (k_Desk_kinds_left : Mt P w K mg base c_Desk 1 "kinds_left" (f_left K c_Desk)) (q_Desk_back : MtX P w K mg base c_Desk 2 "back" (f_back K c_Desk [c_NoShares, c_NoKind, c_NoNumber, (0 : Addr), (0 : Addr), (0 : Addr), c_NoLine, c_NoText])) (t_NoLine : RfT K mg "NoLine" c_NoLine) :
    MtX P w K mg base c_Desk 6 "answer" (f_answer K c_Desk [c_NoShares, c_NoKind, c_NoNumber, (0 : Addr), (0 : Addr), (0 : Addr), c_NoLine, c_NoText]) := by
  refine ⟨a, fd, ["self", "word"], fnX_ok F sc_Desk_answer (fun args m R X h => ?_) (fun cdv A outer s H E hr => ⟨_, (pss_cons (ps_if (pt_cmpR (kEq K hr) (pv 1) pe_str (nomark _)) (pss_one (ps_ret (pe_mtX0 q_Desk_back TD.cl hr (by decide) (L2N.takes_of rfl rfl rfl rfl) (pv 0)))) pss_nil)
      (pss_cons (ps_if (pt_cmpR (kEq K hr) (pv 1) pe_str (nomark _)) (PSs.nox (pss_one (ps_ret (pe_cl k_show hr (by decide) (by rfl) (pa_cons (kFld K (pv 0)) pa_nil))))) pss_nil)
      (pss_cons (ps_if (pt_cmpR (kEq K hr) (pv 1) pe_str (nomark _)) (PSs.nox (pss_one (ps_ret (pe_cl k_spaced hr (by decide) (by rfl) (pa_cons (pe_mt0 k_Desk_kinds_left TD.cl hr (by decide) (pv 0)) pa_nil))))) pss_nil)
      (pss_cons (ps_if (pt_cmpR (kEq K hr) (pv 1) pe_str (nomark _)) (PSs.nox (pss_one (ps_ret (pe_cl k_spaced hr (by decide) (by rfl) (pa_cons (pe_lc (own := [("kind", 2)]) rfl sc_Desk_answer.nd (pi_range1 (by rfl) z_range (pa_cons (pe_callB (kLen K) (by rfl) z_len (by decide +kernel) (pa_cons (kFld K (pv 0)) pa_nil)) pa_nil)) (blkOk_by (own := [("kind", 2)]) (N := ["self", "word", "kind"]) (sc := defScope s_Desk_answer) (by decide +kernel)) (fun _ _ _ _ _ => (pg_name (i := 2) sc_Desk_answer.nd rfl (by first | exact Or.inl rfl | exact Or.inr rfl))) (fun _ _ _ _ _ => pts_nil) (fun _ _ _ _ _ => (kBMF K (r := rTCn) (pe_bmF PySem.F.slot_tuple_count PySem.F.type_tuple_count mt_tcn (kFld K (pv 0)) (pa_cons (pv 2) pa_nil))))) pa_nil))))) pss_nil)
      (pss_cons (ps_if (pt_cmpR (kEq K hr) (pv 1) pe_str (nomark _)) (PSs.nox (pss_one (ps_ret (pe_cl k_written hr (by decide) (by rfl) (pa_cons (pe_dget (hu_of hr) (pe_cl k_paper_of hr (by decide) (by rfl) (pa_cons (kFld K (pv 0)) pa_nil)) (pe_mt0 k_Desk_kinds_left TD.cl hr (by decide) (pv 0)) (fun _ _ => rfl)) pa_nil))))) pss_nil)
      (pss_cons (ps_if (pt_cmpR (kEq K hr) (pv 1) pe_str (nomark _)) (PSs.nox (pss_one (ps_ret (pe_cl k_written hr (by decide) (by rfl) (pa_cons (pe_cl k_made hr (by decide) (by rfl) (pa_cons (pe_cl k_sum_part hr (by decide) (by rfl) (pa_cons (kFld K (pv 0)) (pa_cons (pe_mt0 k_Desk_kinds_left TD.cl hr (by decide) (pv 0)) pa_nil))) (pa_cons (pe_callB (kSum K) (by rfl) z_sum (by decide +kernel) (pa_cons (kFld K (pv 0)) pa_nil)) pa_nil))) pa_nil))))) pss_nil)
      (pss_one (ps_rf t_NoLine (L2N.takes_of rfl rfl rfl rfl) (by rfl))))))))), fun args m R X h G0 hT => ?_⟩), hm, F.binds (ps := ["self", "word"]) fun _ _ _ _ _ _ us hl => match us, hl with | [_, _], _ => rfl⟩
  ·
    obtain ⟨_, _, _, _, _, _, _, rfl, _⟩ := h; rfl
  ·
    obtain ⟨c, p, l, n, ss, row, pst, rfl, hc, hd, hk, hn, q⟩ := h
    have hs := hk.sh
    have hfew := hs.few
    have hpos := hs.pos
    have hrl := hk.rl
    have hsum := shares_sum hs
    have hkk := leftL_kinds ss row
    have hsame := hd.same
    cases c with
    | got d => exact hc.elim
    | all d => exact hc.elim
    | buy d => exact hc.elim
    | shares d => exact hc.elim
    | back =>
      refine wx_seq (wx_if (evt_test (ev_op (ev_var rfl (fun h => nomatch h) (ev_cS (o2_eqS ?_))))))
      refine ⟨_, rfl, fun _ => ?_, fun h => nomatch h⟩
      refine wx_ret (evx_mt (hT _) (ev_var rfl (fun h => nomatch h) ⟨p, _, rfl, hd.ob, lk_no (by decide +kernel) (by decide +kernel) (by decide +kernel), eva_nil ⟨p, l, n, ss, row, pst, rfl, hd, hk, hn, ?_⟩⟩))
      rcases List.eq_nil_or_concat pst with rfl | ⟨pst', e, rfl⟩
      · exact Or.inl ⟨rfl, q⟩
      · refine Or.inr ⟨pst', e, by rw [List.concat_eq_append], ?_⟩
        have hl : (pst'.concat e).getLast? = some e := by rw [List.concat_eq_append]; simp
        have hdl : (pst'.concat e).dropLast = pst' := by rw [List.concat_eq_append]; simp
        simp only [DL.run, hl, hdl, SayOut] at q
        exact q
    | told =>
      refine wx_seq (wx_if (evt_test (ev_op (ev_var rfl (fun h => nomatch h) (ev_cS (o2_eqS ?_))))))
      refine ⟨_, rfl, fun h => absurd (h.symm.trans (strF (by decide +kernel))) (by decide), fun _ => wx_next ?_⟩
      refine wx_seq (wx_if (evt_test (ev_op (ev_var rfl (fun h => nomatch h) (ev_cS (o2_eqS ?_))))))
      refine ⟨_, rfl, fun _ => ?_, fun h => nomatch h⟩
      have q : R (.d (.str (showS ss))) (dskM K c_Desk m p l ss row pst) := q
      rw [hsame] at q
      exact .of (w_ret (ev_call (eva_cons (ev_fld TD.cl TD.ns (ev_var rfl (fun h => nomatch h) ⟨p, _, _, rfl, hd.ob, lk_shares, eva_nil ⟨ss, rfl, hs, q⟩⟩)))))
    | left =>
      refine wx_seq (wx_if (evt_test (ev_op (ev_var rfl (fun h => nomatch h) (ev_cS (o2_eqS ?_))))))
      refine ⟨_, rfl, fun h => absurd (h.symm.trans (strF (by decide +kernel))) (by decide), fun _ => wx_next ?_⟩
      refine wx_seq (wx_if (evt_test (ev_op (ev_var rfl (fun h => nomatch h) (ev_cS (o2_eqS ?_))))))
      refine ⟨_, rfl, fun h => absurd (h.symm.trans (strF (by decide +kernel))) (by decide), fun _ => wx_next ?_⟩
      refine wx_seq (wx_if (evt_test (ev_op (ev_var rfl (fun h => nomatch h) (ev_cS (o2_eqS ?_))))))
      refine ⟨_, rfl, fun _ => ?_, fun h => nomatch h⟩
      have q : R (.d (.str (leftS ss row))) (dskM K c_Desk m p l ss row pst) := q
      rw [hsame] at q
      exact .of (w_ret (ev_spLeft hd hs (by omega) rfl q))
    | drawn =>
      iterate 3
        refine wx_seq (wx_if (evt_test (ev_op (ev_var rfl (fun h => nomatch h) (ev_cS (o2_eqS ?_))))))
        refine ⟨_, rfl, fun h => absurd (h.symm.trans (strF (by decide +kernel))) (by decide), fun _ => wx_next ?_⟩
      refine wx_seq (wx_if (evt_test (ev_op (ev_var rfl (fun h => nomatch h) (ev_cS (o2_eqS ?_))))))
      refine ⟨_, rfl, fun _ => ?_, fun h => nomatch h⟩
      have q : R (.d (.str (spcS ((List.range ss.length).map fun k => ((row.count k : Nat) : Int))))) (dskM K c_Desk m p l ss row pst) := q
      rw [hsame] at q
      refine .of (w_ret (ev_call (eva_cons ?_)))
      refine ev_mapR1 (n := ss.length) ?_ (by omega) (fun k => .int ((row.count k : Nat) : Int)) (fun k m' hk2 hx => ?_) ?_
      · refine eva_cons (ev_callB (eva_cons (ev_fld TD.cl TD.ns (ev_var rfl (fun h => nomatch h) ⟨p, _, _, rfl, hd.ob, lk_shares, ?_⟩))))
        walk_at "go"
        exact ⟨rfl, rfl⟩
      · refine ev_cntF (ev_fld TD.cl TD.nr (ev_var rfl (fun h => nomatch h) ⟨p, _, _, rfl, (hd.less hx).ob, lk_row, _, rfl, ?_⟩))
        refine ev_var (x := .d (.int (k : Int))) rfl (fun h => nomatch h) ⟨_, rfl, ?_⟩
        exact ⟨by rw [count_kn], rfl⟩
      refine eva_nil ⟨(List.range ss.length).map fun k => ((row.count k : Nat) : Int), _, rfl, Or.inr (by rw [List.map_map]; rfl), by rw [List.length_map, List.length_range]; omega, fun z hz => ?_, q⟩
      obtain ⟨k, hk3, rfl⟩ := List.mem_map.mp hz
      have := List.count_le_length (a := k) (l := row)
      omega
    | mean =>
      iterate 4
        refine wx_seq (wx_if (evt_test (ev_op (ev_var rfl (fun h => nomatch h) (ev_cS (o2_eqS ?_))))))
        refine ⟨_, rfl, fun h => absurd (h.symm.trans (strF (by decide +kernel))) (by decide), fun _ => wx_next ?_⟩
      refine wx_seq (wx_if (evt_test (ev_op (ev_var rfl (fun h => nomatch h) (ev_cS (o2_eqS ?_))))))
      refine ⟨_, rfl, fun _ => ?_, fun h => nomatch h⟩
      have q : R (.d (.str (wrQ (timeT ss (leftL ss row))))) (dskM K c_Desk m p l ss row pst) := q
      rw [hsame] at q
      refine .of (w_retLs (w_ret (ev_call (eva_cons (ev_dget (ev_call (eva_cons ?_)))))))
      refine ev_fld TD.cl TD.ns (ev_var rfl (fun h => nomatch h) ⟨p, _, _, rfl, hd.ob, lk_shares, ?_⟩)
      refine eva_nil ⟨ss, rfl, hs, fun e he => ⟨e, rfl, ?_⟩⟩
      have hx1 := put_less he (o := .dT (tabT (timeT ss) (doneL (ordS ss.length) (ordS ss.length).length)))
      have hd1 := hd.less hx1
      refine ev_mt (ev_var rfl (fun h => nomatch h) ⟨p, _, rfl, hd1.ob, lk_no (by decide +kernel) (by decide +kernel) (by decide +kernel), eva_nil ⟨p, l, ss, row, pst, rfl, hd1, hs, by omega, Or.inl ?_⟩⟩)
      have hin : leftL ss row ∈ doneL (ordS ss.length) (ordS ss.length).length := by
        have h := (ordS_perm ss.length).mem_iff.mpr (kinds_allS hkk)
        unfold doneL
        rw [List.take_length]
        by_cases h0 : leftL ss row = []
        · rw [h0]; exact List.mem_cons_self
        · exact List.mem_cons_of_mem _ (List.mem_filter.mpr ⟨h, by unfold noNil; rw [decide_eq_false h0]; rfl⟩)
      have hfr := time_fr hs hkk
      exact ⟨_, _, _, rfl, Or.inl put_same, getV_tab hin, eva_nil ⟨_, rfl, hfr.mono (by decide), m, fun a o h => hx1 _ _ h, q⟩⟩
    | next =>
      iterate 5
        refine wx_seq (wx_if (evt_test (ev_op (ev_var rfl (fun h => nomatch h) (ev_cS (o2_eqS ?_))))))
        refine ⟨_, rfl, fun h => absurd (h.symm.trans (strF (by decide +kernel))) (by decide), fun _ => wx_next ?_⟩
      refine wx_seq (wx_if (evt_test (ev_op (ev_var rfl (fun h => nomatch h) (ev_cS (o2_eqS ?_))))))
      refine ⟨_, rfl, fun _ => ?_, fun h => nomatch h⟩
      have q : R (.d (.str (wrQ (mkRat (sumP ss (leftL ss row)) ss.sum.toNat)))) (dskM K c_Desk m p l ss row pst) := q
      rw [hsame] at q
      refine .of (w_ret (ev_call (eva_cons (ev_call (eva_cons (ev_call (eva_cons ?_)))))))
      refine ev_fld TD.cl TD.ns (ev_var rfl (fun h => nomatch h) ⟨p, _, _, rfl, hd.ob, lk_shares, ?_⟩)
      refine eva_cons (ev_mt (ev_var rfl (fun h => nomatch h) ⟨p, _, rfl, hd.ob, lk_no (by decide +kernel) (by decide +kernel) (by decide +kernel), eva_nil ⟨p, l, ss, row, pst, rfl, hd, hs, by omega, Or.inr ?_⟩⟩))
      have hkl := hkk.len
      refine eva_nil ⟨ss, leftL ss row, rfl, by omega, hkk.lt, ?_⟩
      refine eva_cons (ev_callB (eva_cons (ev_fld TD.cl TD.ns (ev_var rfl (fun h => nomatch h) ⟨p, _, _, rfl, hd.ob, lk_shares, ?_⟩))))
      refine eva_nil (on_sumI ?_)
      have e : ss.sum = ((ss.sum.toNat : Nat) : Int) := by omega
      have hpb : Bt ((ss.sum.toNat : Nat) : Int) 8 := bt_lit (n := 8) (by show _ < 256; omega) (by decide)
      have hle := sumP_le hs hkk
      have hnn := sumP_nonneg hs (leftL ss row)
      have htb : Bt (sumP ss (leftL ss row)) 8 := bt_lit (n := 8) (by show _ < 256; omega) (by decide)
      refine eva_nil ⟨_, _, by rw [e], by omega, by rw [← e] at hpb ⊢; exact hpb.mono (by decide), ?_⟩
      exact eva_nil ⟨_, rfl, (frB_mk htb hpb (by omega)).mono (by decide), q⟩
abbrev s_plan_for : Stmt := topS 36
theorem sc_plan_for : FnScope ["shares", "price"] ["shares", "price"] (defScope s_plan_for) := ⟨rfl, rfl, rfl, by decide +kernel, rfl, by decide +kernel, by decide +kernel⟩
theorem ok_plan_for {a : Addr} {fd : FuncData} (F : Fun K "plan_for" "plan_for" s_plan_for a fd) (hm : mg "plan_for" = some (.ref a)) (k_need_price : Cl P w K mg base 4 "need_price" f_needPrice) (k_plan_of : Cl P w K mg base 6 "plan_of" f_planOf) :
    Cl P w K mg base 7 "plan_for" f_planOf := by
  refine ⟨a, fd, ["shares", "price"], fn_ok F sc_plan_for (fun args m R h => ?_) (fun cdv A outer s H E hr => ⟨_, (pss_cons (ps_expr (pe_cl k_need_price hr (by decide) (by rfl) (pa_cons (pv 0) (pa_cons (pv 1) pa_nil))))
      (pss_one (ps_ret (pe_cl k_plan_of hr (by decide) (by rfl) (pa_cons (pv 0) (pa_cons (pv 1) pa_nil)))))), fun args m R h => ?_⟩), hm, F.kp, F.binds (ps := ["shares", "price"]) fun _ _ _ _ _ _ us hl => match us, hl with | [_, _], _ => rfl⟩
  ·
    obtain ⟨_, _, rfl, _⟩ := h; rfl
  ·
    obtain ⟨ss, c, rfl, hs, hc, q⟩ := h
    walk_at "go"
    refine ⟨hs, hc, ?_⟩
    walk_at "go"
    exact ⟨hs, hc, q⟩
abbrev s_Desk_bought : Stmt := inClass (topS 47) 6
theorem sc_Desk_bought : FnScope ["self", "price", "left"] ["self", "price"] (defScope s_Desk_bought) := ⟨rfl, rfl, rfl, by decide +kernel, rfl, by decide +kernel, by decide +kernel⟩
theorem ok_Desk_bought {a : Addr} {fd : FuncData} (F : Fun K "bought" "Desk.bought" s_Desk_bought a fd) (hm : Meth K c_Desk "bought" a) (TD : DeskC K c_Desk) (k_written : Cl P w K mg base 1 "written" f_written) (k_costs_of : Cl P w K mg base 5 "costs_of" f_costsOf) (k_plan_of : Cl P w K mg base 6 "plan_of" f_planOf) (k_Desk_kinds_left : Mt P w K mg base c_Desk 1 "kinds_left" (f_left K c_Desk)) :
    Mt P w K mg base c_Desk 7 "bought" (f_bought K c_Desk) := by
  refine ⟨a, fd, ["self", "price"], fn_ok F sc_Desk_bought (fun args m R h => ?_) (fun cdv A outer s H E hr => ⟨_, (pss_cons (ps_set (i := 2) sc_Desk_bought.nd rfl (by first | exact Or.inl rfl | exact Or.inr rfl) (pe_mt0 k_Desk_kinds_left TD.cl hr (by decide) (pv 0)))
      (pss_cons (ps_if (pt_cmpR (kEq K hr) (pv 2) (pe_tup pa_nil) (nomark _)) (pss_one (ps_ret pe_str)) pss_nil)
      (pss_one (ps_ret (pe_op (kAdd K) (pe_op (kAdd K) (pe_cl k_written hr (by decide) (by rfl) (pa_cons (pe_dget (hu_of hr) (pe_cl k_costs_of hr (by decide) (by rfl) (pa_cons (kFld K (pv 0)) (pa_cons (pv 1) pa_nil))) (pv 2) (fun _ _ => rfl)) pa_nil)) pe_str) (pe_dget (hu_of hr) (pe_cl k_plan_of hr (by decide) (by rfl) (pa_cons (kFld K (pv 0)) (pa_cons (pv 1) pa_nil))) (pv 2) (fun _ _ => rfl))))))), fun args m R h => ?_⟩), hm, F.binds (ps := ["self", "price"]) fun _ _ _ _ _ _ us hl => match us, hl with | [_, _], _ => rfl⟩
  ·
    obtain ⟨_, _, _, _, _, _, rfl, _⟩ := h; rfl
  ·
    obtain ⟨p, l, c, ss, row, pst, rfl, hd, hs, hr, hc, q⟩ := h
    have hfew := hs.few
    have h1 := hs.pos
    obtain ⟨o1, o2, o3, o4, o5, o6⟩ := rsX_facts ⟨ss.length, by omega⟩
    have o4 : (rsX ss.length).length ≤ 31 := o4
    have o6 : ∀ s ∈ rsX ss.length, s ∈ allS ss.length ∧ s ≠ [] := o6
    have hah : ∀ i s, (rsX ss.length)[i]? = some s → (∀ k ∈ s, wo s k ∈ [] :: (rsX ss.length).take i) ∧ s ∉ [] :: (rsX ss.length).take i := fun i s hi => rsX_ahead ⟨ss.length, by omega⟩ ⟨i, by have := (List.getElem?_eq_some_iff.mp hi).1; omega⟩ s hi
    have hk := leftL_kinds ss row
    refine w_seq (w_asg (ev_mt (ev_var rfl (fun h => nomatch h) ⟨p, _, rfl, hd.ob, lk_no (by decide +kernel) (by decide +kernel) (by decide +kernel), eva_nil ⟨p, l, ss, row, pst, rfl, hd, hs, hr, Or.inl ?_⟩⟩)))
    generalize hse : leftL ss row = s at *
    refine w_seq (w_if (evt_test (ev_op (ev_varT rfl (ev_tup (eva_nil ⟨[], rfl, by decide, ?_⟩))))))
    refine o2_eq (shaped_tupI _) (shaped_tupI []) ?_
    rw [eqv_nilT]
    by_cases h0 : s = []
    · refine ⟨_, rfl, br_t (decide_eq_true (by rw [h0]; rfl)) ?_⟩
      unfold costS at q
      rw [if_pos h0] at q
      exact w_ret (ev_cS q)
    · refine ⟨_, rfl, br_f (decide_eq_false fun e => h0 (List.map_eq_nil_iff.mp e)) (w_next ?_)⟩
      unfold costS at q
      rw [if_neg h0] at q
      refine w_retLs (w_ret ?_)
      refine ev_op (ev_op (ev_call (eva_cons (ev_dgetV (ns := kn s) rfl (ev_call ?_)))))
      refine eva_cons (ev_fld TD.cl TD.ns (ev_var rfl (fun h => nomatch h) ⟨p, _, _, rfl, hd.ob, lk_shares, ?_⟩))
      refine eva_cons (ev_var rfl (fun h => nomatch h) (eva_nil ⟨ss, c, rfl, hs, hc, fun e he => ?_⟩))
      have hin : s ∈ [] :: rsX ss.length := rs_all ⟨ss.length, by omega⟩ s (kinds_allS hk)
      have hin2 : s ∈ rsX ss.length := by
        rcases List.mem_cons.mp hin with h | h
        · exact absurd h h0
        · exact h
      refine ⟨e, _, _, rfl, Or.inl put_same, getV_tab hin, ?_⟩
      have hfr := (cost_PB hs hc).fr hs hk
      have hx1 := put_less he (o := .dT (tabT (costT ss c) ([] :: rsX ss.length)))
      have hd1 := hd.less hx1
      generalize put m e (.dT (tabT (costT ss c) ([] :: rsX ss.length))) = M at *
      refine eva_nil ⟨_, rfl, hfr.mono (by decide), ?_⟩
      have l1 := dg_bt (hfr.1.mono (show 1300 ≤ 1900 by decide))
      have l2 := dg_bt (hfr.2.mono (show 1300 ≤ 1900 by decide))
      have l3 : (("/" : Str)).length = 1 := by decide +kernel
      have l4 : ((" " : Str)).length = 1 := by decide +kernel
      have l5 : ∀ b, (told b).length ≤ 4 := by decide +kernel
      have lw : (wrQ (costT ss c s)).length ≤ 4000 := by
        unfold wrQ
        rw [PySem.Str.length_append, PySem.Str.length_append]
        omega
      refine ev_cS (o2_addS (by omega) ?_)
      refine ev_dgetV (ns := kn s) rfl (ev_call ?_)
      refine eva_cons (ev_fld TD.cl TD.ns (ev_var rfl (fun h => nomatch h) ⟨p, _, _, rfl, hd1.ob, lk_shares, ?_⟩))
      refine eva_cons (ev_var rfl (fun h => nomatch h) (eva_nil ⟨ss, c, rfl, hs, hc, fun e2 he2 => ?_⟩))
      refine ⟨e2, _, _, rfl, Or.inl put_same, getV_tabS (f := fun s => told (buyP ss c s)) hin2, ?_⟩
      refine o2_addS (by rw [PySem.Str.length_append]; have := l5 (buyP ss c s); omega) ?_
      exact ⟨m, fun a o h => put_less he2 _ _ (hx1 _ _ h), q⟩
abbrev s_Desk_numbered : Stmt := inClass (topS 47) 8
theorem sc_Desk_numbered : FnScope ["self", "word", "number"] ["self", "word", "number"] (defScope s_Desk_numbered) := ⟨rfl, rfl, rfl, by decide +kernel, rfl, by decide +kernel, by decide +kernel⟩
theorem ok_Desk_numbered {a : Addr} {fd : FuncData} (F : Fun K "numbered" "Desk.numbered" s_Desk_numbered a fd) (hm : Meth K c_Desk "numbered" a) (TD : DeskC K c_Desk) (z_len : mg "len" = none) (k_Desk_become : Mt P w K mg base c_Desk 2 "become" (f_become K c_Desk)) (k_Desk_bought : Mt P w K mg base c_Desk 7 "bought" (f_bought K c_Desk)) (q_Desk_come_by : MtX P w K mg base c_Desk 3 "come_by" (f_comeBy K c_Desk [c_NoShares, c_NoKind, c_NoNumber, (0 : Addr), (0 : Addr), (0 : Addr), c_NoLine, c_NoText])) (t_NoLine : RfT K mg "NoLine" c_NoLine) (t_NoKind : RfT K mg "NoKind" c_NoKind) :
    MtX P w K mg base c_Desk 8 "numbered" (f_numbered K c_Desk [c_NoShares, c_NoKind, c_NoNumber, (0 : Addr), (0 : Addr), (0 : Addr), c_NoLine, c_NoText]) := by
  refine ⟨a, fd, ["self", "word", "number"], fnX_ok F sc_Desk_numbered (fun args m R X h => ?_) (fun cdv A outer s H E hr => ⟨_, (pss_cons (ps_if (pt_cmp (pc_isN (pv 2))) (pss_one (ps_rf t_NoLine (L2N.takes_of rfl rfl rfl rfl) (by rfl))) pss_nil)
      (pss_cons (ps_if (pt_cmpR (kEq K hr) (pv 1) pe_str (nomark _)) (pss_cons (ps_if (pt_cmpR oGe (pv 2) (pe_callB (kLen K) (by rfl) z_len (by decide +kernel) (pa_cons (kFld K (pv 0)) pa_nil)) (nomark _)) (pss_one (ps_rf t_NoKind (L2N.takes_of rfl rfl rfl rfl) (by rfl))) pss_nil)
      (PSs.nox (pss_one (ps_ret (pe_mt k_Desk_become TD.cl hr (by decide) (pv 0) (pa_cons (kFld K (pv 0)) (pa_cons (pe_op (kAddF K) (kFld K (pv 0)) (pe_tupFz (pa_cons (pv 2) pa_nil))) pa_nil))))))) pss_nil)
      (pss_cons (ps_if (pt_cmpR (kEq K hr) (pv 1) pe_str (nomark _)) (pss_one (ps_ret (pe_mtX q_Desk_come_by TD.cl hr (by decide) (L2N.takes_of rfl rfl rfl rfl) (pv 0) (pa_cons (pv 2) pa_nil)))) pss_nil)
      (pss_cons (ps_if (pt_cmpR (kEq K hr) (pv 1) pe_str (nomark _)) (PSs.nox (pss_one (ps_ret (pe_mt k_Desk_bought TD.cl hr (by decide) (pv 0) (pa_cons (pv 2) pa_nil))))) pss_nil)
      (pss_one (ps_rf t_NoLine (L2N.takes_of rfl rfl rfl rfl) (by rfl))))))), fun args m R X h G0 hT => ?_⟩), hm, F.binds (ps := ["self", "word", "number"]) fun _ _ _ _ _ _ us hl => match us, hl with | [_, _, _], _ => rfl⟩
  ·
    obtain ⟨_, _, _, _, _, _, _, _, _, rfl, _⟩ := h; rfl
  ·
    obtain ⟨c, x, i, p, l, n, ss, row, pst, rfl, hw, hc, hd, hk, hn, q⟩ := h
    have hs := hk.sh
    have hfew := hs.few
    have hrl := hk.rl
    have hpl := hk.pl
    have hsame := hd.same
    refine wx_seq (wx_if (evt_test (ev_isN (ev_var rfl (fun h => nomatch h) ⟨_, rfl, ?_⟩))))
    refine ⟨_, rfl, (fun h => nomatch h), fun _ => wx_next ?_⟩
    cases c with
    | back => cases hw
    | told => cases hw
    | left => cases hw
    | drawn => cases hw
    | mean => cases hw
    | next => cases hw
    | shares s => cases hw
    | got d =>
      cases hw
      refine wx_seq (wx_if (evt_test (ev_op (ev_var rfl (fun h => nomatch h) (ev_cS (o2_eqS ?_))))))
      refine ⟨_, rfl, fun _ => ?_, fun h => nomatch h⟩
      refine wx_seq (wx_if (evt_test (ev_op (ev_var rfl (fun h => nomatch h) (ev_callB (eva_cons ?_))))))
      refine ev_fld TD.cl TD.ns (ev_var rfl (fun h => nomatch h) ⟨p, _, _, rfl, hd.ob, lk_shares, ?_⟩)
      refine eva_nil (on_lenI (o2_ge ?_))
      by_cases hge : ss.length ≤ i
      · refine ⟨_, rfl, fun _ => ?_, fun h => absurd (of_decide_eq_false h) (by omega)⟩
        simp only [DL.run, if_pos hge, SayOut] at q
        exact wx_raise (hT _) q
      · refine ⟨_, rfl, fun h => absurd (of_decide_eq_true h) (by omega), fun _ => wx_next (.of ?_)⟩
        simp only [DL.run, if_neg hge, SayOut] at q
        refine w_ret (ev_mt (ev_var rfl (fun h => nomatch h) ⟨p, _, rfl, hd.ob, lk_no (by decide +kernel) (by decide +kernel) (by decide +kernel), ?_⟩))
        refine eva_cons (ev_fld TD.cl TD.ns (ev_var rfl (fun h => nomatch h) ⟨p, _, _, rfl, hd.ob, lk_shares, ?_⟩))
        refine eva_cons (ev_op (ev_fld TD.cl TD.nr (ev_var rfl (fun h => nomatch h) ⟨p, _, _, rfl, hd.ob, lk_row, ?_⟩)))
        refine ev_tupFz (eva_cons (ev_var rfl (fun h => nomatch h) (eva_nil ⟨[(i : Int)], rfl, by show 1 ≤ 100000; decide, ?_⟩)))
        refine o2_addF (by unfold kn; rw [List.length_map]; show row.length + 1 ≤ 100000; omega) ?_
        refine eva_nil ⟨p, l, ss, ss, row, row ++ [i], pst, ?_, hd, hs, by rw [List.length_append, List.length_singleton]; omega, by omega, q⟩
        rw [show kn (row ++ [i]) = kn row ++ [(i : Int)] by unfold kn; rw [List.map_append]; rfl]
    | all d =>
      cases hw
      refine wx_seq (wx_if (evt_test (ev_op (ev_var rfl (fun h => nomatch h) (ev_cS (o2_eqS ?_))))))
      refine ⟨_, rfl, fun h => absurd (h.symm.trans (strF (by decide +kernel))) (by decide), fun _ => wx_next ?_⟩
      refine wx_seq (wx_if (evt_test (ev_op (ev_var rfl (fun h => nomatch h) (ev_cS (o2_eqS ?_))))))
      refine ⟨_, rfl, fun _ => ?_, fun h => nomatch h⟩
      refine wx_ret (evx_mt (hT _) (ev_var rfl (fun h => nomatch h) ⟨p, _, rfl, hd.ob, lk_no (by decide +kernel) (by decide +kernel) (by decide +kernel), ?_⟩))
      refine eva_cons (ev_var rfl (fun h => nomatch h) (eva_nil ⟨p, l, i, ss, row, pst, rfl, hd, hs, by omega, ?_⟩))
      by_cases h12 : 12 < i
      · simp only [DL.run, if_pos h12, SayOut] at q
        exact Or.inl ⟨h12, q⟩
      · simp only [DL.run, if_neg h12, SayOut, hsame] at q
        exact Or.inr ⟨by omega, q⟩
    | buy d =>
      cases hw
      refine wx_seq (wx_if (evt_test (ev_op (ev_var rfl (fun h => nomatch h) (ev_cS (o2_eqS ?_))))))
      refine ⟨_, rfl, fun h => absurd (h.symm.trans (strF (by decide +kernel))) (by decide), fun _ => wx_next ?_⟩
      refine wx_seq (wx_if (evt_test (ev_op (ev_var rfl (fun h => nomatch h) (ev_cS (o2_eqS ?_))))))
      refine ⟨_, rfl, fun h => absurd (h.symm.trans (strF (by decide +kernel))) (by decide), fun _ => wx_next ?_⟩
      refine wx_seq (wx_if (evt_test (ev_op (ev_var rfl (fun h => nomatch h) (ev_cS (o2_eqS ?_))))))
      refine ⟨_, rfl, fun _ => ?_, fun h => nomatch h⟩
      simp only [DL.run, SayOut, hsame] at q
      refine .of (w_ret (ev_mt (ev_var rfl (fun h => nomatch h) ⟨p, _, rfl, hd.ob, lk_no (by decide +kernel) (by decide +kernel) (by decide +kernel), ?_⟩)))
      exact eva_cons (ev_var rfl (fun h => nomatch h) (eva_nil ⟨p, l, i, ss, row, pst, rfl, hd, hs, by omega, hc, q⟩))
abbrev s_Desk_say : Stmt := inClass (topS 47) 9
theorem sc_Desk_say : FnScope ["self", "line", "words"] ["self", "line"] (defScope s_Desk_say) := ⟨rfl, rfl, rfl, by decide +kernel, rfl, by decide +kernel, by decide +kernel⟩
theorem ok_Desk_say {a : Addr} {fd : FuncData} (F : Fun K "say" "Desk.say" s_Desk_say a fd) (hm : Meth K c_Desk "say" a) (TD : DeskC K c_Desk) (z_isinstance : mg "isinstance" = none) (z_str : mg "str" = none) (z_len : mg "len" = none) (z_int : mg "int" = none) (k_figure_in : Cl P w K mg base 1 "figure_in" f_figure) (k_Desk_laid : Mt P w K mg base c_Desk 3 "laid" (f_laid K c_Desk)) (q_Desk_answer : MtX P w K mg base c_Desk 6 "answer" (f_answer K c_Desk [c_NoShares, c_NoKind, c_NoNumber, (0 : Addr), (0 : Addr), (0 : Addr), c_NoLine, c_NoText])) (q_Desk_numbered : MtX P w K mg base c_Desk 8 "numbered" (f_numbered K c_Desk [c_NoShares, c_NoKind, c_NoNumber, (0 : Addr), (0 : Addr), (0 : Addr), c_NoLine, c_NoText])) (t_NoLine : RfT K mg "NoLine" c_NoLine) :
    MtX P w K mg base c_Desk 9 "say" (f_say K c_Desk [c_NoShares, c_NoKind, c_NoNumber, (0 : Addr), (0 : Addr), (0 : Addr), c_NoLine, c_NoText]) := by
  refine ⟨a, fd, ["self", "line"], fnX_ok F sc_Desk_say (fun args m R X h => ?_) (fun cdv A outer s H E hr => ⟨_, (pss_cons (ps_if (pt_not (pt_val (pe_callB (kIsi K) (by rfl) z_isinstance (by decide +kernel) (pa_cons (pv 1) (pa_cons (pe_bltn (v := .ty "str") (by rfl) z_str (by decide +kernel) rfl) pa_nil))))) (pss_one (ps_rf t_NoLine (L2N.takes_of rfl rfl rfl rfl) (by rfl))) pss_nil)
      (pss_cons (ps_if (pt_cmpR (kEq K hr) (pe_slice sl_str (pv 1) po_none (po_some pe_int)) pe_str (nomark _)) (PSs.nox (pss_one (ps_ret (pe_mt k_Desk_laid TD.cl hr (by decide) (pv 0) (pa_cons (pe_slice sl_str (pv 1) (po_some pe_int) po_none) pa_nil))))) pss_nil)
      (pss_cons (ps_set (i := 2) sc_Desk_say.nd rfl (by first | exact Or.inl rfl | exact Or.inr rfl) (kSplit (pe_split (pv 1) pe_str)))
      (pss_cons (ps_if (pt_cmpR (kEq K hr) (pe_callB (kLen K) (by rfl) z_len (by decide +kernel) (pa_cons (pv 2) pa_nil)) pe_int (nomark _)) (pss_one (ps_ret (pe_mtX q_Desk_answer TD.cl hr (by decide) (L2N.takes_of rfl rfl rfl rfl) (pv 0) (pa_cons (pv 1) pa_nil)))) pss_nil)
      (pss_cons (ps_if (pt_cmpR (kNe K hr) (pe_callB (kLen K) (by rfl) z_len (by decide +kernel) (pa_cons (pv 2) pa_nil)) pe_int (nomark _)) (pss_one (ps_rf t_NoLine (L2N.takes_of rfl rfl rfl rfl) (by rfl))) pss_nil)
      (pss_one (ps_ret (pe_mtX q_Desk_numbered TD.cl hr (by decide) (L2N.takes_of rfl rfl rfl rfl) (pv 0) (pa_cons (pe_ix (kIx K) (pv 2) pe_int (fun _ _ => rfl)) (pa_cons (pe_cl k_figure_in hr (by decide) (by rfl) (pa_cons (pe_ix (kIx K) (pv 2) pe_int (fun _ _ => rfl)) (pa_cons (pe_op (kAdd K) pe_int (pe_callTy cInt (by rfl) z_int (by decide +kernel) (pa_cons (pe_cmpR (kNe K hr) (pe_ix (kIx K) (pv 2) pe_int (fun _ _ => rfl)) pe_str (nomark _)) pa_nil))) pa_nil))) pa_nil)))))))))), fun args m R X h G0 hT => ?_⟩), hm, F.binds (ps := ["self", "line"]) fun _ _ _ _ _ _ us hl => match us, hl with | [_, _], _ => rfl⟩
  ·
    obtain ⟨_, _, _, _, _, _, _, rfl, _⟩ := h; rfl
  ·
    obtain ⟨c, p, l, n, ss, row, pst, rfl, hc, hd, hk, hn, q⟩ := h
    have hs := hk.sh
    have hpl := hk.pl
    refine wx_seq (wx_if (evt_not (evt_B (ev_callB (eva_cons (ev_var rfl (fun h => nomatch h) (eva_cons (ev_cTy (eva_nil (on_isiStr ?_))))))))))
    refine ⟨_, rfl, (fun h => nomatch h), fun _ => wx_next ?_⟩
    have hln : c.text.length ≤ 2000 := text_len hc
    refine wx_seq (wx_if (evt_test (ev_op (ev_slS (ev_var rfl (fun h => nomatch h) ⟨_, rfl, by omega, evo_none (evo_some (ev_cI ⟨_, rfl, ?_⟩))⟩)))))
    refine ev_cS (o2_eqS ?_)
    rcases text_kind hc with ⟨ss', rfl⟩ | ⟨ha, h6, hsp⟩ | ⟨x, i, hw, h6, hsp, hfig⟩
    · obtain ⟨c1, c2⟩ := cut_shares (showS ss')
      refine ⟨_, rfl, fun _ => ?_, fun h => absurd ((decide_eq_true c1).symm.trans h) (by decide)⟩
      refine .of (w_ret (ev_mt (ev_var rfl (fun h => nomatch h) ⟨p, _, rfl, hd.ob, lk_no (by decide +kernel) (by decide +kernel) (by decide +kernel), ?_⟩)))
      refine eva_cons (ev_slS (ev_var rfl (fun h => nomatch h) ⟨_, rfl, by omega, evo_some (ev_cI ⟨_, rfl, evo_none ?_⟩)⟩))
      rw [show cutS (Cmd.shares ss').text (some 7) none = showS ss' from c2]
      exact eva_nil ⟨p, l, ss, ss', row, pst, rfl, hd, hc, by omega, q⟩
    · refine ⟨_, rfl, fun h => absurd (h.symm.trans (cut_short h6)) (by decide), fun _ => wx_next ?_⟩
      refine wx_seq (.of (w_asg (ev_split (ev_var rfl (fun h => nomatch h) ⟨_, rfl, ev_cS ⟨_, rfl, by decide +kernel, by omega, ?_⟩⟩))))
      rw [hsp]
      refine wx_seq (wx_if (evt_test (ev_op (ev_callB (eva_cons (ev_var rfl (fun h => nomatch h) (eva_nil (on_lenL (ev_cI (o2_eqI ?_))))))))))
      refine ⟨_, rfl, fun _ => ?_, fun h => nomatch h⟩
      refine wx_ret (evx_mt (hT _) (ev_var rfl (fun h => nomatch h) ⟨p, _, rfl, hd.ob, lk_no (by decide +kernel) (by decide +kernel) (by decide +kernel), ?_⟩))
      exact eva_cons (ev_var rfl (fun h => nomatch h) (eva_nil ⟨c, p, l, n, ss, row, pst, rfl, ha, hd, hk, hn, q⟩))
    · refine ⟨_, rfl, fun h => absurd (h.symm.trans (cut_short h6)) (by decide), fun _ => wx_next ?_⟩
      refine wx_seq (.of (w_asg (ev_split (ev_var rfl (fun h => nomatch h) ⟨_, rfl, ev_cS ⟨_, rfl, by decide +kernel, by omega, ?_⟩⟩))))
      rw [hsp]
      refine wx_seq (wx_if (evt_test (ev_op (ev_callB (eva_cons (ev_var rfl (fun h => nomatch h) (eva_nil (on_lenL (ev_cI (o2_eqI ?_))))))))))
      refine ⟨_, rfl, (fun h => nomatch h), fun _ => wx_next ?_⟩
      refine wx_seq (wx_if (evt_test (ev_op (ev_callB (eva_cons (ev_var rfl (fun h => nomatch h) (eva_nil (on_lenL (ev_cI (o2_neI ?_))))))))))
      refine ⟨_, rfl, (fun h => nomatch h), fun _ => wx_next ?_⟩
      refine wx_ret (evx_mt (hT _) (ev_var rfl (fun h => nomatch h) ⟨p, _, rfl, hd.ob, lk_no (by decide +kernel) (by decide +kernel) (by decide +kernel), ?_⟩))
      refine eva_cons (ev_op (ev_var rfl (fun h => nomatch h) (ev_cI (o2_ixL (d := .str x) rfl ?_))))
      refine eva_cons (ev_call ?_)
      refine eva_cons (ev_op (ev_var rfl (fun h => nomatch h) (ev_cI (o2_ixL (d := .str (dg (i : Int))) rfl ?_))))
      refine eva_cons (ev_op (ev_cI (ev_callB (eva_cons (ev_op (ev_op (ev_var rfl (fun h => nomatch h) (ev_cI (o2_ixL (d := .str x) rfl (ev_cS (o2_neS ?_)))))))))))
      refine eva_nil (on_intB (o2_addI ?_))
      refine eva_nil ⟨dg (i : Int), if x = "got" then 1 else 2, i, ?_, rfl, ?_, ?_⟩
      · by_cases hx : x = "got"
        · simp [hx]
        · simp [hx]
      · by_cases hx : x = "got"
        · rw [if_pos hx]; exact Or.inl ⟨rfl, hfig.1 hx⟩
        · rw [if_neg hx]; exact Or.inr ⟨rfl, hfig.2⟩
      exact eva_nil ⟨c, x, i, p, l, n, ss, row, pst, rfl, hw, hc, hd, hk, hn, q⟩
abbrev s__law_all : Stmt := topS 52
theorem sc__law_all : FnScope ["_law_desk", "_law_line"] ["_law_desk"] (defScope s__law_all) := ⟨rfl, rfl, rfl, by decide +kernel, rfl, by decide +kernel, by decide +kernel⟩
theorem ok__law_all {a : Addr} {fd : FuncData} (F : Fun K "_law_all" "_law_all" s__law_all a fd) (hm : mg "_law_all" = some (.ref a)) (TD : DeskC K c_Desk) (k_Desk_say : Mt P w K mg base c_Desk 9 "say" (f_sayD K c_Desk)) :
    Cl P w K mg base 10 "_law_all" (f_lawAll K c_Desk) := by
  refine ⟨a, fd, ["_law_desk"], fn_ok F sc__law_all (fun args m R h => ?_) (fun cdv A outer s H E hr => ⟨_, (pss_one (ps_ret (pe_lc (own := [("_law_line", 1)]) rfl sc__law_all.nd (kiL K (pe_lst (pa_cons pe_str (pa_cons pe_str (pa_cons pe_str (pa_cons pe_str (pa_cons pe_str (pa_cons pe_str (pa_cons pe_str pa_nil))))))))) (blkOk_by (own := [("_law_line", 1)]) (N := ["_law_desk", "_law_line"]) (sc := defScope s__law_all) (by decide +kernel)) (fun _ _ _ _ _ => (pg_name (i := 1) sc__law_all.nd rfl (by first | exact Or.inl rfl | exact Or.inr rfl))) (fun _ _ _ _ _ => pts_nil) (fun _ _ _ _ _ => (pe_mt k_Desk_say TD.cl hr (by decide) (pv 0) (pa_cons (pv 1) pa_nil)))))), fun args m R h => ?_⟩), hm, F.kp, F.binds (ps := ["_law_desk"]) fun _ _ _ _ _ _ us hl => match us, hl with | [_], _ => rfl⟩
  ·
    obtain ⟨_, _, _, _, _, _, rfl, _⟩ := h; rfl
  ·
    obtain ⟨p, l, n, ss, row, pst, rfl, hd, hk, hn, q⟩ := h
    have e4 : (Cmd.all 4).text = "all 4" := by decide +kernel
    have e3 : (Cmd.buy 3).text = "buy 3" := by decide +kernel
    refine w_ret (ev_mapLf (xs := asks) (f := fun c => PyData.str c.text) ?_ (by decide) (fun c => PyData.str (ansS ss row c)) ?_ ?_)
    · refine ev_lstD ?_
      walk_at "go"
      refine ⟨asks.map fun c => PyData.str c.text, ?_, by show 7 ≤ 100000; decide, rfl, rfl⟩
      show _ = [Val.d (.str "told"), .d (.str "left"), .d (.str "drawn"), .d (.str "mean"), .d (.str "next"), .d (.str (Cmd.all 4).text), .d (.str (Cmd.buy 3).text)]
      rw [e4, e3]
    · intro c mx hc hx
      obtain ⟨o1, o2, _⟩ := ask_run hc ss row pst
      refine ev_mt (ev_var rfl (fun h => nomatch h) ⟨p, _, rfl, (hd.less hx).ob, lk_no (by decide +kernel) (by decide +kernel) (by decide +kernel), eva_cons (ev_var rfl (fun h => nomatch h) (eva_nil ?_))⟩)
      refine ⟨c, p, l, n, ss, row, pst, _, _, _, _, rfl, o1, hd.less hx, hk, hn, o2, rfl, ?_⟩
      exact (hd.less hx).same
    unfold aoD aoS at q
    rw [List.map_map] at q
    exact q
abbrev s__law_deed : Stmt := topS 53
theorem sc__law_deed : FnScope ["_law_box_here", "_law_desk", "_law_shares_here", "_law_new", "_law_one"] ["_law_box_here", "_law_desk"] (defScope s__law_deed) := ⟨rfl, rfl, rfl, by decide +kernel, rfl, by decide +kernel, by decide +kernel⟩
theorem ok__law_deed {a : Addr} {fd : FuncData} (F : Fun K "_law_deed" "_law_deed" s__law_deed a fd) (hm : mg "_law_deed" = some (.ref a)) (TD : DeskC K c_Desk) (z_str : mg "str" = none) (z_len : mg "len" = none) (k_read : Cl P w K mg base 1 "read" f_read) (k__law_take : Cl P w K mg base 1 "_law_take" f_take) (k__law_shares : Cl P w K mg base 2 "_law_shares" f_shares2) (k_Desk_say : Mt P w K mg base c_Desk 9 "say" (f_sayD K c_Desk)) :
    Cl P w K mg base 10 "_law_deed" (f_lawDeed K c_Desk) := by
  refine ⟨a, fd, ["_law_box_here", "_law_desk"], fn_ok F sc__law_deed (fun args m R h => ?_) (fun cdv A outer s H E hr => ⟨_, (pss_cons (ps_set (i := 2) sc__law_deed.nd rfl (by first | exact Or.inl rfl | exact Or.inr rfl) (pe_cl k_read hr (by decide) (by rfl) (pa_cons (pe_mt k_Desk_say TD.cl hr (by decide) (pv 1) (pa_cons pe_str pa_nil)) pa_nil)))
      (pss_one (ps_if (pt_cmpR (kEq K hr) (pe_cl k__law_take hr (by decide) (by rfl) (pa_cons (pv 0) (pa_cons pe_int pa_nil))) pe_int (nomark _)) (pss_cons (ps_set (i := 3) sc__law_deed.nd rfl (by first | exact Or.inl rfl | exact Or.inr rfl) (pe_cl k__law_shares hr (by decide) (by rfl) (pa_cons (pv 0) (pa_cons pe_int pa_nil))))
      (pss_one (ps_expr (pe_mt k_Desk_say TD.cl hr (by decide) (pv 1) (pa_cons (pe_op (kAdd K) pe_str (kJoin K (pe_join pe_str (pe_lc (own := [("_law_one", 4)]) rfl sc__law_deed.nd (kiT K (pv 3)) (blkOk_by (own := [("_law_one", 4)]) (N := ["_law_box_here", "_law_desk", "_law_shares_here", "_law_new", "_law_one"]) (sc := defScope s__law_deed) (by decide +kernel)) (fun _ _ _ _ _ => (pg_name (i := 4) sc__law_deed.nd rfl (by first | exact Or.inl rfl | exact Or.inr rfl))) (fun _ _ _ _ _ => pts_nil) (fun _ _ _ _ _ => (pe_callTy cStr (by rfl) z_str (by decide +kernel) (pa_cons (pv 4) pa_nil))))))) pa_nil))))) (pss_one (ps_expr (pe_mt k_Desk_say TD.cl hr (by decide) (pv 1) (pa_cons (pe_op (kAdd K) pe_str (pe_callTy cStr (by rfl) z_str (by decide +kernel) (pa_cons (pe_cl k__law_take hr (by decide) (by rfl) (pa_cons (pv 0) (pa_cons (pe_callB (kLen K) (by rfl) z_len (by decide +kernel) (pa_cons (pv 2) pa_nil)) pa_nil))) pa_nil))) pa_nil))))))), fun args m R h => ?_⟩), hm, F.kp, F.binds (ps := ["_law_box_here", "_law_desk"]) fun _ _ _ _ _ _ us hl => match us, hl with | [_, _], _ => rfl⟩
  ·
    obtain ⟨_, _, _, _, _, _, _, rfl, _⟩ := h; rfl
  ·
    obtain ⟨b, p, l, n, ss, row, pst, rfl, hb, hd, hk, hn, q⟩ := h
    have hs := hk.sh
    refine w_seq (w_asg (ev_call (eva_cons (ev_sayS (c := .told) (t := showS ss) hd hk (by omega) trivial rfl (ev_var rfl (fun h => nomatch h) ⟨rfl, rfl⟩) (ev_cS ⟨rfl, rfl⟩) (eva_nil ⟨ss, rfl, hs, ?_⟩)))))
    walk_at "go"
    refine ⟨hb, by decide, bt_lit (n := 3) (by decide) (by decide), fun z hz0 hz1 => ?_⟩
    walk_at "go"
    by_cases hz : z = 0
    · refine br_t (decide_eq_true hz) ?_
      walk_at "go"
      refine ⟨hb, by decide, by decide, fun ss' hs' hl => ?_⟩
      have hf := hs'.few
      refine w_drop (ev_say (c := .shares ss') hd hk (by omega) hs' rfl (ev_var rfl (fun h => nomatch h) ⟨rfl, rfl⟩) ?_ ?_)
      · refine ev_op (ev_cS (ev_join (a := " ") (ys := ss'.map dg) (ev_cS ⟨rfl, ?_⟩)))
        refine ev_mapTf (xs := ss') (f := PyData.int) ?_ (by omega) (fun s => .str (dg s)) (fun s m2 hs1 hx => ?_) ?_
        · walk_at "go"
          exact ⟨rfl, rfl⟩
        · have h9 := hs'.each s hs1
          walk_at "go"
          refine on_str (a := 8) (bt_lit (n := 8) (by show _ < 256; omega) (by decide)) (by decide) (by decide) ⟨rfl, rfl⟩
        · refine ⟨by rw [List.map_map]; rfl, ?_, ?_⟩
          · rw [dg_lens hs'.each, List.length_map]
            have e : (Str.ofString " ").length = 1 := by decide +kernel
            rw [e]
            omega
          · refine o2_addS (by have := show_len hs'; rw [show ((Str.ofString "shares ")).length = 7 by decide +kernel]; show 7 + (showS ss').length ≤ _; omega) ?_
            exact ⟨rfl, rfl⟩
      exact q ss' [] (run_ok (c := .shares ss') hs' hk rfl)
    · refine br_f (decide_eq_false hz) ?_
      have hfew := hs.few
      have hpos := hs.pos
      refine w_drop (ev_sayG hd hk (by omega) (ev_var rfl (fun h => nomatch h) ⟨rfl, rfl⟩) ?_)
      walk_at "go"
      refine ⟨hb, by omega, bt_lit (n := 3) (by show _ < 8; omega) (by decide), fun d0 h0 h1 => ?_⟩
      obtain ⟨d, rfl⟩ : ∃ d : Nat, d0 = (d : Int) := ⟨d0.toNat, by omega⟩
      walk_at "go"
      refine on_str (a := 5) (bt_lit (n := 5) (by show _ < 32; omega) (by decide)) (by decide) (by decide) ?_
      refine o2_addS (by rw [← PySem.Str.length_append]; exact Nat.le_trans (got_cut ⟨d, by omega⟩).2 (by decide)) ?_
      refine ⟨.got d, _, _, _, _, rfl, rfl, by show d ≤ 9; omega, run_got (by omega), ?_⟩
      exact q ss (row ++ [d]) (run_ok (c := .got d) (by show d ≤ 9; omega) hk (run_got (by omega)))
abbrev s__law_right : Stmt := topS 54
theorem sc__law_right : FnScope ["_law_desk", "_law_shares_here", "_law_rest", "_law_top", "_law_bottom", "_law_price", "_law_word", "_law_kind", "_law_line"] ["_law_desk"] (defScope s__law_right) := ⟨rfl, rfl, rfl, by decide +kernel, rfl, by decide +kernel, by decide +kernel⟩
theorem ok__law_right {a : Addr} {fd : FuncData} (F : Fun K "_law_right" "_law_right" s__law_right a fd) (hm : mg "_law_right" = some (.ref a)) (TD : DeskC K c_Desk) (z_tuple : mg "tuple" = none) (z_int : mg "int" = none) (z_str : mg "str" = none) (k_read : Cl P w K mg base 1 "read" f_read) (k_time_paper : Cl P w K mg base 6 "time_paper" f_paperT) (k_cost_paper : Cl P w K mg base 6 "cost_paper" f_costsOf) (k_plan_for : Cl P w K mg base 7 "plan_for" f_planOf) (k_Desk_say : Mt P w K mg base c_Desk 9 "say" (f_sayD K c_Desk)) :
    Cl P w K mg base 10 "_law_right" (f_deskRight K c_Desk) := by
  refine ⟨a, fd, ["_law_desk"], fn_ok F sc__law_right (fun args m R h => ?_) (fun cdv A outer s H E hr => ⟨_, (pss_cons (ps_set (i := 1) sc__law_right.nd rfl (by first | exact Or.inl rfl | exact Or.inr rfl) (pe_cl k_read hr (by decide) (by rfl) (pa_cons (pe_mt k_Desk_say TD.cl hr (by decide) (pv 0) (pa_cons pe_str pa_nil)) pa_nil)))
      (pss_cons (ps_set (i := 2) sc__law_right.nd rfl (by first | exact Or.inl rfl | exact Or.inr rfl) (pe_tup pa_nil))
      (pss_cons (ps_if (pt_cmpR (kNe K hr) (pe_mt k_Desk_say TD.cl hr (by decide) (pv 0) (pa_cons pe_str pa_nil)) pe_str (nomark _)) (pss_one (ps_set (i := 2) sc__law_right.nd rfl (by first | exact Or.inl rfl | exact Or.inr rfl) (pe_callTy (kTup K) (by rfl) z_tuple (by decide +kernel) (pa_cons (pe_lc (own := [("_law_word", 6)]) rfl sc__law_right.nd (kiL K (kSplit (pe_split (pe_mt k_Desk_say TD.cl hr (by decide) (pv 0) (pa_cons pe_str pa_nil)) pe_str))) (blkOk_by (own := [("_law_word", 6)]) (N := ["_law_desk", "_law_shares_here", "_law_rest", "_law_top", "_law_bottom", "_law_price", "_law_word", "_law_kind", "_law_line"]) (sc := defScope s__law_right) (by decide +kernel)) (fun _ _ _ _ _ => (pg_name (i := 6) sc__law_right.nd rfl (by first | exact Or.inl rfl | exact Or.inr rfl))) (fun _ _ _ _ _ => pts_nil) (fun _ _ _ _ _ => (pe_callTy cInt (by rfl) z_int (by decide +kernel) (pa_cons (pv 6) pa_nil)))) pa_nil)))) pss_nil)
      (pss_cons (ps_asg (pe_dget (hu_of hr) (pe_cl k_time_paper hr (by decide) (by rfl) (pa_cons (pv 1) pa_nil)) (pv 2) (fun _ _ => rfl)) (kgT K (pg_tup (n := 2) rfl (pgs_cons (pg_name (i := 3) sc__law_right.nd rfl (by first | exact Or.inl rfl | exact Or.inr rfl)) (pgs_cons (pg_name (i := 4) sc__law_right.nd rfl (by first | exact Or.inl rfl | exact Or.inr rfl)) pgs_nil)))))
      (pss_cons (ps_if (pt_cmpR (kNe K hr) (pe_mt k_Desk_say TD.cl hr (by decide) (pv 0) (pa_cons pe_str pa_nil)) (pe_op (kAdd K) (pe_op (kAdd K) (pe_callTy cStr (by rfl) z_str (by decide +kernel) (pa_cons (pv 3) pa_nil)) pe_str) (pe_callTy cStr (by rfl) z_str (by decide +kernel) (pa_cons (pv 4) pa_nil))) (nomark _)) (pss_one (ps_ret pe_bl)) pss_nil)
      (pss_cons (ps_for PassesOwn.never rfl (kiT K (pe_tup (pa_cons pe_int (pa_cons pe_int (pa_cons pe_int pa_nil))))) (pg_name (i := 5) sc__law_right.nd rfl (by first | exact Or.inl rfl | exact Or.inr rfl)) (pss_cons (ps_asg (pe_dget (hu_of hr) (pe_cl k_cost_paper hr (by decide) (by rfl) (pa_cons (pv 1) (pa_cons (pv 5) pa_nil))) (pv 2) (fun _ _ => rfl)) (kgT K (pg_tup (n := 2) rfl (pgs_cons (pg_name (i := 3) sc__law_right.nd rfl (by first | exact Or.inl rfl | exact Or.inr rfl)) (pgs_cons (pg_name (i := 4) sc__law_right.nd rfl (by first | exact Or.inl rfl | exact Or.inr rfl)) pgs_nil)))))
      (pss_cons (ps_set (i := 6) sc__law_right.nd rfl (by first | exact Or.inl rfl | exact Or.inr rfl) (pe_dget2 (hu_of hr) (pe_cl k_plan_for hr (by decide) (by rfl) (pa_cons (pv 1) (pa_cons (pv 5) pa_nil))) (pv 2) pe_str ⟨rfl, rfl, rfl, rfl⟩))
      (pss_one (ps_if (pt_cmpR (kNe K hr) (pe_mt k_Desk_say TD.cl hr (by decide) (pv 0) (pa_cons (pe_op (kAdd K) pe_str (pe_callTy cStr (by rfl) z_str (by decide +kernel) (pa_cons (pv 5) pa_nil))) pa_nil)) (pe_op (kAdd K) (pe_op (kAdd K) (pe_op (kAdd K) (pe_op (kAdd K) (pe_callTy cStr (by rfl) z_str (by decide +kernel) (pa_cons (pv 3) pa_nil)) pe_str) (pe_callTy cStr (by rfl) z_str (by decide +kernel) (pa_cons (pv 4) pa_nil))) pe_str) (pv 6)) (nomark _)) (pss_one (ps_ret pe_bl)) pss_nil)))))
      (pss_cons (ps_for PassesOwn.never rfl (kiT K (pv 2)) (pg_name (i := 7) sc__law_right.nd rfl (by first | exact Or.inl rfl | exact Or.inr rfl)) (pss_one (ps_expr (pe_mt k_Desk_say TD.cl hr (by decide) (pv 0) (pa_cons (pe_op (kAdd K) pe_str (pe_callTy cStr (by rfl) z_str (by decide +kernel) (pa_cons (pv 7) pa_nil))) pa_nil)))))
      (pss_cons (ps_if (pt_cmpR (kNe K hr) (pe_lc (own := [("_law_line", 8)]) rfl sc__law_right.nd (kiL K (pe_lst (pa_cons pe_str (pa_cons pe_str (pa_cons pe_str (pa_cons pe_str pa_nil)))))) (blkOk_by (own := [("_law_line", 8)]) (N := ["_law_desk", "_law_shares_here", "_law_rest", "_law_top", "_law_bottom", "_law_price", "_law_word", "_law_kind", "_law_line"]) (sc := defScope s__law_right) (by decide +kernel)) (fun _ _ _ _ _ => (pg_name (i := 8) sc__law_right.nd rfl (by first | exact Or.inl rfl | exact Or.inr rfl))) (fun _ _ _ _ _ => pts_nil) (fun _ _ _ _ _ => (pe_mt k_Desk_say TD.cl hr (by decide) (pv 0) (pa_cons (pv 8) pa_nil)))) (pe_lst (pa_cons pe_str (pa_cons pe_str (pa_cons pe_str (pa_cons pe_str pa_nil))))) (nomark _)) (pss_one (ps_ret pe_bl)) pss_nil)
      (pss_cons (ps_for PassesOwn.never rfl (kiT K (pv 2)) (pg_name (i := 7) sc__law_right.nd rfl (by first | exact Or.inl rfl | exact Or.inr rfl)) (pss_one (ps_expr (pe_mt k_Desk_say TD.cl hr (by decide) (pv 0) (pa_cons pe_str pa_nil)))))
      (pss_one (ps_ret pe_bl))))))))))), fun args m R h => ?_⟩), hm, F.kp, F.binds (ps := ["_law_desk"]) fun _ _ _ _ _ _ us hl => match us, hl with | [_], _ => rfl⟩
  ·
    obtain ⟨_, _, _, _, _, _, rfl, _⟩ := h; rfl
  ·
    obtain ⟨p, l, n, ss, row, pst, rfl, hd, hk, hn, q⟩ := h
    have hs := hk.sh
    have hfew := hs.few
    have hkk := leftL_kinds ss row
    have hin := rest_in hs row
    refine w_seq (w_asg (ev_call (eva_cons (ev_sayS (c := .told) (t := showS ss) hd hk (by omega) trivial rfl (ev_var rfl (fun h => nomatch h) ⟨rfl, rfl⟩) (ev_cS ⟨rfl, rfl⟩) (eva_nil ⟨ss, rfl, hs, ?_⟩)))))
    refine w_seq (w_asg (ev_tupT (eva_nil ⟨[], rfl, by decide, ?_⟩)))
    obtain ⟨b1, b2⟩ := leftL_bd ss row hs
    refine w_seq (Wp.imp (N := fun r4 m4 => m4 = m ∧ ∃ y6, r4 = [.v (.ref p), .d (tupI ss), .t (kn (leftL ss row)), .any, .any, .any, y6, .any, .any]) (E := fun _ _ => False) ?_ ?_ (fun _ _ h => h.elim))
    · refine w_if (evt_test (ev_op (ev_sayS (c := .left) (t := leftS ss row) hd hk (by omega) trivial rfl (ev_var rfl (fun h => nomatch h) ⟨rfl, rfl⟩) (ev_cS ⟨rfl, rfl⟩) (ev_cS (o2_neS ?_)))))
      by_cases h0 : leftL ss row = []
      · have e : leftS ss row = "none" := by unfold leftS; rw [h0]; decide +kernel
        refine ⟨_, rfl, br_f (by rw [e]; simp) (w_next ⟨rfl, .any, ?_⟩)⟩
        rw [h0]
        rfl
      · have h1 : kn (leftL ss row) ≠ [] := fun e => h0 (List.map_eq_nil_iff.mp e)
        have hb : ∀ z ∈ kn (leftL ss row), 0 ≤ z ∧ z < 100 := fun z hz => by
          obtain ⟨k, hk2, rfl⟩ := List.mem_map.mp hz
          have := hkk.lt k hk2
          omega
        obtain ⟨j1, j2, j3⟩ := spc_join_ne h1 hb
        refine ⟨_, rfl, br_t (by unfold leftS; simp [j3]) ?_⟩
        refine w_asg (ev_callB (eva_cons ?_))
        refine ev_mapLf (xs := kn (leftL ss row)) (f := fun z => PyData.str (dg z)) ?_ (by omega) PyData.int ?_ ?_
        · refine ev_split (ev_sayS (c := .left) (t := leftS ss row) hd hk (by omega) trivial rfl (ev_var rfl (fun h => nomatch h) ⟨rfl, rfl⟩) (ev_cS ⟨rfl, rfl⟩) ⟨_, rfl, ev_cS ⟨_, rfl, by decide +kernel, ?_, ?_, rfl⟩⟩)
          · show (spcS (kn (leftL ss row))).length ≤ 100000
            rw [j1]
            exact spc_len b2 b1
          · show Val.d (.list ((Txt.split (spcS (kn (leftL ss row))) " ").map PyData.str)) = _
            rw [j2, List.map_map]
            rfl
        · intro z m7 hz hx
          walk_at "go"
          have h9 := dg100 (hb z hz)
          refine on_intS h9.2 (by have := h9.1; omega) ⟨rfl, rfl⟩
        refine eva_nil (on_tupLt ?_)
        exact ⟨rfl, .any, rfl⟩
    rintro r4 m4 ⟨rfl, y6, rfl⟩
    have hfr := time_fr hs hkk
    refine w_seq (w_asg2 (ev_dgetV (ns := kn (leftL ss row)) rfl (ev_call (eva_cons (ev_var rfl (fun h => nomatch h) (eva_nil ⟨ss, rfl, hs, fun e he => ?_⟩))))))
    refine ⟨e, _, _, rfl, Or.inl put_same, getV_tab (by rw [done_rs4]; exact hin), ?_⟩
    refine ⟨_, _, rfl, w_less (put_less he) ?_⟩
    have l1 := dg_bt (hfr.1.mono (show 1300 ≤ 1900 by decide))
    have l2 := dg_bt (hfr.2.mono (show 1300 ≤ 1900 by decide))
    have l3 : (("/" : Str)).length = 1 := by decide +kernel
    simp only [dg] at l1 l2
    refine w_seq (w_if (evt_test (ev_op (ev_sayS (c := .mean) (t := wrQ (timeT ss (leftL ss row))) hd hk (by omega) trivial rfl (ev_var rfl (fun h => nomatch h) ⟨rfl, rfl⟩) (ev_cS ⟨rfl, rfl⟩) ?_))))
    walk_at "go"
    refine on_str (hfr.1.mono (show 1300 ≤ 1900 by decide)) (by decide) (by decide) ?_
    refine ev_cS (o2_addS (by omega) ?_)
    walk_at "go"
    refine on_str (hfr.2.mono (show 1300 ≤ 1900 by decide)) (by decide) (by decide) ?_
    refine o2_addS (by rw [PySem.Str.length_append]; omega) (o2_neS ?_)
    refine ⟨_, rfl, br_f (by show (!decide (wrQ (timeT ss (leftL ss row)) = wrQ (timeT ss (leftL ss row)))) = false; simp) (w_next ?_)⟩
    refine w_seq (w_forTf (xs := [0, 2, 40]) (f := fun c : Nat => PyData.int (c : Int)) ?_ (fun i r' m' => m' = m4 ∧ ∃ y3 y4 y5 y6, r' = [.v (.ref p), .d (tupI ss), .t (kn (leftL ss row)), y3, y4, y5, y6, .any, .any]) ⟨rfl, _, _, _, _, rfl⟩ ?_ ?_)
    · refine ev_tup (eva_cons (ev_cI (eva_cons (ev_cI (eva_cons (ev_cI (eva_nil ⟨_, rfl, by show 3 ≤ 100000; decide, rfl, rfl⟩)))))))
    · rintro i c r' m' hi ⟨rfl, y3, y4, y5, y6, rfl⟩
      have hc : c ≤ 99 := by
        have := List.mem_of_getElem? hi
        simp only [List.mem_cons, List.not_mem_nil, or_false] at this
        omega
      have hfc := (cost_PB hs hc).fr hs hkk
      have m1 := dg_bt (hfc.1.mono (show 1300 ≤ 1900 by decide))
      have m2 := dg_bt (hfc.2.mono (show 1300 ≤ 1900 by decide))
      simp only [dg] at m1 m2
      have l4 : ((" " : Str)).length = 1 := by decide +kernel
      have l5 := tel5 (leftL ss row) (buyP ss c (leftL ss row))
      refine w_seq (w_asg2 (ev_dgetV (ns := kn (leftL ss row)) rfl (ev_call (eva_cons (ev_var rfl (fun h => nomatch h) (eva_cons (ev_var rfl (fun h => nomatch h) (eva_nil ⟨ss, c, rfl, hs, hc, fun e he => ?_⟩))))))))
      refine ⟨e, _, _, rfl, Or.inl put_same, getV_tab hin, ?_⟩
      refine ⟨_, _, rfl, w_less (put_less he) ?_⟩
      refine w_seq (w_asg (ev_dget2V (ns := kn (leftL ss row)) rfl (ev_call (eva_cons (ev_var rfl (fun h => nomatch h) (eva_cons (ev_var rfl (fun h => nomatch h) (eva_nil ⟨ss, c, rfl, hs, hc, fun e2 he2 => ?_⟩))))))))
      refine ⟨e2, _, rfl, Or.inl put_same, ev_cS ⟨_, Or.inl put_same, ?_⟩⟩
      rw [plan_get hs row c]
      refine w_less (put_less he2) ?_
      refine w_if (evt_test (ev_op (ev_sayS (c := .buy c) (t := costS ss (leftL ss row) c) hd hk (by omega) hc rfl (ev_var rfl (fun h => nomatch h) ⟨rfl, rfl⟩) ?_ ?_)))
      · walk_at "go"
        refine on_str (a := 7) (bt_lit (n := 7) (by show _ < 128; omega) (by decide)) (by decide) (by decide) ?_
        refine o2_addS (by rw [← PySem.Str.length_append]; exact Nat.le_trans (buy_cut ⟨c, by omega⟩).2 (by decide)) ?_
        exact ⟨rfl, rfl⟩
      walk_at "go"
      refine on_str (hfc.1.mono (show 1300 ≤ 1900 by decide)) (by decide) (by decide) ?_
      refine ev_cS (o2_addS (by omega) ?_)
      walk_at "go"
      refine on_str (hfc.2.mono (show 1300 ≤ 1900 by decide)) (by decide) (by decide) ?_
      refine o2_addS (by rw [PySem.Str.length_append]; omega) ?_
      refine ev_cS (o2_addS (by rw [PySem.Str.length_append, PySem.Str.length_append]; omega) ?_)
      refine ev_var rfl (fun h => nomatch h) (o2_addS (by rw [PySem.Str.length_append, PySem.Str.length_append, PySem.Str.length_append]; omega) (o2_neS ?_))
      refine ⟨_, rfl, br_f (by rw [← cost_word]; show (!decide (wrQ (costT ss c (leftL ss row)) ++ _ ++ _ = wrQ (costT ss c (leftL ss row)) ++ _ ++ _)) = false; simp) (w_next ?_)⟩
      exact ⟨rfl, _, _, _, _, rfl⟩
    rintro r' m' ⟨rfl, y3, y4, y5, y7, rfl⟩
    have hkl := hkk.len
    have hne := hd.ne
    have h00 : dskM K c_Desk m' p l ss (row ++ (leftL ss row).take 0) (pst ++ chn ss row (leftL ss row) 0) = m' := by
      rw [List.take_zero, List.append_nil, show chn ss row (leftL ss row) 0 = [] from rfl, List.append_nil]
      exact hd.same
    refine w_seq (w_forTf (xs := leftL ss row) (f := fun k : Nat => PyData.int (k : Int)) ?_ (fun i r1 m1 => m1 = dskM K c_Desk m' p l ss (row ++ (leftL ss row).take i) (pst ++ chn ss row (leftL ss row) i) ∧ ∃ z7, r1 = [.v (.ref p), .d (tupI ss), .t (kn (leftL ss row)), y3, y4, y5, y7, z7, .any]) ⟨h00.symm, _, rfl⟩ ?_ ?_)
    · refine ev_varT rfl ⟨?_, rfl⟩
      unfold tupI kn
      rw [List.map_map]
      rfl
    · rintro i k r1 m1 hi ⟨rfl, z7, rfl⟩
      have hkm := List.mem_of_getElem? hi
      have hklt := hkk.lt k hkm
      have hil := (List.getElem?_eq_some_iff.mp hi).1
      refine w_drop (ev_say (c := .got k) (DeskIn.to hne) (chn_ok hk i) (by omega) (by show k ≤ 9; omega) (run_got hklt) (ev_var rfl (fun h => nomatch h) ⟨rfl, rfl⟩) ?_ ?_)
      · walk_at "go"
        refine on_str (a := 5) (bt_lit (n := 5) (by show _ < 32; omega) (by decide)) (by decide) (by decide) ?_
        refine o2_addS (by rw [← PySem.Str.length_append]; exact Nat.le_trans (got_cut ⟨k, by omega⟩).2 (by decide)) ?_
        exact ⟨rfl, rfl⟩
      · refine ⟨?_, _, rfl⟩
        rw [dskM_two hne, take_one hi, chn_succ, List.append_assoc, List.append_assoc]
    rintro r1 m1 ⟨rfl, z7, rfl⟩
    have hla : leftL ss (row ++ (leftL ss row).take (leftL ss row).length) = [] := by rw [List.take_length]; exact left_all ss row
    have hdE : DeskIn K c_Desk (dskM K c_Desk m' p l ss (row ++ (leftL ss row).take (leftL ss row).length) (pst ++ chn ss row (leftL ss row) (leftL ss row).length)) p l ss (row ++ (leftL ss row).take (leftL ss row).length) (pst ++ chn ss row (leftL ss row) (leftL ss row).length) := DeskIn.to hne
    have hkE := chn_ok (lft := leftL ss row) hk (leftL ss row).length
    refine w_seq (w_if (evt_test (ev_op ?_)))
    refine ev_mapLf (xs := ends) (f := fun e => PyData.str e.1.text) ?_ (by decide) (fun e => PyData.str e.2) ?_ ?_
    · refine ev_lstD (eva_cons (ev_cS (eva_cons (ev_cS (eva_cons (ev_cS (eva_cons (ev_cS (eva_nil ⟨ends.map fun e : Cmd × Str => PyData.str e.1.text, congrArg (List.map Val.d) ends_text, by show 4 ≤ 100000; decide, rfl, rfl⟩)))))))))
    · intro e mx he hx
      obtain ⟨e1, e2⟩ := ends_run hla (pst ++ chn ss row (leftL ss row) (leftL ss row).length) e he
      exact ev_sayS (c := e.1) (hdE.less hx) hkE (by omega) e1 e2 (ev_var rfl (fun h => nomatch h) ⟨rfl, rfl⟩) (ev_var rfl (fun h => nomatch h) ⟨rfl, rfl⟩) ⟨rfl, rfl⟩
    refine ev_lstD (eva_cons (ev_cS (eva_cons (ev_cS (eva_cons (ev_cS (eva_cons (ev_cS (eva_nil ⟨ends.map fun e : Cmd × Str => PyData.str e.2, rfl, by show 4 ≤ 100000; decide, ?_⟩)))))))))
    refine o2_neSame ?_ ⟨_, rfl, br_f rfl (w_next ?_)⟩
    · have h := shaped_strs ends_tx
      rw [List.map_map] at h
      exact h
    refine w_seq (w_forTf (xs := leftL ss row) (f := fun k : Nat => PyData.int (k : Int)) ?_ (fun i r1 m1 => m1 = dskM K c_Desk m' p l ss (row ++ (leftL ss row).take ((leftL ss row).length - i)) (pst ++ chn ss row (leftL ss row) ((leftL ss row).length - i)) ∧ ∃ z7, r1 = [.v (.ref p), .d (tupI ss), .t (kn (leftL ss row)), y3, y4, y5, y7, z7, .any]) ⟨rfl, _, rfl⟩ ?_ ?_)
    · refine ev_varT rfl ⟨?_, rfl⟩
      unfold tupI kn
      rw [List.map_map]
      rfl
    · rintro i k r1 m1 hi ⟨rfl, z8, rfl⟩
      have hil := (List.getElem?_eq_some_iff.mp hi).1
      obtain ⟨g, hg⟩ : ∃ g, (leftL ss row).length - i = g + 1 := ⟨(leftL ss row).length - i - 1, by omega⟩
      have hg2 : (leftL ss row).length - (i + 1) = g := by omega
      rw [hg, hg2]
      have hdg : DeskIn K c_Desk (dskM K c_Desk m' p l ss (row ++ (leftL ss row).take (g + 1)) ((pst ++ chn ss row (leftL ss row) g) ++ [(ss, row ++ (leftL ss row).take g)])) p l ss (row ++ (leftL ss row).take (g + 1)) ((pst ++ chn ss row (leftL ss row) g) ++ [(ss, row ++ (leftL ss row).take g)]) := DeskIn.to hne
      have hkg := chn_ok (lft := leftL ss row) hk (g + 1)
      rw [chn_succ, ← List.append_assoc] at hkg ⊢
      refine w_drop (ev_say (c := .back) hdg hkg (by omega) trivial run_back (ev_var rfl (fun h => nomatch h) ⟨rfl, rfl⟩) (ev_cS ⟨rfl, rfl⟩) ?_)
      refine ⟨?_, _, rfl⟩
      rw [dskM_two hne]
    rintro r2 m2 ⟨rfl, z8, rfl⟩
    rw [Nat.sub_self, h00]
    exact w_ret (ev_cB q)
abbrev s_law : Stmt := topS 55
theorem sc_law : FnScope ["_law_script", "_law_k", "_law_box_here", "_law_desks", "_law_many", "_law_lap", "_law_which", "_law_seen", "_law_other", "_law_kind", "_law_often"] ["_law_script"] (defScope s_law) := ⟨rfl, rfl, rfl, by decide +kernel, rfl, by decide +kernel, by decide +kernel⟩
theorem ok_law {a : Addr} {fd : FuncData} (F : Fun K "law" "law" s_law a fd) (TD : DeskC K c_Desk) (mk_Desk : Mk0 P w K mg base c_Desk 1 "Desk" (f_dinit K c_Desk)) (z_range : mg "range" = none) (z_max : mg "max" = none) (z_min : mg "min" = none) (z_len : mg "len" = none) (z_enumerate : mg "enumerate" = none) (z_int : mg "int" = none) (z_str : mg "str" = none) (k__law_box : Cl P w K mg base 1 "_law_box" f_box2) (k__law_take : Cl P w K mg base 1 "_law_take" f_take) (k__law_all : Cl P w K mg base 10 "_law_all" (f_lawAll K c_Desk)) (k__law_deed : Cl P w K mg base 10 "_law_deed" (f_lawDeed K c_Desk)) (k__law_right : Cl P w K mg base 10 "_law_right" (f_deskRight K c_Desk)) (k_Desk_say : Mt P w K mg base c_Desk 9 "say" (f_sayD K c_Desk)) :
    FnG P w K mg base 11 a fd ["_law_script"] (spD K f_law) := by
  refine fnG_ok F sc_law (fun args m R h => ?_) (fun cdv A outer s H E hg hr => ⟨_, (pss_cons (ps_for PassesOwn.never rfl (pi_range1 (by rfl) z_range (pa_cons (pe_callB (cMax rfl) (by rfl) z_max (by decide +kernel) (pa_cons pe_int (pa_cons (pe_callB (cMin rfl) (by rfl) z_min (by decide +kernel) (pa_cons (pe_callB (kLen K) (by rfl) z_len (by decide +kernel) (pa_cons (pv 0) pa_nil)) (pa_cons pe_int pa_nil))) pa_nil))) pa_nil)) (pg_name (i := 1) sc_law.nd rfl (by first | exact Or.inl rfl | exact Or.inr rfl)) (pss_cons (ps_set (i := 2) sc_law.nd rfl (by first | exact Or.inl rfl | exact Or.inr rfl) (pe_cl k__law_box hr (by decide) (by rfl) (pa_cons (pv 0) (pa_cons (pv 1) pa_nil))))
      (pss_cons (ps_set (i := 3) sc_law.nd rfl (by first | exact Or.inl rfl | exact Or.inr rfl) (pe_lst (pa_cons (pe_mk0 mk_Desk hr (by decide) (by rfl)) (pa_cons (pe_mk0 mk_Desk hr (by decide) (by rfl)) pa_nil))))
      (pss_cons (ps_set (i := 4) sc_law.nd rfl (by first | exact Or.inl rfl | exact Or.inr rfl) (pe_op (kAdd K) pe_int (pe_cl k__law_take hr (by decide) (by rfl) (pa_cons (pv 2) (pa_cons pe_int pa_nil)))))
      (pss_cons (ps_for PassesOwn.never rfl (pi_range1 (by rfl) z_range (pa_cons (pe_op (kMul K) pe_int (pv 4)) pa_nil)) (pg_name (i := 5) sc_law.nd rfl (by first | exact Or.inl rfl | exact Or.inr rfl)) (pss_cons (ps_set (i := 6) sc_law.nd rfl (by first | exact Or.inl rfl | exact Or.inr rfl) (pe_op oMod (pv 5) pe_int))
      (pss_cons (ps_set (i := 7) sc_law.nd rfl (by first | exact Or.inl rfl | exact Or.inr rfl) (pe_cl k__law_all hr (by decide) (by rfl) (pa_cons (pe_ix (kIx K) (pv 3) (pe_op oSub pe_int (pv 6)) (fun _ _ => rfl)) pa_nil)))
      (pss_cons (ps_expr (pe_cl k__law_deed hr (by decide) (by rfl) (pa_cons (pv 2) (pa_cons (pe_ix (kIx K) (pv 3) (pv 6) (fun _ _ => rfl)) pa_nil))))
      (pss_one (ps_if (pt_cmpR (kNe K hr) (pe_cl k__law_all hr (by decide) (by rfl) (pa_cons (pe_ix (kIx K) (pv 3) (pe_op oSub pe_int (pv 6)) (fun _ _ => rfl)) pa_nil)) (pv 7) (nomark _)) (pss_one (ps_ret pe_bl)) pss_nil))))))
      (pss_one (ps_for PassesOwn.never rfl (pi_range1 (by rfl) z_range (pa_cons pe_int pa_nil)) (pg_name (i := 6) sc_law.nd rfl (by first | exact Or.inl rfl | exact Or.inr rfl)) (pss_cons (ps_set (i := 7) sc_law.nd rfl (by first | exact Or.inl rfl | exact Or.inr rfl) (pe_cl k__law_all hr (by decide) (by rfl) (pa_cons (pe_ix (kIx K) (pv 3) (pv 6) (fun _ _ => rfl)) pa_nil)))
      (pss_cons (ps_set (i := 8) sc_law.nd rfl (by first | exact Or.inl rfl | exact Or.inr rfl) (pe_mk0 mk_Desk hr (by decide) (by rfl)))
      (pss_cons (ps_expr (pe_mt k_Desk_say TD.cl hr (by decide) (pv 8) (pa_cons (pe_op (kAdd K) pe_str (pe_ix (kIx K) (pv 7) pe_int (fun _ _ => rfl))) pa_nil)))
      (pss_cons (ps_for PassesOwn.never rfl (kiE K (pi_enum (by rfl) z_enumerate (pa_cons (kSplit (pe_split (pe_ix (kIx K) (pv 7) pe_int (fun _ _ => rfl)) pe_str)) pa_nil))) (kgT K (pg_tup (n := 2) rfl (pgs_cons (pg_name (i := 9) sc_law.nd rfl (by first | exact Or.inl rfl | exact Or.inr rfl)) (pgs_cons (pg_name (i := 10) sc_law.nd rfl (by first | exact Or.inl rfl | exact Or.inr rfl)) pgs_nil)))) (pss_one (ps_for PassesOwn.never rfl (pi_range1 (by rfl) z_range (pa_cons (pe_callTy cInt (by rfl) z_int (by decide +kernel) (pa_cons (pv 10) pa_nil)) pa_nil)) (pg_name (i := 5) sc_law.nd rfl (by first | exact Or.inl rfl | exact Or.inr rfl)) (pss_one (ps_expr (pe_mt k_Desk_say TD.cl hr (by decide) (pv 8) (pa_cons (pe_op (kAdd K) pe_str (pe_callTy cStr (by rfl) z_str (by decide +kernel) (pa_cons (pv 9) pa_nil))) pa_nil)))))))
      (pss_cons (ps_if (PW.pt (pw_or (pt_cmpR (kNe K hr) (pe_cl k__law_all hr (by decide) (by rfl) (pa_cons (pv 8) pa_nil)) (pv 7) (nomark _)) (pw_or (pt_not (pt_val (pe_cl k__law_right hr (by decide) (by rfl) (pa_cons (pe_ix (kIx K) (pv 3) (pv 6) (fun _ _ => rfl)) pa_nil)))) (pw_or1 (pt_cmpR (kNe K hr) (pe_cl k__law_all hr (by decide) (by rfl) (pa_cons (pe_ix (kIx K) (pv 3) (pv 6) (fun _ _ => rfl)) pa_nil)) (pv 7) (nomark _)))))) (pss_one (ps_ret pe_bl)) pss_nil)
      (pss_cons (ps_for PassesOwn.never rfl (pi_range1 (by rfl) z_range (pa_cons (pv 4) pa_nil)) (pg_name (i := 5) sc_law.nd rfl (by first | exact Or.inl rfl | exact Or.inr rfl)) (pss_one (ps_expr (pe_mt k_Desk_say TD.cl hr (by decide) (pe_ix (kIx K) (pv 3) (pv 6) (fun _ _ => rfl)) (pa_cons pe_str pa_nil)))))
      (pss_one (ps_if (pt_cmpR (kNe K hr) (pe_cl k__law_all hr (by decide) (by rfl) (pa_cons (pe_ix (kIx K) (pv 3) (pv 6) (fun _ _ => rfl)) pa_nil)) (pe_cl k__law_all hr (by decide) (by rfl) (pa_cons (pe_mk0 mk_Desk hr (by decide) (by rfl)) pa_nil)) (nomark _)) (pss_one (ps_ret pe_bl)) pss_nil)))))))))))))))
      (pss_one (ps_ret pe_bl))), fun args m R h => ?_⟩)
  ·
    obtain ⟨_, rfl, _⟩ := h; rfl
  ·
    obtain ⟨ns, rfl, q⟩ := h
    walk_at "go"
    obtain ⟨n, hn, hn6⟩ : ∃ n : Nat, max (1 : Int) (min (ns.length : Int) 2) = (n : Int) ∧ n ≤ 2 := ⟨(max (1 : Int) (min (ns.length : Int) 2)).toNat, by omega, by omega⟩
    
    refine w_forR1 (n := n) ?_ (by omega) (fun i r' m' => ∃ y1 y2 y3 y4 y5 y6 y7 y8 y9 y10, r' = [.scr ns, y1, y2, y3, y4, y5, y6, y7, y8, y9, y10]) ⟨_, _, _, _, _, _, _, _, _, _, rfl⟩ ?_ ?_
    · walk_at "go"
      exact ⟨by rw [hn], rfl⟩
    · rintro i r' m' hi ⟨y1, y2, y3, y4, y5, y6, y7, y8, y9, y10, rfl⟩
      walk_at "go"
      refine ⟨by omega, ?_⟩
      intro b hb
      have hpb := put_same (m := m') (a := b) (o := .box)
      generalize put m' b .box = M at *
      refine w_seq (w_asg (ev_lstV (eva_cons (ev_make0 fun pA hpA => ⟨pA, rfl, put_same, fun lA hlA => ⟨rfl, ?_⟩⟩))))
      obtain ⟨hlA, hA1, hA2, hA3⟩ := fresh_desk hpA hlA
      have hbx1 := hA3 _ _ hpb
      have n1 := ne_of_get hpb hpA
      have n2 := ne_of_get hpb hlA
      generalize dskM K c_Desk (put M pA (insM K c_Desk [])) pA lA [1] [] [] = M1 at *
      refine eva_cons (ev_make0 fun pB hpB => ⟨pB, rfl, put_same, fun lB hlB => ⟨rfl, eva_nil ⟨by show 2 ≤ 100000; decide, ?_⟩⟩⟩)
      obtain ⟨hlB, hB1, hB2, hB3⟩ := fresh_desk hpB hlB
      have hbx2 := hB3 _ _ hbx1
      have hA4 := hA2.less hB3
      have n3 := ne_of_get hbx1 hpB
      have n4 := ne_of_get hbx1 hlB
      have n5 := ne_of_get hA2.ob hpB
      have n6 := ne_of_get hA2.ob hlB
      have n7 := ne_of_get hA2.ls hpB
      have n8 := ne_of_get hA2.ls hlB
      generalize dskM K c_Desk (put M1 pB (insM K c_Desk [])) pB lB [1] [] [] = M2 at *
      obtain ⟨p, rfl, rfl⟩ : ∃ p : Nat → Addr, pA = p 0 ∧ pB = p 1 := ⟨fun i => if i = 0 then pA else pB, rfl, rfl⟩
      obtain ⟨l, rfl, rfl⟩ : ∃ l : Nat → Addr, lA = l 0 ∧ lB = l 1 := ⟨fun i => if i = 0 then lA else lB, rfl, rfl⟩
      have two : ∀ {P : Nat → Prop}, P 0 → P 1 → ∀ i, i < 2 → P i := fun h0 h1 i hi => by
        have hi : i = 0 ∨ i = 1 := by omega
        rcases hi with rfl | rfl
        · exact h0
        · exact h1
      have hap : Apart b p l := ⟨n5, n6, n7, n8, two n1 n3, two n2 n4⟩
      have hix : ∀ i, i < 2 → [Val.v (.ref (p 0)), Val.v (.ref (p 1))][i]? = some (Val.v (.ref (p i))) := two rfl rfl
      have hI0 : ∀ i, i < 2 → DkOk K c_Desk M2 (p i) (l i) 0 ((0 + 1 - i) / 2) [1] [] [] := two ⟨hA4, ok_new, rfl, rfl⟩ ⟨hB2, ok_new, rfl, rfl⟩
      clear hA4 hB2 hA2 hB3 hA3 hbx1 hpb
      walk_at "go"
      refine ⟨hbx2, by decide, bt_lit (n := 3) (by decide) (by decide), fun z h0 h1 => ?_⟩
      obtain ⟨mn, rfl⟩ : ∃ mn : Nat, z = (mn : Int) := ⟨z.toNat, by omega⟩
      walk_at "go"
      refine w_forR1I ?_
      walk_at "go"
      refine o2_mulI (cmul_small (by decide) (by omega)) ?_
      refine eva_nil ⟨2 * (3 + mn), fun j r3 m3 => (∃ z5 z6 z7 z8 z9 z10, r3 = [.scr ns, .d (.int (i : Int)), .v (.ref b), vL K [.v (.ref (p 0)), .v (.ref (p 1))], .d (.int (3 + (mn : Int))), z5, z6, z7, z8, z9, z10]) ∧ m3 b = some .box ∧ ∃ (s : Nat → List Int) (w : Nat → List Nat) (t : Nat → List (List Int × List Nat)), ∀ i, i < 2 → DkOk K c_Desk m3 (p i) (l i) j ((j + 1 - i) / 2) (s i) (w i) (t i), congrArg (fun z => [Val.d (PyData.int z)]) (by omega), by omega, ⟨⟨_, _, _, _, _, _, rfl⟩, hbx2, fun _ => [1], fun _ => [], fun _ => [], hI0⟩, ?_, ?_⟩
      · rintro j r3 m3 hj ⟨⟨z5, z6, z7, z8, z9, z10, rfl⟩, hb3, s, w, t, hI⟩
        obtain ⟨z, hz, hz2⟩ : ∃ z : Nat, z < 2 ∧ j % 2 = z := ⟨j % 2, by omega, rfl⟩
        have hzi : (j : Int) % 2 = (z : Int) := by omega
        obtain ⟨u, hu, hu2⟩ : ∃ u : Nat, u < 2 ∧ u = 1 - z := ⟨1 - z, by omega, rfl⟩
        have hui : (1 : Int) - (z : Int) = (u : Int) := by omega
        have huz : u ≠ z := by omega
        walk_at "go"
        refine o2_mod (by decide) ?_
        rw [hzi]
        walk_at "go"
        rw [hui]
        refine o2_ixV (hix u hu) ?_
        walk_at "go"
        refine ⟨p u, l u, j, s u, w u, t u, rfl, (hI u hu).d, (hI u hu).k, by omega, ?_⟩
        walk_at "go"
        refine o2_ixV (hix z hz) ?_
        walk_at "go"
        refine ⟨b, p z, l z, j, s z, w z, t z, rfl, hb3, (hI z hz).d, (hI z hz).k, by omega, fun s2 w2 hk2 => ?_⟩
        obtain ⟨a1, a2, a3, a4⟩ := hap.two hu hz huz
        have hdu := (hI u hu).d.keep (ss' := s2) (row' := w2) (pst' := t z ++ [(s z, w z)]) a1 a2 a3 a4
        have hdz : DeskIn K c_Desk (dskM K c_Desk m3 (p z) (l z) s2 w2 (t z ++ [(s z, w z)])) (p z) (l z) s2 w2 (t z ++ [(s z, w z)]) := DeskIn.to (hI z hz).d.ne
        have hb4 : dskM K c_Desk m3 (p z) (l z) s2 w2 (t z ++ [(s z, w z)]) b = some .box := by rw [dskM_ne (hap.bp z hz) (hap.bl z hz)]; exact hb3
        generalize dskM K c_Desk m3 (p z) (l z) s2 w2 (t z ++ [(s z, w z)]) = m4 at *
        walk_at "go"
        rw [hui]
        refine o2_ixV (hix u hu) ?_
        walk_at "go"
        refine ⟨p u, l u, j, s u, w u, t u, rfl, hdu, (hI u hu).k, by omega, ?_⟩
        walk_at "go"
        refine o2_neSame (shaped_all _ _) ?_
        refine ⟨_, rfl, br_f rfl (w_next ?_)⟩
        refine ⟨⟨_, _, _, _, _, _, rfl⟩, hb4, fun i => if i = z then s2 else s i, fun i => if i = z then w2 else w i, fun i => if i = z then t z ++ [(s z, w z)] else t i, fun i hi2 => ?_⟩
        by_cases hiz : i = z
        · subst hiz
          simp only [↓reduceIte]
          refine ⟨hdz, hk2, ?_, (hI i hz).hd.push⟩
          rw [List.length_append, List.length_singleton, (hI i hz).len]
          omega
        · have hiu : i = u := by omega
          subst hiu
          simp only [if_neg hiz]
          exact ⟨hdu, (hI i hu).k.mono (Nat.le_succ _), by rw [(hI i hu).len]; omega, (hI i hu).hd⟩
      rintro r3 m3 ⟨⟨z5, z6, z7, z8, z9, z10, rfl⟩, hb3, s, w, t, hI⟩
      refine w_forR1 (n := 2) ?_ (by decide) (fun k r4 m4 => (∃ z5 z6 z7 z8 z9 z10, r4 = [.scr ns, .d (.int (i : Int)), .v (.ref b), vL K [.v (.ref (p 0)), .v (.ref (p 1))], .d (.int (3 + (mn : Int))), z5, z6, z7, z8, z9, z10]) ∧ m4 b = some .box ∧ ∃ (s : Nat → List Int) (w : Nat → List Nat) (t : Nat → List (List Int × List Nat)), ∀ i, i < 2 → DeskIn K c_Desk m4 (p i) (l i) (s i) (w i) (t i) ∧ (k ≤ i → DkOk K c_Desk m4 (p i) (l i) 20 (3 + mn) (s i) (w i) (t i))) ⟨⟨_, _, _, _, _, _, rfl⟩, hb3, s, w, t, fun i hi2 => ⟨(hI i hi2).d, fun _ => ⟨(hI i hi2).d, (hI i hi2).k.mono (by omega), by rw [(hI i hi2).len]; omega, (hI i hi2).hd⟩⟩⟩ ?_ ?_
      · walk_at "go"
        exact ⟨rfl, rfl⟩
      · clear hI hb3 s w t z5 z6 z7 z8 z9 z10 m3 hI0 hbx2
        rintro k r4 m4 hk ⟨⟨z5, z6, z7, z8, z9, z10, rfl⟩, hb4, s, w, t, hI⟩
        have hJ := (hI k hk).2 (Nat.le_refl k)
        have hJs := hJ.k.sh
        have hJl := hJ.k.rl
        have hf5 := hJs.few
        have hf1 := hJs.pos
        walk_at "go"
        refine o2_ixV (hix k hk) ?_
        walk_at "go"
        refine ⟨p k, l k, 20, s k, w k, t k, rfl, hJ.d, hJ.k, by decide, ?_⟩
        refine w_seq (w_asg (ev_make0 fun p3 hp3 => ⟨p3, rfl, put_same, fun l3 hl3 => ⟨rfl, ?_⟩⟩))
        obtain ⟨hl4, hpl3, hd3, hx3⟩ := fresh_desk hp3 hl3
        generalize dskM K c_Desk (put m4 p3 (insM K c_Desk [])) p3 l3 [1] [] [] = m5 at *
        refine w_seq (w_drop (ev_say (c := .shares (s k)) hd3 ok_new (by decide) hJs rfl (ev_var rfl (fun h => nomatch h) ⟨rfl, rfl⟩) ?_ ?_))
        · refine ev_op (ev_cS (ev_op (ev_var rfl (fun h => nomatch h) (ev_cI (o2_ixL (d := .str (showS (s k))) rfl (o2_addS ?_ ⟨rfl, rfl⟩))))))
          have h9 := show_len hJs
          rw [show ((Str.ofString "shares ")).length = 7 by decide +kernel]
          omega
        have hx6 := ext_dsk (C := c_Desk) (K := K) (ss := s k) (row := []) (pst := [] ++ [([1], [])]) hx3 hp3 hl4
        have hd6 : DeskIn K c_Desk (dskM K c_Desk m5 p3 l3 (s k) [] ([] ++ [([1], [])])) p3 l3 (s k) [] ([] ++ [([1], [])]) := DeskIn.to hpl3
        have hk6 : DsOk 1 (s k) [] ([] ++ [([1], [])]) := run_ok (c := .shares (s k)) hJs ok_new rfl
        generalize dskM K c_Desk m5 p3 l3 (s k) [] ([] ++ [([1], [])]) = m6 at *
        have hcn : ∀ z ∈ (List.range (s k).length).map (fun j => (((w k).count j : Nat) : Int)), 0 ≤ z ∧ z < 100 := fun z hz => by
          obtain ⟨j, _, rfl⟩ := List.mem_map.mp hz
          have h1 := List.count_le_length (a := j) (l := w k)
          omega
        have hcne : (List.range (s k).length).map (fun j => (((w k).count j : Nat) : Int)) ≠ [] := fun e => by
          have h1 := congrArg List.length e
          rw [List.length_map, List.length_range, List.length_nil] at h1
          omega
        obtain ⟨j1, j2, j3⟩ := spc_join_ne hcne hcn
        refine w_seq (w_forE (xs := (List.range (s k).length).map (fun j => (((w k).count j : Nat) : Int))) (f := fun z : Int => .str (dg z)) ?_ (fun i2 r7 m7 => (∃ z5 z9 z10, r7 = [.scr ns, .d (.int (i : Int)), .v (.ref b), vL K [.v (.ref (p 0)), .v (.ref (p 1))], .d (.int (3 + (mn : Int))), z5, .d (.int (k : Int)), .d (aoD (s k) (w k)), .v (.ref p3), z9, z10]) ∧ Ext m4 m7 ∧ ∃ (row3 : List Nat) (pst3 : List (List Int × List Nat)), DeskIn K c_Desk m7 p3 l3 (s k) row3 pst3 ∧ DsOk (1 + row3.length) (s k) row3 pst3 ∧ row3.length ≤ 20 * i2 ∧ ∀ j, row3.count j = if j < i2 then (w k).count j else 0) ⟨⟨_, _, _, rfl⟩, hx6, [], _, hd6, hk6, Nat.le_refl _, fun j => by simp⟩ ?_ ?_)
        · refine eva_cons (ev_split (ev_op (ev_var rfl (fun h => nomatch h) (ev_cI (o2_ixL (d := .str (spcS ((List.range (s k).length).map (fun j => (((w k).count j : Nat) : Int))))) rfl ⟨_, rfl, ev_cS ⟨_, rfl, by decide +kernel, ?_, eva_nil ⟨?_, rfl⟩⟩⟩)))))
          · rw [j1]
            exact spc_len (fun z hz => by have := hcn z hz; omega) (by rw [List.length_map, List.length_range]; omega)
          · rw [show (" " : Str) = Str.ofString " " from rfl] at j2
            rw [j2, List.map_map]
            rfl
        · rintro i2 x r7 m7 hi2 ⟨⟨z5, z9, z10, rfl⟩, hx7, row3, pst3, hd7, hk7, hl7, hc7⟩
          rw [List.getElem?_map] at hi2
          obtain ⟨i3, hi3, rfl⟩ := Option.map_eq_some_iff.mp hi2
          have hil := (List.getElem?_eq_some_iff.mp hi3).1
          rw [List.length_range] at hil
          have hii : i3 = i2 := by rw [List.getElem?_range hil] at hi3; injection hi3 with h; exact h.symm
          subst hii
          have hcl := List.count_le_length (a := i3) (l := w k)
          have hb9 := dg100 (i := (((w k).count i3 : Nat) : Int)) (by omega)
          refine w_forR1I ?_
          refine eva_cons (ev_callB (eva_cons (ev_var rfl (fun h => nomatch h) (eva_nil (on_intS hb9.2 (by have := hb9.1; omega) (eva_nil ?_))))))
          refine ⟨(w k).count i3, fun a r8 m8 => (∃ z5, r8 = [.scr ns, .d (.int (i : Int)), .v (.ref b), vL K [.v (.ref (p 0)), .v (.ref (p 1))], .d (.int (3 + (mn : Int))), z5, .d (.int (k : Int)), .d (aoD (s k) (w k)), .v (.ref p3), .d (.int (i3 : Int)), .d (.str (dg (((w k).count i3 : Nat) : Int)))]) ∧ Ext m4 m8 ∧ ∃ (row3 : List Nat) (pst3 : List (List Int × List Nat)), DeskIn K c_Desk m8 p3 l3 (s k) row3 pst3 ∧ DsOk (1 + row3.length) (s k) row3 pst3 ∧ row3.length ≤ 20 * i3 + a ∧ ∀ j, row3.count j = if j < i3 then (w k).count j else if j = i3 then a else 0, rfl, by omega, ⟨⟨_, rfl⟩, hx7, row3, pst3, hd7, hk7, hl7, fun j => by rw [hc7 j]; split <;> (try split) <;> rfl⟩, ?_, ?_⟩
          · clear hd7 hk7 hl7 hc7 hx7 row3 pst3
            rintro a r8 m8 ha ⟨⟨z5, rfl⟩, hx8, row3, pst3, hd8, hk8, hl8, hc8⟩
            refine w_drop (ev_say (c := .got i3) hd8 hk8 (by omega) (by show i3 ≤ 9; omega) (run_got hil) (ev_var rfl (fun h => nomatch h) ⟨rfl, rfl⟩) ?_ ?_)
            · walk_at "go"
              refine on_str (a := 5) (bt_lit (n := 5) (by show _ < 32; omega) (by decide)) (by decide) (by decide) ?_
              refine o2_addS (by rw [← PySem.Str.length_append]; exact Nat.le_trans (got_cut ⟨i3, by omega⟩).2 (by decide)) ?_
              exact ⟨rfl, rfl⟩
            · refine ⟨⟨_, rfl⟩, ext_dsk hx8 hp3 hl4, row3 ++ [i3], pst3 ++ [(s k, row3)], DeskIn.to hd8.ne, ?_, ?_, fun j => ?_⟩
              · rw [List.length_append, List.length_singleton, ← Nat.add_assoc]
                exact run_ok (c := .got i3) (by show i3 ≤ 9; omega) hk8 (run_got hil)
              · rw [List.length_append, List.length_singleton]
                omega
              · rw [List.count_append, hc8 j, List.count_singleton]
                by_cases h1 : j < i3
                · rw [if_pos h1, if_pos h1, if_neg (by simp; omega)]
                  rfl
                · rw [if_neg h1, if_neg h1]
                  by_cases h2 : j = i3
                  · subst h2
                    simp
                  · have h3 : ¬ i3 = j := fun e => h2 e.symm
                    simp [h2, h3]
          · rintro r8 m8 ⟨⟨z5, rfl⟩, hx8, row3, pst3, hd8, hk8, hl8, hc8⟩
            refine ⟨⟨_, _, _, rfl⟩, hx8, row3, pst3, hd8, hk8, by omega, fun j => ?_⟩
            rw [hc8 j]
            by_cases h1 : j < i3
            · rw [if_pos h1, if_pos (by omega)]
            · rw [if_neg h1]
              by_cases h2 : j = i3
              · subst h2
                rw [if_pos rfl, if_pos (by omega)]
              · rw [if_neg h2, if_neg (by omega)]
        rintro r7 m7 ⟨⟨z5, z9, z10, rfl⟩, hx7, row3, pst3, hd7, hk7, hl7, hc7⟩
        rw [List.length_map, List.length_range] at hl7 hc7
        have hao : aoD (s k) row3 = aoD (s k) (w k) := by
          have h9 := all_of (ss := s k) (row := row3) (row' := w k) fun j hj => by rw [hc7 j, if_pos hj]
          unfold aoD
          rw [h9]
        have hdk := hJ.d.less hx7
        walk_at "go"
        refine ⟨p3, l3, 1 + row3.length, s k, row3, pst3, rfl, hd7, hk7, by omega, ?_⟩
        walk_at "go"
        rw [hao]
        refine o2_neSame (shaped_all _ _) ?_
        refine ⟨_, rfl, br_f rfl ?_⟩
        walk_at "go"
        refine o2_ixV (hix k hk) ?_
        walk_at "go"
        refine ⟨p k, l k, 20, s k, w k, t k, rfl, hdk, hJ.k, by decide, ?_⟩
        walk_at "go"
        refine br_f rfl ?_
        walk_at "go"
        refine o2_ixV (hix k hk) ?_
        walk_at "go"
        refine ⟨p k, l k, 20, s k, w k, t k, rfl, hdk, hJ.k, by decide, ?_⟩
        walk_at "go"
        refine o2_neSame (shaped_all _ _) ?_
        refine ⟨_, rfl, br_f rfl (w_next ?_)⟩
        have hb7 := hx7 _ _ hb4
        have hO : ∀ i, i < 2 → i ≠ k → DeskIn K c_Desk m7 (p i) (l i) (s i) (w i) (t i) := fun i hi2 _ => (hI i hi2).1.less hx7
        have hJ7 : DkOk K c_Desk m7 (p k) (l k) 20 (3 + mn - 0) (s k) (w k) (t k) := ⟨hdk, hJ.k, hJ.len, hJ.hd⟩
        refine w_seq (w_forR1I (eva_cons (ev_var rfl (fun h => nomatch h) (eva_nil ?_))))
        refine ⟨3 + mn, fun a r8 m8 => (∃ z5, r8 = [.scr ns, .d (.int (i : Int)), .v (.ref b), vL K [.v (.ref (p 0)), .v (.ref (p 1))], .d (.int (3 + (mn : Int))), z5, .d (.int (k : Int)), .d (aoD (s k) (w k)), .v (.ref p3), z9, z10]) ∧ m8 b = some .box ∧ (∀ i, i < 2 → i ≠ k → DeskIn K c_Desk m8 (p i) (l i) (s i) (w i) (t i)) ∧ ∃ s2 w2 t2, DkOk K c_Desk m8 (p k) (l k) 20 (3 + mn - a) s2 w2 t2, congrArg (fun z => [Val.d (PyData.int z)]) (by omega), by omega, ⟨⟨_, rfl⟩, hb7, hO, _, _, _, hJ7⟩, ?_, ?_⟩
        · clear hb7 hO hJ7 hdk hd7 hk7 hl7 hc7 hx7 hao m7
          rintro a r8 m8 ha ⟨⟨z5, rfl⟩, hb8, hO, s2, w2, t2, hJ8⟩
          obtain ⟨g, hg⟩ : ∃ g, 3 + mn - a = g + 1 := ⟨3 + mn - a - 1, by omega⟩
          have hg2 : 3 + mn - (a + 1) = g := by omega
          rw [hg] at hJ8
          obtain ⟨tx, s4, w4, t4, hrun, hJ9⟩ := back_step hJ8
          refine w_drop (ev_say (c := .back) hJ8.d hJ8.k (by decide) trivial hrun (ev_op (ev_var rfl (fun h => nomatch h) (ev_var rfl (fun h => nomatch h) (o2_ixV (hix k hk) ⟨rfl, rfl⟩)))) (ev_cS ⟨rfl, rfl⟩) ?_)
          refine ⟨⟨_, rfl⟩, by rw [dskM_ne (hap.bp k hk) (hap.bl k hk)]; exact hb8, fun i hi2 hik => ?_, s4, w4, t4, by rw [hg2]; exact hJ9⟩
          obtain ⟨a1, a2, a3, a4⟩ := hap.two hi2 hk hik
          exact (hO i hi2 hik).keep a1 a2 a3 a4
        rintro r8 m8 ⟨⟨z5, rfl⟩, hb8, hO8, s2, w2, t2, hJ8⟩
        rw [Nat.sub_self] at hJ8
        obtain rfl : t2 = [] := List.length_eq_zero_iff.mp hJ8.len
        obtain ⟨rfl, rfl⟩ := hJ8.hd.end
        refine w_if ?_
        walk_at "go"
        refine o2_ixV (hix k hk) ?_
        walk_at "go"
        refine ⟨p k, l k, 20, [1], [], [], rfl, hJ8.d, hJ8.k, by decide, ?_⟩
        refine ev_call (eva_cons (ev_make0 fun p4 hp4 => ⟨p4, rfl, put_same, fun l4 hl4 => ⟨rfl, eva_nil ?_⟩⟩))
        obtain ⟨_, _, hd9, hx9⟩ := fresh_desk hp4 hl4
        generalize dskM K c_Desk (put m8 p4 (insM K c_Desk [])) p4 l4 [1] [] [] = m9 at *
        refine ⟨p4, l4, 0, [1], [], [], rfl, hd9, ok_new, by decide, ?_⟩
        refine o2_neSame (shaped_all _ _) ?_
        refine ⟨_, rfl, br_f rfl (w_next ?_)⟩
        refine ⟨⟨_, _, _, _, _, _, rfl⟩, hx9 _ _ hb8, fun i => if i = k then [1] else s i, fun i => if i = k then [] else w i, fun i => if i = k then [] else t i, fun i hi2 => ?_⟩
        by_cases hik : i = k
        · subst hik
          simp only [↓reduceIte]
          exact ⟨hJ8.d.less hx9, fun h => absurd h (by omega)⟩
        · simp only [if_neg hik]
          have hdi := (hO8 i hi2 hik).less hx9
          exact ⟨hdi, fun h => ⟨hdi, ((hI i hi2).2 (by omega)).k, ((hI i hi2).2 (by omega)).len, ((hI i hi2).2 (by omega)).hd⟩⟩
      · rintro r4 m4 ⟨⟨z5, z6, z7, z8, z9, z10, rfl⟩, _⟩
        exact ⟨_, _, _, _, _, _, _, _, _, _, rfl⟩
    · rintro r' m' ⟨y1, y2, y3, y4, y5, y6, y7, y8, y9, y10, rfl⟩
      walk_at "go"
      exact q _
end
theorem law_ends : ∀ ns : List Int, ns.length ≤ 63 → (∀ z ∈ ns, Builtin.Int.intBits z ≤ 1048576) → f_law [.scr ns] (fun _ => none) fun y _ => y = .d (.bool true) := fun ns _ _ => ⟨ns, rfl, fun _ => rfl⟩
section
variable {P : Program} {w : World} {K : PySem.W.Frag} {mg : Str → Option Value}
theorem all_mk {h : Heap} {fa : Addr} (X : K.In h) (G : h.Ns mainGlobals mg) (hfa : mg "law" = some (.ref fa))
    {c_Desk : Addr} (aD : PySem.W.nsIn K mainGlobals "Desk" = some (some (.ref c_Desk))) (dpg : PySem.W.plainGet K c_Desk Str.empty = true) (dhd : PySem.W.hasDictIn K c_Desk = true) (dpo : PySem.W.plainOver K c_Desk = true) (dsa : PySem.W.findIn K (.ref c_Desk) "__setattr__" = some (some (.builtin "object.__setattr__")))
    (dmk : PySem.W.makesIn K c_Desk = true) (dkc : PySem.W.keepIn K (.ref c_Desk) = true) (dns : PySem.W.findIn K (.ref c_Desk) "shares" = some none) (dnr : PySem.W.findIn K (.ref c_Desk) "row" = some none) (dnp : PySem.W.findIn K (.ref c_Desk) "past" = some none)
    {od1 an1 : Option Addr} {sl1 : Array (Option Value)} {f1 : Addr} {oc1 kV1 dc1 pm1 cd1 ct1 : Value}
    (a1 : PySem.W.nsIn K mainGlobals "is_whole" = some (some (.ref f1))) (l1 : K.lookup f1 = some ⟨oc1, od1, .func (PySem.W.fnOf "is_whole" "is_whole" (defArgs s_is_whole) (defBody s_is_whole) (defScope s_is_whole) .none kV1 dc1 pm1 an1 cd1 ct1), sl1⟩) (c1 : PySem.W.codeIn K cd1 "is_whole" = true) (k1 : PySem.W.keepIn K (.ref f1) = true)
    {od2 an2 : Option Addr} {sl2 : Array (Option Value)} {f2 : Addr} {oc2 kV2 dc2 pm2 cd2 ct2 : Value}
    (a2 : PySem.W.nsIn K mainGlobals "greatest_common" = some (some (.ref f2))) (l2 : K.lookup f2 = some ⟨oc2, od2, .func (PySem.W.fnOf "greatest_common" "greatest_common" (defArgs s_greatest_common) (defBody s_greatest_common) (defScope s_greatest_common) .none kV2 dc2 pm2 an2 cd2 ct2), sl2⟩) (c2 : PySem.W.codeIn K cd2 "greatest_common" = true) (k2 : PySem.W.keepIn K (.ref f2) = true)
    {od3 an3 : Option Addr} {sl3 : Array (Option Value)} {f3 : Addr} {oc3 kV3 dc3 pm3 cd3 ct3 : Value}
    (a3 : PySem.W.nsIn K mainGlobals "raised" = some (some (.ref f3))) (l3 : K.lookup f3 = some ⟨oc3, od3, .func (PySem.W.fnOf "raised" "raised" (defArgs s_raised) (defBody s_raised) (defScope s_raised) .none kV3 dc3 pm3 an3 cd3 ct3), sl3⟩) (c3 : PySem.W.codeIn K cd3 "raised" = true) (k3 : PySem.W.keepIn K (.ref f3) = true)
    {od4 an4 : Option Addr} {sl4 : Array (Option Value)} {f4 : Addr} {oc4 kV4 dc4 pm4 cd4 ct4 : Value}
    (a4 : PySem.W.nsIn K mainGlobals "below" = some (some (.ref f4))) (l4 : K.lookup f4 = some ⟨oc4, od4, .func (PySem.W.fnOf "below" "below" (defArgs s_below) (defBody s_below) (defScope s_below) .none kV4 dc4 pm4 an4 cd4 ct4), sl4⟩) (c4 : PySem.W.codeIn K cd4 "below" = true) (k4 : PySem.W.keepIn K (.ref f4) = true)
    {od5 an5 : Option Addr} {sl5 : Array (Option Value)} {f5 : Addr} {oc5 kV5 dc5 pm5 cd5 ct5 : Value}
    (a5 : PySem.W.nsIn K mainGlobals "sum_part" = some (some (.ref f5))) (l5 : K.lookup f5 = some ⟨oc5, od5, .func (PySem.W.fnOf "sum_part" "sum_part" (defArgs s_sum_part) (defBody s_sum_part) (defScope s_sum_part) .none kV5 dc5 pm5 an5 cd5 ct5), sl5⟩) (c5 : PySem.W.codeIn K cd5 "sum_part" = true) (k5 : PySem.W.keepIn K (.ref f5) = true)
    {od6 an6 : Option Addr} {sl6 : Array (Option Value)} {f6 : Addr} {oc6 kV6 dc6 pm6 cd6 ct6 : Value}
    (a6 : PySem.W.nsIn K mainGlobals "all_some" = some (some (.ref f6))) (l6 : K.lookup f6 = some ⟨oc6, od6, .func (PySem.W.fnOf "all_some" "all_some" (defArgs s_all_some) (defBody s_all_some) (defScope s_all_some) .none kV6 dc6 pm6 an6 cd6 ct6), sl6⟩) (c6 : PySem.W.codeIn K cd6 "all_some" = true) (k6 : PySem.W.keepIn K (.ref f6) = true)
    {od7 an7 : Option Addr} {sl7 : Array (Option Value)} {f7 : Addr} {oc7 kV7 dc7 pm7 cd7 ct7 : Value}
    (a7 : PySem.W.nsIn K mainGlobals "read" = some (some (.ref f7))) (l7 : K.lookup f7 = some ⟨oc7, od7, .func (PySem.W.fnOf "read" "read" (defArgs s_read) (defBody s_read) (defScope s_read) .none kV7 dc7 pm7 an7 cd7 ct7), sl7⟩) (c7 : PySem.W.codeIn K cd7 "read" = true) (k7 : PySem.W.keepIn K (.ref f7) = true)
    {od8 an8 : Option Addr} {sl8 : Array (Option Value)} {f8 : Addr} {oc8 kV8 dc8 pm8 cd8 ct8 : Value}
    (a8 : PySem.W.nsIn K mainGlobals "spaced" = some (some (.ref f8))) (l8 : K.lookup f8 = some ⟨oc8, od8, .func (PySem.W.fnOf "spaced" "spaced" (defArgs s_spaced) (defBody s_spaced) (defScope s_spaced) .none kV8 dc8 pm8 an8 cd8 ct8), sl8⟩) (c8 : PySem.W.codeIn K cd8 "spaced" = true) (k8 : PySem.W.keepIn K (.ref f8) = true)
    {od9 an9 : Option Addr} {sl9 : Array (Option Value)} {f9 : Addr} {oc9 kV9 dc9 pm9 cd9 ct9 : Value}
    (a9 : PySem.W.nsIn K mainGlobals "written" = some (some (.ref f9))) (l9 : K.lookup f9 = some ⟨oc9, od9, .func (PySem.W.fnOf "written" "written" (defArgs s_written) (defBody s_written) (defScope s_written) .none kV9 dc9 pm9 an9 cd9 ct9), sl9⟩) (c9 : PySem.W.codeIn K cd9 "written" = true) (k9 : PySem.W.keepIn K (.ref f9) = true)
    {od10 an10 : Option Addr} {sl10 : Array (Option Value)} {f10 : Addr} {oc10 kV10 dc10 pm10 cd10 ct10 : Value}
    (a10 : PySem.W.nsIn K mainGlobals "figure_in" = some (some (.ref f10))) (l10 : K.lookup f10 = some ⟨oc10, od10, .func (PySem.W.fnOf "figure_in" "figure_in" (defArgs s_figure_in) (defBody s_figure_in) (defScope s_figure_in) .none kV10 dc10 pm10 an10 cd10 ct10), sl10⟩) (c10 : PySem.W.codeIn K cd10 "figure_in" = true) (k10 : PySem.W.keepIn K (.ref f10) = true)
    {od11 an11 : Option Addr} {sl11 : Array (Option Value)} {f11 : Addr} {oc11 kV11 dc11 pm11 cd11 ct11 : Value}
    (a11 : PySem.W.findIn K (.ref c_Desk) "__init__" = some (some (.ref f11))) (i11 : PySem.W.isFn K (.ref f11) = true) (l11 : K.lookup f11 = some ⟨oc11, od11, .func (PySem.W.fnOf "__init__" "Desk.__init__" (defArgs s_Desk___init__) (defBody s_Desk___init__) (defScope s_Desk___init__) .none kV11 dc11 pm11 an11 cd11 ct11), sl11⟩) (c11 : PySem.W.codeIn K cd11 "Desk.__init__" = true) (k11 : PySem.W.keepIn K (.ref f11) = true)
    {od12 an12 : Option Addr} {sl12 : Array (Option Value)} {f12 : Addr} {oc12 kV12 dc12 pm12 cd12 ct12 : Value}
    (a12 : PySem.W.findIn K (.ref c_Desk) "kinds_left" = some (some (.ref f12))) (i12 : PySem.W.isFn K (.ref f12) = true) (l12 : K.lookup f12 = some ⟨oc12, od12, .func (PySem.W.fnOf "kinds_left" "Desk.kinds_left" (defArgs s_Desk_kinds_left) (defBody s_Desk_kinds_left) (defScope s_Desk_kinds_left) .none kV12 dc12 pm12 an12 cd12 ct12), sl12⟩) (c12 : PySem.W.codeIn K cd12 "Desk.kinds_left" = true) (k12 : PySem.W.keepIn K (.ref f12) = true)
    {od13 an13 : Option Addr} {sl13 : Array (Option Value)} {f13 : Addr} {oc13 kV13 dc13 pm13 cd13 ct13 : Value}
    (a13 : PySem.W.nsIn K mainGlobals "_law_box" = some (some (.ref f13))) (l13 : K.lookup f13 = some ⟨oc13, od13, .func (PySem.W.fnOf "_law_box" "_law_box" (defArgs s__law_box) (defBody s__law_box) (defScope s__law_box) .none kV13 dc13 pm13 an13 cd13 ct13), sl13⟩) (c13 : PySem.W.codeIn K cd13 "_law_box" = true) (k13 : PySem.W.keepIn K (.ref f13) = true)
    {od14 an14 : Option Addr} {sl14 : Array (Option Value)} {f14 : Addr} {oc14 kV14 dc14 pm14 cd14 ct14 : Value}
    (a14 : PySem.W.nsIn K mainGlobals "_law_take" = some (some (.ref f14))) (l14 : K.lookup f14 = some ⟨oc14, od14, .func (PySem.W.fnOf "_law_take" "_law_take" (defArgs s__law_take) (defBody s__law_take) (defScope s__law_take) .none kV14 dc14 pm14 an14 cd14 ct14), sl14⟩) (c14 : PySem.W.codeIn K cd14 "_law_take" = true) (k14 : PySem.W.keepIn K (.ref f14) = true)
    {od15 an15 : Option Addr} {sl15 : Array (Option Value)} {f15 : Addr} {oc15 kV15 dc15 pm15 cd15 ct15 : Value}
    (a15 : PySem.W.nsIn K mainGlobals "made" = some (some (.ref f15))) (l15 : K.lookup f15 = some ⟨oc15, od15, .func (PySem.W.fnOf "made" "made" (defArgs s_made) (defBody s_made) (defScope s_made) .none kV15 dc15 pm15 an15 cd15 ct15), sl15⟩) (c15 : PySem.W.codeIn K cd15 "made" = true) (k15 : PySem.W.keepIn K (.ref f15) = true)
    {od16 an16 : Option Addr} {sl16 : Array (Option Value)} {f16 : Addr} {oc16 kV16 dc16 pm16 cd16 ct16 : Value}
    (a16 : PySem.W.nsIn K mainGlobals "need_number" = some (some (.ref f16))) (l16 : K.lookup f16 = some ⟨oc16, od16, .func (PySem.W.fnOf "need_number" "need_number" (defArgs s_need_number) (defBody s_need_number) (defScope s_need_number) .none kV16 dc16 pm16 an16 cd16 ct16), sl16⟩) (c16 : PySem.W.codeIn K cd16 "need_number" = true) (k16 : PySem.W.keepIn K (.ref f16) = true)
    {od17 an17 : Option Addr} {sl17 : Array (Option Value)} {f17 : Addr} {oc17 kV17 dc17 pm17 cd17 ct17 : Value}
    (a17 : PySem.W.nsIn K mainGlobals "is_shares" = some (some (.ref f17))) (l17 : K.lookup f17 = some ⟨oc17, od17, .func (PySem.W.fnOf "is_shares" "is_shares" (defArgs s_is_shares) (defBody s_is_shares) (defScope s_is_shares) .none kV17 dc17 pm17 an17 cd17 ct17), sl17⟩) (c17 : PySem.W.codeIn K cd17 "is_shares" = true) (k17 : PySem.W.keepIn K (.ref f17) = true)
    {od18 an18 : Option Addr} {sl18 : Array (Option Value)} {f18 : Addr} {oc18 kV18 dc18 pm18 cd18 ct18 : Value}
    (a18 : PySem.W.nsIn K mainGlobals "rising_some" = some (some (.ref f18))) (l18 : K.lookup f18 = some ⟨oc18, od18, .func (PySem.W.fnOf "rising_some" "rising_some" (defArgs s_rising_some) (defBody s_rising_some) (defScope s_rising_some) .none kV18 dc18 pm18 an18 cd18 ct18), sl18⟩) (c18 : PySem.W.codeIn K cd18 "rising_some" = true) (k18 : PySem.W.keepIn K (.ref f18) = true)
    {od19 an19 : Option Addr} {sl19 : Array (Option Value)} {f19 : Addr} {oc19 kV19 dc19 pm19 cd19 ct19 : Value}
    (a19 : PySem.W.nsIn K mainGlobals "lesser" = some (some (.ref f19))) (l19 : K.lookup f19 = some ⟨oc19, od19, .func (PySem.W.fnOf "lesser" "lesser" (defArgs s_lesser) (defBody s_lesser) (defScope s_lesser) .none kV19 dc19 pm19 an19 cd19 ct19), sl19⟩) (c19 : PySem.W.codeIn K cd19 "lesser" = true) (k19 : PySem.W.keepIn K (.ref f19) = true)
    {od20 an20 : Option Addr} {sl20 : Array (Option Value)} {f20 : Addr} {oc20 kV20 dc20 pm20 cd20 ct20 : Value}
    (a20 : PySem.W.findIn K (.ref c_Desk) "become" = some (some (.ref f20))) (i20 : PySem.W.isFn K (.ref f20) = true) (l20 : K.lookup f20 = some ⟨oc20, od20, .func (PySem.W.fnOf "become" "Desk.become" (defArgs s_Desk_become) (defBody s_Desk_become) (defScope s_Desk_become) .none kV20 dc20 pm20 an20 cd20 ct20), sl20⟩) (c20 : PySem.W.codeIn K cd20 "Desk.become" = true) (k20 : PySem.W.keepIn K (.ref f20) = true)
    {od21 an21 : Option Addr} {sl21 : Array (Option Value)} {f21 : Addr} {oc21 kV21 dc21 pm21 cd21 ct21 : Value}
    (a21 : PySem.W.findIn K (.ref c_Desk) "back" = some (some (.ref f21))) (i21 : PySem.W.isFn K (.ref f21) = true) (l21 : K.lookup f21 = some ⟨oc21, od21, .func (PySem.W.fnOf "back" "Desk.back" (defArgs s_Desk_back) (defBody s_Desk_back) (defScope s_Desk_back) .none kV21 dc21 pm21 an21 cd21 ct21), sl21⟩) (c21 : PySem.W.codeIn K cd21 "Desk.back" = true) (k21 : PySem.W.keepIn K (.ref f21) = true)
    {od22 an22 : Option Addr} {sl22 : Array (Option Value)} {f22 : Addr} {oc22 kV22 dc22 pm22 cd22 ct22 : Value}
    (a22 : PySem.W.nsIn K mainGlobals "_law_shares" = some (some (.ref f22))) (l22 : K.lookup f22 = some ⟨oc22, od22, .func (PySem.W.fnOf "_law_shares" "_law_shares" (defArgs s__law_shares) (defBody s__law_shares) (defScope s__law_shares) .none kV22 dc22 pm22 an22 cd22 ct22), sl22⟩) (c22 : PySem.W.codeIn K cd22 "_law_shares" = true) (k22 : PySem.W.keepIn K (.ref f22) = true)
    {od23 an23 : Option Addr} {sl23 : Array (Option Value)} {f23 : Addr} {oc23 kV23 dc23 pm23 cd23 ct23 : Value}
    (a23 : PySem.W.nsIn K mainGlobals "sum_of" = some (some (.ref f23))) (l23 : K.lookup f23 = some ⟨oc23, od23, .func (PySem.W.fnOf "sum_of" "sum_of" (defArgs s_sum_of) (defBody s_sum_of) (defScope s_sum_of) .none kV23 dc23 pm23 an23 cd23 ct23), sl23⟩) (c23 : PySem.W.codeIn K cd23 "sum_of" = true) (k23 : PySem.W.keepIn K (.ref f23) = true)
    {od24 an24 : Option Addr} {sl24 : Array (Option Value)} {f24 : Addr} {oc24 kV24 dc24 pm24 cd24 ct24 : Value}
    (a24 : PySem.W.nsIn K mainGlobals "times_of" = some (some (.ref f24))) (l24 : K.lookup f24 = some ⟨oc24, od24, .func (PySem.W.fnOf "times_of" "times_of" (defArgs s_times_of) (defBody s_times_of) (defScope s_times_of) .none kV24 dc24 pm24 an24 cd24 ct24), sl24⟩) (c24 : PySem.W.codeIn K cd24 "times_of" = true) (k24 : PySem.W.keepIn K (.ref f24) = true)
    {od25 an25 : Option Addr} {sl25 : Array (Option Value)} {f25 : Addr} {oc25 kV25 dc25 pm25 cd25 ct25 : Value}
    (a25 : PySem.W.nsIn K mainGlobals "need_shares" = some (some (.ref f25))) (l25 : K.lookup f25 = some ⟨oc25, od25, .func (PySem.W.fnOf "need_shares" "need_shares" (defArgs s_need_shares) (defBody s_need_shares) (defScope s_need_shares) .none kV25 dc25 pm25 an25 cd25 ct25), sl25⟩) (c25 : PySem.W.codeIn K cd25 "need_shares" = true) (k25 : PySem.W.keepIn K (.ref f25) = true)
    {od26 an26 : Option Addr} {sl26 : Array (Option Value)} {f26 : Addr} {oc26 kV26 dc26 pm26 cd26 ct26 : Value}
    (a26 : PySem.W.findIn K (.ref c_Desk) "laid" = some (some (.ref f26))) (i26 : PySem.W.isFn K (.ref f26) = true) (l26 : K.lookup f26 = some ⟨oc26, od26, .func (PySem.W.fnOf "laid" "Desk.laid" (defArgs s_Desk_laid) (defBody s_Desk_laid) (defScope s_Desk_laid) .none kV26 dc26 pm26 an26 cd26 ct26), sl26⟩) (c26 : PySem.W.codeIn K cd26 "Desk.laid" = true) (k26 : PySem.W.keepIn K (.ref f26) = true)
    {od27 an27 : Option Addr} {sl27 : Array (Option Value)} {f27 : Addr} {oc27 kV27 dc27 pm27 cd27 ct27 : Value}
    (a27 : PySem.W.findIn K (.ref c_Desk) "come_by" = some (some (.ref f27))) (i27 : PySem.W.isFn K (.ref f27) = true) (l27 : K.lookup f27 = some ⟨oc27, od27, .func (PySem.W.fnOf "come_by" "Desk.come_by" (defArgs s_Desk_come_by) (defBody s_Desk_come_by) (defScope s_Desk_come_by) .none kV27 dc27 pm27 an27 cd27 ct27), sl27⟩) (c27 : PySem.W.codeIn K cd27 "Desk.come_by" = true) (k27 : PySem.W.keepIn K (.ref f27) = true)
    {od28 an28 : Option Addr} {sl28 : Array (Option Value)} {f28 : Addr} {oc28 kV28 dc28 pm28 cd28 ct28 : Value}
    (a28 : PySem.W.nsIn K mainGlobals "due_number" = some (some (.ref f28))) (l28 : K.lookup f28 = some ⟨oc28, od28, .func (PySem.W.fnOf "due_number" "due_number" (defArgs s_due_number) (defBody s_due_number) (defScope s_due_number) .none kV28 dc28 pm28 an28 cd28 ct28), sl28⟩) (c28 : PySem.W.codeIn K cd28 "due_number" = true) (k28 : PySem.W.keepIn K (.ref f28) = true)
    {od29 an29 : Option Addr} {sl29 : Array (Option Value)} {f29 : Addr} {oc29 kV29 dc29 pm29 cd29 ct29 : Value}
    (a29 : PySem.W.nsIn K mainGlobals "need_price" = some (some (.ref f29))) (l29 : K.lookup f29 = some ⟨oc29, od29, .func (PySem.W.fnOf "need_price" "need_price" (defArgs s_need_price) (defBody s_need_price) (defScope s_need_price) .none kV29 dc29 pm29 an29 cd29 ct29), sl29⟩) (c29 : PySem.W.codeIn K cd29 "need_price" = true) (k29 : PySem.W.keepIn K (.ref f29) = true)
    {od30 an30 : Option Addr} {sl30 : Array (Option Value)} {f30 : Addr} {oc30 kV30 dc30 pm30 cd30 ct30 : Value}
    (a30 : PySem.W.nsIn K mainGlobals "show" = some (some (.ref f30))) (l30 : K.lookup f30 = some ⟨oc30, od30, .func (PySem.W.fnOf "show" "show" (defArgs s_show) (defBody s_show) (defScope s_show) .none kV30 dc30 pm30 an30 cd30 ct30), sl30⟩) (c30 : PySem.W.codeIn K cd30 "show" = true) (k30 : PySem.W.keepIn K (.ref f30) = true)
    {od31 an31 : Option Addr} {sl31 : Array (Option Value)} {f31 : Addr} {oc31 kV31 dc31 pm31 cd31 ct31 : Value}
    (a31 : PySem.W.nsIn K mainGlobals "paper_of" = some (some (.ref f31))) (l31 : K.lookup f31 = some ⟨oc31, od31, .func (PySem.W.fnOf "paper_of" "paper_of" (defArgs s_paper_of) (defBody s_paper_of) (defScope s_paper_of) .none kV31 dc31 pm31 an31 cd31 ct31), sl31⟩) (c31 : PySem.W.codeIn K cd31 "paper_of" = true) (k31 : PySem.W.keepIn K (.ref f31) = true)
    {od32 an32 : Option Addr} {sl32 : Array (Option Value)} {f32 : Addr} {oc32 kV32 dc32 pm32 cd32 ct32 : Value}
    (a32 : PySem.W.nsIn K mainGlobals "costs_of" = some (some (.ref f32))) (l32 : K.lookup f32 = some ⟨oc32, od32, .func (PySem.W.fnOf "costs_of" "costs_of" (defArgs s_costs_of) (defBody s_costs_of) (defScope s_costs_of) .none kV32 dc32 pm32 an32 cd32 ct32), sl32⟩) (c32 : PySem.W.codeIn K cd32 "costs_of" = true) (k32 : PySem.W.keepIn K (.ref f32) = true)
    {od33 an33 : Option Addr} {sl33 : Array (Option Value)} {f33 : Addr} {oc33 kV33 dc33 pm33 cd33 ct33 : Value}
    (a33 : PySem.W.nsIn K mainGlobals "time_paper" = some (some (.ref f33))) (l33 : K.lookup f33 = some ⟨oc33, od33, .func (PySem.W.fnOf "time_paper" "time_paper" (defArgs s_time_paper) (defBody s_time_paper) (defScope s_time_paper) .none kV33 dc33 pm33 an33 cd33 ct33), sl33⟩) (c33 : PySem.W.codeIn K cd33 "time_paper" = true) (k33 : PySem.W.keepIn K (.ref f33) = true)
    {od34 an34 : Option Addr} {sl34 : Array (Option Value)} {f34 : Addr} {oc34 kV34 dc34 pm34 cd34 ct34 : Value}
    (a34 : PySem.W.nsIn K mainGlobals "cost_paper" = some (some (.ref f34))) (l34 : K.lookup f34 = some ⟨oc34, od34, .func (PySem.W.fnOf "cost_paper" "cost_paper" (defArgs s_cost_paper) (defBody s_cost_paper) (defScope s_cost_paper) .none kV34 dc34 pm34 an34 cd34 ct34), sl34⟩) (c34 : PySem.W.codeIn K cd34 "cost_paper" = true) (k34 : PySem.W.keepIn K (.ref f34) = true)
    {od35 an35 : Option Addr} {sl35 : Array (Option Value)} {f35 : Addr} {oc35 kV35 dc35 pm35 cd35 ct35 : Value}
    (a35 : PySem.W.nsIn K mainGlobals "plan_of" = some (some (.ref f35))) (l35 : K.lookup f35 = some ⟨oc35, od35, .func (PySem.W.fnOf "plan_of" "plan_of" (defArgs s_plan_of) (defBody s_plan_of) (defScope s_plan_of) .none kV35 dc35 pm35 an35 cd35 ct35), sl35⟩) (c35 : PySem.W.codeIn K cd35 "plan_of" = true) (k35 : PySem.W.keepIn K (.ref f35) = true)
    {od36 an36 : Option Addr} {sl36 : Array (Option Value)} {f36 : Addr} {oc36 kV36 dc36 pm36 cd36 ct36 : Value}
    (a36 : PySem.W.findIn K (.ref c_Desk) "answer" = some (some (.ref f36))) (i36 : PySem.W.isFn K (.ref f36) = true) (l36 : K.lookup f36 = some ⟨oc36, od36, .func (PySem.W.fnOf "answer" "Desk.answer" (defArgs s_Desk_answer) (defBody s_Desk_answer) (defScope s_Desk_answer) .none kV36 dc36 pm36 an36 cd36 ct36), sl36⟩) (c36 : PySem.W.codeIn K cd36 "Desk.answer" = true) (k36 : PySem.W.keepIn K (.ref f36) = true)
    {od37 an37 : Option Addr} {sl37 : Array (Option Value)} {f37 : Addr} {oc37 kV37 dc37 pm37 cd37 ct37 : Value}
    (a37 : PySem.W.nsIn K mainGlobals "plan_for" = some (some (.ref f37))) (l37 : K.lookup f37 = some ⟨oc37, od37, .func (PySem.W.fnOf "plan_for" "plan_for" (defArgs s_plan_for) (defBody s_plan_for) (defScope s_plan_for) .none kV37 dc37 pm37 an37 cd37 ct37), sl37⟩) (c37 : PySem.W.codeIn K cd37 "plan_for" = true) (k37 : PySem.W.keepIn K (.ref f37) = true)
    {od38 an38 : Option Addr} {sl38 : Array (Option Value)} {f38 : Addr} {oc38 kV38 dc38 pm38 cd38 ct38 : Value}
    (a38 : PySem.W.findIn K (.ref c_Desk) "bought" = some (some (.ref f38))) (i38 : PySem.W.isFn K (.ref f38) = true) (l38 : K.lookup f38 = some ⟨oc38, od38, .func (PySem.W.fnOf "bought" "Desk.bought" (defArgs s_Desk_bought) (defBody s_Desk_bought) (defScope s_Desk_bought) .none kV38 dc38 pm38 an38 cd38 ct38), sl38⟩) (c38 : PySem.W.codeIn K cd38 "Desk.bought" = true) (k38 : PySem.W.keepIn K (.ref f38) = true)
    {od39 an39 : Option Addr} {sl39 : Array (Option Value)} {f39 : Addr} {oc39 kV39 dc39 pm39 cd39 ct39 : Value}
    (a39 : PySem.W.findIn K (.ref c_Desk) "numbered" = some (some (.ref f39))) (i39 : PySem.W.isFn K (.ref f39) = true) (l39 : K.lookup f39 = some ⟨oc39, od39, .func (PySem.W.fnOf "numbered" "Desk.numbered" (defArgs s_Desk_numbered) (defBody s_Desk_numbered) (defScope s_Desk_numbered) .none kV39 dc39 pm39 an39 cd39 ct39), sl39⟩) (c39 : PySem.W.codeIn K cd39 "Desk.numbered" = true) (k39 : PySem.W.keepIn K (.ref f39) = true)
    {od40 an40 : Option Addr} {sl40 : Array (Option Value)} {f40 : Addr} {oc40 kV40 dc40 pm40 cd40 ct40 : Value}
    (a40 : PySem.W.findIn K (.ref c_Desk) "say" = some (some (.ref f40))) (i40 : PySem.W.isFn K (.ref f40) = true) (l40 : K.lookup f40 = some ⟨oc40, od40, .func (PySem.W.fnOf "say" "Desk.say" (defArgs s_Desk_say) (defBody s_Desk_say) (defScope s_Desk_say) .none kV40 dc40 pm40 an40 cd40 ct40), sl40⟩) (c40 : PySem.W.codeIn K cd40 "Desk.say" = true) (k40 : PySem.W.keepIn K (.ref f40) = true)
    {od41 an41 : Option Addr} {sl41 : Array (Option Value)} {f41 : Addr} {oc41 kV41 dc41 pm41 cd41 ct41 : Value}
    (a41 : PySem.W.nsIn K mainGlobals "_law_all" = some (some (.ref f41))) (l41 : K.lookup f41 = some ⟨oc41, od41, .func (PySem.W.fnOf "_law_all" "_law_all" (defArgs s__law_all) (defBody s__law_all) (defScope s__law_all) .none kV41 dc41 pm41 an41 cd41 ct41), sl41⟩) (c41 : PySem.W.codeIn K cd41 "_law_all" = true) (k41 : PySem.W.keepIn K (.ref f41) = true)
    {od42 an42 : Option Addr} {sl42 : Array (Option Value)} {f42 : Addr} {oc42 kV42 dc42 pm42 cd42 ct42 : Value}
    (a42 : PySem.W.nsIn K mainGlobals "_law_deed" = some (some (.ref f42))) (l42 : K.lookup f42 = some ⟨oc42, od42, .func (PySem.W.fnOf "_law_deed" "_law_deed" (defArgs s__law_deed) (defBody s__law_deed) (defScope s__law_deed) .none kV42 dc42 pm42 an42 cd42 ct42), sl42⟩) (c42 : PySem.W.codeIn K cd42 "_law_deed" = true) (k42 : PySem.W.keepIn K (.ref f42) = true)
    {od43 an43 : Option Addr} {sl43 : Array (Option Value)} {f43 : Addr} {oc43 kV43 dc43 pm43 cd43 ct43 : Value}
    (a43 : PySem.W.nsIn K mainGlobals "_law_right" = some (some (.ref f43))) (l43 : K.lookup f43 = some ⟨oc43, od43, .func (PySem.W.fnOf "_law_right" "_law_right" (defArgs s__law_right) (defBody s__law_right) (defScope s__law_right) .none kV43 dc43 pm43 an43 cd43 ct43), sl43⟩) (c43 : PySem.W.codeIn K cd43 "_law_right" = true) (k43 : PySem.W.keepIn K (.ref f43) = true)
    {od44 an44 : Option Addr} {sl44 : Array (Option Value)} {f44 : Addr} {oc44 kV44 dc44 pm44 cd44 ct44 : Value}
    (a44 : PySem.W.nsIn K mainGlobals "law" = some (some (.ref f44))) (l44 : K.lookup f44 = some ⟨oc44, od44, .func (PySem.W.fnOf "law" "law" (defArgs s_law) (defBody s_law) (defScope s_law) .none kV44 dc44 pm44 an44 cd44 ct44), sl44⟩) (c44 : PySem.W.codeIn K cd44 "law" = true) (k44 : PySem.W.keepIn K (.ref f44) = true)
    (z_abs : PySem.W.nsIn K mainGlobals "abs" = some none)
    (z_all : PySem.W.nsIn K mainGlobals "all" = some none)
    (z_bool : PySem.W.nsIn K mainGlobals "bool" = some none)
    (z_divmod : PySem.W.nsIn K mainGlobals "divmod" = some none)
    (z_enumerate : PySem.W.nsIn K mainGlobals "enumerate" = some none)
    (z_int : PySem.W.nsIn K mainGlobals "int" = some none)
    (z_isinstance : PySem.W.nsIn K mainGlobals "isinstance" = some none)
    (z_len : PySem.W.nsIn K mainGlobals "len" = some none)
    (z_list : PySem.W.nsIn K mainGlobals "list" = some none)
    (z_max : PySem.W.nsIn K mainGlobals "max" = some none)
    (z_min : PySem.W.nsIn K mainGlobals "min" = some none)
    (z_range : PySem.W.nsIn K mainGlobals "range" = some none)
    (z_sorted : PySem.W.nsIn K mainGlobals "sorted" = some none)
    (z_str : PySem.W.nsIn K mainGlobals "str" = some none)
    (z_sum : PySem.W.nsIn K mainGlobals "sum" = some none)
    (z_tuple : PySem.W.nsIn K mainGlobals "tuple" = some none)
    {t_FIGURES_desk : Tok} (g_FIGURES_desk : PySem.W.nsIn K mainGlobals "FIGURES_desk" = some (some (.str "0123456789" t_FIGURES_desk)))
    {t_FIGURES_texts : Tok} (g_FIGURES_texts : PySem.W.nsIn K mainGlobals "FIGURES_texts" = some (some (.str "123456789" t_FIGURES_texts)))
    {t_MOST_DRAWS : Tok} (g_MOST_DRAWS : PySem.W.nsIn K mainGlobals "MOST_DRAWS" = some (some (.int 12 t_MOST_DRAWS)))
    {t_MOST_KINDS : Tok} (g_MOST_KINDS : PySem.W.nsIn K mainGlobals "MOST_KINDS" = some (some (.int 5 t_MOST_KINDS)))
    {t_MOST_PRICE : Tok} (g_MOST_PRICE : PySem.W.nsIn K mainGlobals "MOST_PRICE" = some (some (.int 99 t_MOST_PRICE)))
    {t_MOST_SHARE : Tok} (g_MOST_SHARE : PySem.W.nsIn K mainGlobals "MOST_SHARE" = some (some (.int 9 t_MOST_SHARE)))
    {p_NOUGHT : Addr} {e_NOUGHT : Option Addr} {q_NOUGHT : Array (Option Value)} {u_NOUGHT w_NOUGHT : Tok} {n_NOUGHT : Nat} (g_NOUGHT : PySem.W.nsIn K mainGlobals "NOUGHT" = some (some (.ref p_NOUGHT))) (o_NOUGHT : K.lookup p_NOUGHT = some ⟨.type "tuple", e_NOUGHT, .seq #[.int 0 u_NOUGHT, .int 1 w_NOUGHT] n_NOUGHT, q_NOUGHT⟩)
    {c_GatherError : Addr} (n_GatherError : PySem.W.nsIn K mainGlobals "GatherError" = some (some (.ref c_GatherError)))
    {c_NoKind : Addr} (n_NoKind : PySem.W.nsIn K mainGlobals "NoKind" = some (some (.ref c_NoKind)))
    {c_NoLine : Addr} (n_NoLine : PySem.W.nsIn K mainGlobals "NoLine" = some (some (.ref c_NoLine)))
    {c_NoNumber : Addr} (n_NoNumber : PySem.W.nsIn K mainGlobals "NoNumber" = some (some (.ref c_NoNumber)))
    {c_NoShares : Addr} (n_NoShares : PySem.W.nsIn K mainGlobals "NoShares" = some (some (.ref c_NoShares)))
    {c_NoText : Addr} (n_NoText : PySem.W.nsIn K mainGlobals "NoText" = some (some (.ref c_NoText)))
    (q_NoKind : PySem.W.excIn K c_NoKind [.type "ValueError", .type "Exception", .type "BaseException", .type "object"] "ValueError.__new__" = true) (kp_NoKind : PySem.W.keepIn K (.ref c_NoKind) = true) (bs_NoKind : PySem.W.subIn K (.ref c_NoKind) (.type "BaseException") = some true) (ty_NoKind : PySem.W.typeIn K (.ref c_NoKind) = some (.type "type"))
    (q_NoLine : PySem.W.excIn K c_NoLine [.type "ValueError", .type "Exception", .type "BaseException", .type "object"] "ValueError.__new__" = true) (kp_NoLine : PySem.W.keepIn K (.ref c_NoLine) = true) (bs_NoLine : PySem.W.subIn K (.ref c_NoLine) (.type "BaseException") = some true) (ty_NoLine : PySem.W.typeIn K (.ref c_NoLine) = some (.type "type"))
    (q_NoNumber : PySem.W.excIn K c_NoNumber [.type "ValueError", .type "Exception", .type "BaseException", .type "object"] "ValueError.__new__" = true) (kp_NoNumber : PySem.W.keepIn K (.ref c_NoNumber) = true) (bs_NoNumber : PySem.W.subIn K (.ref c_NoNumber) (.type "BaseException") = some true) (ty_NoNumber : PySem.W.typeIn K (.ref c_NoNumber) = some (.type "type"))
    : ∃ fd : FuncData, (∀ (s : Shared) (v : Value), BindsTo s fd ⟨[v], []⟩ [("_law_script", v)]) ∧ ∀ base : Heap, K.In base → base.Ns mainGlobals mg → FnG P w K mg base 11 fa fd ["_law_script"] (spD K f_law) := by
  have e := hfa.symm.trans (PySem.W.mg_of X G a44)
  cases e
  have y_abs := PySem.W.mg_none_of X G z_abs
  have y_all := PySem.W.mg_none_of X G z_all
  have y_bool := PySem.W.mg_none_of X G z_bool
  have y_divmod := PySem.W.mg_none_of X G z_divmod
  have y_enumerate := PySem.W.mg_none_of X G z_enumerate
  have y_int := PySem.W.mg_none_of X G z_int
  have y_isinstance := PySem.W.mg_none_of X G z_isinstance
  have y_len := PySem.W.mg_none_of X G z_len
  have y_list := PySem.W.mg_none_of X G z_list
  have y_max := PySem.W.mg_none_of X G z_max
  have y_min := PySem.W.mg_none_of X G z_min
  have y_range := PySem.W.mg_none_of X G z_range
  have y_sorted := PySem.W.mg_none_of X G z_sorted
  have y_str := PySem.W.mg_none_of X G z_str
  have y_sum := PySem.W.mg_none_of X G z_sum
  have y_tuple := PySem.W.mg_none_of X G z_tuple
  have x_FIGURES_desk : ∃ t, mg "FIGURES_desk" = some (.str "0123456789" t) := ⟨_, PySem.W.mg_of X G g_FIGURES_desk⟩
  have x_FIGURES_texts : ∃ t, mg "FIGURES_texts" = some (.str "123456789" t) := ⟨_, PySem.W.mg_of X G g_FIGURES_texts⟩
  have x_MOST_DRAWS : ∃ t, mg "MOST_DRAWS" = some (.int 12 t) := ⟨_, PySem.W.mg_of X G g_MOST_DRAWS⟩
  have x_MOST_KINDS : ∃ t, mg "MOST_KINDS" = some (.int 5 t) := ⟨_, PySem.W.mg_of X G g_MOST_KINDS⟩
  have x_MOST_PRICE : ∃ t, mg "MOST_PRICE" = some (.int 99 t) := ⟨_, PySem.W.mg_of X G g_MOST_PRICE⟩
  have x_MOST_SHARE : ∃ t, mg "MOST_SHARE" = some (.int 9 t) := ⟨_, PySem.W.mg_of X G g_MOST_SHARE⟩
  have x_NOUGHT : ∃ a, mg "NOUGHT" = some (.ref a) ∧ ∀ G, Rp K G (.tuple [.int 0, .int 1]) (.ref a) := ⟨_, PySem.W.mg_of X G g_NOUGHT, fun G => rp_tuple.mpr ⟨_, [V.int 0, V.int 1], rfl, Or.inr ⟨_, _, _, o_NOUGHT, rfl, rfl, (by show 2 ≤ sizeLine; decide), .cons ⟨_, rfl⟩ (.cons ⟨_, rfl⟩ .nil)⟩, rpa_ints [0, 1]⟩⟩
  have y_GatherError : mg "GatherError" = some (.ref c_GatherError) := PySem.W.mg_of X G n_GatherError
  have y_NoKind : mg "NoKind" = some (.ref c_NoKind) := PySem.W.mg_of X G n_NoKind
  have y_NoLine : mg "NoLine" = some (.ref c_NoLine) := PySem.W.mg_of X G n_NoLine
  have y_NoNumber : mg "NoNumber" = some (.ref c_NoNumber) := PySem.W.mg_of X G n_NoNumber
  have y_NoShares : mg "NoShares" = some (.ref c_NoShares) := PySem.W.mg_of X G n_NoShares
  have y_NoText : mg "NoText" = some (.ref c_NoText) := PySem.W.mg_of X G n_NoText
  have r_NoKind : DL.RfT K mg "NoKind" c_NoKind := ⟨y_NoKind, q_NoKind, kp_NoKind, bs_NoKind, ty_NoKind⟩
  have r_NoLine : DL.RfT K mg "NoLine" c_NoLine := ⟨y_NoLine, q_NoLine, kp_NoLine, bs_NoLine, ty_NoLine⟩
  have r_NoNumber : DL.RfT K mg "NoNumber" c_NoNumber := ⟨y_NoNumber, q_NoNumber, kp_NoNumber, bs_NoNumber, ty_NoNumber⟩
  have TD : DL.DeskC K c_Desk := ⟨⟨dpg, dhd, dpo, dsa⟩, dns, dnr, dnp⟩
  have F1 := fun_mk (st := s_is_whole) l1 c1 k1
  have F2 := fun_mk (st := s_greatest_common) l2 c2 k2
  have F3 := fun_mk (st := s_raised) l3 c3 k3
  have F4 := fun_mk (st := s_below) l4 c4 k4
  have F5 := fun_mk (st := s_sum_part) l5 c5 k5
  have F6 := fun_mk (st := s_all_some) l6 c6 k6
  have F7 := fun_mk (st := s_read) l7 c7 k7
  have F8 := fun_mk (st := s_spaced) l8 c8 k8
  have F9 := fun_mk (st := s_written) l9 c9 k9
  have F10 := fun_mk (st := s_figure_in) l10 c10 k10
  have F11 := fun_mk (st := s_Desk___init__) l11 c11 k11
  have F12 := fun_mk (st := s_Desk_kinds_left) l12 c12 k12
  have F13 := fun_mk (st := s__law_box) l13 c13 k13
  have F14 := fun_mk (st := s__law_take) l14 c14 k14
  have F15 := fun_mk (st := s_made) l15 c15 k15
  have F16 := fun_mk (st := s_need_number) l16 c16 k16
  have F17 := fun_mk (st := s_is_shares) l17 c17 k17
  have F18 := fun_mk (st := s_rising_some) l18 c18 k18
  have F19 := fun_mk (st := s_lesser) l19 c19 k19
  have F20 := fun_mk (st := s_Desk_become) l20 c20 k20
  have F21 := fun_mk (st := s_Desk_back) l21 c21 k21
  have F22 := fun_mk (st := s__law_shares) l22 c22 k22
  have F23 := fun_mk (st := s_sum_of) l23 c23 k23
  have F24 := fun_mk (st := s_times_of) l24 c24 k24
  have F25 := fun_mk (st := s_need_shares) l25 c25 k25
  have F26 := fun_mk (st := s_Desk_laid) l26 c26 k26
  have F27 := fun_mk (st := s_Desk_come_by) l27 c27 k27
  have F28 := fun_mk (st := s_due_number) l28 c28 k28
  have F29 := fun_mk (st := s_need_price) l29 c29 k29
  have F30 := fun_mk (st := s_show) l30 c30 k30
  have F31 := fun_mk (st := s_paper_of) l31 c31 k31
  have F32 := fun_mk (st := s_costs_of) l32 c32 k32
  have F33 := fun_mk (st := s_time_paper) l33 c33 k33
  have F34 := fun_mk (st := s_cost_paper) l34 c34 k34
  have F35 := fun_mk (st := s_plan_of) l35 c35 k35
  have F36 := fun_mk (st := s_Desk_answer) l36 c36 k36
  have F37 := fun_mk (st := s_plan_for) l37 c37 k37
  have F38 := fun_mk (st := s_Desk_bought) l38 c38 k38
  have F39 := fun_mk (st := s_Desk_numbered) l39 c39 k39
  have F40 := fun_mk (st := s_Desk_say) l40 c40 k40
  have F41 := fun_mk (st := s__law_all) l41 c41 k41
  have F42 := fun_mk (st := s__law_deed) l42 c42 k42
  have F43 := fun_mk (st := s__law_right) l43 c43 k43
  have F44 := fun_mk (st := s_law) l44 c44 k44
  refine ⟨PySem.W.fnOf "law" "law" (defArgs s_law) (defBody s_law) (defScope s_law) .none kV44 dc44 pm44 an44 cd44 ct44, fun s v => .of_eq rfl, fun base _ _ => ?_⟩
  have C1 : Cl P w K mg base 1 "is_whole" f_isWhole := ok_is_whole (P := P) (w := w) (base := base) F1 (PySem.W.mg_of X G a1) y_isinstance y_bool y_int
  have C2 : Cl P w K mg base 1 "greatest_common" f_gcd := ok_greatest_common (P := P) (w := w) (base := base) F2 (PySem.W.mg_of X G a2) 
  have C3 : Cl P w K mg base 1 "raised" f_raised := ok_raised (P := P) (w := w) (base := base) F3 (PySem.W.mg_of X G a3) y_range
  have C4 : Cl P w K mg base 1 "below" f_below := ok_below (P := P) (w := w) (base := base) F4 (PySem.W.mg_of X G a4) 
  have C5 : Cl P w K mg base 1 "sum_part" f_sumPart := ok_sum_part (P := P) (w := w) (base := base) F5 (PySem.W.mg_of X G a5) y_sum
  have C6 : Cl P w K mg base 1 "all_some" f_allSomeB := ok_all_some (P := P) (w := w) (base := base) F6 (PySem.W.mg_of X G a6) 
  have C7 : Cl P w K mg base 1 "read" f_read := ok_read (P := P) (w := w) (base := base) F7 (PySem.W.mg_of X G a7) y_isinstance y_str y_enumerate y_len y_int y_tuple x_FIGURES_texts x_MOST_KINDS
  have C8 : Cl P w K mg base 1 "spaced" f_spaced := ok_spaced (P := P) (w := w) (base := base) F8 (PySem.W.mg_of X G a8) y_str
  have C9 : Cl P w K mg base 1 "written" f_written := ok_written (P := P) (w := w) (base := base) F9 (PySem.W.mg_of X G a9) y_str
  have C10 : Cl P w K mg base 1 "figure_in" f_figure := ok_figure_in (P := P) (w := w) (base := base) F10 (PySem.W.mg_of X G a10) y_all y_len y_str y_int x_FIGURES_desk
  have MK : Mk0 P w K mg base c_Desk 1 "Desk" (f_dinit K c_Desk) := ok_Desk___init__ (P := P) (w := w) (base := base) F11 (PySem.W.mg_of X G aD) ⟨dmk, a11, i11, dkc⟩ TD
  have C12 : Mt P w K mg base c_Desk 1 "kinds_left" (f_left K c_Desk) := ok_Desk_kinds_left (P := P) (w := w) (base := base) F12 ⟨a12, i12, k12⟩ TD y_tuple y_range y_len
  have C13 : Cl P w K mg base 1 "_law_box" f_box2 := ok__law_box (P := P) (w := w) (base := base) F13 (PySem.W.mg_of X G a13) y_len y_range
  have C14 : Cl P w K mg base 1 "_law_take" f_take := ok__law_take (P := P) (w := w) (base := base) F14 (PySem.W.mg_of X G a14) y_divmod
  have C15 : Cl P w K mg base 2 "made" f_made := ok_made (P := P) (w := w) (base := base) F15 (PySem.W.mg_of X G a15) y_abs C2
  have C16 : Cl P w K mg base 2 "need_number" f_needNumber := ok_need_number (P := P) (w := w) (base := base) F16 (PySem.W.mg_of X G a16) C1
  have C17 : Cl P w K mg base 2 "is_shares" f_isShares := ok_is_shares (P := P) (w := w) (base := base) F17 (PySem.W.mg_of X G a17) y_len y_isinstance y_tuple y_all x_MOST_KINDS x_MOST_SHARE C1
  have C18 : Cl P w K mg base 2 "rising_some" f_rising := ok_rising_some (P := P) (w := w) (base := base) F18 (PySem.W.mg_of X G a18) y_sorted y_len y_range y_list (C6.imp allSomeB_L)
  have C19 : Cl P w K mg base 2 "lesser" f_lesser := ok_lesser (P := P) (w := w) (base := base) F19 (PySem.W.mg_of X G a19) C4
  have C20 : Mt P w K mg base c_Desk 2 "become" (f_become K c_Desk) := ok_Desk_become (P := P) (w := w) (base := base) F20 ⟨a20, i20, k20⟩ TD C8 C12
  have X21 : MtX P w K mg base c_Desk 2 "back" (f_back K c_Desk [c_NoShares, c_NoKind, c_NoNumber, (0 : Addr), (0 : Addr), (0 : Addr), c_NoLine, c_NoText]) := ok_Desk_back (P := P) (w := w) (base := base) F21 ⟨a21, i21, k21⟩ TD C8 C12 r_NoNumber
  have C22 : Cl P w K mg base 2 "_law_shares" f_shares2 := ok__law_shares (P := P) (w := w) (base := base) F22 (PySem.W.mg_of X G a22) y_range y_int y_tuple C14
  have C23 : Cl P w K mg base 3 "sum_of" f_sumOf := ok_sum_of (P := P) (w := w) (base := base) F23 (PySem.W.mg_of X G a23) C15
  have C24 : Cl P w K mg base 3 "times_of" f_timesOf := ok_times_of (P := P) (w := w) (base := base) F24 (PySem.W.mg_of X G a24) C15
  have C25 : Cl P w K mg base 3 "need_shares" f_needShares := ok_need_shares (P := P) (w := w) (base := base) F25 (PySem.W.mg_of X G a25) C17
  have C26 : Mt P w K mg base c_Desk 3 "laid" (f_laid K c_Desk) := ok_Desk_laid (P := P) (w := w) (base := base) F26 ⟨a26, i26, k26⟩ TD C7 C20 y_NoText
  have X27 : MtX P w K mg base c_Desk 3 "come_by" (f_comeBy K c_Desk [c_NoShares, c_NoKind, c_NoNumber, (0 : Addr), (0 : Addr), (0 : Addr), c_NoLine, c_NoText]) := ok_Desk_come_by (P := P) (w := w) (base := base) F27 ⟨a27, i27, k27⟩ TD y_sum y_len x_MOST_DRAWS C6 C3 C5 C9 C15 C12 r_NoNumber
  have C28 : Cl P w K mg base 4 "due_number" f_dueG := ok_due_number (P := P) (w := w) (base := base) F28 (PySem.W.mg_of X G a28) y_sum y_tuple C23 C24 C5
  have C29 : Cl P w K mg base 4 "need_price" f_needPrice := ok_need_price (P := P) (w := w) (base := base) F29 (PySem.W.mg_of X G a29) x_MOST_PRICE C25 C16
  have C30 : Cl P w K mg base 4 "show" f_show := ok_show (P := P) (w := w) (base := base) F30 (PySem.W.mg_of X G a30) y_str C25
  have C31 : Cl P w K mg base 5 "paper_of" f_paperT := ok_paper_of (P := P) (w := w) (base := base) F31 (PySem.W.mg_of X G a31) y_sorted y_len y_range y_list x_NOUGHT (C6.imp allSomeB_L) (C28.imp dueG_T)
  have C32 : Cl P w K mg base 5 "costs_of" f_costsOf := ok_costs_of (P := P) (w := w) (base := base) F32 (PySem.W.mg_of X G a32) y_len x_NOUGHT C18 C19 C28
  have C33 : Cl P w K mg base 6 "time_paper" f_paperT := ok_time_paper (P := P) (w := w) (base := base) F33 (PySem.W.mg_of X G a33) C25 C31
  have C34 : Cl P w K mg base 6 "cost_paper" f_costsOf := ok_cost_paper (P := P) (w := w) (base := base) F34 (PySem.W.mg_of X G a34) C29 C32
  have C35 : Cl P w K mg base 6 "plan_of" f_planOf := ok_plan_of (P := P) (w := w) (base := base) F35 (PySem.W.mg_of X G a35) y_len C32 C18 C4 C28
  have X36 : MtX P w K mg base c_Desk 6 "answer" (f_answer K c_Desk [c_NoShares, c_NoKind, c_NoNumber, (0 : Addr), (0 : Addr), (0 : Addr), c_NoLine, c_NoText]) := ok_Desk_answer (P := P) (w := w) (base := base) F36 ⟨a36, i36, k36⟩ TD y_range y_len y_sum C30 C8 C9 C31 C15 C5 C12 X21 r_NoLine
  have C37 : Cl P w K mg base 7 "plan_for" f_planOf := ok_plan_for (P := P) (w := w) (base := base) F37 (PySem.W.mg_of X G a37) C29 C35
  have C38 : Mt P w K mg base c_Desk 7 "bought" (f_bought K c_Desk) := ok_Desk_bought (P := P) (w := w) (base := base) F38 ⟨a38, i38, k38⟩ TD C9 C32 C35 C12
  have X39 : MtX P w K mg base c_Desk 8 "numbered" (f_numbered K c_Desk [c_NoShares, c_NoKind, c_NoNumber, (0 : Addr), (0 : Addr), (0 : Addr), c_NoLine, c_NoText]) := ok_Desk_numbered (P := P) (w := w) (base := base) F39 ⟨a39, i39, k39⟩ TD y_len C20 C38 X27 r_NoLine r_NoKind
  have X40 : MtX P w K mg base c_Desk 9 "say" (f_say K c_Desk [c_NoShares, c_NoKind, c_NoNumber, (0 : Addr), (0 : Addr), (0 : Addr), c_NoLine, c_NoText]) := ok_Desk_say (P := P) (w := w) (base := base) F40 ⟨a40, i40, k40⟩ TD y_isinstance y_str y_len y_int C10 C26 X36 X39 r_NoLine
  have C40 : Mt P w K mg base c_Desk 9 "say" (f_sayD K c_Desk) := X40.mt (sayD_of K c_Desk _)
  have C41 : Cl P w K mg base 10 "_law_all" (f_lawAll K c_Desk) := ok__law_all (P := P) (w := w) (base := base) F41 (PySem.W.mg_of X G a41) TD C40
  have C42 : Cl P w K mg base 10 "_law_deed" (f_lawDeed K c_Desk) := ok__law_deed (P := P) (w := w) (base := base) F42 (PySem.W.mg_of X G a42) TD y_str y_len C7 C14 C22 C40
  have C43 : Cl P w K mg base 10 "_law_right" (f_deskRight K c_Desk) := ok__law_right (P := P) (w := w) (base := base) F43 (PySem.W.mg_of X G a43) TD y_tuple y_int y_str C7 C33 C34 C37 C40
  exact ok_law F44 TD MK y_range y_max y_min y_len y_enumerate y_int y_str C13 C14 C41 C42 C43 C40
end
end Law
open PySem PySem.W PyProof.Rows
set_option maxRecDepth 100000 in
set_option maxHeartbeats 0 in
theorem PySem.Challenge.cw_kindsgathered_k84_whole_desks_holds : PySem.Challenge.rw_kindsgathered_k84_whole_desks.Holds := by
  w_on; o_law; k_head; (case hw => w_witness2)
  k_fill
  refine DL.walkG (l := PySem.Challenge.rw_kindsgathered_k84_whole_desks) (n := 63) (k := 11) (x := "_law_script") (sp := DL.f_law) rfl (by decide) rfl ⟨rfl, by decide, by decide⟩ (fun w h Y => PySem.W.kIn_of Y) ?F Law.law_ends
  case F =>
    intro w mg fa h KX G hmg
    refine' Law.all_mk KX G hmg ?aD ?dpg ?dhd ?dpo ?dsa ?dmk ?dkc ?dns ?dnr ?dnp ?a1 ?l1 ?c1 ?k1 ?a2 ?l2 ?c2 ?k2 ?a3 ?l3 ?c3 ?k3 ?a4 ?l4 ?c4 ?k4 ?a5 ?l5 ?c5 ?k5 ?a6 ?l6 ?c6 ?k6 ?a7 ?l7 ?c7 ?k7 ?a8 ?l8 ?c8 ?k8 ?a9 ?l9 ?c9 ?k9 ?a10 ?l10 ?c10 ?k10 ?a11 ?i11 ?l11 ?c11 ?k11 ?a12 ?i12 ?l12 ?c12 ?k12 ?a13 ?l13 ?c13 ?k13 ?a14 ?l14 ?c14 ?k14 ?a15 ?l15 ?c15 ?k15 ?a16 ?l16 ?c16 ?k16 ?a17 ?l17 ?c17 ?k17 ?a18 ?l18 ?c18 ?k18 ?a19 ?l19 ?c19 ?k19 ?a20 ?i20 ?l20 ?c20 ?k20 ?a21 ?i21 ?l21 ?c21 ?k21 ?a22 ?l22 ?c22 ?k22 ?a23 ?l23 ?c23 ?k23 ?a24 ?l24 ?c24 ?k24 ?a25 ?l25 ?c25 ?k25 ?a26 ?i26 ?l26 ?c26 ?k26 ?a27 ?i27 ?l27 ?c27 ?k27 ?a28 ?l28 ?c28 ?k28 ?a29 ?l29 ?c29 ?k29 ?a30 ?l30 ?c30 ?k30 ?a31 ?l31 ?c31 ?k31 ?a32 ?l32 ?c32 ?k32 ?a33 ?l33 ?c33 ?k33 ?a34 ?l34 ?c34 ?k34 ?a35 ?l35 ?c35 ?k35 ?a36 ?i36 ?l36 ?c36 ?k36 ?a37 ?l37 ?c37 ?k37 ?a38 ?i38 ?l38 ?c38 ?k38 ?a39 ?i39 ?l39 ?c39 ?k39 ?a40 ?i40 ?l40 ?c40 ?k40 ?a41 ?l41 ?c41 ?k41 ?a42 ?l42 ?c42 ?k42 ?a43 ?l43 ?c43 ?k43 ?a44 ?l44 ?c44 ?k44 ?z_abs ?z_all ?z_bool ?z_divmod ?z_enumerate ?z_int ?z_isinstance ?z_len ?z_list ?z_max ?z_min ?z_range ?z_sorted ?z_str ?z_sum ?z_tuple ?g_FIGURES_desk ?g_FIGURES_texts ?g_MOST_DRAWS ?g_MOST_KINDS ?g_MOST_PRICE ?g_MOST_SHARE ?g_NOUGHT ?o_NOUGHT ?n_GatherError ?n_NoKind ?n_NoLine ?n_NoNumber ?n_NoShares ?n_NoText ?q_NoKind ?kp_NoKind ?bs_NoKind ?ty_NoKind ?q_NoLine ?kp_NoLine ?bs_NoLine ?ty_NoLine ?q_NoNumber ?kp_NoNumber ?bs_NoNumber ?ty_NoNumber
    (case aD => k_is)
    (case dpg => k_is)
    (case dhd => k_is)
    (case dpo => k_is)
    (case dsa => k_is)
    (case dmk => k_is)
    (case dkc => k_is)
    (case dns => k_is)
    (case dnr => k_is)
    (case dnp => k_is)
    (case a1 => k_is)
    (case l1 => k_is)
    (case c1 => k_is)
    (case k1 => k_is)
    (case a2 => k_is)
    (case l2 => k_is)
    (case c2 => k_is)
    (case k2 => k_is)
    (case a3 => k_is)
    (case l3 => k_is)
    (case c3 => k_is)
    (case k3 => k_is)
    (case a4 => k_is)
    (case l4 => k_is)
    (case c4 => k_is)
    (case k4 => k_is)
    (case a5 => k_is)
    (case l5 => k_is)
    (case c5 => k_is)
    (case k5 => k_is)
    (case a6 => k_is)
    (case l6 => k_is)
    (case c6 => k_is)
    (case k6 => k_is)
    (case a7 => k_is)
    (case l7 => k_is)
    (case c7 => k_is)
    (case k7 => k_is)
    (case a8 => k_is)
    (case l8 => k_is)
    (case c8 => k_is)
    (case k8 => k_is)
    (case a9 => k_is)
    (case l9 => k_is)
    (case c9 => k_is)
    (case k9 => k_is)
    (case a10 => k_is)
    (case l10 => k_is)
    (case c10 => k_is)
    (case k10 => k_is)
    (case a11 => k_is)
    (case i11 => k_is)
    (case l11 => k_is)
    (case c11 => k_is)
    (case k11 => k_is)
    (case a12 => k_is)
    (case i12 => k_is)
    (case l12 => k_is)
    (case c12 => k_is)
    (case k12 => k_is)
    (case a13 => k_is)
    (case l13 => k_is)
    (case c13 => k_is)
    (case k13 => k_is)
    (case a14 => k_is)
    (case l14 => k_is)
    (case c14 => k_is)
    (case k14 => k_is)
    (case a15 => k_is)
    (case l15 => k_is)
    (case c15 => k_is)
    (case k15 => k_is)
    (case a16 => k_is)
    (case l16 => k_is)
    (case c16 => k_is)
    (case k16 => k_is)
    (case a17 => k_is)
    (case l17 => k_is)
    (case c17 => k_is)
    (case k17 => k_is)
    (case a18 => k_is)
    (case l18 => k_is)
    (case c18 => k_is)
    (case k18 => k_is)
    (case a19 => k_is)
    (case l19 => k_is)
    (case c19 => k_is)
    (case k19 => k_is)
    (case a20 => k_is)
    (case i20 => k_is)
    (case l20 => k_is)
    (case c20 => k_is)
    (case k20 => k_is)
    (case a21 => k_is)
    (case i21 => k_is)
    (case l21 => k_is)
    (case c21 => k_is)
    (case k21 => k_is)
    (case a22 => k_is)
    (case l22 => k_is)
    (case c22 => k_is)
    (case k22 => k_is)
    (case a23 => k_is)
    (case l23 => k_is)
    (case c23 => k_is)
    (case k23 => k_is)
    (case a24 => k_is)
    (case l24 => k_is)
    (case c24 => k_is)
    (case k24 => k_is)
    (case a25 => k_is)
    (case l25 => k_is)
    (case c25 => k_is)
    (case k25 => k_is)
    (case a26 => k_is)
    (case i26 => k_is)
    (case l26 => k_is)
    (case c26 => k_is)
    (case k26 => k_is)
    (case a27 => k_is)
    (case i27 => k_is)
    (case l27 => k_is)
    (case c27 => k_is)
    (case k27 => k_is)
    (case a28 => k_is)
    (case l28 => k_is)
    (case c28 => k_is)
    (case k28 => k_is)
    (case a29 => k_is)
    (case l29 => k_is)
    (case c29 => k_is)
    (case k29 => k_is)
    (case a30 => k_is)
    (case l30 => k_is)
    (case c30 => k_is)
    (case k30 => k_is)
    (case a31 => k_is)
    (case l31 => k_is)
    (case c31 => k_is)
    (case k31 => k_is)
    (case a32 => k_is)
    (case l32 => k_is)
    (case c32 => k_is)
    (case k32 => k_is)
    (case a33 => k_is)
    (case l33 => k_is)
    (case c33 => k_is)
    (case k33 => k_is)
    (case a34 => k_is)
    (case l34 => k_is)
    (case c34 => k_is)
    (case k34 => k_is)
    (case a35 => k_is)
    (case l35 => k_is)
    (case c35 => k_is)
    (case k35 => k_is)
    (case a36 => k_is)
    (case i36 => k_is)
    (case l36 => k_is)
    (case c36 => k_is)
    (case k36 => k_is)
    (case a37 => k_is)
    (case l37 => k_is)
    (case c37 => k_is)
    (case k37 => k_is)
    (case a38 => k_is)
    (case i38 => k_is)
    (case l38 => k_is)
    (case c38 => k_is)
    (case k38 => k_is)
    (case a39 => k_is)
    (case i39 => k_is)
    (case l39 => k_is)
    (case c39 => k_is)
    (case k39 => k_is)
    (case a40 => k_is)
    (case i40 => k_is)
    (case l40 => k_is)
    (case c40 => k_is)
    (case k40 => k_is)
    (case a41 => k_is)
    (case l41 => k_is)
    (case c41 => k_is)
    (case k41 => k_is)
    (case a42 => k_is)
    (case l42 => k_is)
    (case c42 => k_is)
    (case k42 => k_is)
    (case a43 => k_is)
    (case l43 => k_is)
    (case c43 => k_is)
    (case k43 => k_is)
    (case a44 => k_is)
    (case l44 => k_is)
    (case c44 => k_is)
    (case k44 => k_is)
    (case z_abs => k_is)
    (case z_all => k_is)
    (case z_bool => k_is)
    (case z_divmod => k_is)
    (case z_enumerate => k_is)
    (case z_int => k_is)
    (case z_isinstance => k_is)
    (case z_len => k_is)
    (case z_list => k_is)
    (case z_max => k_is)
    (case z_min => k_is)
    (case z_range => k_is)
    (case z_sorted => k_is)
    (case z_str => k_is)
    (case z_sum => k_is)
    (case z_tuple => k_is)
    (case g_FIGURES_desk => k_is)
    (case g_FIGURES_texts => k_is)
    (case g_MOST_DRAWS => k_is)
    (case g_MOST_KINDS => k_is)
    (case g_MOST_PRICE => k_is)
    (case g_MOST_SHARE => k_is)
    (case g_NOUGHT => k_is)
    (case o_NOUGHT => k_is)
    (case n_GatherError => k_is)
    (case n_NoKind => k_is)
    (case n_NoLine => k_is)
    (case n_NoNumber => k_is)
    (case n_NoShares => k_is)
    (case n_NoText => k_is)
    (case q_NoKind => k_exc)
    (case kp_NoKind => k_is)
    (case bs_NoKind => k_is)
    (case ty_NoKind => k_is)
    (case q_NoLine => k_exc)
    (case kp_NoLine => k_is)
    (case bs_NoLine => k_is)
    (case ty_NoLine => k_is)
    (case q_NoNumber => k_exc)
    (case kp_NoNumber => k_is)
    (case bs_NoNumber => k_is)
    (case ty_NoNumber => k_is)
