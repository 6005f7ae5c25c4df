import PyProof.Rows.All
import Wide.All
import OpenK.AllK
import Wide.FinOn
import HandS.ForMost
import HandS.ForExc
import HandS.IsInst
import HandS.Wide
import HandS.TupAny
import HandS.TupMul
import HandS.Conv
import HandS.Deep
import PyProof.ReprRoads
import PyProof.SumWalkG
import PyProof.WalksMore
import HandS.EndBits
import PyProof.ReprLen
import HandS.TupLe
import HandS.Text
import HandS.StrSplit
import HandS.Iter
import HandS.Walk
import HandS.TryOnly
import KE.SortKeyHeap
import HandS.SortKw
import KE.KDictDisplayH
import HandS.SortInts
import HandS.Zip
import KE.GoesMore
import KE.KDictWalk
import HandS.Dict
import KE.KDictPairs
import KE.KDictCopyH
import HandS.Style
import HandS.HotCalls
import HandS.ExcIs
import HandS.ExcCtx
import HandS.TupLen
import KE.SortData
import HandS.DictTup
import PyProof.StrLawsRepr
import KE.KDictKeyed
import HandS.CallLocal
import PyProof.ReprReads
import PyProof.ReprText
import PyProof.Rows.ReprOcc
import HandS.WordsDict
import KE.KRevSl
import PySem.Challenge.RW_kindsgathered_k61_plans_and_costs
set_option Elab.async false
set_option linter.all false
set_option maxRecDepth 100000
set_option maxHeartbeats 4000000
namespace DL
open PySem L2
/-! data behind values -/
def keyD : Key → PyData
  | .inl i => .int i
  | .inr x => .str x
mutual
def Rp (K : PySem.W.Frag) (G : Hp) : PyData → V → Prop
  | .none, v => v = .non
  | .bool b, v => v = .bl b
  | .int i, v => v = .int i
  | .str s, v => v = .str s
  | .list ds, v => ∃ a xs, v = .ref a ∧ Rd G a (.lst xs) ∧ RpAll K G ds xs
  | .tuple ds, v => ∃ a xs, v = .ref a ∧ SqT K G a xs ∧ RpAll K G ds xs
  | .dict kvs, v => ∃ a, v = .ref a ∧ ((∃ es, G a = some (.dT es) ∧ RpT K G kvs es) ∨ (∃ es, G a = some (.dK es) ∧ RpK K G kvs es))
def RpAll (K : PySem.W.Frag) (G : Hp) : List PyData → List V → Prop
  | [], xs => xs = []
  | d :: ds, xs => ∃ x r, xs = x :: r ∧ Rp K G d x ∧ RpAll K G ds r
def RpT (K : PySem.W.Frag) (G : Hp) : List (PyData × PyData) → List (List Key × V) → Prop
  | [], es => es = []
  | (k, d) :: r, es => ∃ ks v t, es = (ks, v) :: t ∧ k = .tuple (ks.map keyD) ∧ Rp K G d v ∧ RpT K G r t
def RpK (K : PySem.W.Frag) (G : Hp) : List (PyData × PyData) → List (Key × V) → Prop
  | [], es => es = []
  | (k, d) :: r, es => ∃ ks v t, es = (ks, v) :: t ∧ k = keyD ks ∧ Rp K G d v ∧ RpK K G r t
end
def Le (G G' : Hp) : Prop := ∀ a o, G a = some o → G' a = some o
theorem Le.refl (G : Hp) : Le G G := fun _ _ h => h
theorem Le.trans {G G1 G2 : Hp} (a : Le G G1) (b : Le G1 G2) : Le G G2 := fun x o h => b x o (a x o h)
theorem Le.new {G : Hp} {p : Addr} {o : HO} (h : G p = none) : Le G (upd G p o) := fun a u e => by
  rw [upd_ne (ne_of_none e h)]; exact e
theorem Le.rd {G G' : Hp} {a : Addr} {u : HO} (e : Le G G') (h : Rd G a u) : Rd G' a u := by
  rcases h with h | ⟨o, h⟩
  · exact Or.inl (e a _ h)
  · exact Or.inr ⟨o, e a _ h⟩
theorem Le.sqL {K : PySem.W.Frag} {G G' : Hp} {a : Addr} {xs : List V} (e : Le G G') (h : SqL K G a xs) : SqL K G' a xs := by
  rcases h with h | h
  · exact Or.inl (e.rd h)
  · exact Or.inr h
theorem Le.sqT {K : PySem.W.Frag} {G G' : Hp} {a : Addr} {xs : List V} (e : Le G G') (h : SqT K G a xs) : SqT K G' a xs := by
  rcases h with h | h
  · exact Or.inl (e.rd h)
  · exact Or.inr h
mutual
theorem Rp.mono {K : PySem.W.Frag} {G G' : Hp} (e : Le G G') : ∀ (d : PyData) (v : V), Rp K G d v → Rp K G' d v
  | .none, v, h => by rw [Rp] at h ⊢; exact h
  | .bool b, v, h => by rw [Rp] at h ⊢; exact h
  | .int i, v, h => by rw [Rp] at h ⊢; exact h
  | .str s, v, h => by rw [Rp] at h ⊢; exact h
  | .list ds, v, h => by
    rw [Rp] at h ⊢
    obtain ⟨a, xs, h1, h2, h3⟩ := h
    exact ⟨a, xs, h1, e.rd h2, RpAll.mono e ds xs h3⟩
  | .tuple ds, v, h => by
    rw [Rp] at h ⊢
    obtain ⟨a, xs, h1, h2, h3⟩ := h
    exact ⟨a, xs, h1, e.sqT h2, RpAll.mono e ds xs h3⟩
  | .dict kvs, v, h => by
    rw [Rp] at h ⊢
    obtain ⟨a, h1, h2⟩ := h
    refine ⟨a, h1, ?_⟩
    rcases h2 with ⟨es, h3, h4⟩ | ⟨es, h3, h4⟩
    · exact Or.inl ⟨es, e _ _ h3, RpT.mono e kvs es h4⟩
    · exact Or.inr ⟨es, e _ _ h3, RpK.mono e kvs es h4⟩
theorem RpAll.mono {K : PySem.W.Frag} {G G' : Hp} (e : Le G G') : ∀ (ds : List PyData) (xs : List V), RpAll K G ds xs → RpAll K G' ds xs
  | [], xs, h => by rw [RpAll] at h ⊢; exact h
  | d :: ds, xs, h => by
    rw [RpAll] at h ⊢
    obtain ⟨x, r, h1, h2, h3⟩ := h
    exact ⟨x, r, h1, Rp.mono e d x h2, RpAll.mono e ds r h3⟩
theorem RpT.mono {K : PySem.W.Frag} {G G' : Hp} (e : Le G G') : ∀ (kvs : List (PyData × PyData)) (es : List (List Key × V)), RpT K G kvs es → RpT K G' kvs es
  | [], es, h => by rw [RpT] at h ⊢; exact h
  | (k, d) :: r, es, h => by
    rw [RpT] at h ⊢
    obtain ⟨ks, v, t, h1, h2, h3, h4⟩ := h
    exact ⟨ks, v, t, h1, h2, Rp.mono e d v h3, RpT.mono e r t h4⟩
theorem RpK.mono {K : PySem.W.Frag} {G G' : Hp} (e : Le G G') : ∀ (kvs : List (PyData × PyData)) (es : List (Key × V)), RpK K G kvs es → RpK K G' kvs es
  | [], es, h => by rw [RpK] at h ⊢; exact h
  | (k, d) :: r, es, h => by
    rw [RpK] at h ⊢
    obtain ⟨ks, v, t, h1, h2, h3, h4⟩ := h
    exact ⟨ks, v, t, h1, h2, Rp.mono e d v h3, RpK.mono e r t h4⟩
end
section
variable {K : PySem.W.Frag} {G : Hp} {v : V}
theorem rp_none : Rp K G .none v ↔ v = .non := by rw [Rp]
theorem rp_bool {b : Bool} : Rp K G (.bool b) v ↔ v = .bl b := by rw [Rp]
theorem rp_int {i : Int} : Rp K G (.int i) v ↔ v = .int i := by rw [Rp]
theorem rp_str {s : Str} : Rp K G (.str s) v ↔ v = .str s := by rw [Rp]
theorem rp_list {ds : List PyData} : Rp K G (.list ds) v ↔ ∃ a xs, v = .ref a ∧ Rd G a (.lst xs) ∧ RpAll K G ds xs := by rw [Rp]
theorem rp_tuple {ds : List PyData} : Rp K G (.tuple ds) v ↔ ∃ a xs, v = .ref a ∧ SqT K G a xs ∧ RpAll K G ds xs := by rw [Rp]
theorem rpa_nil {xs : List V} : RpAll K G [] xs ↔ xs = [] := by rw [RpAll]
theorem rpa_cons {d : PyData} {ds : List PyData} {xs : List V} : RpAll K G (d :: ds) xs ↔ ∃ x r, xs = x :: r ∧ Rp K G d x ∧ RpAll K G ds r := by rw [RpAll]
end
theorem RpAll.length {K : PySem.W.Frag} {G : Hp} : ∀ {ds : List PyData} {xs : List V}, RpAll K G ds xs → xs.length = ds.length
  | [], xs, h => by rw [RpAll] at h; rw [h]; rfl
  | d :: ds, xs, h => by
    rw [RpAll] at h
    obtain ⟨x, r, h1, _, h3⟩ := h
    rw [h1, List.length_cons, List.length_cons, RpAll.length h3]
theorem RpAll.get {K : PySem.W.Frag} {G : Hp} : ∀ {ds : List PyData} {xs : List V} {i : Nat} {x : V}, RpAll K G ds xs → xs[i]? = some x → ∃ d, ds[i]? = some d ∧ Rp K G d x
  | [], xs, i, x, h, e => by rw [RpAll] at h; subst h; simp at e
  | d :: ds, xs, 0, x, h, e => by
    rw [RpAll] at h
    obtain ⟨y, r, h1, h2, _⟩ := h
    subst h1
    simp at e
    subst e
    exact ⟨d, rfl, h2⟩
  | d :: ds, xs, i + 1, x, h, e => by
    rw [RpAll] at h
    obtain ⟨y, r, h1, _, h3⟩ := h
    subst h1
    obtain ⟨z, h4, h5⟩ := RpAll.get (i := i) (x := x) h3 (by simpa using e)
    exact ⟨z, by simpa using h4, h5⟩
theorem RpAll.at {K : PySem.W.Frag} {G : Hp} : ∀ {ds : List PyData} {xs : List V} {i : Nat} {d : PyData}, RpAll K G ds xs → ds[i]? = some d → ∃ x, xs[i]? = some x ∧ Rp K G d x
  | [], xs, i, d, h, e => by simp at e
  | d0 :: ds, xs, 0, d, h, e => by
    rw [RpAll] at h
    obtain ⟨y, r, h1, h2, _⟩ := h
    subst h1
    simp at e
    subst e
    exact ⟨y, rfl, h2⟩
  | d0 :: ds, xs, i + 1, d, h, e => by
    rw [RpAll] at h
    obtain ⟨y, r, h1, _, h3⟩ := h
    subst h1
    obtain ⟨z, h4, h5⟩ := RpAll.at (i := i) (d := d) h3 (by simpa using e)
    exact ⟨z, by simpa using h4, h5⟩
theorem RpAll.append {K : PySem.W.Frag} {G : Hp} : ∀ {ds es : List PyData} {xs ys : List V}, RpAll K G ds xs → RpAll K G es ys → RpAll K G (ds ++ es) (xs ++ ys)
  | [], es, xs, ys, h, g => by rw [RpAll] at h; subst h; exact g
  | d :: ds, es, xs, ys, h, g => by
    rw [RpAll] at h
    obtain ⟨y, r, h1, h2, h3⟩ := h
    subst h1
    rw [List.cons_append, List.cons_append, RpAll]
    exact ⟨y, r ++ ys, rfl, h2, RpAll.append h3 g⟩
theorem RpAll.ints {K : PySem.W.Frag} {G : Hp} : ∀ {ns : List Int} {xs : List V}, RpAll K G (ns.map PyData.int) xs → xs = ns.map V.int
  | [], xs, h => by rw [List.map_nil, RpAll] at h; rw [h]; rfl
  | n :: ns, xs, h => by
    rw [List.map_cons, RpAll] at h
    obtain ⟨y, r, h1, h2, h3⟩ := h
    rw [Rp] at h2
    rw [h1, h2, RpAll.ints h3]; rfl
theorem RpAll.bools {K : PySem.W.Frag} {G : Hp} : ∀ {ns : List Bool} {xs : List V}, RpAll K G (ns.map PyData.bool) xs → xs = ns.map V.bl
  | [], xs, h => by rw [List.map_nil, RpAll] at h; rw [h]; rfl
  | n :: ns, xs, h => by
    rw [List.map_cons, RpAll] at h
    obtain ⟨y, r, h1, h2, h3⟩ := h
    rw [Rp] at h2
    rw [h1, h2, RpAll.bools h3]; rfl
theorem RpAll.strs {K : PySem.W.Frag} {G : Hp} : ∀ {ns : List Str} {xs : List V}, RpAll K G (ns.map PyData.str) xs → xs = ns.map V.str
  | [], xs, h => by rw [List.map_nil, RpAll] at h; rw [h]; rfl
  | n :: ns, xs, h => by
    rw [List.map_cons, RpAll] at h
    obtain ⟨y, r, h1, h2, h3⟩ := h
    rw [Rp] at h2
    rw [h1, h2, RpAll.strs h3]; rfl
theorem rpa_ints {K : PySem.W.Frag} {G : Hp} : ∀ (ns : List Int), RpAll K G (ns.map PyData.int) (ns.map V.int)
  | [] => by rw [List.map_nil, RpAll]; rfl
  | n :: ns => by
    rw [List.map_cons, List.map_cons, RpAll]
    exact ⟨_, _, rfl, by rw [Rp], rpa_ints ns⟩
/-! values at this level -/
inductive Val where
  | d (x : PyData)
  | v (w : V)
  | scr (ns : List Int)
  | any
  /-- a tuple of ints, made by the code itself -/
  | t (ns : List Int)
  /-- a list of such tuples, that stays as it is -/
  | lt (nss : List (List Int))
  /-- a pair of such a tuple and data -/
  | p (ns : List Int) (x : PyData)
  /-- a tuple of ints without attributes of its own -/
  | f (ns : List Int)
  /-- any other thing that stays as it is, by what is true of it -/
  | g (P : Hp → V → Prop)
def TAll (G : Hp) : List (List Int) → List V → Prop
  | [], xs => xs = []
  | ns :: r, xs => ∃ b t, xs = .ref b :: t ∧ G b = some (.tup (ns.map V.int)) ∧ TAll G r t
theorem TAll.mono {G G' : Hp} (e : Le G G') : ∀ {nss : List (List Int)} {xs : List V}, TAll G nss xs → TAll G' nss xs
  | [], xs, h => h
  | ns :: r, xs, h => by
    obtain ⟨b, t, h1, h2, h3⟩ := h
    exact ⟨b, t, h1, e _ _ h2, TAll.mono e h3⟩
theorem TAll.all {K : PySem.W.Frag} {G : Hp} : ∀ {nss : List (List Int)} {xs : List V}, TAll G nss xs → RpAll K G (nss.map fun ns => .tuple (ns.map PyData.int)) xs
  | [], xs, h => by rw [List.map_nil, RpAll]; exact h
  | ns :: r, xs, h => by
    obtain ⟨b, t, h1, h2, h3⟩ := h
    rw [List.map_cons, RpAll]
    exact ⟨_, t, h1, rp_tuple.mpr ⟨b, _, rfl, SqT.of h2, rpa_ints ns⟩, TAll.all h3⟩
inductive VR (K : PySem.W.Frag) (G : Hp) : Val → V → Prop
  | d {x : PyData} {v : V} (h : Rp K G x v) : VR K G (.d x) v
  | v {w : V} : VR K G (.v w) w
  | scr {ns : List Int} {a : Addr} (h : SqL K G a (ns.map V.int)) : VR K G (.scr ns) (.ref a)
  | any {v : V} : VR K G .any v
  | t {ns : List Int} {a : Addr} (h : G a = some (.tup (ns.map V.int))) : VR K G (.t ns) (.ref a)
  | lt {nss : List (List Int)} {a : Addr} {xs : List V} (h : Rd G a (.lst xs)) (h2 : TAll G nss xs) : VR K G (.lt nss) (.ref a)
  | p {ns : List Int} {x : PyData} {a b : Addr} {w : V} (h : G a = some (.tup [.ref b, w])) (h2 : G b = some (.tup (ns.map V.int))) (h3 : Rp K G x w) : VR K G (.p ns x) (.ref a)
  | f {ns : List Int} {a : Addr} {o : Obj} (h : G a = some (.frz o (.tup (ns.map V.int)))) (h1 : o.cls = .type "tuple") (h2 : o.dict = none) : VR K G (.f ns) (.ref a)
  | g {P : Hp → V → Prop} {v : V} (h : P G v) (h1 : ∀ G G', Le G G' → P G v → P G' v) : VR K G (.g P) v
theorem VR.mono {K : PySem.W.Frag} {G G' : Hp} (e : Le G G') {r : Val} {v : V} (h : VR K G r v) : VR K G' r v := by
  cases h with
  | d h => exact .d (Rp.mono e _ v h)
  | v => exact .v
  | scr h => exact .scr (e.sqL h)
  | any => exact .any
  | t h => exact .t (e _ _ h)
  | lt h h2 => exact .lt (e.rd h) (h2.mono e)
  | p h h2 h3 => exact .p (e _ _ h) (e _ _ h2) (Rp.mono e _ _ h3)
  | f h h1 h2 => exact .f (e _ _ h) h1 h2
  | g h h1 => exact .g (h1 _ _ e h) h1
theorem VR.rp {K : PySem.W.Frag} {G : Hp} {x : PyData} {v : V} (h : VR K G (.d x) v) : Rp K G x v := by
  cases h with
  | d h => exact h
theorem VR.eq {K : PySem.W.Frag} {G : Hp} {w v : V} (h : VR K G (.v w) v) : v = w := by
  cases h with
  | v => rfl
def VRs (K : PySem.W.Frag) (G : Hp) : List Val → List V → Prop
  | [], xs => xs = []
  | r :: rs, xs => ∃ x t, xs = x :: t ∧ VR K G r x ∧ VRs K G rs t
theorem VRs.mono {K : PySem.W.Frag} {G G' : Hp} (e : Le G G') : ∀ {rs : List Val} {xs : List V}, VRs K G rs xs → VRs K G' rs xs
  | [], xs, h => h
  | r :: rs, xs, h => by
    obtain ⟨x, t, h1, h2, h3⟩ := h
    exact ⟨x, t, h1, h2.mono e, VRs.mono e h3⟩
theorem VRs.length {K : PySem.W.Frag} {G : Hp} : ∀ {rs : List Val} {xs : List V}, VRs K G rs xs → xs.length = rs.length
  | [], xs, h => by
    have h : xs = [] := h
    rw [h]; rfl
  | r :: rs, xs, h => by
    obtain ⟨x, t, h1, _, h3⟩ := h
    rw [h1, List.length_cons, List.length_cons, VRs.length h3]
theorem VRs.ofAll {K : PySem.W.Frag} {G : Hp} : ∀ {ds : List PyData} {xs : List V}, RpAll K G ds xs → VRs K G (ds.map Val.d) xs
  | [], xs, h => by rw [RpAll] at h; exact h
  | d :: ds, xs, h => by
    rw [RpAll] at h
    obtain ⟨x, r, h1, h2, h3⟩ := h
    exact ⟨x, r, h1, .d h2, VRs.ofAll h3⟩
theorem VRs.toAll {K : PySem.W.Frag} {G : Hp} : ∀ {ds : List PyData} {xs : List V}, VRs K G (ds.map Val.d) xs → RpAll K G ds xs
  | [], xs, h => by rw [RpAll]; exact h
  | d :: ds, xs, h => by
    obtain ⟨x, r, h1, h2, h3⟩ := h
    rw [RpAll]
    exact ⟨x, r, h1, h2.rp, VRs.toAll h3⟩
theorem VRs.append {K : PySem.W.Frag} {G : Hp} : ∀ {rs ss : List Val} {xs ys : List V}, VRs K G rs xs → VRs K G ss ys → VRs K G (rs ++ ss) (xs ++ ys)
  | [], ss, xs, ys, h, g => by
    have h : xs = [] := h
    subst h; exact g
  | r :: rs, ss, xs, ys, h, g => by
    obtain ⟨x, t, h1, h2, h3⟩ := h
    subst h1
    exact ⟨x, t ++ ys, rfl, h2, VRs.append h3 g⟩
/-! slots -/
def Sl (K : PySem.W.Frag) (G : Hp) : List Val → St → Prop
  | [], s => s = []
  | r :: rs, s => ∃ x t, s = x :: t ∧ (r = .any ∨ ∃ v, x = some v ∧ VR K G r v) ∧ Sl K G rs t
theorem Sl.mono {K : PySem.W.Frag} {G G' : Hp} (e : Le G G') : ∀ {rs : List Val} {s : St}, Sl K G rs s → Sl K G' rs s
  | [], s, h => h
  | r :: rs, s, h => by
    obtain ⟨x, t, h1, h2, h3⟩ := h
    refine ⟨x, t, h1, ?_, Sl.mono e h3⟩
    rcases h2 with h2 | ⟨v, h2, h4⟩
    · exact Or.inl h2
    · exact Or.inr ⟨v, h2, h4.mono e⟩
theorem Sl.get {K : PySem.W.Frag} {G : Hp} : ∀ {rs : List Val} {s : St} {i : Nat} {r : Val}, Sl K G rs s → rs[i]? = some r → r ≠ .any → ∃ v, s[i]? = some (some v) ∧ VR K G r v
  | [], s, i, r, h, e, _ => by simp at e
  | r0 :: rs, s, 0, r, h, e, n => by
    obtain ⟨x, t, h1, h2, h3⟩ := h
    subst h1
    have e : r0 = r := by simpa using e
    subst e
    rcases h2 with h2 | ⟨v, h2, h4⟩
    · exact absurd h2 n
    · exact ⟨v, by rw [h2]; rfl, h4⟩
  | r0 :: rs, s, i + 1, r, h, e, n => by
    obtain ⟨x, t, h1, h2, h3⟩ := h
    subst h1
    obtain ⟨v, h5, h6⟩ := Sl.get (i := i) (r := r) h3 (by simpa using e) n
    exact ⟨v, by simpa using h5, h6⟩
theorem Sl.set {K : PySem.W.Frag} {G : Hp} {r : Val} {v : V} (hv : VR K G r v) : ∀ {rs : List Val} {s : St} (i : Nat), Sl K G rs s → Sl K G (rs.set i r) (s.set i (some v))
  | [], s, i, h => by
    have h : s = [] := h
    subst h; exact rfl
  | r0 :: rs, s, 0, h => by
    obtain ⟨x, t, h1, h2, h3⟩ := h
    subst h1
    exact ⟨some v, t, rfl, Or.inr ⟨v, rfl, hv⟩, h3⟩
  | r0 :: rs, s, i + 1, h => by
    obtain ⟨x, t, h1, h2, h3⟩ := h
    subst h1
    exact ⟨x, t.set i (some v), rfl, h2, Sl.set hv i h3⟩
theorem Sl.forget {K : PySem.W.Frag} {G : Hp} : ∀ {rs : List Val} {s : St} (i : Nat), Sl K G rs s → Sl K G (rs.set i .any) (s.set i none)
  | [], s, i, h => by
    have h : s = [] := h
    subst h; exact rfl
  | r0 :: rs, s, 0, h => by
    obtain ⟨x, t, h1, h2, h3⟩ := h
    subst h1
    exact ⟨none, t, rfl, Or.inl rfl, h3⟩
  | r0 :: rs, s, i + 1, h => by
    obtain ⟨x, t, h1, h2, h3⟩ := h
    subst h1
    exact ⟨x, t.set i none, rfl, h2, Sl.forget i h3⟩
theorem Sl.length {K : PySem.W.Frag} {G : Hp} : ∀ {rs : List Val} {s : St}, Sl K G rs s → s.length = rs.length
  | [], s, h => by
    have h : s = [] := h
    rw [h]; rfl
  | r :: rs, s, h => by
    obtain ⟨x, t, h1, _, h3⟩ := h
    rw [h1, List.length_cons, List.length_cons, Sl.length h3]
theorem Sl.anys {K : PySem.W.Frag} {G : Hp} : ∀ (n : Nat), Sl K G (List.replicate n .any) (List.replicate n none)
  | 0 => rfl
  | n + 1 => ⟨none, List.replicate n none, rfl, Or.inl rfl, Sl.anys n⟩
theorem Sl.start {K : PySem.W.Frag} {G : Hp} : ∀ {rs : List Val} {vs : List V} (n : Nat), VRs K G rs vs → Sl K G (rs ++ List.replicate n .any) (vs.map some ++ List.replicate n none)
  | [], vs, n, h => by
    have h : vs = [] := h
    subst h; exact Sl.anys n
  | r :: rs, vs, n, h => by
    obtain ⟨x, t, h1, h2, h3⟩ := h
    subst h1
    exact ⟨some x, _, rfl, Or.inr ⟨x, rfl, h2⟩, Sl.start n h3⟩
/-- less told -/
def Wk : List Val → List Val → Prop
  | [], t => t = []
  | r :: rs, t => ∃ q u, t = q :: u ∧ (q = .any ∨ q = r) ∧ Wk rs u
theorem Sl.weak {K : PySem.W.Frag} {G : Hp} : ∀ {rs ts : List Val} {s : St}, Wk rs ts → Sl K G rs s → Sl K G ts s
  | [], ts, s, w, h => by
    have w : ts = [] := w
    subst w; exact h
  | r :: rs, ts, s, w, h => by
    obtain ⟨q, u, w1, w2, w3⟩ := w
    obtain ⟨x, t, h1, h2, h3⟩ := h
    subst w1
    refine ⟨x, t, h1, ?_, Sl.weak w3 h3⟩
    rcases w2 with w2 | w2
    · exact Or.inl w2
    · rw [w2]; exact h2
/-! what may change -/
inductive MO where
  | lst (rs : List Val)
  | dT (kvs : List (List Key × Val))
  | dK (kvs : List (Key × Val))
  /-- a dict that is being walked -/
  | lk (od : Obj) (es : List (List Key × V)) (kvs : List (List Key × Val))
  /-- a list of one whole number -/
  | box
  /-- any other thing, by what is true of it -/
  | g (P : Hp → Hp → Addr → Prop)
abbrev Mm := Addr → Option MO
def put (m : Mm) (a : Addr) (o : MO) : Mm := fun b => if b = a then some o else m b
def del (m : Mm) (a : Addr) : Mm := fun b => if b = a then none else m b
theorem put_same {m : Mm} {a : Addr} {o : MO} : put m a o a = some o := by unfold put; rw [if_pos rfl]
theorem put_ne {m : Mm} {a b : Addr} {o : MO} (h : b ≠ a) : put m a o b = m b := by unfold put; rw [if_neg h]
theorem put_put {m : Mm} {a : Addr} {o u : MO} : put (put m a o) a u = put m a u := by
  funext b; unfold put; split <;> rfl
theorem ne_of_get {m : Mm} {a b : Addr} {o : MO} (h : m a = some o) (g : m b = none) : a ≠ b := fun e => by
  rw [e, g] at h; cases h
def KVs (K : PySem.W.Frag) (G : Hp) {α : Type} : List (α × Val) → List (α × V) → Prop
  | [], es => es = []
  | (k, r) :: t, es => ∃ v u, es = (k, v) :: u ∧ VR K G r v ∧ KVs K G t u
theorem KVs.mono {K : PySem.W.Frag} {G G' : Hp} {α : Type} (e : Le G G') : ∀ {kvs : List (α × Val)} {es : List (α × V)}, KVs K G kvs es → KVs K G' kvs es
  | [], es, h => h
  | (k, r) :: t, es, h => by
    obtain ⟨v, u, h1, h2, h3⟩ := h
    exact ⟨v, u, h1, h2.mono e, KVs.mono e h3⟩
def MR (K : PySem.W.Frag) (G H : Hp) (a : Addr) : MO → Prop
  | .lst rs => ∃ xs, H a = some (.lst xs) ∧ VRs K G rs xs
  | .dT kvs => ∃ es, H a = some (.dT es) ∧ KVs K G kvs es
  | .dK kvs => ∃ es, H a = some (.dK es) ∧ KVs K G kvs es
  | .lk od es kvs => H a = some (.frz od (.dT es)) ∧ KVs K G kvs es
  | .box => ∃ n : Int, H a = some (.lst [.int n])
  | .g P => P G H a ∧ (∀ G G' H H' : Hp, Le G G' → H' a = H a → P G H a → P G' H' a) ∧ (∃ u, H a = some u) ∧ ∀ xs, H a ≠ some (.tup xs)
theorem MR.some {K : PySem.W.Frag} {G H : Hp} {a : Addr} {o : MO} (h : MR K G H a o) : ∃ u, H a = some u := by
  cases o with
  | lst rs => obtain ⟨xs, h, _⟩ := h; exact ⟨_, h⟩
  | dT kvs => obtain ⟨xs, h, _⟩ := h; exact ⟨_, h⟩
  | dK kvs => obtain ⟨xs, h, _⟩ := h; exact ⟨_, h⟩
  | lk od es kvs => exact ⟨_, h.1⟩
  | box => obtain ⟨n, h⟩ := h; exact ⟨_, h⟩
  | g P => exact h.2.2.1
theorem MR.mono {K : PySem.W.Frag} {G G' H H' : Hp} {a : Addr} {o : MO} (e : Le G G') (hh : H' a = H a) (h : MR K G H a o) : MR K G' H' a o := by
  cases o with
  | lst rs => obtain ⟨xs, h, g⟩ := h; exact ⟨xs, hh.trans h, g.mono e⟩
  | dT kvs => obtain ⟨xs, h, g⟩ := h; exact ⟨xs, hh.trans h, g.mono e⟩
  | dK kvs => obtain ⟨xs, h, g⟩ := h; exact ⟨xs, hh.trans h, g.mono e⟩
  | lk od es kvs => exact ⟨hh.trans h.1, h.2.mono e⟩
  | box => obtain ⟨n, h⟩ := h; exact ⟨n, hh.trans h⟩
  | g P => obtain ⟨h1, h2, h3, h4⟩ := h; exact ⟨h2 _ _ _ _ e hh h1, h2, by rw [hh]; exact h3, by rw [hh]; exact h4⟩
structure Sta (K : PySem.W.Frag) (m : Mm) (H G : Hp) : Prop where
  sub : ∀ a o, G a = some o → H a = some o
  mem : ∀ a o, m a = some o → MR K G H a o
  dis : ∀ a o, m a = some o → G a = none
section
variable {K : PySem.W.Frag} {m : Mm} {H G : Hp} {p : Addr} {o : HO}
theorem Sta.free (S : Sta K m H G) (h : H p = none) : G p = none := by
  cases e : G p with
  | none => rfl
  | some u => rw [S.sub p u e] at h; cases h
theorem Sta.freeM (S : Sta K m H G) (h : H p = none) : m p = none := by
  cases e : m p with
  | none => rfl
  | some u =>
    obtain ⟨x, hx⟩ := (S.mem p u e).some
    rw [hx] at h; cases h
/-- a new thing that stays as it is -/
theorem Sta.fix (S : Sta K m H G) (h : H p = none) : Sta K m (upd H p o) (upd G p o) := by
  have hg := S.free h
  have hm := S.freeM h
  refine ⟨fun a u e => ?_, fun a u e => ?_, fun a u e => ?_⟩
  · by_cases ha : a = p
    · subst ha; rw [upd_same] at e ⊢; exact e
    · rw [upd_ne ha] at e ⊢; exact S.sub a u e
  · have ha : a ≠ p := ne_of_get e hm
    exact (S.mem a u e).mono (Le.new hg) (upd_ne ha)
  · have ha : a ≠ p := ne_of_get e hm
    rw [upd_ne ha]; exact S.dis a u e
/-- a new thing that may change -/
theorem Sta.new {u : MO} (S : Sta K m H G) (h : H p = none) (hu : MR K G (upd H p o) p u) : Sta K (put m p u) (upd H p o) G := by
  have hg := S.free h
  refine ⟨fun a w e => ?_, fun a w e => ?_, fun a w e => ?_⟩
  · rw [upd_ne (ne_of_none e hg)]; exact S.sub a w e
  · by_cases ha : a = p
    · subst ha; rw [put_same] at e; cases e; exact hu
    · rw [put_ne ha] at e
      exact (S.mem a w e).mono (Le.refl G) (upd_ne ha)
  · by_cases ha : a = p
    · subst ha; exact hg
    · rw [put_ne ha] at e; exact S.dis a w e
/-- a thing changed -/
theorem Sta.chg {u w : MO} (S : Sta K m H G) (h : m p = some w) (hu : MR K G (upd H p o) p u) : Sta K (put m p u) (upd H p o) G := by
  have hg := S.dis p w h
  refine ⟨fun a w e => ?_, fun a w e => ?_, fun a w e => ?_⟩
  · rw [upd_ne (ne_of_none e hg)]; exact S.sub a w e
  · by_cases ha : a = p
    · subst ha; rw [put_same] at e; cases e; exact hu
    · rw [put_ne ha] at e
      exact (S.mem a w e).mono (Le.refl G) (upd_ne ha)
  · by_cases ha : a = p
    · subst ha; exact hg
    · rw [put_ne ha] at e; exact S.dis a w e
/-- from now on it stays as it is -/
theorem Sta.freeze {u : MO} (S : Sta K m H G) (h : m p = some u) (ho : H p = some o) : Sta K (del m p) H (upd G p o) := by
  have hg := S.dis p u h
  refine ⟨fun a w e => ?_, fun a w e => ?_, fun a w e => ?_⟩
  · by_cases ha : a = p
    · subst ha; rw [upd_same] at e; cases e; exact ho
    · rw [upd_ne ha] at e; exact S.sub a w e
  · by_cases ha : a = p
    · subst ha; unfold del at e; rw [if_pos rfl] at e; cases e
    · unfold del at e; rw [if_neg ha] at e
      exact (S.mem a w e).mono (Le.new hg) rfl
  · by_cases ha : a = p
    · subst ha; unfold del at e; rw [if_pos rfl] at e; cases e
    · unfold del at e; rw [if_neg ha] at e
      rw [upd_ne ha]; exact S.dis a w e
/-- less told of what may change -/
theorem Sta.less {m' : Mm} (S : Sta K m H G) (h : ∀ a o, m' a = some o → m a = some o) : Sta K m' H G :=
  ⟨S.sub, fun a o e => S.mem a o (h a o e), fun a o e => S.dis a o (h a o e)⟩
theorem Sta.sqL {a : Addr} {xs : List V} (S : Sta K m H G) (h : SqL K G a xs) : SqL K H a xs := Le.sqL S.sub h
theorem Sta.sqT {a : Addr} {xs : List V} (S : Sta K m H G) (h : SqT K G a xs) : SqT K H a xs := Le.sqT S.sub h
end
/-! what code does, at this level -/
def Ev (K : PySem.W.Frag) (t : TE) (r : List Val) (m : Mm) (Q : Val → Mm → Prop) : Prop :=
  ∀ σ H G, Sta K m H G → Sl K G r σ → ∀ R : VK, (∀ v H' G' x m', Q x m' → Sta K m' H' G' → Le G G' → VR K G' x v → R v H') → t σ H R
def EvT (K : PySem.W.Frag) (t : TT) (r : List Val) (m : Mm) (Q : Bool → Mm → Prop) : Prop :=
  ∀ σ H G, Sta K m H G → Sl K G r σ → ∀ R : Bool → Hp → Prop, (∀ H' G' b m', Q b m' → Sta K m' H' G' → Le G G' → R b H') → t σ H R
def EvA (K : PySem.W.Frag) (t : TA) (r : List Val) (m : Mm) (Q : List Val → Mm → Prop) : Prop :=
  ∀ σ H G, Sta K m H G → Sl K G r σ → ∀ R : List V → Hp → Prop, (∀ vs H' G' xs m', Q xs m' → Sta K m' H' G' → Le G G' → VRs K G' xs vs → R vs H') → t σ H R
def Op2 (K : PySem.W.Frag) (f : R2) (x y : Val) (m : Mm) (Q : Val → Mm → Prop) : Prop :=
  ∀ H G v w, Sta K m H G → VR K G x v → VR K G y w → ∀ R : VK, (∀ v H' G' x m', Q x m' → Sta K m' H' G' → Le G G' → VR K G' x v → R v H') → f v w H R
def Op1 (K : PySem.W.Frag) (f : V → Hp → VK → Prop) (x : Val) (m : Mm) (Q : Val → Mm → Prop) : Prop :=
  ∀ H G v, Sta K m H G → VR K G x v → ∀ R : VK, (∀ v H' G' x m', Q x m' → Sta K m' H' G' → Le G G' → VR K G' x v → R v H') → f v H R
def OpN (K : PySem.W.Frag) (f : List V → Hp → VK → Prop) (xs : List Val) (m : Mm) (Q : Val → Mm → Prop) : Prop :=
  ∀ H G vs, Sta K m H G → VRs K G xs vs → ∀ R : VK, (∀ v H' G' x m', Q x m' → Sta K m' H' G' → Le G G' → VR K G' x v → R v H') → f vs H R
def Wp (K : PySem.W.Frag) (t : TS) (r : List Val) (m : Mm) (N : List Val → Mm → Prop) (E : Val → Mm → Prop) : Prop :=
  ∀ σ H G (D : Ends), Sta K m H G → Sl K G r σ → (∀ σ' H' G' r' m', N r' m' → Sta K m' H' G' → Le G G' → Sl K G' r' σ' → D.nx σ' H') →
    (∀ v H' G' x m', E x m' → Sta K m' H' G' → Le G G' → VR K G' x v → D.rt v H') → t D σ H
section
variable {K : PySem.W.Frag} {r : List Val} {m : Mm} {Q : Val → Mm → Prop} {ta tb tc te : TE} {tt tu : TT}
theorem Ev.imp {Q' : Val → Mm → Prop} (h : Ev K te r m Q) (i : ∀ x m', Q x m' → Q' x m') : Ev K te r m Q' := fun σ H G S L R q =>
  h σ H G S L R fun v H' G' x m' hq => q v H' G' x m' (i x m' hq)
theorem EvT.imp {Q Q' : Bool → Mm → Prop} (h : EvT K tt r m Q) (i : ∀ x m', Q x m' → Q' x m') : EvT K tt r m Q' := fun σ H G S L R q =>
  h σ H G S L R fun H' G' x m' hq => q H' G' x m' (i x m' hq)
theorem EvA.imp {t : TA} {Q Q' : List Val → Mm → Prop} (h : EvA K t r m Q) (i : ∀ x m', Q x m' → Q' x m') : EvA K t r m Q' := fun σ H G S L R q =>
  h σ H G S L R fun v H' G' x m' hq => q v H' G' x m' (i x m' hq)
theorem ev_var {i : Nat} {x : Val} (h : r[i]? = some x) (n : x ≠ .any) (q : Q x m) : Ev K (tVar i) r m Q := fun σ H G S L R k => by
  obtain ⟨v, h1, h2⟩ := L.get h n
  exact ⟨v, h1, k v H G x m q S (Le.refl G) h2⟩
theorem ev_cI {i : Int} (q : Q (.d (.int i)) m) : Ev K (tC (.int i)) r m Q := fun σ H G S L R k => k _ H G _ m q S (Le.refl G) (.d (rp_int.mpr rfl))
theorem ev_cB {i : Bool} (q : Q (.d (.bool i)) m) : Ev K (tC (.bl i)) r m Q := fun σ H G S L R k => k _ H G _ m q S (Le.refl G) (.d (rp_bool.mpr rfl))
theorem ev_cS {i : Str} (q : Q (.d (.str i)) m) : Ev K (tC (.str i)) r m Q := fun σ H G S L R k => k _ H G _ m q S (Le.refl G) (.d (rp_str.mpr rfl))
theorem ev_cN (q : Q (.d .none) m) : Ev K (tC .non) r m Q := fun σ H G S L R k => k _ H G _ m q S (Le.refl G) (.d (rp_none.mpr rfl))
theorem ev_cV {v : V} (q : Q (.v v) m) : Ev K (tC v) r m Q := fun σ H G S L R k => k _ H G _ m q S (Le.refl G) .v
/-- a constant of the module that is data -/
theorem ev_cG {v : V} {x : PyData} (hv : ∀ G, Rp K G x v) (q : Q (.d x) m) : Ev K (tC v) r m Q := fun σ H G S L R k => k _ H G _ m q S (Le.refl G) (.d (hv G))
theorem ev_op {f : R2} (h : Ev K ta r m fun x m1 => Ev K tb r m1 fun y m2 => Op2 K f x y m2 Q) : Ev K (tOp f ta tb) r m Q := fun σ H G S L R k =>
  h σ H G S L _ fun v H1 G1 x m1 h1 S1 e1 r1 => h1 σ H1 G1 S1 (L.mono e1) _ fun w H2 G2 y m2 h2 S2 e2 r2 =>
    h2 H2 G2 v w S2 (r1.mono e2) r2 R fun v' H3 G3 z m3 h3 S3 e3 r3 => k v' H3 G3 z m3 h3 S3 (e1.trans (e2.trans e3)) r3
theorem ev_un {f : V → Hp → VK → Prop} (h : Ev K ta r m fun x m1 => Op1 K f x m1 Q) : Ev K (tUn f ta) r m Q := fun σ H G S L R k =>
  h σ H G S L _ fun v H1 G1 x m1 h1 S1 e1 r1 => h1 H1 G1 v S1 r1 R fun v' H3 G3 z m3 h3 S3 e3 r3 => k v' H3 G3 z m3 h3 S3 (e1.trans e3) r3
theorem eva_nil {Q : List Val → Mm → Prop} (q : Q [] m) : EvA K tNil r m Q := fun σ H G S L R k => k [] H G [] m q S (Le.refl G) rfl
theorem eva_cons {tr : TA} {Q : List Val → Mm → Prop} (h : Ev K ta r m fun x m1 => EvA K tr r m1 fun xs m2 => Q (x :: xs) m2) : EvA K (tCons ta tr) r m Q := fun σ H G S L R k =>
  h σ H G S L _ fun v H1 G1 x m1 h1 S1 e1 r1 => h1 σ H1 G1 S1 (L.mono e1) _ fun vs H2 G2 xs m2 h2 S2 e2 r2 =>
    k (v :: vs) H2 G2 (x :: xs) m2 h2 S2 (e1.trans e2) ⟨v, vs, rfl, r1.mono e2, r2⟩
theorem ev_callB {f : List V → Hp → VK → Prop} {t : TA} (h : EvA K t r m fun xs m1 => OpN K f xs m1 Q) : Ev K (tCB f t) r m Q := fun σ H G S L R k =>
  h σ H G S L _ fun vs H1 G1 xs m1 h1 S1 e1 r1 => h1 H1 G1 vs S1 r1 R fun v' H3 G3 z m3 h3 S3 e3 r3 => k v' H3 G3 z m3 h3 S3 (e1.trans e3) r3
theorem ev_if (h : EvT K tt r m fun b m1 => (b = true → Ev K ta r m1 Q) ∧ (b = false → Ev K tb r m1 Q)) : Ev K (tIf tt ta tb) r m Q := fun σ H G S L R k =>
  h σ H G S L _ fun H1 G1 b m1 h1 S1 e1 => by
    cases b with
    | true =>
      show ta σ H1 R
      exact h1.1 rfl σ H1 G1 S1 (L.mono e1) R fun v' H3 G3 z m3 h3 S3 e3 r3 => k v' H3 G3 z m3 h3 S3 (e1.trans e3) r3
    | false =>
      show tb σ H1 R
      exact h1.2 rfl σ H1 G1 S1 (L.mono e1) R fun v' H3 G3 z m3 h3 S3 e3 r3 => k v' H3 G3 z m3 h3 S3 (e1.trans e3) r3
theorem evt_test {Q : Bool → Mm → Prop} (h : Ev K te r m fun x m1 => ∃ b, x = .d (.bool b) ∧ Q b m1) : EvT K (tTest te) r m Q := fun σ H G S L R k =>
  h σ H G S L _ fun v H1 G1 x m1 ⟨b, hx, hb⟩ S1 e1 r1 => by
    subst hx
    exact ⟨b, rp_bool.mp r1.rp, k H1 G1 b m1 hb S1 e1⟩
theorem evt_B {Q : Bool → Mm → Prop} (h : Ev K te r m fun x m1 => ∃ b, x = .d (.bool b) ∧ Q b m1) : EvT K (tB te) r m Q := fun σ H G S L R k =>
  h σ H G S L _ fun v H1 G1 x m1 ⟨b, hx, hb⟩ S1 e1 r1 => by
    subst hx
    exact ⟨b, rp_bool.mp r1.rp, k H1 G1 b m1 hb S1 e1⟩
theorem evt_and {Q : Bool → Mm → Prop} (h : EvT K tt r m fun b m1 => (b = true → EvT K tu r m1 Q) ∧ (b = false → Q false m1)) : EvT K (tAnd tt tu) r m Q := fun σ H G S L R k =>
  h σ H G S L _ fun H1 G1 b m1 h1 S1 e1 => by
    cases b with
    | true =>
      show tu σ H1 R
      exact h1.1 rfl σ H1 G1 S1 (L.mono e1) R fun H3 G3 z m3 h3 S3 e3 => k H3 G3 z m3 h3 S3 (e1.trans e3)
    | false =>
      show R false H1
      exact k H1 G1 false m1 (h1.2 rfl) S1 e1
theorem evt_or {Q : Bool → Mm → Prop} (h : EvT K tt r m fun b m1 => (b = true → Q true m1) ∧ (b = false → EvT K tu r m1 Q)) : EvT K (tOr tt tu) r m Q := fun σ H G S L R k =>
  h σ H G S L _ fun H1 G1 b m1 h1 S1 e1 => by
    cases b with
    | false =>
      show tu σ H1 R
      exact h1.2 rfl σ H1 G1 S1 (L.mono e1) R fun H3 G3 z m3 h3 S3 e3 => k H3 G3 z m3 h3 S3 (e1.trans e3)
    | true =>
      show R true H1
      exact k H1 G1 true m1 (h1.1 rfl) S1 e1
theorem evt_not {Q : Bool → Mm → Prop} (h : EvT K tt r m fun b m1 => Q (!b) m1) : EvT K (tNot tt) r m Q := fun σ H G S L R k =>
  h σ H G S L _ fun H1 G1 b m1 h1 S1 e1 => k H1 G1 (!b) m1 h1 S1 e1
theorem ev_and (h : Ev K ta r m fun x m1 => ∃ b, x = .d (.bool b) ∧ (b = true → Ev K tb r m1 Q) ∧ (b = false → Q (.d (.bool false)) m1)) : Ev K (tAndV ta tb) r m Q := fun σ H G S L R k =>
  h σ H G S L _ fun v H1 G1 x m1 ⟨b, hx, h1, h2⟩ S1 e1 r1 => by
    subst hx
    refine ⟨b, rp_bool.mp r1.rp, ?_⟩
    cases b with
    | true =>
      show tb σ H1 R
      exact h1 rfl σ H1 G1 S1 (L.mono e1) R fun v' H3 G3 z m3 h3 S3 e3 r3 => k v' H3 G3 z m3 h3 S3 (e1.trans e3) r3
    | false =>
      show R (.bl false) H1
      exact k _ H1 G1 _ m1 (h2 rfl) S1 e1 (.d (rp_bool.mpr rfl))
theorem ev_or (h : Ev K ta r m fun x m1 => ∃ b, x = .d (.bool b) ∧ (b = true → Q (.d (.bool true)) m1) ∧ (b = false → Ev K tb r m1 Q)) : Ev K (tOrV ta tb) r m Q := fun σ H G S L R k =>
  h σ H G S L _ fun v H1 G1 x m1 ⟨b, hx, h1, h2⟩ S1 e1 r1 => by
    subst hx
    refine ⟨b, rp_bool.mp r1.rp, ?_⟩
    cases b with
    | false =>
      show tb σ H1 R
      exact h2 rfl σ H1 G1 S1 (L.mono e1) R fun v' H3 G3 z m3 h3 S3 e3 r3 => k v' H3 G3 z m3 h3 S3 (e1.trans e3) r3
    | true =>
      show R (.bl true) H1
      exact k _ H1 G1 _ m1 (h1 rfl) S1 e1 (.d (rp_bool.mpr rfl))
theorem ev_not (h : Ev K ta r m fun x m1 => ∃ b, x = .d (.bool b) ∧ Q (.d (.bool (!b))) m1) : Ev K (tNotV ta) r m Q := fun σ H G S L R k =>
  h σ H G S L _ fun v H1 G1 x m1 ⟨b, hx, h1⟩ S1 e1 r1 => by
    subst hx
    exact ⟨b, rp_bool.mp r1.rp, k _ H1 G1 _ m1 h1 S1 e1 (.d (rp_bool.mpr rfl))⟩
theorem ev_chain {f g : R2} (h : Ev K ta r m fun x m1 => Ev K tb r m1 fun y m2 => Op2 K f x y m2 fun z m3 => ∃ b, z = .d (.bool b) ∧ (b = true → Ev K tc r m3 fun w m4 => Op2 K g y w m4 Q) ∧ (b = false → Q (.d (.bool false)) m3)) :
    Ev K (tChain f g ta tb tc) r m Q := fun σ H G S L R k =>
  h σ H G S L _ fun v H1 G1 x m1 h1 S1 e1 r1 => h1 σ H1 G1 S1 (L.mono e1) _ fun w H2 G2 y m2 h2 S2 e2 r2 =>
    h2 H2 G2 v w S2 (r1.mono e2) r2 _ fun v' H3 G3 z m3 ⟨b, hz, h3, h4⟩ S3 e3 r3 => by
      subst hz
      refine ⟨b, rp_bool.mp r3.rp, ?_⟩
      cases b with
      | true =>
        show tc σ H3 _
        exact h3 rfl σ H3 G3 S3 (L.mono (e1.trans (e2.trans e3))) _ fun u H4 G4 q m4 h5 S4 e4 r4 =>
          h5 H4 G4 w u S4 (r2.mono (e3.trans e4)) r4 R fun v5 H5 G5 z5 m5 q5 S5 e5 r5 => k v5 H5 G5 z5 m5 q5 S5 (e1.trans (e2.trans (e3.trans (e4.trans e5)))) r5
      | false =>
        show R (.bl false) H3
        exact k _ H3 G3 _ m3 (h4 rfl) S3 (e1.trans (e2.trans e3)) (.d (rp_bool.mpr rfl))
/-- a tuple -/
theorem ev_tup {t : TA} (h : EvA K t r m fun xs m1 => ∃ ds : List PyData, xs = ds.map Val.d ∧ ds.length ≤ 100000 ∧ Q (.d (.tuple ds)) m1) : Ev K (tTup t) r m Q := fun σ H G S L R k =>
  h σ H G S L _ fun vs H1 G1 xs m1 ⟨ds, hx, hl, q⟩ S1 e1 r1 => by
    subst hx
    have hA := r1.toAll
    refine ⟨by rw [hA.length]; exact Nat.le_trans hl (by decide), fun p hp => ?_⟩
    have hg := S1.free hp
    exact k (.ref p) _ (upd G1 p (.tup vs)) _ m1 q (S1.fix hp) (e1.trans (Le.new hg)) (.d <| rp_tuple.mpr ⟨p, vs, rfl, SqT.of upd_same, RpAll.mono (Le.new hg) ds vs hA⟩)
/-- a list that stays as it is -/
theorem ev_lstD {t : TA} (h : EvA K t r m fun xs m1 => ∃ ds : List PyData, xs = ds.map Val.d ∧ ds.length ≤ 100000 ∧ Q (.d (.list ds)) m1) : Ev K (tLst t) r m Q := fun σ H G S L R k =>
  h σ H G S L _ fun vs H1 G1 xs m1 ⟨ds, hx, hl, q⟩ S1 e1 r1 => by
    subst hx
    have hA := r1.toAll
    refine ⟨by rw [hA.length]; exact Nat.le_trans hl (by decide), fun p hp => ?_⟩
    have hg := S1.free hp
    exact k (.ref p) _ (upd G1 p (.lst vs)) _ m1 q (S1.fix hp) (e1.trans (Le.new hg)) (.d <| rp_list.mpr ⟨p, vs, rfl, Rd.of upd_same, RpAll.mono (Le.new hg) ds vs hA⟩)
/-- a list that may change -/
theorem ev_lstM {t : TA} (h : EvA K t r m fun xs m1 => xs.length ≤ 100000 ∧ ∀ p, m1 p = none → Q (.v (.ref p)) (put m1 p (.lst xs))) : Ev K (tLst t) r m Q := fun σ H G S L R k =>
  h σ H G S L _ fun vs H1 G1 xs m1 ⟨hl, q⟩ S1 e1 r1 => by
    refine ⟨by rw [r1.length]; exact Nat.le_trans hl (by decide), fun p hp => ?_⟩
    exact k (.ref p) _ G1 _ _ (q p (S1.freeM hp)) (S1.new hp ⟨vs, upd_same, r1⟩) e1 .v
/-! statements -/
variable {N : List Val → Mm → Prop} {E : Val → Mm → Prop} {t u : TS}
theorem Wp.imp {N' : List Val → Mm → Prop} {E' : Val → Mm → Prop} (h : Wp K t r m N E) (i : ∀ x m', N x m' → N' x m') (j : ∀ x m', E x m' → E' x m') : Wp K t r m N' E' := fun σ H G D S L a b =>
  h σ H G D S L (fun σ' H' G' r' m' hq => a σ' H' G' r' m' (i _ _ hq)) (fun v H' G' x m' hq => b v H' G' x m' (j _ _ hq))
theorem w_next (q : N r m) : Wp K tNext r m N E := fun σ H G D S L a b => a σ H G r m q S (Le.refl G) L
theorem w_seq (h : Wp K t r m (fun r1 m1 => Wp K u r1 m1 N E) E) : Wp K (tSeq t u) r m N E := fun σ H G D S L a b =>
  h σ H G { D with nx := u D } S L (fun σ1 H1 G1 r1 m1 h1 S1 e1 L1 => h1 σ1 H1 G1 D S1 L1 (fun σ2 H2 G2 r2 m2 n2 S2 e2 L2 => a σ2 H2 G2 r2 m2 n2 S2 (e1.trans e2) L2)
    (fun v H2 G2 x m2 n2 S2 e2 L2 => b v H2 G2 x m2 n2 S2 (e1.trans e2) L2)) b
theorem w_asg {i : Nat} (h : Ev K te r m fun x m1 => N (r.set i x) m1) : Wp K (tAsg te (gName i)) r m N E := fun σ H G D S L a b =>
  h σ H G S L _ fun v H1 G1 x m1 q S1 e1 r1 => a (σ.set i (some v)) H1 G1 (r.set i x) m1 q S1 e1 ((L.mono e1).set r1 i)
theorem w_drop (h : Ev K te r m fun _ m1 => N r m1) : Wp K (tDrop te) r m N E := fun σ H G D S L a b =>
  h σ H G S L _ fun v H1 G1 x m1 q S1 e1 r1 => a σ H1 G1 r m1 q S1 e1 (L.mono e1)
theorem w_ret (h : Ev K te r m E) : Wp K (tRet te) r m N E := fun σ H G D S L a b => h σ H G S L _ b
theorem w_if (h : EvT K tt r m fun c m1 => (c = true → Wp K t r m1 N E) ∧ (c = false → Wp K u r m1 N E)) : Wp K (tIfS tt t u) r m N E := fun σ H G D S L a b =>
  h σ H G S L _ fun H1 G1 c m1 h1 S1 e1 => by
    cases c with
    | true =>
      show t D σ H1
      exact h1.1 rfl σ H1 G1 D S1 (L.mono e1) (fun σ2 H2 G2 r2 m2 n2 S2 e2 L2 => a σ2 H2 G2 r2 m2 n2 S2 (e1.trans e2) L2) (fun v H2 G2 x m2 n2 S2 e2 L2 => b v H2 G2 x m2 n2 S2 (e1.trans e2) L2)
    | false =>
      show u D σ H1
      exact h1.2 rfl σ H1 G1 D S1 (L.mono e1) (fun σ2 H2 G2 r2 m2 n2 S2 e2 L2 => a σ2 H2 G2 r2 m2 n2 S2 (e1.trans e2) L2) (fun v H2 G2 x m2 n2 S2 e2 L2 => b v H2 G2 x m2 n2 S2 (e1.trans e2) L2)
/-- a, b = .. of one tuple -/
theorem w_asg2 {i j : Nat} (h : Ev K te r m fun x m1 => ∃ d1 d2, x = .d (.tuple [d1, d2]) ∧ N ((r.set i (.d d1)).set j (.d d2)) m1) : Wp K (tAsg te (gTup K 2 (gCons (gName i) (gCons (gName j) gNil)))) r m N E := fun σ H G D S L a b =>
  h σ H G S L _ fun v H1 G1 x m1 ⟨d1, d2, hx, q⟩ S1 e1 r1 => by
    subst hx
    obtain ⟨p, xs, hv, hs, hA⟩ := rp_tuple.mp r1.rp
    have hl := hA.length
    obtain ⟨x1, t1, rfl, a1, hA⟩ := rpa_cons.mp hA
    obtain ⟨x2, t2, rfl, a2, hA⟩ := rpa_cons.mp hA
    obtain rfl := rpa_nil.mp hA
    refine ⟨p, _, hv, S1.sqT hs, rfl, x1, [x2], rfl, x2, [], rfl, rfl, ?_⟩
    exact a _ H1 G1 _ m1 q S1 e1 (((L.mono e1).set (r := .d d1) (.d a1) i).set (r := .d d2) (.d a2) j)
/-- a, b = e, f -/
theorem w_par {i j : Nat} {ta : TA} (h : EvA K ta r m fun xs m1 => ∃ x y, xs = [x, y] ∧ N ((r.set i x).set j y) m1) : Wp K (tPar i j ta) r m N E := fun σ H G D S L a b =>
  h σ H G S L _ fun vs H1 G1 xs m1 ⟨x, y, hx, q⟩ S1 e1 r1 => by
    subst hx
    obtain ⟨v1, t1, rfl, a1, t2⟩ := r1
    obtain ⟨v2, t2, rfl, a2, t3⟩ := t2
    have t3 : t2 = [] := t3
    subst t3
    exact ⟨v1, v2, rfl, a _ H1 G1 _ m1 q S1 e1 (((L.mono e1).set a1 i).set a2 j)⟩
theorem w_while {tt : TT} (W : Nat → List Val → Mm → Prop) (n0 : Nat) (h0 : W n0 r m)
    (hs : ∀ n r' m', W n r' m' → EvT K tt r' m' fun c m1 => (c = true → Wp K t r' m1 (fun r2 m2 => ∃ n', n' < n ∧ W n' r2 m2) E) ∧ (c = false → N r' m1)) : Wp K (tWhile tt t) r m N E := fun σ H G D S L a b => by
  refine ⟨fun n σ' H' => ∃ G' r' m', W n r' m' ∧ Sta K m' H' G' ∧ Le G G' ∧ Sl K G' r' σ', ⟨n0, G, r, m, h0, S, Le.refl G, L⟩, ?_⟩
  rintro n σ1 H1 ⟨G1, r1, m1, hw, S1, e1, L1⟩
  refine hs n r1 m1 hw σ1 H1 G1 S1 L1 _ fun H2 G2 c m2 h2 S2 e2 => ?_
  cases c with
  | true =>
    refine ⟨fun σ' H' => ∃ n', n' < n ∧ ∃ G' r' m', W n' r' m' ∧ Sta K m' H' G' ∧ Le G G' ∧ Sl K G' r' σ', fun σ' H' h => h, ?_⟩
    exact h2.1 rfl σ1 H2 G2 _ S2 (L1.mono e2) (fun σ3 H3 G3 r3 m3 ⟨n', hn, hw'⟩ S3 e3 L3 => ⟨n', hn, G3, r3, m3, hw', S3, e1.trans (e2.trans e3), L3⟩)
      (fun v H3 G3 x m3 n3 S3 e3 L3 => b v H3 G3 x m3 n3 S3 (e1.trans (e2.trans e3)) L3)
  | false => exact a σ1 H2 G2 r1 m2 (h2.2 rfl) S2 (e1.trans e2) (L1.mono e2)
theorem w_forTA {tl : TE} {j : Nat} (P : List PyData → Prop) (h : Ev K tl r m fun x m1 => m1 = m ∧ ∃ ds, x = .d (.tuple ds) ∧ P ds) (W : List PyData → Nat → List Val → Mm → Prop) (h0 : ∀ ds, P ds → W ds 0 r m)
    (hs : ∀ (ds : List PyData) (i : Nat) (d : PyData) r' m', P ds → ds[i]? = some d → W ds i r' m' → Wp K t (r'.set j (.d d)) m' (W ds (i + 1)) E) (hd : ∀ (ds : List PyData) r' m', P ds → W ds ds.length r' m' → N r' m') : Wp K (tFor (iTup K tl) (gName j) t) r m N E := fun σ H G D S L a b =>
  h σ H G S L _ fun v H1 G1 x m1 ⟨hm, ds, hx, hP⟩ S1 e1 r1 => by
    subst hx hm
    obtain ⟨p, xs, hv, hs1, hA⟩ := rp_tuple.mp r1.rp
    refine ⟨p, hv, ⟨xs, S1.sqT hs1⟩, for_tup (xs := xs) (fun i σ' H' => ∃ G' r' m', W ds i r' m' ∧ Sta K m' H' G' ∧ Le G1 G' ∧ Sl K G' r' σ') ⟨G1, r, _, h0 ds hP, S1, Le.refl G1, L.mono e1⟩ ?_ ?_ ?_⟩
    · rintro i σ' H' hi ⟨G', r', m', _, S', e', _⟩
      exact S'.sqT (e'.sqT hs1)
    · rintro i y σ' H' hy ⟨G', r', m', hw, S', e', L'⟩
      obtain ⟨d, hd1, hd2⟩ := hA.get hy
      refine hs ds i d r' m' hP hd1 hw (σ'.set j (some y)) H' G' _ S' (L'.set (r := .d d) (.d (Rp.mono e' d y hd2)) j) (fun σ3 H3 G3 r3 m3 h3 S3 e3 L3 => ⟨G3, r3, m3, h3, S3, e'.trans e3, L3⟩) (fun v H3 G3 x m3 n3 S3 e3 L3 => b v H3 G3 x m3 n3 S3 (e1.trans (e'.trans e3)) L3)
    · rintro σ' H' ⟨G', r', m', hw, S', e', L'⟩
      rw [hA.length] at hw
      exact a σ' H' G' r' m' (hd ds r' m' hP hw) S' (e1.trans e') L'
theorem w_forT {tl : TE} {j : Nat} {ds : List PyData} (h : Ev K tl r m fun x m1 => x = .d (.tuple ds) ∧ m1 = m) (W : Nat → List Val → Mm → Prop) (h0 : W 0 r m)
    (hs : ∀ (i : Nat) (d : PyData) r' m', ds[i]? = some d → W i r' m' → Wp K t (r'.set j (.d d)) m' (W (i + 1)) E) (hd : ∀ r' m', W ds.length r' m' → N r' m') : Wp K (tFor (iTup K tl) (gName j) t) r m N E :=
  w_forTA (fun l => l = ds) (h.imp fun x m' e => ⟨e.2, ds, e.1, rfl⟩) (fun _ => W) (fun _ _ => h0) (fun l i d r' m' e hd hw => hs i d r' m' (by rw [← e]; exact hd) hw) (fun l r' m' e hw => hd r' m' (by rw [← e]; exact hw))
theorem w_forLA {tl : TE} {j : Nat} (P : List PyData → Prop) (h : Ev K tl r m fun x m1 => m1 = m ∧ ∃ ds, x = .d (.list ds) ∧ P ds) (W : List PyData → Nat → List Val → Mm → Prop) (h0 : ∀ ds, P ds → W ds 0 r m)
    (hs : ∀ (ds : List PyData) (i : Nat) (d : PyData) r' m', P ds → ds[i]? = some d → W ds i r' m' → Wp K t (r'.set j (.d d)) m' (W ds (i + 1)) E) (hd : ∀ (ds : List PyData) r' m', P ds → W ds ds.length r' m' → N r' m') : Wp K (tFor (iList K tl) (gName j) t) r m N E := fun σ H G D S L a b =>
  h σ H G S L _ fun v H1 G1 x m1 ⟨hm, ds, hx, hP⟩ S1 e1 r1 => by
    subst hx hm
    obtain ⟨p, xs, hv, hs1, hA⟩ := rp_list.mp r1.rp
    have hs1 : SqL K G1 p xs := Or.inl hs1
    refine ⟨p, hv, ⟨xs, S1.sqL hs1⟩, for_list (xs := xs) (fun i σ' H' => ∃ G' r' m', W ds i r' m' ∧ Sta K m' H' G' ∧ Le G1 G' ∧ Sl K G' r' σ') ⟨G1, r, _, h0 ds hP, S1, Le.refl G1, L.mono e1⟩ ?_ ?_ ?_⟩
    · rintro i σ' H' hi ⟨G', r', m', _, S', e', _⟩
      exact S'.sqL (e'.sqL hs1)
    · rintro i y σ' H' hy ⟨G', r', m', hw, S', e', L'⟩
      obtain ⟨d, hd1, hd2⟩ := hA.get hy
      refine hs ds i d r' m' hP hd1 hw (σ'.set j (some y)) H' G' _ S' (L'.set (r := .d d) (.d (Rp.mono e' d y hd2)) j) (fun σ3 H3 G3 r3 m3 h3 S3 e3 L3 => ⟨G3, r3, m3, h3, S3, e'.trans e3, L3⟩) (fun v H3 G3 x m3 n3 S3 e3 L3 => b v H3 G3 x m3 n3 S3 (e1.trans (e'.trans e3)) L3)
    · rintro σ' H' ⟨G', r', m', hw, S', e', L'⟩
      rw [hA.length] at hw
      exact a σ' H' G' r' m' (hd ds r' m' hP hw) S' (e1.trans e') L'
theorem w_forL {tl : TE} {j : Nat} {ds : List PyData} (h : Ev K tl r m fun x m1 => x = .d (.list ds) ∧ m1 = m) (W : Nat → List Val → Mm → Prop) (h0 : W 0 r m)
    (hs : ∀ (i : Nat) (d : PyData) r' m', ds[i]? = some d → W i r' m' → Wp K t (r'.set j (.d d)) m' (W (i + 1)) E) (hd : ∀ r' m', W ds.length r' m' → N r' m') : Wp K (tFor (iList K tl) (gName j) t) r m N E :=
  w_forLA (fun l => l = ds) (h.imp fun x m' e => ⟨e.2, ds, e.1, rfl⟩) (fun _ => W) (fun _ _ => h0) (fun l i d r' m' e hd hw => hs i d r' m' (by rw [← e]; exact hd) hw) (fun l r' m' e hw => hd r' m' (by rw [← e]; exact hw))
theorem w_forR1 {ta : TA} {j : Nat} {n : Nat} (h : EvA K ta r m fun xs m1 => xs = [.d (.int (n : Int))] ∧ m1 = m) (hn : n ≤ 100000) (W : Nat → List Val → Mm → Prop) (h0 : W 0 r m)
    (hs : ∀ (i : Nat) r' m', i < n → W i r' m' → Wp K t (r'.set j (.d (.int (i : Int)))) m' (W (i + 1)) E) (hd : ∀ r' m', W n r' m' → N r' m') : Wp K (tFor (iRng1 ta) (gName j) t) r m N E := fun σ H G D S L a b =>
  h σ H G S L _ fun vs H1 G1 xs m1 ⟨hx, hm⟩ S1 e1 r1 => by
    subst hx hm
    obtain ⟨v1, t1, rfl, a1, t2⟩ := r1
    have t2 : t1 = [] := t2
    subst t2
    have a1 : v1 = .int (n : Int) := rp_int.mp a1.rp
    subst a1
    have en : ((n : Int)).toNat = n := by omega
    refine ⟨(n : Int), rfl, by omega, by omega, ?_⟩
    rw [en]
    refine for_range (lo := 0) (n := n) (fun i σ' H' => ∃ G' r' m', W i r' m' ∧ Sta K m' H' G' ∧ Le G1 G' ∧ Sl K G' r' σ') ⟨G1, r, _, h0, S1, Le.refl G1, L.mono e1⟩ ?_ ?_
    · rintro i σ' H' hi ⟨G', r', m', hw, S', e', L'⟩
      rw [Int.zero_add]
      refine hs i r' m' hi hw (σ'.set j (some (.int (i : Int)))) H' G' _ S' (L'.set (r := .d (.int (i : Int))) (.d (rp_int.mpr rfl)) j) (fun σ3 H3 G3 r3 m3 h3 S3 e3 L3 => ⟨G3, r3, m3, h3, S3, e'.trans e3, L3⟩) (fun v H3 G3 x m3 n3 S3 e3 L3 => b v H3 G3 x m3 n3 S3 (e1.trans (e'.trans e3)) L3)
    · rintro σ' H' ⟨G', r', m', hw, S', e', L'⟩
      exact a σ' H' G' r' m' (hd r' m' hw) S' (e1.trans e') L'
end
/-! what a def does, at this level -/
abbrev FSp := List Val → Mm → (Val → Mm → Prop) → Prop
def spD (K : PySem.W.Frag) (f : FSp) : Sp := fun vs H Q _ => ∃ m G args R, Sta K m H G ∧ VRs K G args vs ∧ f args m R ∧ ∀ v H' G' x m', R x m' → Sta K m' H' G' → Le G G' → VR K G' x v → Q v H'
theorem ev_call {K : PySem.W.Frag} {f : FSp} {t : TA} {E : XK} {r : List Val} {m : Mm} {Q : Val → Mm → Prop} (h : EvA K t r m fun xs m1 => f xs m1 Q) : Ev K (tCall (spD K f) [] E t) r m Q := fun σ H G S L R k =>
  h σ H G S L _ fun vs H1 G1 xs m1 h1 S1 e1 r1 => by
    rw [List.append_nil]
    exact ⟨m1, G1, xs, Q, S1, r1, h1, fun v' H3 G3 z m3 h3 S3 e3 r3 => k v' H3 G3 z m3 h3 S3 (e1.trans e3) r3⟩
section
variable {P : Program} {w : World} {K : PySem.W.Frag} {mg : Str → Option Value} {base : Heap}
theorem fn_ok {x qual : Str} {st : Stmt} {f : Addr} {fd : FuncData} {N ps : List Str} {k : Nat} {sp : FSp} (F : Fun K x qual st f fd) (S : FnScope N ps (defScope st)) (hl : ∀ args m R, sp args m R → args.length = ps.length)
    (hb : ∀ (cdv : Value) (A : Around) (outer : List Env) (s : Shared) (H : Hp) (E : XK), Room k (A.deeper (PyProof.Rows.envOfC qual (defScope st) s.heap.objs.size f cdv)) →
      ∃ t, PSs (cxOf CX0 P w K mg base N qual (defScope st) f cdv A outer s H E).nox (defBody st) t ∧
        ∀ args m R, sp args m R → Wp K t (args ++ List.replicate (N.length - args.length) .any) m (fun _ m' => R (.d .none) m') R) : FnOk P w K mg base CX0 (k + 1) f fd ps (spD K sp) := by
  refine F.ok S (fun vs H Q E h => ?_) (fun cdv A outer s H vs Q E hr h => ?_)
  · obtain ⟨m, G, args, R, S1, r1, h1, _⟩ := h
    rw [r1.length]; exact hl args m R h1
  · obtain ⟨m, G, args, R, S1, r1, h1, k1⟩ := h
    obtain ⟨t, ht, hw⟩ := hb cdv A outer s H E hr
    refine ⟨t, ht, ?_⟩
    refine hw args m R h1 _ H G _ S1 ?_ (fun σ' H' G' r' m' hn S' e' L' => ?_) (fun v H' G' x m' hn S' e' L' => k1 v H' G' x m' hn S' e' L')
    · unfold L2.start
      rw [r1.length]
      exact Sl.start _ r1
    · exact k1 .non H' G' (.d .none) m' hn S' e' (.d (rp_none.mpr rfl))
end
end DL
namespace DL
open PySem L2
/-! rules of the layer below, joined -/
section
variable {X : Cx}
/-- list + list, as they may be read -/
def rCatR : R2 := fun x y H Q => ∃ l b xs zs, x = .ref l ∧ y = .ref b ∧ Rd H l (.lst xs) ∧ Rd H b (.lst zs) ∧ xs.length + zs.length ≤ sizeLine ∧ ∀ p, H p = none → Q (.ref p) (upd H p (.lst (xs ++ zs)))
theorem rd_list {pins : List (Addr × Obj)} {σ : L2.St} {H : Hp} {s : Shared} {l : Addr} {xs : List V} (I : Inv X pins σ H s) (h : Rd H l (.lst xs)) :
    xs.length ≤ sizeLine ∧ ∃ (its : List Value) (n : Nat), Vals xs its ∧ xs.length = its.length ∧ s.heap.get? l = some { cls := .type "list", data := .seq its.toArray n } := by
  obtain ⟨z, its, n, r, e⟩ := h.ok I.hok
  exact ⟨z, its, n, r, r.length, e⟩
theorem op_catR : OpR X (binaryOp .Add) rCatR := by
  intro pins s σ H x y v u Q I rx ry h
  obtain ⟨l, b, xs, zs, rfl, rfl, hH, hB, hz, q⟩ := h
  cases rx
  cases ry
  obtain ⟨z1, its1, n1, r1, hl1, e1⟩ := rd_list I hH
  obtain ⟨z2, its2, n2, r2, hl2, e2⟩ := rd_list I hB
  refine PySem.P.add_list e1 e2 ?_ (by rw [List.size_toArray, List.size_toArray, ← hl1, ← hl2]; exact hz)
  have ea : its1.toArray ++ its2.toArray = (its1 ++ its2).toArray := by simp
  rw [ea]
  exact ⟨.ref _, _, I.lnew (t' := s.toks) (r1.append r2) (by rw [List.length_append]; exact hz), rfl, q _ I.fresh⟩
def rAddI : R2 := rI0 fun i j => .int (i + j)
def rAddS : R2 := fun x y H Q => ∃ i j, x = .str i ∧ y = .str j ∧ i.length + j.length ≤ sizeLine ∧ Q (.str (i ++ j)) H
def rAdd (K : PySem.W.Frag) : R2 := fun x y H Q => rAddI x y H Q ∨ (rCatA K x y H Q ∨ (rCatR x y H Q ∨ rAddS x y H Q))
theorem oAdd : OpR X (binaryOp .Add) (rAdd X.K) := (op_add).or (op_catA.or (op_catR.or op_add_str))
def rSub : R2 := rI0 fun i j => .int (i - j)
theorem oSub : OpR X (binaryOp .Sub) rSub := op_sub
def rMulI : R2 := rI CMulW fun i j => .int (i * j)
def rFdv : R2 := rI CDivW fun i j => .int (i / j)
theorem oFdv : OpR X (binaryOp .FloorDiv) rFdv := op_fdivW
def rMod : R2 := rI (fun _ j => 0 < j) fun i j => .int (i % j)
theorem oMod : OpR X (binaryOp .Mod) rMod := op_mod
def rPow : R2 := rI CPow fun i j => .int (i ^ j.toNat)
theorem oPow : OpR X (binaryOp .Pow) rPow := op_pow
def rLt : R2 := rI0 fun i j => .bl (decide (i < j))
def rLe : R2 := rI0 fun i j => .bl (decide (i ≤ j))
def rGt : R2 := rI0 fun i j => .bl (decide (j < i))
def rGe : R2 := rI0 fun i j => .bl (decide (j ≤ i))
theorem oLt : OpR X (compareOp .Lt) rLt := op_lt
theorem oLe : OpR X (compareOp .LtE) rLe := op_le
theorem oGt : OpR X (compareOp .Gt) rGt := op_gt
def rEqA (K : PySem.W.Frag) : R2 := fun x y H Q => rEq x y H Q ∨ rEqD K x y H Q
def rNeA (K : PySem.W.Frag) : R2 := fun x y H Q => rNe x y H Q ∨ rNeD K x y H Q
theorem oEq {k : Nat} (hr : Room k X.A) : OpR X (compareOp .Eq) (rEqA X.K) := op_eq.or (op_eqD hr.units)
theorem oNe {k : Nat} (hr : Room k X.A) : OpR X (compareOp .NotEq) (rNeA X.K) := op_ne.or (op_neD hr.units)
def rNeg : V → Hp → VK → Prop := rU fun i => .int (-i)
theorem oNeg : UnR X (unaryOp .USub) rNeg := un_neg
/-! a tuple so many times: once it is the same one -/
theorem mul_tuple1 {l : Addr} {items : Array Value} {n : Nat} {dd : Option Addr} {sl : Array (Option Value)} {u : Tok} :
    Meets (Builtin.«tuple.__mul__» ⟨[.ref l, .int 1 u], []⟩) (fun _ R s => s.heap.get? l = some { cls := .type "tuple", dict := dd, data := .seq items n, slots := sl } ∧ R (.ok (.ret (Value.ref l))) s) :=
  .of_wp fun prog w A R s h => by
    obtain ⟨hp, g, d, tk, os⟩ := s
    obtain ⟨hl, h⟩ := h
    have f1 := AutoSeq1.idx_int
    wp_walk using wpAny_loadPart' hl
    repeat (first
      | (refine wpAny_ite_false (by decide) ?_; wp_walk using wpAny_loadPart' hl)
      | (refine wpAny_ite_true (by simp) ?_; wp_walk using wpAny_loadPart' hl))
    exact ⟨_, rfl, h⟩
def rRepT1 (K : PySem.W.Frag) : R2 := fun x y H Q => ∃ l xs, x = .ref l ∧ y = .int 1 ∧ SqT K H l xs ∧ Q (.ref l) H
theorem op_repT1 : OpR X (binaryOp .Mult) (rRepT1 X.K) := by
  intro pins s σ H x y v u Q I rx ry h
  obtain ⟨l, xs, rfl, rfl, hT, q⟩ := h
  cases rx
  obtain ⟨t, rfl⟩ := ry
  obtain ⟨its, r, ⟨⟨cls, dd, data, sl⟩, ho, hc, n, hd⟩, hs⟩ := I.tuple hT
  simp only at hc hd
  subst hc hd
  refine wpAny_binaryOp_repeat_ref (T := "tuple") (U := "int") (by decide) ⟨_, ho, rfl⟩ (fun s' => typeIs_int s' 1 t) noFill_tuple_mul PySem.F.fills_int_mul PySem.F.slot_int_rmul repeat_tuple PySem.F.slot_int_index.lookup
    (call_meets PySem.F.slot_int_rmul (typeIs_int s 1 t) PySem.F.entry_int_rmul (PySem.F.args_int_rmul_2 _ _) (int_rmul_tuple 1 t l its.toArray n dd sl)
      ⟨ho, rfl, ⟨_, ho, rfl⟩, call_meets PySem.F.slot_tuple_mul ⟨_, ho, rfl⟩ PySem.F.entry_tuple_mul (PySem.F.args_tuple_mul_2 _ _) mul_tuple1 ⟨ho, ?_⟩⟩)
  exact ⟨.ref l, H, I, rfl, q⟩
def rMul (K : PySem.W.Frag) : R2 := fun x y H Q => rMulI x y H Q ∨ (rRepT K x y H Q ∨ (rRepT1 K x y H Q ∨ rRep x y H Q))
theorem oMul : OpR X (binaryOp .Mult) (rMul X.K) := op_mulW.or (op_repT.or (op_repT1.or op_rep))
/-! sum of a tuple -/
def rSumT (K : PySem.W.Frag) : List V → Hp → VK → Prop := fun vs H Q => ∃ (a : Addr) (ns : List Int), vs = [V.ref a] ∧ SqT K H a (ns.map V.int) ∧ Q (.int ns.sum) H
theorem presum_take (ns : List Int) : ∀ k, preSum (fun i => ns.getD i 0) k = (ns.take k).sum
  | 0 => by simp [preSum]
  | k + 1 => by
    have ih := presum_take ns k
    by_cases h : k < ns.length
    · rw [List.take_succ_eq_append_getElem h, List.sum_append]
      simp only [preSum, ih, List.sum_cons, List.sum_nil, Int.add_zero]
      rw [List.getD_eq_getElem?_getD, List.getElem?_eq_getElem h]; rfl
    · rw [List.take_of_length_le (by omega)] at ih ⊢
      simp only [preSum, ih]
      rw [List.getD_eq_getElem?_getD, List.getElem?_eq_none (by omega)]; simp
theorem cr_sumT (hc : X.calm = true) : CallR X (.builtin "sum") (rSumT X.K) := by
  intro pins s σ H vs us Q I r h
  obtain ⟨a, ns, rfl, hs, q⟩ := h
  obtain ⟨its, rv, ht, _⟩ := I.tuple hs
  rw [Vals.ref1 r]
  have hlt : a < s.heap.objs.size := ht.lt
  refine call_sum_walkG (wpAny_pyIter_tuple ht ?_)
  refine ⟨s.heap.objs.size, [s.heap.objs.size, a], [s.heap.objs.size], its.toArray.size, _, _, fun i => ns.getD i 0, rfl, Walks.tuple (A := X.A.in1) (I.ok.hd hc) s.heap.objs.size a (Nat.ne_of_lt hlt) its.toArray, ⟨⟨_, Heap.get?_push_size _ rfl, rfl, rfl⟩, ?_⟩, ?_, ?_, ?_⟩
  · obtain ⟨o, h1, h2⟩ := ht
    exact ⟨o, Heap.get?_push_of_some _ h1, h2⟩
  · intro b hb
    have hsz : (s.heap.push { cls := .type "tuple_iterator", data := .fields #[.ref a, .int 0 0] }).objs.size = s.heap.objs.size + 1 := Heap.size_push ..
    show b < (s.heap.push { cls := .type "tuple_iterator", data := .fields #[.ref a, .int 0 0] }).objs.size
    rw [hsz]
    rcases List.mem_cons.mp hb with e | e
    · rw [e]; exact Nat.lt_succ_self _
    · rw [List.mem_singleton.mp e]; exact Nat.lt_succ_of_lt hlt
  · intro i v hv
    have hv : its[i]? = some v := by simpa using hv
    have hlen := rv.length
    have hil : i < its.length := (List.getElem?_eq_some_iff.mp hv).1
    rw [List.length_map] at hlen
    have hx : (ns.map V.int)[i]? = some (.int (ns.getD i 0)) := by
      rw [List.getElem?_map, List.getD_eq_getElem?_getD, List.getElem?_eq_getElem (by omega)]; rfl
    obtain ⟨u, h1, h2⟩ := rv.get hx
    rw [hv] at h1
    cases h1
    exact h2
  · intro h' tk t' hk
    have hlen := rv.length
    rw [List.length_map] at hlen
    have e : preSum (fun i => ns.getD i 0) its.toArray.size = ns.sum := by
      rw [presum_take, List.size_toArray, List.take_of_length_le (by omega)]
    rw [e]
    refine ⟨.int ns.sum, H, I.kept (fun b o e => hk b o (fun hb => ?_) (Heap.get?_push_of_some _ e)), ⟨_, rfl⟩, q⟩
    have hb : b = s.heap.objs.size := by simpa using hb
    subst hb
    exact absurd (Heap.lt_size e) (Nat.lt_irrefl _)
def rSumA (K : PySem.W.Frag) : List V → Hp → VK → Prop := fun vs H Q => rSum K vs H Q ∨ rSumT K vs H Q
theorem cSum (hc : X.calm = true) : CallR X (.builtin "sum") (rSumA X.K) := (cr_sum hc).or (cr_sumT hc)
theorem cAll (hc : X.calm = true) : CallR X (.builtin "all") (rAll X.K) := cr_all hc
def rAbs : List V → Hp → VK → Prop := fun xs H Q => ∃ i, xs = [.int i] ∧ Q (.int (if i < 0 then -i else i)) H
theorem cAbs : CallR X (.builtin "abs") rAbs := call_abs
def rMax2 : List V → Hp → VK → Prop := fun xs H Q => ∃ i j, xs = [.int i, .int j] ∧ Q (.int (if j > i then j else i)) H
def rMin2 : List V → Hp → VK → Prop := fun xs H Q => ∃ i j, xs = [.int i, .int j] ∧ Q (.int (if j < i then j else i)) H
theorem cMax (hc : X.calm = true) : CallR X (.builtin "max") rMax2 := call_max2 hc
theorem cMin (hc : X.calm = true) : CallR X (.builtin "min") rMin2 := call_min2 hc
def rLenQ (K : PySem.W.Frag) : List V → Hp → VK → Prop := fun xs H Q => ∃ p ys, xs = [.ref p] ∧ (SqL K H p ys ∨ SqT K H p ys) ∧ Q (.int ys.length) H
def rLenS : List V → Hp → VK → Prop := fun xs H Q => ∃ z, xs = [.str z] ∧ z.length ≤ sizeLine ∧ Q (.int z.length) H
def rLen (K : PySem.W.Frag) : List V → Hp → VK → Prop := fun vs H Q => rLenQ K vs H Q ∨ rLenS vs H Q
theorem cLen : CallR X (.builtin "len") (rLen X.K) := call_len_seq.or call_len_str
def rTupO (K : PySem.W.Frag) : List V → Hp → VK → Prop := fun xs H Q => ∃ p ys, xs = [.ref p] ∧ ((SqL K H p ys ∧ ∀ l, H l = none → Q (.ref l) (upd H l (.tup ys))) ∨ (SqT K H p ys ∧ Q (.ref p) H))
theorem cTup : CallR X (.type "tuple") (rTupO X.K) := call_tuple_of
def rLstO (K : PySem.W.Frag) : List V → Hp → VK → Prop := fun xs H Q => ∃ p ys, xs = [.ref p] ∧ (SqL K H p ys ∨ SqT K H p ys) ∧ ∀ l, H l = none → Q (.ref l) (upd H l (.lst ys))
theorem cIsi : CallR X (.builtin "isinstance") (rIsi X.K) := call_isi
def rDivmod : List V → Hp → VK → Prop := fun xs H Q => ∃ i j, xs = [.int i, .int j] ∧ CDivW i j ∧ ∀ p, H p = none → Q (.ref p) (upd H p (.tup [.int (i / j), .int (i % j)]))
theorem cDivmod : CallR X (.builtin "divmod") rDivmod := by
  intro pins s σ H xs us Q I r h
  obtain ⟨i, j, rfl, ⟨h1, h2⟩, q⟩ := h
  obtain ⟨u, w', rfl, ⟨t, rfl⟩, ⟨t', rfl⟩⟩ := vals2 r
  refine PyProof.Rows.divmod_int (by omega) ?_ (.inl (PyProof.noPylong_of_log2 h2))
  rw [Int.fdiv_eq_ediv_of_nonneg i (by omega), Int.fmod_eq_emod_of_nonneg i (by omega)]
  have hn : H s.heap.objs.size = none := I.hok.fresh (Nat.le_refl _)
  refine ⟨.ref s.heap.objs.size, _, ?_, rfl, q _ hn⟩
  refine I.laid (fun b o e => Heap.get?_push_of_some _ e) (Nat.le_refl _) ⟨by rw [sizeLine_eq]; show 2 ≤ 16777216; decide, [.int (i / j) s.toks, .int (i % j) (s.toks + 1)], .cons ⟨_, rfl⟩ (.cons ⟨_, rfl⟩ .nil), ?_⟩
  exact ⟨_, Heap.get?_push_size s.heap rfl, rfl, 0, rfl⟩
/-! repr of data -/
mutual
theorem rp_dp {K : PySem.W.Frag} {G : Hp} : ∀ (d : PyData) (v : V), d.hasDict = false → Rp K G d v → Dp K G v d
  | .none, v, _, h => by rw [rp_none.mp h]; exact .non
  | .bool b, v, _, h => by rw [rp_bool.mp h]; exact .bl b
  | .int i, v, _, h => by rw [rp_int.mp h]; exact .int i
  | .str s, v, _, h => by rw [rp_str.mp h]; exact .str s
  | .list ds, v, n, h => by
    obtain ⟨a, xs, rfl, h2, h3⟩ := rp_list.mp h
    exact .lst (Or.inl h2) (rp_dpAll ds xs (by simpa [PyData.hasDict] using n) h3)
  | .tuple ds, v, n, h => by
    obtain ⟨a, xs, rfl, h2, h3⟩ := rp_tuple.mp h
    exact .tup h2 (rp_dpAll ds xs (by simpa [PyData.hasDict] using n) h3)
  | .dict kvs, v, n, h => by simp [PyData.hasDict] at n
theorem rp_dpAll {K : PySem.W.Frag} {G : Hp} : ∀ (ds : List PyData) (xs : List V), PyData.hasDictAll ds = false → RpAll K G ds xs → DpAll K G xs ds
  | [], xs, _, h => by rw [rpa_nil.mp h]; exact .nil
  | d :: ds, xs, n, h => by
    obtain ⟨x, r, rfl, h2, h3⟩ := rpa_cons.mp h
    have n : d.hasDict = false ∧ PyData.hasDictAll ds = false := by simpa [PyData.hasDictAll] using n
    exact .cons (rp_dp d x n.1 h2) (rp_dpAll ds r n.2 h3)
end
def rRepr (K : PySem.W.Frag) : List V → Hp → VK → Prop := fun xs H Q => ∃ x d, xs = [x] ∧ Rp K H d x ∧ d.hasDict = false ∧ d.depth ≤ 64 ∧ d.showable = true ∧ d.shown.length ≤ sizeLine ∧ Q (.str d.shown) H
theorem repr_leaf {pins : List (Addr × Obj)} {σ : L2.St} {H : Hp} {s : Shared} {Q : VK} {u : Value} {as : List Addr} {d : PyData} (I : Inv X pins σ H s) (r : Reads s.heap u d as) (h0 : d.hasDict = false) (hg : X.A.guards = some []) (hu : X.A.units + 65 < cLine)
    (h1 : d.depth ≤ 64) (h2 : d.showable = true) (h3 : d.shown.length ≤ sizeLine) (q : Q (.str d.shown) H) : wpAny (model X.prog X.w) X.A (call (.builtin "repr") [u]) (EP X pins σ Q) X.xe s := by
  cases r with
  | none =>
    simp only [PyData.shown] at q
    exact PySem.P.repr_of_none ⟨.str _, H, I.tok _, ⟨_, rfl⟩, q⟩
  | bool b =>
    simp only [PyData.shown] at q
    exact PySem.P.repr_of_bool ⟨.str _, H, I.tok _, ⟨_, rfl⟩, q⟩
  | int i t =>
    simp only [PyData.shown] at q
    exact PySem.P.repr_of_int (by simpa [PyData.showable] using h2) ⟨.str _, H, I.tok _, ⟨_, rfl⟩, q⟩
  | str x t =>
    simp only [PyData.shown] at q h3
    exact PySem.P.repr_of_str ⟨.str _, H, I.tok _, ⟨_, rfl⟩, q⟩ h3
  | list a1 a2 a3 a4 =>
    exact repr_of_reads' (.list a1 a2 a3 a4) h2 (PyData.noDict_hsm h0) hg (by omega) (fun _ _ e => e) (fun h' u tk hk => ⟨.str _, H, I.kept hk, ⟨_, rfl⟩, q⟩) h3
  | tuple a1 a2 a3 a4 =>
    exact repr_of_reads' (.tuple a1 a2 a3 a4) h2 (PyData.noDict_hsm h0) hg (by omega) (fun _ _ e => e) (fun h' u tk hk => ⟨.str _, H, I.kept hk, ⟨_, rfl⟩, q⟩) h3
  | dict a1 a2 a3 a4 a5 => simp [PyData.hasDict] at h0
theorem cRepr {k : Nat} (hr : Room k X.A) (hg : X.A.guards = some []) : CallR X (.builtin "repr") (rRepr X.K) := by
  intro pins s σ H xs us Q I r h
  obtain ⟨x, d, rfl, hd, h0, h1, h2, h3, q⟩ := h
  obtain ⟨u, rfl, rx⟩ := vals1 r
  obtain ⟨as, rd⟩ := Dp.reads I d x u (rp_dp d x h0 hd) rx
  have := hr.un
  exact repr_leaf I rd h0 hg (by omega) h1 h2 h3 q
end
end DL
namespace DL
open PySem L2
section
variable {K : PySem.W.Frag} {m : Mm} {Q : Val → Mm → Prop}
/-! operators upon ints -/
theorem int_of {G : Hp} {i : Int} {v : V} (h : VR K G (.d (.int i)) v) : v = .int i := rp_int.mp h.rp
theorem bool_of {G : Hp} {i : Bool} {v : V} (h : VR K G (.d (.bool i)) v) : v = .bl i := rp_bool.mp h.rp
theorem str_of {G : Hp} {i : Str} {v : V} (h : VR K G (.d (.str i)) v) : v = .str i := rp_str.mp h.rp
theorem vr_int {G : Hp} {i : Int} : VR K G (.d (.int i)) (.int i) := .d (rp_int.mpr rfl)
theorem vr_bool {G : Hp} {i : Bool} : VR K G (.d (.bool i)) (.bl i) := .d (rp_bool.mpr rfl)
theorem vr_str {G : Hp} {i : Str} : VR K G (.d (.str i)) (.str i) := .d (rp_str.mpr rfl)
theorem vr_none {G : Hp} : VR K G (.d .none) .non := .d (rp_none.mpr rfl)
theorem o2_I0 {g : Int → Int → Int} {i j : Int} (q : Q (.d (.int (g i j))) m) : Op2 K (rI0 fun i j => .int (g i j)) (.d (.int i)) (.d (.int j)) m Q := fun H G v w S a b R k => by
  rw [int_of a, int_of b]
  exact ⟨i, j, rfl, rfl, k _ H G _ m q S (Le.refl G) vr_int⟩
theorem o2_B0 {g : Int → Int → Bool} {i j : Int} (q : Q (.d (.bool (g i j))) m) : Op2 K (rI0 fun i j => .bl (g i j)) (.d (.int i)) (.d (.int j)) m Q := fun H G v w S a b R k => by
  rw [int_of a, int_of b]
  exact ⟨i, j, rfl, rfl, k _ H G _ m q S (Le.refl G) vr_bool⟩
theorem o2_I {C : Int → Int → Prop} {g : Int → Int → Int} {i j : Int} (c : C i j) (q : Q (.d (.int (g i j))) m) : Op2 K (rI C fun i j => .int (g i j)) (.d (.int i)) (.d (.int j)) m Q := fun H G v w S a b R k => by
  rw [int_of a, int_of b]
  exact ⟨i, j, rfl, rfl, c, k _ H G _ m q S (Le.refl G) vr_int⟩
theorem o2_addI {i j : Int} (q : Q (.d (.int (i + j))) m) : Op2 K (rAdd K) (.d (.int i)) (.d (.int j)) m Q := fun H G v w S a b R k => Or.inl (o2_I0 (g := fun i j => i + j) q H G v w S a b R k)
theorem o2_sub {i j : Int} (q : Q (.d (.int (i - j))) m) : Op2 K rSub (.d (.int i)) (.d (.int j)) m Q := o2_I0 (g := fun i j => i - j) q
theorem o2_mulI {i j : Int} (c : CMulW i j) (q : Q (.d (.int (i * j))) m) : Op2 K (rMul K) (.d (.int i)) (.d (.int j)) m Q := fun H G v w S a b R k => Or.inl (o2_I (C := CMulW) (g := fun i j => i * j) c q H G v w S a b R k)
theorem o2_fdv {i j : Int} (c : CDivW i j) (q : Q (.d (.int (i / j))) m) : Op2 K rFdv (.d (.int i)) (.d (.int j)) m Q := o2_I (C := CDivW) (g := fun i j => i / j) c q
theorem o2_mod {i j : Int} (c : 0 < j) (q : Q (.d (.int (i % j))) m) : Op2 K rMod (.d (.int i)) (.d (.int j)) m Q := o2_I (C := fun _ j => 0 < j) (g := fun i j => i % j) c q
theorem o2_lt {i j : Int} (q : Q (.d (.bool (decide (i < j)))) m) : Op2 K rLt (.d (.int i)) (.d (.int j)) m Q := o2_B0 (g := fun i j => decide (i < j)) q
theorem o2_le {i j : Int} (q : Q (.d (.bool (decide (i ≤ j)))) m) : Op2 K rLe (.d (.int i)) (.d (.int j)) m Q := o2_B0 (g := fun i j => decide (i ≤ j)) q
theorem o2_gt {i j : Int} (q : Q (.d (.bool (decide (j < i)))) m) : Op2 K rGt (.d (.int i)) (.d (.int j)) m Q := o2_B0 (g := fun i j => decide (j < i)) q
theorem o2_ge {i j : Int} (q : Q (.d (.bool (decide (j ≤ i)))) m) : Op2 K rGe (.d (.int i)) (.d (.int j)) m Q := o2_B0 (g := fun i j => decide (j ≤ i)) q
theorem o1_neg {i : Int} (q : Q (.d (.int (-i))) m) : Op1 K rNeg (.d (.int i)) m Q := fun H G v S a R k => by
  rw [int_of a]
  exact ⟨i, rfl, k _ H G _ m q S (Le.refl G) vr_int⟩
/-! == of data -/
theorem dp_of {H G : Hp} {x : PyData} {v : V} (S : Sta K m H G) (h : SeqAt.shaped x = true) (a : VR K G (.d x) v) : Dp K H v x := by
  have h : (x.canLay0 && decide (x.depth ≤ 64)) = true := h
  rw [Bool.and_eq_true] at h
  exact rp_dp x v (PyData.hasDict_of_canLay x h.1) (Rp.mono S.sub x v a.rp)
theorem o2_eq {x y : PyData} (hx : SeqAt.shaped x = true) (hy : SeqAt.shaped y = true) (q : Q (.d (.bool (PyData.eqv x y))) m) : Op2 K (rEqA K) (.d x) (.d y) m Q := fun H G v w S a b R k =>
  Or.inr ⟨x, y, dp_of S hx a, dp_of S hy b, hx, hy, k _ H G _ m q S (Le.refl G) vr_bool⟩
theorem o2_ne {x y : PyData} (hx : SeqAt.shaped x = true) (hy : SeqAt.shaped y = true) (q : Q (.d (.bool (!PyData.eqv x y))) m) : Op2 K (rNeA K) (.d x) (.d y) m Q := fun H G v w S a b R k =>
  Or.inr ⟨x, y, dp_of S hx a, dp_of S hy b, hx, hy, k _ H G _ m q S (Le.refl G) vr_bool⟩
theorem shaped_int (i : Int) : SeqAt.shaped (.int i) = true := by simp [SeqAt.shaped, PyData.canLay0, PyData.depth]
theorem eqv_int (i j : Int) : PyData.eqv (.int i) (.int j) = decide (i = j) := by
  simp only [PyData.eqv]; exact Bool.beq_eq_decide_eq i j
theorem o2_eqI {i j : Int} (q : Q (.d (.bool (decide (i = j)))) m) : Op2 K (rEqA K) (.d (.int i)) (.d (.int j)) m Q := o2_eq (shaped_int i) (shaped_int j) (by rw [eqv_int]; exact q)
theorem o2_neI {i j : Int} (q : Q (.d (.bool (!decide (i = j)))) m) : Op2 K (rNeA K) (.d (.int i)) (.d (.int j)) m Q := o2_ne (shaped_int i) (shaped_int j) (by rw [eqv_int]; exact q)
/-! texts -/
theorem o2_eqS {x y : Str} (q : Q (.d (.bool (decide (x = y)))) m) : Op2 K (rEqA K) (.d (.str x)) (.d (.str y)) m Q := fun H G v w S a b R k => by
  rw [str_of a, str_of b]
  refine Or.inl ⟨rfl, ?_⟩
  rw [dec_str, Bool.beq_eq_decide_eq]
  exact k _ H G _ m q S (Le.refl G) vr_bool
theorem o2_neS {x y : Str} (q : Q (.d (.bool (!decide (x = y)))) m) : Op2 K (rNeA K) (.d (.str x)) (.d (.str y)) m Q := fun H G v w S a b R k => by
  rw [str_of a, str_of b]
  refine Or.inl ⟨rfl, ?_⟩
  rw [dec_str, Bool.beq_eq_decide_eq]
  exact k _ H G _ m q S (Le.refl G) vr_bool
/-! items -/
theorem atI_nth {α : Type} (xs : List α) (i : Nat) : atI xs (i : Int) = xs[i]? := by
  unfold atI ixN
  rw [if_pos (Int.natCast_nonneg i)]
  by_cases h : i < xs.length
  · rw [if_pos (by omega), show ((i : Int)).toNat = i by omega]; rfl
  · rw [if_neg (by omega), List.getElem?_eq_none (by omega)]; rfl
theorem RpAll.atI {G : Hp} {ds : List PyData} {xs : List V} {i : Int} {d : PyData} (h : RpAll K G ds xs) (e : L2.atI ds i = some d) : ∃ x, L2.atI xs i = some x ∧ Rp K G d x := by
  unfold L2.atI at e ⊢
  rw [h.length]
  cases hj : ixN ds.length i with
  | none => rw [hj] at e; cases e
  | some j =>
    rw [hj] at e
    exact h.at e
theorem VRs.atI {G : Hp} : ∀ {rs : List Val} {xs : List V} {i : Nat} {r : Val}, VRs K G rs xs → rs[i]? = some r → ∃ x, xs[i]? = some x ∧ VR K G r x
  | [], xs, i, r, h, e => by simp at e
  | r0 :: rs, xs, 0, r, h, e => by
    obtain ⟨y, t, h1, h2, _⟩ := h
    subst h1
    have e : r0 = r := by simpa using e
    subst e
    exact ⟨y, rfl, h2⟩
  | r0 :: rs, xs, i + 1, r, h, e => by
    obtain ⟨y, t, h1, _, h3⟩ := h
    subst h1
    obtain ⟨z, h4, h5⟩ := VRs.atI (i := i) (r := r) h3 (by simpa using e)
    exact ⟨z, by simpa using h4, h5⟩
theorem o2_ixT {ds : List PyData} {i : Int} {d : PyData} (h : atI ds i = some d) (q : Q (.d d) m) : Op2 K (rIx K) (.d (.tuple ds)) (.d (.int i)) m Q := fun H G v w S a b R k => by
  rw [int_of b]
  obtain ⟨p, xs, hv, h2, h3⟩ := rp_tuple.mp a.rp
  obtain ⟨x, h4, h5⟩ := h3.atI h
  exact Or.inr (Or.inl ⟨p, xs, i, x, hv, rfl, S.sqT h2, h4, k _ H G _ m q S (Le.refl G) (.d h5)⟩)
theorem o2_ixL {ds : List PyData} {i : Int} {d : PyData} (h : atI ds i = some d) (q : Q (.d d) m) : Op2 K (rIx K) (.d (.list ds)) (.d (.int i)) m Q := fun H G v w S a b R k => by
  rw [int_of b]
  obtain ⟨p, xs, hv, h2, h3⟩ := rp_list.mp a.rp
  obtain ⟨x, h4, h5⟩ := h3.atI h
  exact Or.inl ⟨p, xs, i, x, hv, rfl, Or.inl (Le.rd S.sub h2), h4, k _ H G _ m q S (Le.refl G) (.d h5)⟩
theorem o2_ixB {p : Addr} (hm : m p = some .box) (q : ∀ n : Int, Q (.d (.int n)) m) : Op2 K (rIx K) (.v (.ref p)) (.d (.int 0)) m Q := fun H G v w S a b R k => by
  rw [int_of b]
  obtain ⟨n, h2⟩ := S.mem p _ hm
  exact Or.inl ⟨p, [.int n], 0, .int n, a.eq, rfl, Or.inl (Or.inl h2), rfl, k _ H G _ m (q n) S (Le.refl G) vr_int⟩
theorem o2_ixS {ns : List Int} {i : Nat} {n : Int} (h : ns[i]? = some n) (q : Q (.d (.int n)) m) : Op2 K (rIx K) (.scr ns) (.d (.int (i : Int))) m Q := fun H G v w S a b R k => by
  rw [int_of b]
  cases a with
  | scr h2 =>
    exact Or.inl ⟨_, _, i, .int n, rfl, rfl, S.sqL h2, by rw [atI_nth, List.getElem?_map, h]; rfl, k _ H G _ m q S (Le.refl G) vr_int⟩
/-! built-ins -/
theorem vrs1 {G : Hp} {x : Val} {vs : List V} (h : VRs K G [x] vs) : ∃ v, vs = [v] ∧ VR K G x v := by
  obtain ⟨v, t, h1, h2, h3⟩ := h
  have h3 : t = [] := h3
  exact ⟨v, by rw [h1, h3], h2⟩
theorem vrs2 {G : Hp} {x y : Val} {vs : List V} (h : VRs K G [x, y] vs) : ∃ v w, vs = [v, w] ∧ VR K G x v ∧ VR K G y w := by
  obtain ⟨v, t, h1, h2, h3⟩ := h
  obtain ⟨w, h4, h5⟩ := vrs1 h3
  exact ⟨v, w, by rw [h1, h4], h2, h5⟩
theorem on_abs {i : Int} (q : Q (.d (.int (i.natAbs : Int))) m) : OpN K rAbs [.d (.int i)] m Q := fun H G vs S a R k => by
  obtain ⟨v, rfl, h⟩ := vrs1 a
  rw [int_of h]
  refine ⟨i, rfl, ?_⟩
  have e : (if i < 0 then -i else i) = (i.natAbs : Int) := by split <;> omega
  rw [e]
  exact k _ H G _ m q S (Le.refl G) vr_int
theorem on_max {i j : Int} (q : Q (.d (.int (max i j))) m) : OpN K rMax2 [.d (.int i), .d (.int j)] m Q := fun H G vs S a R k => by
  obtain ⟨v, w, rfl, h1, h2⟩ := vrs2 a
  rw [int_of h1, int_of h2]
  refine ⟨i, j, rfl, ?_⟩
  have e : (if j > i then j else i) = max i j := by split <;> omega
  rw [e]
  exact k _ H G _ m q S (Le.refl G) vr_int
theorem on_min {i j : Int} (q : Q (.d (.int (min i j))) m) : OpN K rMin2 [.d (.int i), .d (.int j)] m Q := fun H G vs S a R k => by
  obtain ⟨v, w, rfl, h1, h2⟩ := vrs2 a
  rw [int_of h1, int_of h2]
  refine ⟨i, j, rfl, ?_⟩
  have e : (if j < i then j else i) = min i j := by split <;> omega
  rw [e]
  exact k _ H G _ m q S (Le.refl G) vr_int
theorem on_lenT {ds : List PyData} (q : Q (.d (.int (ds.length : Int))) m) : OpN K (rLen K) [.d (.tuple ds)] m Q := fun H G vs S a R k => by
  obtain ⟨v, rfl, h⟩ := vrs1 a
  obtain ⟨p, xs, hv, h2, h3⟩ := rp_tuple.mp h.rp
  refine Or.inl ⟨p, xs, by rw [hv], Or.inr (S.sqT h2), ?_⟩
  rw [h3.length]
  exact k _ H G _ m q S (Le.refl G) vr_int
theorem on_lenL {ds : List PyData} (q : Q (.d (.int (ds.length : Int))) m) : OpN K (rLen K) [.d (.list ds)] m Q := fun H G vs S a R k => by
  obtain ⟨v, rfl, h⟩ := vrs1 a
  obtain ⟨p, xs, hv, h2, h3⟩ := rp_list.mp h.rp
  refine Or.inl ⟨p, xs, by rw [hv], Or.inl (Or.inl (Le.rd S.sub h2)), ?_⟩
  rw [h3.length]
  exact k _ H G _ m q S (Le.refl G) vr_int
theorem on_lenS {ns : List Int} (q : Q (.d (.int (ns.length : Int))) m) : OpN K (rLen K) [.scr ns] m Q := fun H G vs S a R k => by
  obtain ⟨v, rfl, h⟩ := vrs1 a
  cases h with
  | scr h2 =>
    refine Or.inl ⟨_, _, rfl, Or.inl (S.sqL h2), ?_⟩
    rw [List.length_map]
    exact k _ H G _ m q S (Le.refl G) vr_int
theorem on_sumL {ns : List Int} (q : Q (.d (.int ns.sum)) m) : OpN K (rSumA K) [.d (.list (ns.map PyData.int))] m Q := fun H G vs S a R k => by
  obtain ⟨v, rfl, h⟩ := vrs1 a
  obtain ⟨p, xs, hv, h2, h3⟩ := rp_list.mp h.rp
  rw [h3.ints] at h2
  exact Or.inl ⟨p, ns, by rw [hv], Or.inl (Le.rd S.sub h2), k _ H G _ m q S (Le.refl G) vr_int⟩
theorem on_sumT {ns : List Int} (q : Q (.d (.int ns.sum)) m) : OpN K (rSumA K) [.d (.tuple (ns.map PyData.int))] m Q := fun H G vs S a R k => by
  obtain ⟨v, rfl, h⟩ := vrs1 a
  obtain ⟨p, xs, hv, h2, h3⟩ := rp_tuple.mp h.rp
  rw [h3.ints] at h2
  exact Or.inr ⟨p, ns, by rw [hv], S.sqT h2, k _ H G _ m q S (Le.refl G) vr_int⟩
theorem on_all {bs : List Bool} (q : Q (.d (.bool (bs.all id))) m) : OpN K (rAll K) [.d (.list (bs.map PyData.bool))] m Q := fun H G vs S a R k => by
  obtain ⟨v, rfl, h⟩ := vrs1 a
  obtain ⟨p, xs, hv, h2, h3⟩ := rp_list.mp h.rp
  rw [h3.bools] at h2
  exact ⟨p, bs, by rw [hv], Or.inl (Le.rd S.sub h2), k _ H G _ m q S (Le.refl G) vr_bool⟩
theorem on_any {bs : List Bool} (q : Q (.d (.bool (bs.any id))) m) : OpN K (rAny K) [.d (.list (bs.map PyData.bool))] m Q := fun H G vs S a R k => by
  obtain ⟨v, rfl, h⟩ := vrs1 a
  obtain ⟨p, xs, hv, h2, h3⟩ := rp_list.mp h.rp
  rw [h3.bools] at h2
  exact ⟨p, bs, by rw [hv], Or.inl (Le.rd S.sub h2), k _ H G _ m q S (Le.refl G) vr_bool⟩
theorem on_tupL {ds : List PyData} (q : Q (.d (.tuple ds)) m) : OpN K (rTupO K) [.d (.list ds)] m Q := fun H G vs S a R k => by
  obtain ⟨v, rfl, h⟩ := vrs1 a
  obtain ⟨p, xs, hv, h2, h3⟩ := rp_list.mp h.rp
  refine ⟨p, xs, by rw [hv], Or.inl ⟨Or.inl (Le.rd S.sub h2), fun l hl => ?_⟩⟩
  have hg := S.free hl
  exact k _ _ (upd G l (.tup xs)) _ m q (S.fix hl) (Le.new hg) (.d (rp_tuple.mpr ⟨l, xs, rfl, SqT.of upd_same, RpAll.mono (Le.new hg) ds xs h3⟩))
theorem on_tupT {ds : List PyData} (q : Q (.d (.tuple ds)) m) : OpN K (rTupO K) [.d (.tuple ds)] m Q := fun H G vs S a R k => by
  obtain ⟨v, rfl, h⟩ := vrs1 a
  obtain ⟨p, xs, hv, h2, h3⟩ := rp_tuple.mp h.rp
  exact ⟨p, xs, by rw [hv], Or.inr ⟨S.sqT h2, by rw [← hv]; exact k _ H G _ m q S (Le.refl G) h⟩⟩
theorem on_lstT {ds : List PyData} (q : Q (.d (.list ds)) m) : OpN K (rLstO K) [.d (.tuple ds)] m Q := fun H G vs S a R k => by
  obtain ⟨v, rfl, h⟩ := vrs1 a
  obtain ⟨p, xs, hv, h2, h3⟩ := rp_tuple.mp h.rp
  refine ⟨p, xs, by rw [hv], Or.inr (S.sqT h2), fun l hl => ?_⟩
  have hg := S.free hl
  exact k _ _ (upd G l (.lst xs)) _ m q (S.fix hl) (Le.new hg) (.d (rp_list.mpr ⟨l, xs, rfl, Rd.of upd_same, RpAll.mono (Le.new hg) ds xs h3⟩))
theorem on_divmod {i j : Int} (c : CDivW i j) (q : Q (.d (.tuple [.int (i / j), .int (i % j)])) m) : OpN K rDivmod [.d (.int i), .d (.int j)] m Q := fun H G vs S a R k => by
  obtain ⟨v, w, rfl, h1, h2⟩ := vrs2 a
  rw [int_of h1, int_of h2]
  refine ⟨i, j, rfl, c, fun p hp => ?_⟩
  have hg := S.free hp
  exact k _ _ (upd G p (.tup [.int (i / j), .int (i % j)])) _ m q (S.fix hp) (Le.new hg) (.d (rp_tuple.mpr ⟨p, _, rfl, SqT.of upd_same, rpa_ints [i / j, i % j]⟩))
/-! isinstance -/
def tyN : PyData → String
  | .none => "NoneType" | .bool _ => "bool" | .int _ => "int" | .str _ => "str" | .list _ => "list" | .tuple _ => "tuple" | .dict _ => "dict"
theorem ty_of {H G : Hp} {x : PyData} {v : V} (S : Sta K m H G) (a : Rp K G x v) : TyX K H v (.type (tyN x)) := by
  cases x with
  | none => rw [rp_none.mp a]; exact .base .non
  | bool b => rw [rp_bool.mp a]; exact .base (.bl b)
  | int b => rw [rp_int.mp a]; exact .base (.int b)
  | str b => rw [rp_str.mp a]; exact .base (.str b)
  | list ds =>
    obtain ⟨p, xs, rfl, h2, _⟩ := rp_list.mp a
    rcases Le.rd S.sub h2 with h | ⟨o, h⟩
    · exact .base (.lst h)
    · exact .base (.frz h)
  | tuple ds =>
    obtain ⟨p, xs, rfl, h2, _⟩ := rp_tuple.mp a
    rcases S.sqT h2 with (h | ⟨o, h⟩) | ⟨o, its, n, h, hc, _⟩
    · exact .base (.tup h)
    · exact .fTuple h
    · exact .kTuple h hc
  | dict kvs =>
    rw [Rp] at a
    obtain ⟨p, rfl, ⟨es, h, _⟩ | ⟨es, h, _⟩⟩ := a
    · exact .base (.dT (S.sub _ _ h))
    · exact .base (.dK (S.sub _ _ h))
theorem on_isi {x : PyData} {T : String} {b : Bool} (hb : kitB (tyN x) T = some b) (q : Q (.d (.bool b)) m) : OpN K (rIsi K) [.d x, .v (.ty T)] m Q := fun H G vs S a R k => by
  obtain ⟨v, w, rfl, h1, h2⟩ := vrs2 a
  rw [h2.eq]
  exact ⟨v, .ty T, _, _, b, rfl, .ty T, ty_of S h1.rp, kit_ty hb, k _ H G _ m q S (Le.refl G) vr_bool⟩
def isTup : PyData → Bool | .tuple _ => true | _ => false
def isIntB : PyData → Bool | .int _ => true | .bool _ => true | _ => false
def isBoo : PyData → Bool | .bool _ => true | _ => false
def isStrD : PyData → Bool | .str _ => true | _ => false
def isLst : PyData → Bool | .list _ => true | _ => false
def isDct : PyData → Bool | .dict _ => true | _ => false
theorem on_isiTup {x : PyData} (q : Q (.d (.bool (isTup x))) m) : OpN K (rIsi K) [.d x, .v (.ty "tuple")] m Q := on_isi (by cases x <;> (simp only [tyN, isTup, isIntB, isBoo, isStrD, isLst, isDct]; decide +kernel)) q
theorem on_isiInt {x : PyData} (q : Q (.d (.bool (isIntB x))) m) : OpN K (rIsi K) [.d x, .v (.ty "int")] m Q := on_isi (by cases x <;> (simp only [tyN, isTup, isIntB, isBoo, isStrD, isLst, isDct]; decide +kernel)) q
theorem on_isiBool {x : PyData} (q : Q (.d (.bool (isBoo x))) m) : OpN K (rIsi K) [.d x, .v (.ty "bool")] m Q := on_isi (by cases x <;> (simp only [tyN, isTup, isIntB, isBoo, isStrD, isLst, isDct]; decide +kernel)) q
theorem on_isiStr {x : PyData} (q : Q (.d (.bool (isStrD x))) m) : OpN K (rIsi K) [.d x, .v (.ty "str")] m Q := on_isi (by cases x <;> (simp only [tyN, isTup, isIntB, isBoo, isStrD, isLst, isDct]; decide +kernel)) q
theorem on_isiList {x : PyData} (q : Q (.d (.bool (isLst x))) m) : OpN K (rIsi K) [.d x, .v (.ty "list")] m Q := on_isi (by cases x <;> (simp only [tyN, isTup, isIntB, isBoo, isStrD, isLst, isDct]; decide +kernel)) q
theorem on_isiDict {x : PyData} (q : Q (.d (.bool (isDct x))) m) : OpN K (rIsi K) [.d x, .v (.ty "dict")] m Q := on_isi (by cases x <;> (simp only [tyN, isTup, isIntB, isBoo, isStrD, isLst, isDct]; decide +kernel)) q
/-! repr -/
theorem on_repr {x : PyData} (h0 : x.hasDict = false) (h1 : x.depth ≤ 64) (h2 : x.showable = true) (h3 : x.shown.length ≤ sizeLine) (q : Q (.d (.str x.shown)) m) : OpN K (rRepr K) [.d x] m Q := fun H G vs S a R k => by
  obtain ⟨v, rfl, h⟩ := vrs1 a
  exact ⟨v, x, rfl, Rp.mono S.sub x v h.rp, h0, h1, h2, h3, k _ H G _ m q S (Le.refl G) vr_str⟩
/-! + of tuples and lists, * -/
theorem o2_addL {ds es : List PyData} (hz : ds.length + es.length ≤ 100000) (q : Q (.d (.list (ds ++ es))) m) : Op2 K (rAdd K) (.d (.list ds)) (.d (.list es)) m Q := fun H G v w S a b R k => by
  obtain ⟨p, xs, rfl, h2, h3⟩ := rp_list.mp a.rp
  obtain ⟨p', ys, rfl, h4, h5⟩ := rp_list.mp b.rp
  refine Or.inr (Or.inr (Or.inl ⟨p, p', xs, ys, rfl, rfl, Le.rd S.sub h2, Le.rd S.sub h4, ?_, fun l hl => ?_⟩))
  · rw [h3.length, h5.length]; exact Nat.le_trans hz (by decide)
  · have hg := S.free hl
    exact k _ _ (upd G l (.lst (xs ++ ys))) _ m q (S.fix hl) (Le.new hg) (.d (rp_list.mpr ⟨l, _, rfl, Rd.of upd_same, RpAll.mono (Le.new hg) _ _ (h3.append h5)⟩))
theorem RpAll.rep {G : Hp} {ds : List PyData} {xs : List V} (h : RpAll K G ds xs) : ∀ n : Nat, RpAll K G (List.replicate n ds).flatten (List.replicate n xs).flatten
  | 0 => rpa_nil.mpr rfl
  | n + 1 => by
    rw [List.replicate_succ, List.replicate_succ, List.flatten_cons, List.flatten_cons]
    exact h.append (RpAll.rep h n)
end
/-! list(range), tuple(range) -/
section
variable {K : PySem.W.Frag} {r : List Val} {m : Mm} {Q : Val → Mm → Prop} {ta tb tc te : TE} {tt : TT}
def rngD (a n : Nat) : List PyData := (List.range n).map fun i => .int ((a + i : Nat) : Int)
theorem rpa_rng {G : Hp} (a n : Nat) : RpAll K G (rngD a n) (rgV (a : Int) ((a + n : Nat) : Int)) := by
  have e : rgV (a : Int) ((a + n : Nat) : Int) = ((List.range n).map fun i => ((a + i : Nat) : Int)).map V.int := by
    unfold rgV
    have e : (((a + n : Nat) : Int) - (a : Int)).toNat = n := by omega
    rw [e, List.map_map]
    rfl
  have e2 : rngD a n = ((List.range n).map fun i => ((a + i : Nat) : Int)).map PyData.int := by
    unfold rngD
    rw [List.map_map]
    rfl
  rw [e, e2]
  exact rpa_ints _
theorem rgok {a n : Nat} (h : a + n ≤ 100000) : RgOk (a : Int) ((a + n : Nat) : Int) := RgOk.of_le (by omega) (by omega) (by omega) (by omega)
theorem ev_lstR1 {n : Nat} (hn : n ≤ 100000) (h : Ev K ta r m fun x m1 => x = .d (.int (n : Int)) ∧ Q (.d (.list (rngD 0 n))) m1) : Ev K (tLstRg (tRg1 ta)) r m Q := fun σ H G S L R k =>
  h σ H G S L _ fun v H1 G1 x m1 ⟨hx, q⟩ S1 e1 r1 => by
    subst hx
    rw [int_of r1]
    have e : (n : Int) = ((0 + n : Nat) : Int) := by omega
    refine ⟨(n : Int), rfl, by rw [e]; exact rgok (a := 0) (n := n) (by omega), fun p hp => ?_⟩
    have hg := S1.free hp
    exact k _ _ (upd G1 p _) _ m1 q (S1.fix hp) (e1.trans (Le.new hg)) (.d (rp_list.mpr ⟨p, _, rfl, Rd.of upd_same, by rw [e]; exact rpa_rng 0 n⟩))
/-! comprehensions -/
def Ext (m m' : Mm) : Prop := ∀ a o, m a = some o → m' a = some o
theorem Ext.refl (m : Mm) : Ext m m := fun _ _ h => h
/-- one turn's end: the list so far stands at D -/
def LcW (K : PySem.W.Frag) (m : Mm) (G : Hp) (D : Addr) (W : Nat → List PyData → Prop) (i : Nat) (H' : Hp) : Prop :=
  ∃ G' acc, W i acc ∧ acc.length ≤ i ∧ Sta K (put m D (.lst (acc.map Val.d))) H' G' ∧ Le G G'
theorem lc_turn {G : Hp} {D : Addr} {W : Nat → List PyData → Prop} {i : Nat} {σ : L2.St} {H' : Hp} {r' : List Val} (hm : m D = none) (hi : i < 100000) (L : ∀ G', Le G G' → Sl K G' r' σ)
    (hs : ∀ m' acc, Ext m m' → W i acc → EvT K tt r' m' fun b m2 => m2 = m' ∧ (b = true → Ev K te r' m' fun x m3 => m3 = m' ∧ ∃ y, x = .d y ∧ W (i + 1) (acc ++ [y])) ∧ (b = false → W (i + 1) acc))
    (h : LcW K m G D W i H') : tt σ H' fun b H3 => if b = true then te σ H3 fun y H4 => ∃ acc, H4 D = some (.lst acc) ∧ acc.length < sizeLine ∧ LcW K m G D W (i + 1) (upd H4 D (.lst (acc ++ [y]))) else LcW K m G D W (i + 1) H3 := by
  obtain ⟨G', acc, hw, hl, S, e⟩ := h
  have hx : Ext m (put m D (.lst (acc.map Val.d))) := fun a o ha => by
    rw [put_ne (ne_of_get ha hm)]; exact ha
  refine hs _ acc hx hw σ H' G' S (L G' e) _ fun H3 G3 b m3 ⟨e3, h1, h2⟩ S3 l3 => ?_
  subst e3
  cases b with
  | true =>
    show te σ H3 _
    refine h1 rfl σ H3 G3 S3 (L G3 (e.trans l3)) _ fun v H4 G4 x m4 ⟨e4, y, hy, hw'⟩ S4 l4 r4 => ?_
    subst e4 hy
    obtain ⟨xs, g1, g2⟩ := S4.mem D _ put_same
    have hlen := g2.length
    rw [List.length_map] at hlen
    refine ⟨xs, g1, Nat.lt_of_lt_of_le (show xs.length < 100000 by omega) (by decide), G4, acc ++ [y], hw', by rw [List.length_append]; show acc.length + 1 ≤ i + 1; omega, ?_, e.trans (l3.trans l4)⟩
    have S5 := S4.chg (u := .lst ((acc ++ [y]).map Val.d)) (o := .lst (xs ++ [v])) put_same ⟨_, upd_same, by
      rw [List.map_append]
      exact g2.append ⟨v, [], rfl, r4, rfl⟩⟩
    rw [put_put] at S5
    exact S5
  | false =>
    show LcW K m G D W (i + 1) H3
    exact ⟨G3, acc, h2 rfl, by omega, S3, e.trans l3⟩
theorem wipe1 (σ : L2.St) (j : Nat) (x : V) : wipe ((wipe σ [j]).set j (some x)) [j] = wipe σ [j] := by
  show ((σ.set j none).set j (some x)).set j none = σ.set j none
  rw [List.set_set, List.set_set]
theorem sl_in {G : Hp} {σ : L2.St} {j : Nat} {d : PyData} {x : V} (L : Sl K G r σ) {G' : Hp} (e : Le G G') (h : Rp K G' d x) : Sl K G' (r.set j (.d d)) ((wipe σ [j]).set j (some x)) := by
  have := (L.mono e).set (r := .d d) (.d h) j
  show Sl K G' (r.set j (.d d)) ((σ.set j none).set j (some x))
  rw [List.set_set]
  exact this
theorem lc_end {G : Hp} {D : Addr} {W : Nat → List PyData → Prop} {n : Nat} {H' : Hp} {R : VK} (hm : m D = none) (h : LcW K m G D W n H') (hd : ∀ acc, W n acc → Q (.d (.list acc)) m)
    (k : ∀ v H' G' x m', Q x m' → Sta K m' H' G' → Le G G' → VR K G' x v → R v H') : R (.ref D) H' := by
  obtain ⟨G', acc, hw, hl, S, e⟩ := h
  obtain ⟨xs, g1, g2⟩ := S.mem D _ put_same
  have hg := S.dis D _ put_same
  have S2 := S.freeze put_same g1
  have e2 : del (put m D (.lst (acc.map Val.d))) D = m := by
    funext b
    unfold del put
    by_cases hb : b = D
    · rw [if_pos hb, hb, hm]
    · rw [if_neg hb, if_neg hb]
  rw [e2] at S2
  exact k _ H' _ _ m (hd acc hw) S2 (e.trans (Le.new hg)) (.d (rp_list.mpr ⟨D, xs, rfl, Rd.of upd_same, RpAll.mono (Le.new hg) acc xs g2.toAll⟩))
theorem lc_start {H G : Hp} {D : Addr} {W : Nat → List PyData → Prop} (S : Sta K m H G) (hD : H D = none) (h0 : W 0 []) : LcW K m G D W 0 (upd H D (.lst [])) :=
  ⟨G, [], h0, Nat.le_refl _, S.new hD ⟨[], upd_same, rfl⟩, Le.refl G⟩
theorem ev_lcT {tl : TE} {j : Nat} {ds : List PyData} (h : Ev K tl r m fun x m1 => x = .d (.tuple ds) ∧ m1 = m) (hn : ds.length ≤ 100000) (W : Nat → List PyData → Prop) (h0 : W 0 [])
    (hs : ∀ i d m' acc, ds[i]? = some d → Ext m m' → W i acc → EvT K tt (r.set j (.d d)) m' fun b m2 => m2 = m' ∧ (b = true → Ev K te (r.set j (.d d)) m' fun x m3 => m3 = m' ∧ ∃ y, x = .d y ∧ W (i + 1) (acc ++ [y])) ∧ (b = false → W (i + 1) acc))
    (hd : ∀ acc, W ds.length acc → Q (.d (.list acc)) m) : Ev K (tLc (iTup K tl) (gName j) tt te [j]) r m Q := fun σ H G S L R k =>
  h σ H G S L _ fun v H1 G1 x m1 ⟨hx, hm⟩ S1 e1 r1 => by
    subst hx hm
    obtain ⟨p, xs, hv, hs1, hA⟩ := rp_tuple.mp r1.rp
    refine ⟨p, hv, ⟨xs, S1.sqT hs1⟩, fun D hD => ?_⟩
    have hmD := S1.freeM hD
    refine lc_tup (xs := xs) (LcW K m1 G1 D W) (lc_start S1 hD h0) ?_ ?_ ?_
    · rintro i H' hi ⟨G', acc, _, _, S', e'⟩
      exact S'.sqT (e'.sqT hs1)
    · intro i y H' hy hP
      obtain ⟨d, hd1, hd2⟩ := hA.get hy
      have hi : i < 100000 := by
        have := (List.getElem?_eq_some_iff.mp hy).1
        rw [hA.length] at this
        omega
      exact ⟨wipe1 σ j y, lc_turn hmD hi (fun G' e' => sl_in (L.mono e1) e' (Rp.mono e' d y hd2)) (fun m' acc hx hw => hs i d m' acc hd1 hx hw) hP⟩
    · intro H' hP
      rw [hA.length] at hP
      exact lc_end hmD hP hd fun v H' G' x m' q S' e' r' => k v H' G' x m' q S' (e1.trans e') r'
theorem ev_lcR1 {ta : TA} {j : Nat} {n : Nat} (h : EvA K ta r m fun xs m1 => xs = [.d (.int (n : Int))] ∧ m1 = m) (hn : n ≤ 100000) (W : Nat → List PyData → Prop) (h0 : W 0 [])
    (hs : ∀ (i : Nat) m' acc, i < n → Ext m m' → W i acc → EvT K tt (r.set j (.d (.int (i : Int)))) m' fun b m2 => m2 = m' ∧ (b = true → Ev K te (r.set j (.d (.int (i : Int)))) m' fun x m3 => m3 = m' ∧ ∃ y, x = .d y ∧ W (i + 1) (acc ++ [y])) ∧ (b = false → W (i + 1) acc))
    (hd : ∀ acc, W n acc → Q (.d (.list acc)) m) : Ev K (tLc (iRng1 ta) (gName j) tt te [j]) r m Q := fun σ H G S L R k =>
  h σ H G S L _ fun vs H1 G1 xs m1 ⟨hx, hm⟩ S1 e1 r1 => by
    subst hx hm
    obtain ⟨v1, rfl, a1⟩ := vrs1 r1
    have a1 := int_of a1
    subst a1
    have en : ((n : Int)).toNat = n := by omega
    refine ⟨(n : Int), rfl, by omega, by omega, ?_⟩
    rw [en]
    intro D hD
    have hmD := S1.freeM hD
    refine lc_range (lo := 0) (n := n) (LcW K m1 G1 D W) (lc_start S1 hD h0) ?_ ?_
    · intro i H' hi hP
      rw [Int.zero_add]
      exact ⟨wipe1 σ j _, lc_turn hmD (by omega) (fun G' e' => sl_in (L.mono e1) e' (rp_int.mpr rfl)) (fun m' acc hx hw => hs i m' acc hi hx hw) hP⟩
    · intro H' hP
      exact lc_end hmD hP hd fun v H' G' x m' q S' e' r' => k v H' G' x m' q S' (e1.trans e') r'
theorem ev_lcR2 {ta : TA} {j : Nat} {lo n : Nat} (h : EvA K ta r m fun xs m1 => xs = [.d (.int (lo : Int)), .d (.int ((lo + n : Nat) : Int))] ∧ m1 = m) (hn : lo + n ≤ 100000) (W : Nat → List PyData → Prop) (h0 : W 0 [])
    (hs : ∀ (i : Nat) m' acc, i < n → Ext m m' → W i acc → EvT K tt (r.set j (.d (.int ((lo + i : Nat) : Int)))) m' fun b m2 => m2 = m' ∧ (b = true → Ev K te (r.set j (.d (.int ((lo + i : Nat) : Int)))) m' fun x m3 => m3 = m' ∧ ∃ y, x = .d y ∧ W (i + 1) (acc ++ [y])) ∧ (b = false → W (i + 1) acc))
    (hd : ∀ acc, W n acc → Q (.d (.list acc)) m) : Ev K (tLc (iRng2 ta) (gName j) tt te [j]) r m Q := fun σ H G S L R k =>
  h σ H G S L _ fun vs H1 G1 xs m1 ⟨hx, hm⟩ S1 e1 r1 => by
    subst hx hm
    obtain ⟨v1, v2, rfl, a1, a2⟩ := vrs2 r1
    have a1 := int_of a1
    have a2 := int_of a2
    subst a1 a2
    have en : (((lo + n : Nat) : Int) - (lo : Int)).toNat = n := by omega
    refine ⟨(lo : Int), ((lo + n : Nat) : Int), rfl, ⟨by omega, by omega, by omega, by omega⟩, ?_⟩
    rw [en]
    intro D hD
    have hmD := S1.freeM hD
    refine lc_range (lo := (lo : Int)) (n := n) (LcW K m1 G1 D W) (lc_start S1 hD h0) ?_ ?_
    · intro i H' hi hP
      rw [show (lo : Int) + (i : Int) = ((lo + i : Nat) : Int) from (Int.natCast_add lo i).symm]
      exact ⟨wipe1 σ j _, lc_turn hmD (by omega) (fun G' e' => sl_in (L.mono e1) e' (rp_int.mpr rfl)) (fun m' acc hx hw => hs i m' acc hi hx hw) hP⟩
    · intro H' hP
      exact lc_end hmD hP hd fun v H' G' x m' q S' e' r' => k v H' G' x m' q S' (e1.trans e') r'
theorem ev_cTy {T : String} (q : Q (.v (.ty T)) m) : Ev K (tC (.ty T)) r m Q := ev_cV q
theorem evt_yes {Q : Bool → Mm → Prop} (q : Q true m) : EvT K tYes r m Q := fun σ H G S L R k => k H G true m q S (Le.refl G)
/-! a[i] = e -/
variable {N : List Val → Mm → Prop} {E : Val → Mm → Prop}
theorem w_setB {to ti : TE} {p : Addr} (h : Ev K te r m fun x m1 => ∃ n : Int, x = .d (.int n) ∧ Ev K to r m1 fun y m2 => y = .v (.ref p) ∧ Ev K ti r m2 fun z m3 => z = .d (.int 0) ∧ m3 p = some .box ∧ N r m3) :
    Wp K (tAsg te (gSub to ti rSetL)) r m N E := fun σ H G D S L a b =>
  h σ H G S L _ fun v H1 G1 x m1 ⟨n, hx, h1⟩ S1 e1 r1 => h1 σ H1 G1 S1 (L.mono e1) _ fun w H2 G2 y m2 ⟨hy, h2⟩ S2 e2 r2 => h2 σ H2 G2 S2 (L.mono (e1.trans e2)) _ fun u H3 G3 z m3 ⟨hz, hb, q⟩ S3 e3 r3 => by
    subst hx hy hz
    have a1 := int_of r1
    have a2 := r2.eq
    have a3 := int_of r3
    subst a1 a2 a3
    obtain ⟨n0, g1⟩ := S3.mem p _ hb
    refine ⟨p, [.int n0], 0, 0, rfl, rfl, g1, rfl, ?_⟩
    have S4 := S3.chg (u := .box) (o := .lst [.int n]) hb ⟨n, upd_same⟩
    have e4 : put m3 p .box = m3 := by
      funext c
      unfold put
      by_cases hc : c = p
      · rw [if_pos hc, hc, hb]
      · rw [if_neg hc]
    rw [e4] at S4
    exact a σ _ G3 r m3 q S4 (e1.trans (e2.trans e3)) (L.mono (e1.trans (e2.trans e3)))
/-- a box made -/
theorem ev_lstB {t : TA} (h : EvA K t r m fun xs m1 => ∃ n : Int, xs = [.d (.int n)] ∧ ∀ p, m1 p = none → Q (.v (.ref p)) (put m1 p .box)) : Ev K (tLst t) r m Q := fun σ H G S L R k =>
  h σ H G S L _ fun vs H1 G1 xs m1 ⟨n, hx, q⟩ S1 e1 r1 => by
    subst hx
    obtain ⟨v1, rfl, a1⟩ := vrs1 r1
    have a1 := int_of a1
    subst a1
    refine ⟨by rw [sizeLine_eq]; show 1 ≤ 16777216; decide, fun p hp => ?_⟩
    exact k (.ref p) _ G1 _ _ (q p (S1.freeM hp)) (S1.new hp ⟨n, upd_same⟩) e1 .v
/-! what grew is data from now on -/
theorem w_freeze {t : TS} {i : Nat} {p : Addr} {ds : List PyData} (hi : r[i]? = some (.v (.ref p))) (hm : m p = some (.lst (ds.map Val.d))) (h : Wp K t (r.set i (.d (.list ds))) (del m p) N E) : Wp K t r m N E := fun σ H G D S L a b => by
  obtain ⟨xs, h1, h2⟩ := S.mem p _ hm
  have hg := S.dis p _ hm
  obtain ⟨v, hv, hr⟩ := L.get hi (fun h => nomatch h)
  have hr := hr.eq
  subst hr
  have L2 := (L.mono (Le.new hg)).set (r := .d (.list ds)) (.d (rp_list.mpr ⟨p, xs, rfl, Rd.of upd_same, RpAll.mono (Le.new (o := .lst xs) hg) ds xs h2.toAll⟩)) i
  have e : σ.set i (some (.ref p)) = σ := by
    refine List.ext_getElem? fun k => ?_
    by_cases hk : k = i
    · subst hk
      rw [List.getElem?_set_self (List.getElem?_eq_some_iff.mp hv).1, hv]
    · rw [List.getElem?_set_ne (Ne.symm hk)]
  rw [e] at L2
  exact h σ H _ D (S.freeze hm h1) L2 (fun σ' H' G' r' m' n S' e' L' => a σ' H' G' r' m' n S' ((Le.new hg).trans e') L') (fun v H' G' x m' n S' e' L' => b v H' G' x m' n S' ((Le.new hg).trans e') L')
/-- xs.append(e) -/
theorem ev_app {to : TE} {p : Addr} {rs : List Val} (h : Ev K to r m fun x m1 => x = .v (.ref p) ∧ m1 p = some (.lst rs) ∧ Ev K te r m1 fun y m2 => m2 p = some (.lst rs) ∧ rs.length < 100000 ∧ Q (.d .none) (put m2 p (.lst (rs ++ [y])))) :
    Ev K (tBM K "list" rAppend to (tCons te tNil)) r m Q := fun σ H G S L R k =>
  h σ H G S L _ fun v H1 G1 x m1 ⟨hx, hm, h1⟩ S1 e1 r1 => by
    subst hx
    have r1 := r1.eq
    subst r1
    obtain ⟨xs, g1, g2⟩ := S1.mem p _ hm
    refine ⟨Or.inl ⟨rfl, xs, Or.inl (Or.inl g1)⟩, ?_⟩
    refine h1 σ H1 G1 S1 (L.mono e1) _ fun w H2 G2 y m2 ⟨hm2, hl, q⟩ S2 e2 r2 => ?_
    obtain ⟨ys, g3, g4⟩ := S2.mem p _ hm2
    refine ⟨p, ys, w, rfl, rfl, g3, Nat.lt_of_lt_of_le (by rw [g4.length]; exact hl) (by decide), ?_⟩
    exact k .non _ G2 _ _ q (S2.chg hm2 ⟨_, upd_same, g4.append ⟨w, [], rfl, r2, rfl⟩⟩) (e1.trans e2) vr_none
theorem o2_pow {i j : Int} (c : CPow i j) (q : Q (.d (.int (i ^ j.toNat))) m) : Op2 K rPow (.d (.int i)) (.d (.int j)) m Q := o2_I (C := CPow) (g := fun i j => i ^ j.toNat) c q
end
end DL
namespace DL
open PySem L2
/-- a def of the text that keeps a word of this level -/
structure Cl (P : Program) (w : World) (K : PySem.W.Frag) (mg : Str → Option Value) (base : Heap) (k : Nat) (x : Str) (sp : FSp) : Prop where
  ex : ∃ f fd ps, FnOk P w K mg base CX0 k f fd ps (spD K sp) ∧ mg x = some (.ref f) ∧ PySem.W.keepIn K (.ref f) = true ∧ Binds K fd ps []
section
variable {X : Cx} {k j n0 : Nat} {x : Str} {sp : FSp} {e : Expr} {es : List Expr} {t : TA} {p pos : Pos} {P : Program} {w : World} {K : PySem.W.Frag} {mg : Str → Option Value} {base : Heap}
theorem pe_cl (c : Cl P w K mg base k x sp) (hr : Room j X.A) (hk : k ≤ j) (hg : Gl X x) (ha : PA X (e :: es) t) (hP : X.prog = P := by rfl) (hw : X.w = w := by rfl) (hK : X.K = K := by rfl) (hmg : X.mg = mg := by rfl) (hbs : X.base = base := by rfl)
    (hdb : (x == ("__debug__" : Str)) = false := by decide)
    (he : starEach (e :: es) X.env = (false, eval e X.env) :: starEach es X.env := by rfl) (hpl : (backTo pos (starEach es X.env)).any (·.1) = false := by rfl) :
    PE X (.Call (.Name x p) (e :: es) [] pos) (tCall (spD K sp) [] E0 t) := by
  subst hP hw hK hmg hbs
  obtain ⟨f, fd, ps, F, hm, hkp, hb⟩ := c.ex
  exact pe_call F (hr.mono hk) hg hm hkp hb .nil pass0 ha hdb he hpl
theorem pe_gi {i : Int} (h : ∃ t, mg x = some (.int i t)) (hg : Gl X x) (hmg : X.mg = mg := by rfl) (hd : (x == ("__debug__" : Str)) = false := by decide) : PE X (.Name x pos) (tC (.int i)) := by
  subst hmg
  obtain ⟨t, h⟩ := h
  exact pe_glob hg h ⟨_, rfl⟩ hd
/-! the joined rules, the written part by name -/
theorem kAdd (K : PySem.W.Frag) (h : X.K = K := by rfl) : OpR X (binaryOp .Add) (rAdd K) := h ▸ oAdd
theorem kMul (K : PySem.W.Frag) (h : X.K = K := by rfl) : OpR X (binaryOp .Mult) (rMul K) := h ▸ oMul
theorem kEq (K : PySem.W.Frag) (hr : Room j X.A) (h : X.K = K := by rfl) : OpR X (compareOp .Eq) (rEqA K) := h ▸ oEq hr
theorem kNe (K : PySem.W.Frag) (hr : Room j X.A) (h : X.K = K := by rfl) : OpR X (compareOp .NotEq) (rNeA K) := h ▸ oNe hr
theorem kIx (K : PySem.W.Frag) (h : X.K = K := by rfl) : IxR X (rIx K) := h ▸ ix_seq
theorem kLen (K : PySem.W.Frag) (h : X.K = K := by rfl) : CallR X (.builtin "len") (rLen K) := h ▸ cLen
theorem kSum (K : PySem.W.Frag) (hc : X.calm = true := by rfl) (h : X.K = K := by rfl) : CallR X (.builtin "sum") (rSumA K) := h ▸ cSum hc
theorem kAll (K : PySem.W.Frag) (hc : X.calm = true := by rfl) (h : X.K = K := by rfl) : CallR X (.builtin "all") (rAll K) := h ▸ cAll hc
theorem kTup (K : PySem.W.Frag) (h : X.K = K := by rfl) : CallR X (.type "tuple") (rTupO K) := h ▸ cTup
theorem kIsi (K : PySem.W.Frag) (h : X.K = K := by rfl) : CallR X (.builtin "isinstance") (rIsi K) := h ▸ cIsi
theorem kRepr (K : PySem.W.Frag) (hr : Room j X.A) (hg : X.A.guards = some []) (h : X.K = K := by rfl) : CallR X (.builtin "repr") (rRepr K) := h ▸ cRepr hr hg
theorem kSlL (K : PySem.W.Frag) (h : X.K = K := by rfl) : SlR X (rSlL K) := h ▸ sl_list
theorem kBM (K : PySem.W.Frag) {e : Expr} {T : String} {r : V → List V → Hp → VK → Prop} {to : TE} {ta : TA} (hp : PE X e (tBM X.K T r to ta)) (h : X.K = K := by rfl) : PE X e (tBM K T r to ta) := h ▸ hp
theorem kgT (K : PySem.W.Frag) {tg : Expr} {t : TGs} (hp : PG X tg (gTup X.K n0 t)) (h : X.K = K := by rfl) : PG X tg (gTup K n0 t) := h ▸ hp
theorem kiT (K : PySem.W.Frag) {tg l : Expr} {tl : TE} (hl : PE X l tl) (h : X.K = K := by rfl) : PI X tg l (iTup K tl) := h ▸ pi_tup hl
theorem kiL (K : PySem.W.Frag) {tg l : Expr} {tl : TE} (hl : PE X l tl) (h : X.K = K := by rfl) : PI X tg l (iList K tl) := h ▸ pi_list hl
end
/-! defs that want to know that nothing is being shown around them -/
structure FnG (P : Program) (w : World) (K : PySem.W.Frag) (mg : Str → Option Value) (base : Heap) (k : Nat) (f : Addr) (fd : FuncData) (ps : List Str) (sp : Sp) : Prop where
  len : ∀ vs H Q E, sp vs H Q E → vs.length = ps.length
  run : ∀ (A : Around) (outer : List Env) (s : Shared) (H : Hp) (args : Args) (us : List Value) (vs : List V) (Q : VK) (E : XK), A.guards = some [] → Room k A →
    Env0 P w K mg base A outer s H → BindsTo s fd args (ps.zip us) → Vals vs us → sp vs H Q E → codeAny (model P w) A (.call (.ref f) args) (CR CX0 outer P w H s Q E) s
section
variable {P : Program} {w : World} {K : PySem.W.Frag} {mg : Str → Option Value} {base : Heap}
theorem deeper_guards (A : Around) (env : Env) : (A.deeper env).guards = A.guards := by
  first
    | rfl
    | simp [Around.deeper]
theorem fnG_of {x qual : Str} {st : Stmt} {f : Addr} {fd : FuncData} {N ps : List Str} {k : Nat} {sp : Sp} (F : Fun K x qual st f fd) (S : FnScope N ps (defScope st)) (len : ∀ vs H Q E, sp vs H Q E → vs.length = ps.length)
    (hbody : ∀ (cdv : Value) (A : Around) (outer : List Env) (s : Shared) (H : Hp) (vs : List V) (Q : VK) (E : XK), (A.deeper (PyProof.Rows.envOfC qual (defScope st) s.heap.objs.size f cdv)).guards = some [] →
      Room k (A.deeper (PyProof.Rows.envOfC qual (defScope st) s.heap.objs.size f cdv)) → sp vs H Q E →
      ∃ t, PSs (cxOf CX0 P w K mg base N qual (defScope st) f cdv A outer s H E).nox (defBody st) t ∧ t { nx := fun _ H' => Q .non H', rt := Q } (L2.start N vs) H) : FnG P w K mg base (k + 1) f fd ps sp := by
  obtain ⟨oc, od, kV, doc, pm, an, cdv, ct, osl, rfl, lk, hcd⟩ := F.ex
  refine ⟨len, fun A outer s H args us vs Q E hgd hr e0 hb r hsp => ?_⟩
  have hl := len _ _ _ _ hsp
  have KX : K.In s.heap := e0.mod.kin.keeps fun b o e => (e0.bs b o e).1
  have lim : s.heap.NoLimit := e0.mod.nolimit.keeps fun b o e => (e0.bs b o e).1
  refine codeAny_call_function hr.depth (KX _ _ lk) rfl S.co S.gen rfl (PySem.W.codeRec_of KX hcd) (hb _ _ _ _ ?_)
  refine wpAny_newFunctionEnv_cells S.kind (fun y hy => ?_) fun env he s1 z => ?_
  · obtain ⟨n, v⟩ := y
    rcases S.par n (List.of_mem_zip hy).1 with q | q
    · exact Or.inl q
    · exact Or.inr ⟨q, PySem.W.cellsFrom_some _ _ _ (.inl q)⟩
  subst he
  refine ⟨lim.keeps z.toInCall.keep, codeAny_func ?_⟩
  obtain ⟨t, ht, hq⟩ := hbody cdv A outer s H vs Q E ((deeper_guards A _).trans hgd) (hr.deeper _) hsp
  have ht := ht.nox
  have I : Inv (cxOf CX0 P w K mg base N qual (defScope st) f cdv A outer s H E) [] (L2.start N vs) H s1 := inv_start S hr.hd e0 hl r z
  refine wpAny_mono (ht.run [] s1 (L2.start N vs) H _ I hq) (fun fl s' hs => ?_) fun e s' hs => hs
  cases fl with
  | ret u =>
    obtain ⟨v, σ', H', J, rv, q⟩ := hs
    exact ⟨v, H', J.os, J.bare, J.base, J.hok, rv, q⟩
  | next =>
    obtain ⟨σ', H', J, q⟩ := hs
    exact ⟨.non, H', J.os, J.bare, J.base, J.hok, rfl, q⟩
  | brk =>
    obtain ⟨_, _, _, q⟩ := hs
    exact q.elim
  | cont =>
    obtain ⟨_, _, _, q⟩ := hs
    exact q.elim
theorem fnG_ok {x qual : Str} {st : Stmt} {f : Addr} {fd : FuncData} {N ps : List Str} {k : Nat} {sp : FSp} (F : Fun K x qual st f fd) (S : FnScope N ps (defScope st)) (hl : ∀ args m R, sp args m R → args.length = ps.length)
    (hb : ∀ (cdv : Value) (A : Around) (outer : List Env) (s : Shared) (H : Hp) (E : XK), (A.deeper (PyProof.Rows.envOfC qual (defScope st) s.heap.objs.size f cdv)).guards = some [] →
      Room k (A.deeper (PyProof.Rows.envOfC qual (defScope st) s.heap.objs.size f cdv)) →
      ∃ t, PSs (cxOf CX0 P w K mg base N qual (defScope st) f cdv A outer s H E).nox (defBody st) t ∧
        ∀ args m R, sp args m R → Wp K t (args ++ List.replicate (N.length - args.length) .any) m (fun _ m' => R (.d .none) m') R) : FnG P w K mg base (k + 1) f fd ps (spD K sp) := by
  refine fnG_of F S (fun vs H Q E h => ?_) (fun cdv A outer s H vs Q E hg hr h => ?_)
  · obtain ⟨m, G, args, R, S1, r1, h1, _⟩ := h
    rw [r1.length]; exact hl args m R h1
  · obtain ⟨m, G, args, R, S1, r1, h1, k1⟩ := h
    obtain ⟨t, ht, hw⟩ := hb cdv A outer s H E hg hr
    refine ⟨t, ht, ?_⟩
    refine hw args m R h1 _ H G _ S1 ?_ (fun σ' H' G' r' m' hn S' e' L' => ?_) (fun v H' G' x m' hn S' e' L' => k1 v H' G' x m' hn S' e' L')
    · unfold L2.start
      rw [r1.length]
      exact Sl.start _ r1
    · exact k1 .non H' G' (.d .none) m' hn S' e' (.d (rp_none.mpr rfl))
end
end DL
namespace DL
open PySem L2
end DL
namespace DL
open PySem L2
/-! bits -/
def Bt (i : Int) (k : Nat) : Prop := i.natAbs < 2 ^ k
theorem Bt.mono {i : Int} {a b : Nat} (h : Bt i a) (hb : a ≤ b) : Bt i b := Nat.lt_of_lt_of_le h (Nat.pow_le_pow_right (by decide) hb)
theorem Bt.mul {i j : Int} {a b : Nat} (h : Bt i a) (g : Bt j b) : Bt (i * j) (a + b) := wide_lt h g
theorem Bt.add {i j : Int} {a b c : Nat} (h : Bt i a) (g : Bt j b) (h1 : a ≤ c) (h2 : b ≤ c) : Bt (i + j) (c + 1) := by
  have h := h.mono h1
  have g := g.mono h2
  unfold Bt at *
  rw [Nat.pow_succ]
  have : (i + j).natAbs ≤ i.natAbs + j.natAbs := Int.natAbs_add_le i j
  omega
theorem Bt.le {i j : Int} {a : Nat} (h : Bt j a) (hi : i.natAbs ≤ j.natAbs) : Bt i a := Nat.lt_of_le_of_lt hi h
theorem Bt.cmul {i j : Int} {a b : Nat} (h : Bt i a) (g : Bt j b) (c : a + b + 2 ≤ 1000000) : CMulW i j := wide_mul (h.mono (Nat.le_succ a)) (g.mono (Nat.le_succ b)) (Nat.succ_pos a) (Nat.succ_pos b) (by omega)
theorem Bt.cdiv {i j : Int} {b : Nat} (g : Bt j b) (h0 : 0 < j) (c : b < 9000) : CDivW i j := wide_div h0 (g.mono (Nat.le_succ b)) (Nat.succ_pos b) (by omega)
theorem cdiv_small {i j : Int} (h0 : 0 < j) (h : j < 1073741824) : CDivW i j := wide_div (b := 30) h0 (by
  have e : (2 : Nat) ^ 30 = 1073741824 := by decide
  rw [e]; omega) (by decide) (by decide)
theorem cmul_small {i j : Int} (h0 : i.natAbs < 18446744073709551616) (h : j.natAbs < 18446744073709551616) : CMulW i j := by
  have e : (2 : Nat) ^ 64 = 18446744073709551616 := by decide
  exact wide_mul (a := 64) (b := 64) (by rw [e]; exact h0) (by rw [e]; exact h) (by decide) (by decide) (by decide)
/-! fractions -/
def frac (q : Rat) : PyData := .tuple [.int q.num, .int (q.den : Int)]
theorem frac_mk (t : Int) (b : Nat) (hb : b ≠ 0) : frac (mkRat t b) = .tuple [.int (t / (Nat.gcd b t.natAbs : Nat)), .int ((b / Nat.gcd b t.natAbs : Nat) : Int)] := by
  unfold frac
  rw [Rat.num_mkRat, Rat.den_mkRat, if_neg hb, if_neg hb]
theorem frac_int (n : Int) : frac (n : Rat) = .tuple [.int n, .int 1] := rfl
/-! ints of bounded size are shown -/
theorem log2_of_bt {i : Int} {a : Nat} (h : Bt i a) (h0 : 0 < a) : i.natAbs.log2 < a := PySem.Flt.log2_lt_of h0 h
theorem showable_int {i : Int} {a : Nat} (h : Bt i a) (h0 : 0 < a) (ha : a ≤ 1920) : (PyData.int i).showable = true := by
  simp only [PyData.showable]
  exact decide_eq_true (Nat.lt_of_lt_of_le (log2_of_bt h h0) ha)
/-! what may be shown: how deep, how long -/
structure Sh (d : PyData) (k n : Nat) : Prop where
  nd : d.hasDict = false
  dp : d.depth ≤ k
  sh : d.showable = true
  ln : d.shown.length ≤ n
theorem Sh.mono {d : PyData} {k n k' n' : Nat} (h : Sh d k n) (h1 : k ≤ k') (h2 : n ≤ n') : Sh d k' n' := ⟨h.nd, Nat.le_trans h.dp h1, h.sh, Nat.le_trans h.ln h2⟩
theorem sh_int {i : Int} {a : Nat} (h : Bt i a) (h0 : 0 < a) (ha : a ≤ 1920) : Sh (.int i) 0 (a + 1) := by
  refine ⟨by simp only [PyData.hasDict], by simp only [PyData.depth]; exact Nat.le_refl 0, showable_int h h0 ha, ?_⟩
  simp only [PyData.shown]
  rw [ofString_length]
  exact int_text_length_le h0 (log2_of_bt h h0)
theorem shAll {k n : Nat} : ∀ {ds : List PyData}, (∀ d ∈ ds, Sh d k n) → PyData.hasDictAll ds = false ∧ PyData.depthAll ds ≤ k ∧ PyData.showableAll ds = true ∧ ((PyData.shownAll ds).map (·.length)).sum ≤ n * ds.length ∧ (PyData.shownAll ds).length = ds.length
  | [], _ => ⟨by simp only [PyData.hasDictAll], by simp only [PyData.depthAll]; exact Nat.zero_le _, by simp only [PyData.showableAll], by simp [PyData.shownAll], by simp [PyData.shownAll]⟩
  | d :: ds, h => by
    have h1 := h d (List.mem_cons_self ..)
    obtain ⟨a, b, c, e, f⟩ := shAll (ds := ds) fun x hx => h x (List.mem_cons_of_mem _ hx)
    refine ⟨by simp only [PyData.hasDictAll, h1.nd, a]; rfl, ?_, by simp only [PyData.showableAll, h1.sh, c]; rfl, ?_, ?_⟩
    · simp only [PyData.depthAll]
      exact Nat.max_le.mpr ⟨h1.dp, b⟩
    · have := h1.ln
      simp only [PyData.shownAll, List.map_cons, List.sum_cons, List.length_cons]
      rw [Nat.mul_succ]
      omega
    · simp only [PyData.shownAll, List.length_cons, f]
theorem sh_tuple {ds : List PyData} {k n c : Nat} (h : ∀ d ∈ ds, Sh d k n) (hc : ds.length ≤ c) : Sh (.tuple ds) (k + 1) ((n + 2) * c + 3) := by
  obtain ⟨a, b, e, f, g⟩ := shAll h
  refine ⟨by simp only [PyData.hasDict, a], by simp only [PyData.depth]; omega, by simp only [PyData.showable, e], ?_⟩
  simp only [PyData.shown]
  have := tupleText_len_le (PyData.shownAll ds)
  have h1 : n * ds.length ≤ n * c := Nat.mul_le_mul_left n hc
  have h2 : (n + 2) * c = n * c + 2 * c := Nat.add_mul n 2 c
  omega
theorem sh_list {ds : List PyData} {k n c : Nat} (h : ∀ d ∈ ds, Sh d k n) (hc : ds.length ≤ c) : Sh (.list ds) (k + 1) ((n + 2) * c + 3) := by
  obtain ⟨a, b, e, f, g⟩ := shAll h
  refine ⟨by simp only [PyData.hasDict, a], by simp only [PyData.depth]; omega, by simp only [PyData.showable, e], ?_⟩
  simp only [PyData.shown]
  have := listText_len_le (PyData.shownAll ds)
  have h1 : n * ds.length ≤ n * c := Nat.mul_le_mul_left n hc
  have h2 : (n + 2) * c = n * c + 2 * c := Nat.add_mul n 2 c
  omega
theorem on_show {K : PySem.W.Frag} {m : Mm} {Q : Val → Mm → Prop} {x : PyData} {k n : Nat} (h : Sh x k n) (h1 : k ≤ 64) (h2 : n ≤ 16777216) (q : Q (.d (.str x.shown)) m) : OpN K (rRepr K) [.d x] m Q :=
  on_repr h.nd (Nat.le_trans h.dp h1) h.sh (Nat.le_trans h.ln (by rw [sizeLine_eq]; exact h2)) q
/-- a fraction of small enough parts -/
def FrB (q : Rat) (a : Nat) : Prop := Bt q.num a ∧ Bt (q.den : Int) a
theorem sh_frac {q : Rat} {a : Nat} (h : FrB q a) (h0 : 0 < a) (ha : a ≤ 1920) : Sh (frac q) 1 4000 := by
  unfold frac
  refine (sh_tuple (ds := [.int q.num, .int (q.den : Int)]) (k := 0) (n := a + 1) (c := 2) (fun d hd => ?_) (Nat.le_refl 2)).mono (Nat.le_refl _) (by omega)
  rcases List.mem_cons.mp hd with e | hd
  · rw [e]; exact sh_int h.1 h0 ha
  · rw [List.mem_singleton.mp hd]; exact sh_int h.2 h0 ha
end DL
namespace DL
open PySem L2
theorem br_t {c : Bool} {A B : Prop} (h : c = true) (a : A) : (c = true → A) ∧ (c = false → B) := ⟨fun _ => a, fun g => by rw [h] at g; cases g⟩
theorem br_f {c : Bool} {A B : Prop} (h : c = false) (b : B) : (c = true → A) ∧ (c = false → B) := ⟨(fun g => by rw [h] at g; cases g), (fun _ => b)⟩
theorem take_one {α : Type} {ds : List α} {i : Nat} {d : α} (h : ds[i]? = some d) : ds.take (i + 1) = ds.take i ++ [d] := by
  rw [List.take_succ, h]; rfl
theorem range_one (i : Nat) : List.range (i + 1) = List.range i ++ [i] := List.range_succ
section
variable {K : PySem.W.Frag} {r : List Val} {m : Mm} {Q : Val → Mm → Prop} {te tl : TE} {tt : TT} {j : Nat} {ds : List PyData}
theorem ev_mapT (h : Ev K tl r m fun x m1 => x = .d (.tuple ds) ∧ m1 = m) (hn : ds.length ≤ 100000) (f : PyData → PyData)
    (hs : ∀ (i : Nat) (d : PyData) m', ds[i]? = some d → Ext m m' → Ev K te (r.set j (.d d)) m' fun x m3 => x = .d (f d) ∧ m3 = m') (q : Q (.d (.list (ds.map f))) m) : Ev K (tLc (iTup K tl) (gName j) tYes te [j]) r m Q :=
  ev_lcT h hn (fun i acc => acc = (ds.take i).map f) (by simp) (fun i d m' acc hd hx hw => evt_yes ⟨rfl, fun _ => (hs i d m' hd hx).imp fun x m3 e => ⟨e.2, f d, e.1, by rw [hw, take_one hd, List.map_append]; rfl⟩, (fun g => nomatch g)⟩)
    (fun acc hw => by rw [hw, List.take_length]; exact q)
theorem ev_mapR1 {ta : TA} {n : Nat} (h : EvA K ta r m fun xs m1 => xs = [.d (.int (n : Int))] ∧ m1 = m) (hn : n ≤ 100000) (f : Nat → PyData)
    (hs : ∀ i m', i < n → Ext m m' → Ev K te (r.set j (.d (.int (i : Int)))) m' fun x m3 => x = .d (f i) ∧ m3 = m') (q : Q (.d (.list ((List.range n).map f))) m) : Ev K (tLc (iRng1 ta) (gName j) tYes te [j]) r m Q :=
  ev_lcR1 h hn (fun i acc => acc = (List.range i).map f) (by simp) (fun i m' acc hi hx hw => evt_yes ⟨rfl, fun _ => (hs i m' hi hx).imp fun x m3 e => ⟨e.2, f i, e.1, by rw [hw, range_one, List.map_append]; rfl⟩, (fun g => nomatch g)⟩)
    (fun acc hw => by rw [hw]; exact q)
theorem ev_mapR2 {ta : TA} {lo n : Nat} (h : EvA K ta r m fun xs m1 => xs = [.d (.int (lo : Int)), .d (.int ((lo + n : Nat) : Int))] ∧ m1 = m) (hn : lo + n ≤ 100000) (f : Nat → PyData)
    (hs : ∀ i m', i < n → Ext m m' → Ev K te (r.set j (.d (.int ((lo + i : Nat) : Int)))) m' fun x m3 => x = .d (f i) ∧ m3 = m') (q : Q (.d (.list ((List.range n).map f))) m) : Ev K (tLc (iRng2 ta) (gName j) tYes te [j]) r m Q :=
  ev_lcR2 h hn (fun i acc => acc = (List.range i).map f) (by simp) (fun i m' acc hi hx hw => evt_yes ⟨rfl, fun _ => (hs i m' hi hx).imp fun x m3 e => ⟨e.2, f i, e.1, by rw [hw, range_one, List.map_append]; rfl⟩, (fun g => nomatch g)⟩)
    (fun acc hw => by rw [hw]; exact q)
/-- a range that is none -/
theorem ev_lcR2' {ta : TA} (h : EvA K ta r m fun xs m1 => xs = [.d (.int 1), .d (.int 0)] ∧ m1 = m) (q : Q (.d (.list [])) m) : Ev K (tLc (iRng2 ta) (gName j) tt te [j]) r m Q := fun σ H G S L R k =>
  h σ H G S L _ fun vs H1 G1 xs m1 ⟨hx, hm⟩ S1 e1 r1 => by
    subst hx hm
    obtain ⟨v1, v2, rfl, a1, a2⟩ := vrs2 r1
    have a1 := int_of a1
    have a2 := int_of a2
    subst a1 a2
    refine ⟨1, 0, rfl, ⟨by omega, by omega, by omega, by omega⟩, fun D hD => ?_⟩
    have hmD := S1.freeM hD
    refine lc_range (lo := 1) (n := 0) (LcW K m1 G1 D (fun _ acc => acc = [])) (lc_start S1 hD rfl) (fun i H' hi => absurd hi (Nat.not_lt_zero i)) fun H' hP => ?_
    exact lc_end hmD hP (fun acc hw => by rw [hw]; exact q) fun v H' G' x m' q S' e' r' => k v H' G' x m' q S' (e1.trans e') r'
end
end DL
namespace DL
open PySem L2
def f_gcd : FSp := fun args m R => ∃ a b : Nat, args = [.d (.int (a : Int)), .d (.int (b : Int))] ∧ R (.d (.int ((Nat.gcd a b : Nat) : Int))) m
def f_made : FSp := fun args m R => ∃ (t : Int) (b : Nat), args = [.d (.int t), .d (.int (b : Int))] ∧ 0 < b ∧ Bt (b : Int) 8000 ∧ R (.d (frac (mkRat t b))) m
def isInt : PyData → Bool
  | .int _ => true
  | _ => false
def f_isWhole : FSp := fun args m R => ∃ x, args = [.d x] ∧ R (.d (.bool (isInt x))) m
def okS : PyData → Bool
  | .int i => decide (1 ≤ i) && decide (i ≤ 9)
  | _ => false
def isShares : PyData → Bool
  | .tuple ds => decide (1 ≤ ds.length) && (decide (ds.length ≤ 5) && ds.all okS)
  | _ => false
structure Shares (ss : List Int) : Prop where
  pos : 1 ≤ ss.length
  few : ss.length ≤ 5
  each : ∀ s ∈ ss, 1 ≤ s ∧ s ≤ 9
def tupI (ns : List Int) : PyData := .tuple (ns.map PyData.int)
def tupN (ks : List Nat) : PyData := .tuple ((ks.map fun (k : Nat) => (k : Int)).map PyData.int)
theorem isShares_of {ss : List Int} (h : Shares ss) : isShares (tupI ss) = true := by
  unfold isShares tupI
  dsimp only
  rw [List.length_map, decide_eq_true h.pos, decide_eq_true h.few, Bool.true_and, Bool.true_and, List.all_eq_true]
  intro d hd
  obtain ⟨i, hi, rfl⟩ := List.mem_map.mp hd
  obtain ⟨a, b⟩ := h.each i hi
  show (decide (1 ≤ i) && decide (i ≤ 9)) = true
  rw [decide_eq_true a, decide_eq_true b]; rfl
theorem int_shape {d : PyData} (h : isInt d = true) : ∃ i, d = .int i := by
  cases d with
  | int i => exact ⟨i, rfl⟩
  | _ => cases h
theorem tup_shape {d : PyData} (h : isTup d = true) : ∃ ds, d = .tuple ds := by
  cases d with
  | tuple i => exact ⟨i, rfl⟩
  | _ => cases h
def f_isShares : FSp := fun args m R => ∃ x, args = [.d x] ∧ R (.d (.bool (isShares x))) m
def f_needShares : FSp := fun args m R => ∃ x, args = [.d x] ∧ isShares x = true ∧ R (.d .none) m
def okK (n : Int) : PyData → Bool
  | .int i => decide (0 ≤ i) && decide (i < n)
  | _ => false
def intOf : PyData → Int
  | .int i => i
  | _ => 0
def rising (ds : List PyData) : Bool := (List.range (ds.length - 1)).all fun i => decide (intOf (ds.getD i .none) < intOf (ds.getD (i + 1) .none))
def areKinds (x : PyData) (n : Int) : Bool := match x with
  | .tuple ds => ds.all (okK n) && rising ds
  | _ => false
def shortD : PyData → Prop
  | .tuple ds => ds.length ≤ 90000
  | _ => True
def f_areKinds : FSp := fun args m R => ∃ x n, args = [.d x, .d (.int n)] ∧ shortD x ∧ R (.d (.bool (areKinds x n))) m
def sumP (ss : List Int) (ks : List Nat) : Int := (ks.map fun k => ss.getD k 0).sum
def f_sumPart : FSp := fun args m R => ∃ (ss : List Int) (ks : List Nat), args = [.d (tupI ss), .d (tupN ks)] ∧ ks.length ≤ 1000 ∧ (∀ k ∈ ks, k < ss.length) ∧ R (.d (.int (sumP ss ks))) m
theorem tupI_at {ss : List Int} {k : Nat} (h : k < ss.length) : atI (ss.map PyData.int) (k : Int) = some (.int (ss.getD k 0)) := by
  rw [atI_nth, List.getElem?_map, List.getD_eq_getElem?_getD, List.getElem?_eq_getElem h]; rfl
theorem shares_sum {ss : List Int} (h : Shares ss) : 1 ≤ ss.sum ∧ ss.sum ≤ 45 := by
  obtain ⟨h1, h2, h3⟩ := h
  match ss, h1, h2 with
  | [a], _, _ => have := h3 a (by simp); simp; omega
  | [a, b], _, _ => have := h3 a (by simp); have := h3 b (by simp); simp; omega
  | [a, b, c], _, _ => have := h3 a (by simp); have := h3 b (by simp); have := h3 c (by simp); simp; omega
  | [a, b, c, d], _, _ => have := h3 a (by simp); have := h3 b (by simp); have := h3 c (by simp); have := h3 d (by simp); simp; omega
  | [a, b, c, d, e], _, _ => have := h3 a (by simp); have := h3 b (by simp); have := h3 c (by simp); have := h3 d (by simp); have := h3 e (by simp); simp; omega
/-- some kinds of so many -/
structure Kinds (n : Nat) (ks : List Nat) : Prop where
  up : ks.Pairwise (· < ·)
  lt : ∀ k ∈ ks, k < n
theorem Kinds.len {n : Nat} {ks : List Nat} (h : Kinds n ks) : ks.length ≤ n := by
  have h1 : ks.Sublist (List.range n) := by
    have : ∀ (ks : List Nat) (m : Nat), ks.Pairwise (· < ·) → (∀ k ∈ ks, m ≤ k ∧ k < n) → ks.Sublist ((List.range n).drop m) := by
      intro ks
      induction ks with
      | nil => intro m _ _; exact List.nil_sublist _
      | cons k t ih =>
        intro m hp hl
        have hk := hl k (by simp)
        have hkn : k < (List.range n).length := by rw [List.length_range]; exact hk.2
        have hd : (List.range n).drop k = k :: (List.range n).drop (k + 1) := by
          rw [List.drop_eq_getElem_cons hkn, List.getElem_range]
        have h1 : (k :: t).Sublist ((List.range n).drop k) := by
          rw [hd]
          refine (ih (k + 1) (List.pairwise_cons.mp hp).2 fun x hx => ⟨?_, (hl x (by simp [hx])).2⟩).cons_cons k
          exact (List.pairwise_cons.mp hp).1 x hx
        refine h1.trans ?_
        have e : (List.range n).drop k = ((List.range n).drop m).drop (k - m) := by rw [List.drop_drop]; congr 1; omega
        rw [e]
        exact List.drop_sublist _ _
    exact this ks 0 h.up fun k hk => ⟨Nat.zero_le _, h.lt k hk⟩
  have := h1.length_le
  rw [List.length_range] at this
  exact this
theorem areKinds_of {n : Nat} {ks : List Nat} (h : Kinds n ks) : areKinds (tupN ks) (n : Int) = true := by
  show (((ks.map fun (k : Nat) => (k : Int)).map PyData.int).all (okK n) && rising ((ks.map fun (k : Nat) => (k : Int)).map PyData.int)) = true
  rw [Bool.and_eq_true]
  constructor
  · rw [List.all_eq_true]
    intro d hd
    rw [List.map_map] at hd
    obtain ⟨k, hk, rfl⟩ := List.mem_map.mp hd
    have := h.lt k hk
    show (decide ((0 : Int) ≤ (k : Int)) && decide ((k : Int) < (n : Int))) = true
    rw [decide_eq_true (by omega), decide_eq_true (by omega)]; rfl
  · unfold rising
    rw [List.all_eq_true]
    intro i hi
    rw [List.mem_range, List.length_map, List.length_map] at hi
    apply decide_eq_true
    have g : ∀ j, j < ks.length → intOf (((ks.map fun (k : Nat) => (k : Int)).map PyData.int).getD j .none) = (ks.getD j 0 : Nat) := by
      intro j hj
      rw [List.getD_eq_getElem?_getD, List.getElem?_map, List.getElem?_map, List.getD_eq_getElem?_getD, List.getElem?_eq_getElem hj]; rfl
    rw [g i (by omega), g (i + 1) (by omega)]
    have := List.pairwise_iff_getElem.mp h.up i (i + 1) (by omega) (by omega) (by omega)
    rw [List.getD_eq_getElem?_getD, List.getD_eq_getElem?_getD, List.getElem?_eq_getElem (by omega), List.getElem?_eq_getElem (by omega)]
    simp only [Option.getD_some]
    omega
theorem sumP_nonneg {ss : List Int} (h : Shares ss) : ∀ ks : List Nat, 0 ≤ sumP ss ks
  | [] => Int.le_refl 0
  | k :: t => by
    have ih := sumP_nonneg h t
    have e : sumP ss (k :: t) = ss.getD k 0 + sumP ss t := rfl
    have : 0 ≤ ss.getD k 0 := by
      rw [List.getD_eq_getElem?_getD]
      cases hk : ss[k]? with
      | none => decide
      | some s => have := h.each s (List.mem_of_getElem? hk); simp; omega
    omega
theorem getD_bounds {ss : List Int} (h : Shares ss) (k : Nat) : 0 ≤ ss.getD k 0 ∧ ss.getD k 0 ≤ 9 := by
  rw [List.getD_eq_getElem?_getD]
  cases hk : ss[k]? with
  | none => exact ⟨by decide, by decide⟩
  | some s => have := h.each s (List.mem_of_getElem? hk); simp; omega
theorem sumP_le9 {ss : List Int} (h : Shares ss) : ∀ ks : List Nat, sumP ss ks ≤ 9 * (ks.length : Int)
  | [] => Int.le_refl 0
  | k :: t => by
    have ih := sumP_le9 h t
    have e : sumP ss (k :: t) = ss.getD k 0 + sumP ss t := rfl
    have := getD_bounds h k
    rw [List.length_cons]
    omega
theorem sumP_le {ss : List Int} (h : Shares ss) {ks : List Nat} (hk : Kinds ss.length ks) : sumP ss ks ≤ 45 := by
  have := sumP_le9 h ks
  have := hk.len
  have := h.few
  omega
theorem frB_mk {t : Int} {b a : Nat} (h1 : Bt t a) (h2 : Bt (b : Int) a) (h0 : 0 < b) : FrB (mkRat t b) a := by
  refine ⟨?_, ?_⟩
  · rw [Rat.num_mkRat, if_neg (by omega)]
    refine h1.le ?_
    rw [Int.natAbs_ediv_of_dvd (Int.ofNat_dvd_left.mpr (Nat.gcd_dvd_right b t.natAbs)), Int.natAbs_natCast]
    exact Nat.div_le_self _ _
  · rw [Rat.den_mkRat, if_neg (by omega)]
    exact h2.le (by simp only [Int.natAbs_natCast]; exact Nat.div_le_self _ _)
theorem on_lenI {K : PySem.W.Frag} {m : Mm} {Q : Val → Mm → Prop} {ss : List Int} (q : Q (.d (.int (ss.length : Int))) m) : OpN K (rLen K) [.d (tupI ss)] m Q := on_lenT (by rw [List.length_map]; exact q)
theorem on_lenN {K : PySem.W.Frag} {m : Mm} {Q : Val → Mm → Prop} {ks : List Nat} (q : Q (.d (.int (ks.length : Int))) m) : OpN K (rLen K) [.d (tupN ks)] m Q := on_lenT (by rw [List.length_map, List.length_map]; exact q)
theorem on_sumI {K : PySem.W.Frag} {m : Mm} {Q : Val → Mm → Prop} {ss : List Int} (q : Q (.d (.int ss.sum)) m) : OpN K (rSumA K) [.d (tupI ss)] m Q := on_sumT q
/-! fractions reckoned -/
theorem o2_ixF0 {K : PySem.W.Frag} {m : Mm} {Q : Val → Mm → Prop} {q : Rat} (h : Q (.d (.int q.num)) m) : Op2 K (rIx K) (.d (frac q)) (.d (.int 0)) m Q := o2_ixT (d := .int q.num) rfl h
theorem o2_ixF1 {K : PySem.W.Frag} {m : Mm} {Q : Val → Mm → Prop} {q : Rat} (h : Q (.d (.int (q.den : Int))) m) : Op2 K (rIx K) (.d (frac q)) (.d (.int 1)) m Q := o2_ixT (d := .int (q.den : Int)) rfl h
def f_sumOf : FSp := fun args m R => ∃ p q : Rat, args = [.d (frac p), .d (frac q)] ∧ FrB p 3900 ∧ FrB q 3900 ∧ R (.d (frac (p + q))) m
def f_timesOf : FSp := fun args m R => ∃ p q : Rat, args = [.d (frac p), .d (frac q)] ∧ FrB p 3900 ∧ FrB q 3900 ∧ R (.d (frac (p * q))) m
theorem FrB.mono {q : Rat} {a b : Nat} (h : FrB q a) (hb : a ≤ b) : FrB q b := ⟨h.1.mono hb, h.2.mono hb⟩
theorem den_pos (q : Rat) : 0 < q.den := Nat.pos_of_ne_zero q.den_nz
theorem FrB.add {p q : Rat} {a b c : Nat} (h : FrB p a) (g : FrB q b) (hc : a + b + 1 ≤ c) : FrB (p + q) c := by
  rw [Rat.add_def']
  refine frB_mk (((h.1.mul g.2).add (g.1.mul h.2) (c := a + b) (Nat.le_refl _) (by omega)).mono hc) (Bt.mono (a := a + b) ?_ (by omega)) (Nat.mul_pos (den_pos p) (den_pos q))
  rw [Int.natCast_mul]
  exact h.2.mul g.2
theorem FrB.mul {p q : Rat} {a b c : Nat} (h : FrB p a) (g : FrB q b) (hc : a + b ≤ c) : FrB (p * q) c := by
  rw [Rat.mul_def']
  refine frB_mk ((h.1.mul g.1).mono hc) (Bt.mono (a := a + b) ?_ hc) (Nat.mul_pos (den_pos p) (den_pos q))
  rw [Int.natCast_mul]
  exact h.2.mul g.2
/-- whether a thing is a fraction -/
def isFrac : PyData → Bool
  | .tuple [.int t, .int b] => decide (1 ≤ b) && decide (Nat.gcd b.toNat t.natAbs = 1)
  | _ => false
def szFrac : PyData → Prop
  | .tuple [.int _, .int b] => Bt b 8000
  | _ => True
/-! a law's own helpers -/
theorem bt_lit {i : Int} {n a : Nat} (h : i.natAbs < 2 ^ n) (ha : n ≤ a) : Bt i a := Bt.mono (show Bt i n from h) ha
def f_take : FSp := fun args m R => ∃ (p : Addr) (k : Int), args = [.v (.ref p), .d (.int k)] ∧ m p = some .box ∧ 0 < k ∧ Bt k 8000 ∧ ∀ z : Int, 0 ≤ z → z < k → R (.d (.int z)) m
def f_law : FSp := fun args m R => ∃ ns : List Int, args = [.scr ns] ∧ ∀ m', R (.d (.bool true)) m'
theorem kinds_all (n : Nat) : Kinds n (List.range n) := ⟨List.pairwise_lt_range, fun k hk => List.mem_range.mp hk⟩
end DL
namespace DL
open PySem L2
section
variable {K : PySem.W.Frag} {r : List Val} {m : Mm} {Q : Val → Mm → Prop} {ta tb tc te : TE} {tt : TT}
/-! a list that may change, so many times -/
theorem VRs.rep {G : Hp} {rs : List Val} {xs : List V} (h : VRs K G rs xs) : ∀ n : Nat, VRs K G (List.replicate n rs).flatten (List.replicate n xs).flatten
  | 0 => rfl
  | n + 1 => by
    rw [List.replicate_succ, List.replicate_succ, List.flatten_cons, List.flatten_cons]
    exact h.append (VRs.rep h n)
/-! parts -/
def EvO (K : PySem.W.Frag) (t : TO) (r : List Val) (m : Mm) (Q : Option Int → Mm → Prop) : Prop :=
  ∀ σ H G, Sta K m H G → Sl K G r σ → ∀ R : Option Int → Hp → Prop, (∀ H' G' x m', Q x m' → Sta K m' H' G' → Le G G' → R x H') → t σ H R
theorem evo_none {Q : Option Int → Mm → Prop} (q : Q none m) : EvO K tNoPart r m Q := fun σ H G S L R k => k H G none m q S (Le.refl G)
theorem evo_some {Q : Option Int → Mm → Prop} (h : Ev K te r m fun x m1 => ∃ i : Int, x = .d (.int i) ∧ Q (some i) m1) : EvO K (tPart te) r m Q := fun σ H G S L R k =>
  h σ H G S L _ fun v H1 G1 x m1 ⟨i, hx, q⟩ S1 e1 r1 => by
    subst hx
    exact ⟨i, int_of r1, k H1 G1 _ m1 q S1 e1⟩
def cutD (ds : List PyData) (lo hi : Option Int) : List PyData := (ds.drop (HT.sIx ds.length 0 lo)).take (HT.sIx ds.length ds.length hi - HT.sIx ds.length 0 lo)
theorem RpAll.drop {G : Hp} : ∀ {ds : List PyData} {xs : List V} (n : Nat), RpAll K G ds xs → RpAll K G (ds.drop n) (xs.drop n)
  | ds, xs, 0, h => h
  | [], xs, n + 1, h => by rw [rpa_nil.mp h]; exact rpa_nil.mpr rfl
  | d :: ds, xs, n + 1, h => by
    obtain ⟨x, r, rfl, h2, h3⟩ := rpa_cons.mp h
    exact RpAll.drop n h3
theorem RpAll.take {G : Hp} : ∀ {ds : List PyData} {xs : List V} (n : Nat), RpAll K G ds xs → RpAll K G (ds.take n) (xs.take n)
  | ds, xs, 0, h => rpa_nil.mpr rfl
  | [], xs, n + 1, h => by rw [rpa_nil.mp h]; exact rpa_nil.mpr rfl
  | d :: ds, xs, n + 1, h => by
    obtain ⟨x, r, rfl, h2, h3⟩ := rpa_cons.mp h
    exact rpa_cons.mpr ⟨x, r.take n, rfl, h2, RpAll.take n h3⟩
theorem RpAll.cut {G : Hp} {ds : List PyData} {xs : List V} (h : RpAll K G ds xs) (lo hi : Option Int) : RpAll K G (cutD ds lo hi) (cutV xs lo hi) := by
  unfold cutD cutV
  rw [h.length]
  exact RpAll.take _ (RpAll.drop _ h)
theorem ev_slL {tl th : TO} (h : Ev K te r m fun x m1 => ∃ ds, x = .d (.list ds) ∧ EvO K tl r m1 fun lo m2 => EvO K th r m2 fun hi m3 => Q (.d (.list (cutD ds lo hi))) m3) : Ev K (tSl (rSlL K) te tl th) r m Q := fun σ H G S L R k =>
  h σ H G S L _ fun v H1 G1 x m1 ⟨ds, hx, h1⟩ S1 e1 r1 => h1 σ H1 G1 S1 (L.mono e1) _ fun H2 G2 lo m2 h2 S2 e2 => h2 σ H2 G2 S2 (L.mono (e1.trans e2)) _ fun H3 G3 hi m3 q S3 e3 => by
    subst hx
    obtain ⟨p, xs, hv, g1, g2⟩ := rp_list.mp (Rp.mono (e2.trans e3) _ _ r1.rp)
    refine ⟨p, xs, hv, Or.inl (Le.rd S3.sub g1), fun l hl => ?_⟩
    have hg := S3.free hl
    exact k _ _ (upd G3 l _) _ m3 q (S3.fix hl) (e1.trans (e2.trans (e3.trans (Le.new hg)))) (.d (rp_list.mpr ⟨l, _, rfl, Rd.of upd_same, RpAll.mono (Le.new hg) _ _ (g2.cut lo hi)⟩))
theorem cut_whole {α : Type} (ds : List α) {a b : Nat} (h : a = 0 ∧ b = ds.length) : (ds.drop a).take (b - a) = ds := by
  rw [h.1, h.2, List.drop_zero, Nat.sub_zero, List.take_length]
theorem ev_slT {tl th : TO} (h : Ev K te r m fun x m1 => ∃ ds, x = .d (.tuple ds) ∧ EvO K tl r m1 fun lo m2 => EvO K th r m2 fun hi m3 => Q (.d (.tuple (cutD ds lo hi))) m3) : Ev K (tSl (rSlA K) te tl th) r m Q := fun σ H G S L R k =>
  h σ H G S L _ fun v H1 G1 x m1 ⟨ds, hx, h1⟩ S1 e1 r1 => h1 σ H1 G1 S1 (L.mono e1) _ fun H2 G2 lo m2 h2 S2 e2 => h2 σ H2 G2 S2 (L.mono (e1.trans e2)) _ fun H3 G3 hi m3 q S3 e3 => by
    subst hx
    obtain ⟨p, xs, hv, g1, g2⟩ := rp_tuple.mp (Rp.mono (e2.trans e3) _ _ r1.rp)
    refine ⟨p, xs, hv, S3.sqT g1, fun hw => ?_, fun _ l hl => ?_⟩
    · rw [g2.length] at hw
      have e : cutD ds lo hi = ds := cut_whole ds hw
      have q : Q (.d (.tuple (cutD ds lo hi))) m3 := q
      rw [e] at q
      exact k _ H3 G3 _ m3 q S3 (e1.trans (e2.trans e3)) (.d (rp_tuple.mpr ⟨p, xs, rfl, g1, g2⟩))
    · have hg := S3.free hl
      exact k _ _ (upd G3 l _) _ m3 q (S3.fix hl) (e1.trans (e2.trans (e3.trans (Le.new hg)))) (.d (rp_tuple.mpr ⟨l, _, rfl, SqT.of upd_same, RpAll.mono (Le.new hg) _ _ (g2.cut lo hi)⟩))
/-! truth, and what is the very same -/
def rIsBl : R2 := fun x y H Q => ∃ a b, x = .bl a ∧ y = .bl b ∧ Q (.bl (decide (a = b))) H
def rIsNotBl : R2 := fun x y H Q => ∃ a b, x = .bl a ∧ y = .bl b ∧ Q (.bl (!decide (a = b))) H
theorem o2_isB {a b : Bool} (q : Q (.d (.bool (decide (a = b)))) m) : Op2 K rIsBl (.d (.bool a)) (.d (.bool b)) m Q := fun H G v w S x y R k => by
  rw [bool_of x, bool_of y]
  exact ⟨a, b, rfl, rfl, k _ H G _ m q S (Le.refl G) vr_bool⟩
theorem o2_isNotB {a b : Bool} (q : Q (.d (.bool (!decide (a = b)))) m) : Op2 K rIsNotBl (.d (.bool a)) (.d (.bool b)) m Q := fun H G v w S x y R k => by
  rw [bool_of x, bool_of y]
  exact ⟨a, b, rfl, rfl, k _ H G _ m q S (Le.refl G) vr_bool⟩
/-! in -/
theorem oNotInS {X : Cx} (K : PySem.W.Frag) (h : X.K = K := by rfl) : OpR X (compareOp .NotIn) (rIn K true) := h ▸ op_notIn_seq
theorem inV_ints (i : Int) (ns : List Int) : inV (.int i) (ns.map V.int) = decide (i ∈ ns) := by
  unfold inV
  rw [List.any_map]
  induction ns with
  | nil => rfl
  | cons n ns ih =>
    rw [List.any_cons, ih]
    by_cases h : i = n
    · subst h; simp [eqV]
    · have h2 : ¬ n = i := fun e => h e.symm
      simp [eqV, h, h2]
theorem flat_ints (ns : List Int) : (ns.map V.int).all flatV = true := by
  rw [List.all_map, List.all_eq_true]; intro x _; rfl
theorem o2_inI {i : Int} {ns : List Int} {neg : Bool} (q : Q (.d (.bool (if neg then !decide (i ∈ ns) else decide (i ∈ ns)))) m) : Op2 K (rIn K neg) (.d (.int i)) (.d (.tuple (ns.map PyData.int))) m Q := fun H G v w S x y R k => by
  rw [int_of x]
  obtain ⟨p, xs, rfl, g1, g2⟩ := rp_tuple.mp y.rp
  rw [g2.ints] at g1
  refine ⟨p, _, rfl, Or.inr (S.sqT g1), rfl, flat_ints ns, ?_⟩
  rw [inV_ints]
  exact k _ H G _ m q S (Le.refl G) vr_bool
theorem mem_natI {k : Nat} {ks : List Nat} : ((k : Int) ∈ ks.map fun (k : Nat) => (k : Int)) ↔ k ∈ ks := by
  constructor
  · intro h
    obtain ⟨j, h1, h2⟩ := List.mem_map.mp h
    have : j = k := by omega
    rw [← this]; exact h1
  · intro h
    exact List.mem_map.mpr ⟨k, h, rfl⟩
theorem o2_inN {i : Nat} {ks : List Nat} (q : Q (.d (.bool (decide (i ∈ ks)))) m) : Op2 K (rIn K false) (.d (.int (i : Int))) (.d (tupN ks)) m Q := o2_inI (neg := false) (by
  have e : decide ((i : Int) ∈ ks.map fun (k : Nat) => (k : Int)) = decide (i ∈ ks) := decide_eq_decide.mpr mem_natI
  show Q (.d (.bool (decide ((i : Int) ∈ ks.map fun (k : Nat) => (k : Int))))) m
  rw [e]; exact q)
theorem o2_notInN {i : Nat} {ks : List Nat} (q : Q (.d (.bool (!decide (i ∈ ks)))) m) : Op2 K (rIn K true) (.d (.int (i : Int))) (.d (tupN ks)) m Q := o2_inI (neg := true) (by
  have e : decide ((i : Int) ∈ ks.map fun (k : Nat) => (k : Int)) = decide (i ∈ ks) := decide_eq_decide.mpr mem_natI
  show Q (.d (.bool (!decide ((i : Int) ∈ ks.map fun (k : Nat) => (k : Int))))) m
  rw [e]; exact q)
/-! xs[i] = e -/
variable {N : List Val → Mm → Prop} {E : Val → Mm → Prop} {t : TS}
theorem VRs.set {G : Hp} {y : Val} {v : V} (hv : VR K G y v) : ∀ {rs : List Val} {xs : List V} (i : Nat), VRs K G rs xs → VRs K G (rs.set i y) (xs.set i v)
  | [], xs, i, h => by
    have h : xs = [] := h
    subst h; exact rfl
  | r :: rs, xs, 0, h => by
    obtain ⟨x, t, rfl, h1, h2⟩ := h
    exact ⟨v, t, rfl, hv, h2⟩
  | r :: rs, xs, i + 1, h => by
    obtain ⟨x, t, rfl, h1, h2⟩ := h
    exact ⟨x, t.set i v, rfl, h1, VRs.set hv i h2⟩
end
/-! lists of one kind of thing -/
theorem map_at {α : Type} {f : α → PyData} {xs : List α} {i : Nat} {d : PyData} (h : (xs.map f)[i]? = some d) : ∃ x, xs[i]? = some x ∧ d = f x := by
  rw [List.getElem?_map] at h
  cases hx : xs[i]? with
  | none => rw [hx] at h; cases h
  | some x => rw [hx] at h; cases h; exact ⟨x, rfl, rfl⟩
section
variable {K : PySem.W.Frag} {r : List Val} {m : Mm} {Q : Val → Mm → Prop} {te tl : TE} {tt : TT} {j : Nat} {α : Type} {xs : List α} {f : α → PyData} {N : List Val → Mm → Prop} {E : Val → Mm → Prop} {t : TS}
theorem ev_mapTf (h : Ev K tl r m fun x m1 => x = .d (.tuple (xs.map f)) ∧ m1 = m) (hn : xs.length ≤ 100000) (g : α → PyData)
    (hs : ∀ (x : α) m', x ∈ xs → Ext m m' → Ev K te (r.set j (.d (f x))) m' fun y m3 => y = .d (g x) ∧ m3 = m') (q : Q (.d (.list (xs.map g))) m) : Ev K (tLc (iTup K tl) (gName j) tYes te [j]) r m Q :=
  ev_lcT h (by rw [List.length_map]; exact hn) (fun i acc => acc = (xs.take i).map g) (by simp) (fun i d m' acc hd hx hw => by
    obtain ⟨x, h1, rfl⟩ := map_at hd
    exact evt_yes ⟨rfl, fun _ => (hs x m' (List.mem_of_getElem? h1) hx).imp fun y m3 e => ⟨e.2, g x, e.1, by rw [hw, take_one h1, List.map_append]; rfl⟩, (fun g => nomatch g)⟩)
    (fun acc hw => by rw [hw, List.length_map, List.take_length]; exact q)
theorem fil_step {p : α → Bool} {g : α → PyData} {i : Nat} {x : α} (h : xs[i]? = some x) : ((xs.take (i + 1)).filter p).map g = ((xs.take i).filter p).map g ++ (if p x then [g x] else []) := by
  rw [take_one h, List.filter_append, List.map_append]
  cases hp : p x with
  | true => rw [List.filter_cons, if_pos hp]; rfl
  | false => rw [List.filter_cons, if_neg (by rw [hp]; decide)]; rfl
theorem ev_filTf (h : Ev K tl r m fun x m1 => x = .d (.tuple (xs.map f)) ∧ m1 = m) (hn : xs.length ≤ 100000) (p : α → Bool) (g : α → PyData)
    (ht : ∀ (x : α) m', x ∈ xs → Ext m m' → EvT K tt (r.set j (.d (f x))) m' fun b m3 => b = p x ∧ m3 = m')
    (hs : ∀ (x : α) m', x ∈ xs → Ext m m' → p x = true → Ev K te (r.set j (.d (f x))) m' fun y m3 => y = .d (g x) ∧ m3 = m') (q : Q (.d (.list ((xs.filter p).map g))) m) : Ev K (tLc (iTup K tl) (gName j) tt te [j]) r m Q :=
  ev_lcT h (by rw [List.length_map]; exact hn) (fun i acc => acc = ((xs.take i).filter p).map g) (by simp) (fun i d m' acc hd hx hw => by
    obtain ⟨x, h1, rfl⟩ := map_at hd
    have hm := List.mem_of_getElem? h1
    exact (ht x m' hm hx).imp fun b m2 e => ⟨e.2, fun hb => (hs x m' hm hx (e.1.symm.trans hb)).imp fun y m3 e2 => ⟨e2.2, g x, e2.1, by rw [hw, fil_step h1, if_pos (e.1.symm.trans hb)]⟩, fun hb => by rw [hw, fil_step h1, if_neg (by rw [← e.1, hb]; decide), List.append_nil]⟩)
    (fun acc hw => by rw [hw, List.length_map, List.take_length]; exact q)
theorem w_forLf (h : Ev K tl r m fun x m1 => x = .d (.list (xs.map f)) ∧ m1 = m) (W : Nat → List Val → Mm → Prop) (h0 : W 0 r m)
    (hs : ∀ (i : Nat) (x : α) r' m', xs[i]? = some x → W i r' m' → Wp K t (r'.set j (.d (f x))) m' (W (i + 1)) E) (hd : ∀ r' m', W xs.length r' m' → N r' m') : Wp K (tFor (iList K tl) (gName j) t) r m N E :=
  w_forL h W h0 (fun i d r' m' hd hw => by
    obtain ⟨x, h1, rfl⟩ := map_at hd
    exact hs i x r' m' h1 hw) (fun r' m' hw => hd r' m' (by rw [List.length_map] at hw; exact hw))
theorem w_forTf (h : Ev K tl r m fun x m1 => x = .d (.tuple (xs.map f)) ∧ m1 = m) (W : Nat → List Val → Mm → Prop) (h0 : W 0 r m)
    (hs : ∀ (i : Nat) (x : α) r' m', xs[i]? = some x → W i r' m' → Wp K t (r'.set j (.d (f x))) m' (W (i + 1)) E) (hd : ∀ r' m', W xs.length r' m' → N r' m') : Wp K (tFor (iTup K tl) (gName j) t) r m N E :=
  w_forT h W h0 (fun i d r' m' hd hw => by
    obtain ⟨x, h1, rfl⟩ := map_at hd
    exact hs i x r' m' h1 hw) (fun r' m' hw => hd r' m' (by rw [List.length_map] at hw; exact hw))
end
abbrev intN (k : Nat) : PyData := .int (k : Int)
theorem tupN_eq (ks : List Nat) : tupN ks = .tuple (ks.map intN) := by
  unfold tupN
  rw [List.map_map]; rfl
/-! less told of what may change -/
section
variable {K : PySem.W.Frag} {r : List Val} {m : Mm} {Q : Val → Mm → Prop} {te tb : TE} {N : List Val → Mm → Prop} {E : Val → Mm → Prop} {t : TS} {ta : TA}
theorem ev_forget (h : Ev K te r m fun x m1 => ∃ m2, (∀ a o, m2 a = some o → m1 a = some o) ∧ Q x m2) : Ev K te r m Q := fun σ H G S L R k =>
  h σ H G S L R fun v H1 G1 x m1 ⟨m2, hl, q⟩ S1 e1 r1 => k v H1 G1 x m2 q (S1.less hl) e1 r1
theorem del_put {l : Addr} {o : MO} (h : m l = none) : del (put m l o) l = m := by
  funext b
  unfold del put
  by_cases hb : b = l
  · rw [if_pos hb, hb, h]
  · rw [if_neg hb, if_neg hb]
theorem put_less {l : Addr} {o : MO} (h : m l = none) : ∀ a u, m a = some u → put m l o a = some u := fun a u e => by
  rw [put_ne (ne_of_get e h)]; exact e
/-- [e, ..] * n: a list that may change -/
theorem ev_lstMul (h : EvA K ta r m fun xs m1 => ∃ ds : List PyData, xs = ds.map Val.d ∧ ds.length ≤ 100 ∧ Ev K tb r m1 fun y m2 => ∃ n : Nat, y = .d (.int (n : Int)) ∧ n ≤ 1000 ∧ ∀ l, m2 l = none → Q (.v (.ref l)) (put m2 l (.lst ((List.replicate n ds).flatten.map Val.d)))) : Ev K (tOp (rMul K) (tLst ta) tb) r m Q := fun σ H G S L R k =>
  h σ H G S L _ fun vs H1 G1 xs m1 ⟨ds, hx, hl, h1⟩ S1 e1 r1 => by
    subst hx
    have hA := r1.toAll
    refine ⟨by rw [hA.length]; exact Nat.le_trans hl (by decide), fun p hp => ?_⟩
    have hg := S1.free hp
    refine h1 σ _ (upd G1 p (.lst vs)) (S1.fix hp) (L.mono (e1.trans (Le.new hg))) _ fun w H2 G2 y m2 ⟨n, hy, hn, q⟩ S2 e2 r2 => ?_
    subst hy
    have r2 := int_of r2
    subst r2
    have en : ((n : Int)).toNat = n := by omega
    refine Or.inr (Or.inr (Or.inr ⟨p, (n : Int), vs, rfl, rfl, S2.sub _ _ (e2 _ _ upd_same), by omega, by omega, ?_, fun l hl => ?_⟩))
    · rw [en, hA.length]
      exact Nat.le_trans (Nat.mul_le_mul hl hn) (by decide)
    · rw [en]
      have hB : RpAll K G2 ds vs := RpAll.mono ((Le.new hg).trans e2) ds vs hA
      exact k _ _ G2 _ _ (q l (S2.freeM hl)) (S2.new hl ⟨_, upd_same, VRs.ofAll (hB.rep n)⟩) (e1.trans ((Le.new hg).trans e2)) .v
end
end DL
namespace DL
open PySem L2
def f_needNumber : FSp := fun args m R => ∃ i lo hi : Int, args = [.d (.int i), .d (.int lo), .d (.int hi)] ∧ lo ≤ i ∧ i ≤ hi ∧ R (.d .none) m
/-- all some of so many -/
def allS : Nat → List (List Nat)
  | 0 => [[]]
  | n + 1 => allS n ++ (allS n).map fun s => s ++ [n]
theorem allS_len : ∀ n, (allS n).length = 2 ^ n
  | 0 => rfl
  | n + 1 => by rw [allS, List.length_append, List.length_map, allS_len n, Nat.pow_succ]; omega
theorem allS_mem : ∀ n, ∀ s ∈ allS n, s.length ≤ n ∧ ∀ k ∈ s, k < n
  | 0, s, h => by
    have : s = [] := by simpa [allS] using h
    subst this
    exact ⟨Nat.le_refl _, fun k hk => nomatch hk⟩
  | n + 1, s, h => by
    rw [allS] at h
    rcases List.mem_append.mp h with h | h
    · obtain ⟨a, b⟩ := allS_mem n s h
      exact ⟨by omega, fun k hk => by have := b k hk; omega⟩
    · obtain ⟨t, ht, rfl⟩ := List.mem_map.mp h
      obtain ⟨a, b⟩ := allS_mem n t ht
      refine ⟨by rw [List.length_append]; show t.length + 1 ≤ n + 1; omega, fun k hk => ?_⟩
      rcases List.mem_append.mp hk with hk | hk
      · have := b k hk; omega
      · rw [List.mem_singleton.mp hk]; omega
/-! rows by turns -/
end DL
namespace DL
open PySem L2
section
variable {K : PySem.W.Frag} {r : List Val} {m : Mm} {Q : Val → Mm → Prop} {ta tb tc te to tl : TE} {tt : TT} {N : List Val → Mm → Prop} {E : Val → Mm → Prop} {t : TS}
/-! texts cut and joined -/
/-! str(i), int(x) -/
def rInt0 : List V → Hp → VK → Prop := fun xs H Q => (∃ i, xs = [.int i] ∧ Q (.int i) H) ∨ ∃ k, xs = [.bl k] ∧ Q (.int (if k then 1 else 0)) H
def rIntS : List V → Hp → VK → Prop := fun xs H Q => ∃ a n, xs = [.str a] ∧ PySem.intText? a = some n ∧ a.length ≤ 640 ∧ Q (.int n) H
def rIntA : List V → Hp → VK → Prop := fun xs H Q => rInt0 xs H Q ∨ rIntS xs H Q
theorem cInt {X : Cx} : CallR X (.type "int") rIntA := (call_int1).or call_int_str
theorem on_intB {b : Bool} (q : Q (.d (.int (if b then 1 else 0))) m) : OpN K rIntA [.d (.bool b)] m Q := fun H G vs S a R k => by
  obtain ⟨v, rfl, hv⟩ := vrs1 a
  rw [bool_of hv]
  exact Or.inl (Or.inr ⟨b, rfl, k _ H G _ m q S (Le.refl G) vr_int⟩)
end
/-! shares as a text -/
end DL
namespace DL
open PySem L2
theorem Kinds.sub {n : Nat} {ks : List Nat} (h : Kinds n ks) : ks.Sublist (List.range n) := by
  have : ∀ (ks : List Nat) (m : Nat), ks.Pairwise (· < ·) → (∀ k ∈ ks, m ≤ k ∧ k < n) → ks.Sublist ((List.range n).drop m) := by
    intro ks
    induction ks with
    | nil => intro m _ _; exact List.nil_sublist _
    | cons k t ih =>
      intro m hp hl
      have hk := hl k (by simp)
      have hkn : k < (List.range n).length := by rw [List.length_range]; exact hk.2
      have hd : (List.range n).drop k = k :: (List.range n).drop (k + 1) := by
        rw [List.drop_eq_getElem_cons hkn, List.getElem_range]
      have h1 : (k :: t).Sublist ((List.range n).drop k) := by
        rw [hd]
        refine (ih (k + 1) (List.pairwise_cons.mp hp).2 fun x hx => ⟨?_, (hl x (by simp [hx])).2⟩).cons_cons k
        exact (List.pairwise_cons.mp hp).1 x hx
      refine h1.trans ?_
      have e : (List.range n).drop k = ((List.range n).drop m).drop (k - m) := by rw [List.drop_drop]; congr 1; omega
      rw [e]
      exact List.drop_sublist _ _
  exact this ks 0 h.up fun k hk => ⟨Nat.zero_le _, h.lt k hk⟩
theorem sumP_cons (ss : List Int) (k : Nat) (ks : List Nat) : sumP ss (k :: ks) = ss.getD k 0 + sumP ss ks := rfl
theorem nat_ne {t : Nat} (ht : 0 < t) : ((t : Nat) : Rat) ≠ 0 := by
  intro e
  have e2 : (((t : Nat) : Int) : Rat) = ((0 : Int) : Rat) := by rw [Rat.intCast_natCast]; exact e
  have e3 : ((t : Nat) : Int) = 0 := Rat.intCast_inj.mp e2
  omega
theorem eqv_data {d : PyData} (h : SeqAt.shaped d = true) : PyData.eqv d d = true := by
  have h : (d.canLay0 && decide (d.depth ≤ 64)) = true := h
  rw [Bool.and_eq_true] at h
  exact SeqAt.eqv_refl d h.1
theorem canLay_ints (ns : List Int) : PyData.canLayAll0 (ns.map PyData.int) = true := by
  induction ns with
  | nil => simp [PyData.canLayAll0]
  | cons n ns ih => rw [List.map_cons]; simp [PyData.canLayAll0, PyData.canLay0, ih]
theorem depth_ints (ns : List Int) : PyData.depthAll (ns.map PyData.int) = 0 := by
  induction ns with
  | nil => simp [PyData.depthAll]
  | cons n ns ih => rw [List.map_cons]; simp [PyData.depthAll, PyData.depth, ih]
theorem shaped_tupI (ns : List Int) : SeqAt.shaped (tupI ns) = true := by
  simp [SeqAt.shaped, tupI, PyData.canLay0, canLay_ints, PyData.depth, depth_ints]
theorem frac_unit {d : Nat} (h : 0 < d) : frac (mkRat 1 d) = .tuple [.int 1, .int (d : Int)] := by
  rw [frac_mk 1 d (by omega)]
  simp
section
variable {K : PySem.W.Frag} {r : List Val} {m : Mm} {Q : Val → Mm → Prop} {te : TE} {N : List Val → Mm → Prop} {E : Val → Mm → Prop}
/-- != of what is the same -/
theorem o2_neSame {d : PyData} (h : SeqAt.shaped d = true) (q : Q (.d (.bool false)) m) : Op2 K (rNeA K) (.d d) (.d d) m Q := o2_ne h h (by rw [eqv_data h]; exact q)
end
end DL
namespace DL
open PySem L2 PySem.W
/-- sorted(e, key=len), the items tuples of ints -/
def tSortLen (K : PySem.W.Frag) (ta : TA) : TE := fun σ H Q => ta σ H fun vs H1 => ∃ (a : Addr) (bs : List (V × List Int)), vs = [.ref a] ∧ SqL K H1 a (bs.map (·.1)) ∧ (∀ b ∈ bs, ∃ t, b.1 = .ref t ∧ SqT K H1 t (b.2.map V.int)) ∧
  ∀ p, H1 p = none → Q (.ref p) (upd H1 p (.lst ((bs.mergeSort fun a b => decide ((a.2.length : Int) ≤ (b.2.length : Int))).map (·.1))))
theorem each_of {bs : List (V × List Int)} : ∀ {us : List Value}, Vals (bs.map (·.1)) us → EachIs (fun (v : Value) (b : V × List Int) => RelV b.1 v) us bs := by
  induction bs with
  | nil => intro us r; rw [List.map_nil] at r; cases r; exact .nil
  | cons b bs ih =>
    intro us r
    rw [List.map_cons] at r
    cases r with
    | cons r1 r2 => exact .cons r1 (ih r2)
theorem vals_each {bs : List (V × List Int)} : ∀ {us : List Value}, EachIs (fun (v : Value) (b : V × List Int) => RelV b.1 v) us bs → Vals (bs.map (·.1)) us := by
  induction bs with
  | nil => intro us r; cases r; exact .nil
  | cons b bs ih =>
    intro us r
    cases r with
    | cons r1 r2 => rw [List.map_cons]; exact .cons r1 (ih r2)
theorem pe_sortLen {X : Cx} {e : Expr} {ta : TA} {p pos p2 kpos : Pos} {k : Nat} (hr : Room k X.A) (hg : Gl X "sorted") (hm : X.mg "sorted" = none) (hgl : Gl X "len") (hml : X.mg "len" = none) (hpa : PA X [e] ta)
    (he : backTo pos (starEach [e] X.env) = (false, eval e X.env) :: backTo pos (starEach [] X.env) := by rfl) (hpl : (backTo pos (starEach [e] X.env)).any (·.1) = false := by rfl)
    (hall : (backToKw pos (keywordEach [⟨some "key", .Name "len" p2, kpos⟩] X.env)).all (·.1.isSome) = true := by rfl) (hnone : (backToKw pos (keywordEach [⟨some "key", .Name "len" p2, kpos⟩] X.env)).any (·.1.isNone) = false := by rfl)
    (hks : (backToKw pos (keywordEach [⟨some "key", .Name "len" p2, kpos⟩] X.env)).filterMap (·.1) = [Str.ofString "key"] := by rfl) :
    PE X (.Call (.Name "sorted" p) [e] [⟨some "key", .Name "len" p2, kpos⟩] pos) (tSortLen X.K ta) := by
  refine ⟨fun pins s σ H Q I h => ?_⟩
  refine wpAny_Call_Name_kw (ld_blt I hg hm (u := .builtin "sorted") (by decide +kernel) ?_)
  refine PyProof.Rows.callWith_kw (thn (hpa.run pos pins s σ H _ I h) fun us s1 ⟨vs, H1, I1, r1, q1⟩ => ?_) he hpl hall hnone
  obtain ⟨a, bs, ev, hs, ht, q⟩ := q1
  subst ev
  obtain ⟨u, rfl, rx⟩ := vals1 r1
  cases rx
  show wpAny _ _ (evalAll ((do let v ← eval (.Name "len" p2) X.env; standAt pos; pure v) :: [])) _ _ s1
  refine wpAny_evalAll_cons (wpAny_bind (ld_blt I1 hgl hml (u := .builtin "len") (by decide +kernel) (wpAny_bind (wpAny_standAt (wpAny_pure ?_)))))
  refine wpAny_evalAll_nil ?_
  rw [hks]
  show wpAny _ _ (call (.builtin "sorted") [.ref a] [(Str.ofString "key", .builtin "len")]) _ _ s1
  obtain ⟨its, rv, hl, hz⟩ := I1.list hs
  have hlen := rv.length
  rw [List.length_map] at hlen
  have hun := hr.un
  refine sorted_key_data (k := fun b : V × List Int => PyData.int (b.2.length : Int)) hl.isList (each_of rv) ?_ ?_ ?_ ?_ (PyProof.Rows.ksk_s1 _ _) (fun x => PyProof.Rows.ksk_l1 _ _) (fun x => PyProof.Rows.ksk_t4 "len" x) ?_ ?_
  · intro d hd d' hd'
    obtain ⟨b, _, rfl⟩ := List.mem_map.mp hd
    obtain ⟨b', _, rfl⟩ := List.mem_map.mp hd'
    rfl
  · refine Or.inr fun d hd => ?_
    obtain ⟨b, _, rfl⟩ := List.mem_map.mp hd
    exact ⟨(fun z => nomatch z), fun xs z => nomatch z⟩
  · rw [List.length_map] at hz; exact hz
  · intro b _
    show X.A.units + 2 + (PyData.int _).depth < cLine
    simp only [PyData.depth]
    omega
  · intro v b hR hb h tk hk
    obtain ⟨t, e1, hq⟩ := ht b hb
    rw [e1] at hR
    obtain rfl : v = Value.ref t := hR
    obtain ⟨its2, rv2, ht2, hz2⟩ := I1.tuple hq
    have hl2 := rv2.length
    rw [List.length_map] at hl2 hz2
    have hn := line63
    obtain ⟨o, ho, hc, n, hd⟩ := ht2
    refine PyProof.Rows.len_tuple (s := { s1 with heap := h, toks := tk }) (items := its2.toArray) ⟨o, hk _ _ ho, hc, n, hd⟩ (by simp only [List.size_toArray] <;> omega) ?_
    refine ⟨h, _, rfl, fun _ _ q => q, ?_⟩
    rw [List.size_toArray, ← hl2]
    exact .int _ _
  · intro out c h' tk hk hn0 hg' hlen' hE
    rw [dataLe_int] at hE
    have hp := I1.hok.fresh (Nat.le_succ s1.heap.objs.size)
    refine ⟨.ref _, upd H1 (s1.heap.objs.size + 1) (.lst ((bs.mergeSort fun a b => decide ((a.2.length : Int) ≤ (b.2.length : Int))).map (·.1))), I1.laid (t' := tk) hk (Nat.le_succ _) ⟨?_, out, c, vals_each hE, hg'⟩, rfl, q _ hp⟩
    rw [List.length_map, List.length_mergeSort]
    rw [List.length_map] at hz; exact hz
theorem kSortLen {X : Cx} (K : PySem.W.Frag) {e : Expr} {ta : TA} (h : PE X e (tSortLen X.K ta)) (hK : X.K = K := by rfl) : PE X e (tSortLen K ta) := hK ▸ h
end DL
namespace DL
open PySem L2
/-! a display of one pair, its key a tuple -/
section
variable {prog : Program} {w : World} {A : Around} {E : Value → Shared → Prop} {s : Shared}
theorem wpAny_Dict_one {κ : Type} [DecidableEq κ] {knd : HeapKind prog w κ} {env : Env} {k v : Expr} {pos : Pos} {Q : Value → Shared → Prop} (hu : knd.room A)
    (h : wpAny (model prog w) A (evalPairs (pairTrees [some k] [v] env pos)) (fun vs s₁ => ∃ ps, CarriesH knd s₁.heap vs ps ∧ s₁.heap.DictOfH knd s.heap.objs.size [] ∧
      ∀ h' tk, h'.DictOfH knd s.heap.objs.size (storedAllH [] ps) → Heap.SameBut s.heap.objs.size s₁.heap h' → Q (.ref s.heap.objs.size) { s₁ with heap := h', toks := tk }) E
      { s with heap := s.heap.push { cls := .type "dict", data := .dict #[] } }) :
    wpAny (model prog w) A (eval (.Dict [some k] [v] pos) env) Q E s := by
  have hn := pairTrees_length [some k] [v] env pos rfl rfl
  rw [arm_eval_Dict, zip_pairTrees [some k] [v] env pos rfl rfl, dictDisplay_pairs _ (fun e => by rw [e] at hn; cases hn) (by rw [hn]; show 1 < 17; decide)]
  exact wpAny_bind (wpAny_standAt (wpAny_bind (wpAny_subDictH (knd := knd) (Q := fun d s' => wpAny (model prog w) A (pure (Value.ref d)) Q E s') hu (by rw [hn]; show 1 ≤ 15; decide)
    (wpAny_mono h (fun vs s₁ h₁ => by obtain ⟨ps, hc, hm, hq⟩ := h₁; exact ⟨ps, hc, hm, fun h' tk a b => wpAny_pure (hq h' tk a b)⟩) fun _ _ e => e))))
end
def tDisp1 (tk tv : TE) : TE := fun σ H Q => ∀ p, H p = none → tk σ (upd H p (.dT [])) fun x H1 => tv σ H1 fun y H2 => ∃ (b : Addr) (k : List Key), x = .ref b ∧ H2 b = some (.tup (k.map kV)) ∧ H2 p = some (.dT []) ∧ Q (.ref p) (upd H2 p (.dT [(k, y)]))
theorem pe_disp1 {X : Cx} {pos : Pos} {k v : Expr} {tk tv : TE} {j : Nat} (hr : Room j X.A) (hk : PE X k tk) (hv : PE X v tv) : PE X (.Dict [some k] [v] pos) (tDisp1 tk tv) := by
  refine ⟨fun pins s σ H Q I q => ?_⟩
  have hn := I.hok.fresh (Nat.le_refl s.heap.objs.size)
  have hun := hr.un
  have I1 := I.laid (a := s.heap.objs.size) (o := .dT []) (h' := s.heap.push { cls := .type "dict", data := .dict #[] }) (t' := s.toks) (fun _ _ q => Heap.get?_push_of_some _ q) (Nat.le_refl _) (dt_empty s.heap I.big)
  refine wpAny_Dict_one (knd := tupleKind (mixKind X.prog X.w)) (show X.A.units < cLine by omega) ?_
  refine pairTrees_cons_walk (thn (hk.run pins _ σ _ _ I1 (q _ hn)) fun u s1 ⟨x, H1, I2, rx, q1⟩ => thn (hv.run pins s1 σ H1 _ I2 q1) fun u2 s2 ⟨y, H2, I3, ry, q2⟩ => pairTrees_nil_walk ?_)
  obtain ⟨b, ks, rfl, hb, hp, q3⟩ := q2
  cases rx
  obtain ⟨z, hd, xs, rel, dd⟩ := dt_of I3.hok hp
  cases rel
  refine ⟨[(ks, b, u2)], ⟨rfl, rfl, key_of I3.hok hb, trivial⟩, dd, fun h' tk dd' hs => ⟨.ref s.heap.objs.size, _, ?_, rfl, q3⟩⟩
  obtain ⟨qo, es, ep, hq, h2, h3, h4, _, h5⟩ := dd'
  refine d_write (t' := tk) I3 (by rw [hp]; exact True.intro) hs ⟨qo, hq⟩ ⟨by show 1 ≤ sizeLine; decide, hd, _, ?_, qo, es, ep, hq, h2, h3, h4, h5⟩
  refine .cons ⟨rfl, ?_, ry⟩ .nil
  have hne : b ≠ s.heap.objs.size := fun e => by rw [e, hp] at hb; cases hb
  show upd H2 s.heap.objs.size (.dT [(ks, y)]) b = _
  rw [upd_ne hne]
  exact hb
/-! dicts at the level of data -/
def getV {κ : Type} [DecidableEq κ] (kvs : List (κ × Val)) (k : κ) : Option Val := (kvs.find? fun kv => decide (kv.1 = k)).map (·.2)
def putV {κ : Type} [DecidableEq κ] (kvs : List (κ × Val)) (k : κ) (v : Val) : List (κ × Val) :=
  if (kvs.any fun kv => decide (kv.1 = k)) then kvs.map (fun kv => if kv.1 = k then (kv.1, v) else kv) else kvs ++ [(k, v)]
section
variable {K : PySem.W.Frag} {G : Hp} {κ : Type} [DecidableEq κ]
theorem KVs.len : ∀ {kvs : List (κ × Val)} {es : List (κ × V)}, KVs K G kvs es → es.length = kvs.length
  | [], es, h => by
    have h : es = [] := h
    rw [h]; rfl
  | (k, r) :: t, es, h => by
    obtain ⟨v, u, rfl, _, h3⟩ := h
    rw [List.length_cons, List.length_cons, KVs.len h3]
theorem KVs.get (k : κ) : ∀ {kvs : List (κ × Val)} {es : List (κ × V)}, KVs K G kvs es → (∀ r, getV kvs k = some r → ∃ v, valV es k = some v ∧ VR K G r v) ∧ (getV kvs k = none → valV es k = none)
  | [], es, h => by
    have h : es = [] := h
    subst h
    exact ⟨(fun r e => nomatch e), fun _ => rfl⟩
  | (j, x) :: t, es, h => by
    obtain ⟨v, u, rfl, h2, h3⟩ := h
    obtain ⟨ih1, ih2⟩ := KVs.get k h3
    by_cases e : j = k
    · have e1 : getV ((j, x) :: t) k = some x := by simp [getV, List.find?_cons, e]
      rw [e1, valV_pos (p := (j, v)) e]
      exact ⟨fun r hr => ⟨v, rfl, by cases hr; exact h2⟩, fun z => nomatch z⟩
    · have e1 : getV ((j, x) :: t) k = getV t k := by simp [getV, List.find?_cons, e]
      rw [e1, valV_neg (p := (j, v)) e]
      exact ⟨ih1, ih2⟩
theorem KVs.any (k : κ) : ∀ {kvs : List (κ × Val)} {es : List (κ × V)}, KVs K G kvs es → (es.any fun kv => decide (kv.1 = k)) = (kvs.any fun kv => decide (kv.1 = k))
  | [], es, h => by
    have h : es = [] := h
    subst h; rfl
  | (j, x) :: t, es, h => by
    obtain ⟨v, u, rfl, h2, h3⟩ := h
    rw [List.any_cons, List.any_cons, KVs.any k h3]
theorem KVs.repl (k : κ) {y : Val} {v : V} (hv : VR K G y v) : ∀ {kvs : List (κ × Val)} {es : List (κ × V)}, KVs K G kvs es → KVs K G (kvs.map fun kv => if kv.1 = k then (kv.1, y) else kv) (es.map fun kv => if kv.1 = k then (kv.1, v) else kv)
  | [], es, h => by
    have h : es = [] := h
    subst h; exact rfl
  | (j, x) :: t, es, h => by
    obtain ⟨w, u, rfl, h2, h3⟩ := h
    rw [List.map_cons, List.map_cons]
    by_cases e : j = k
    · simp only [e, if_true]
      exact ⟨v, _, rfl, hv, by simpa [e] using KVs.repl k hv h3⟩
    · simp only [e, if_false]
      exact ⟨w, _, rfl, h2, by simpa [e] using KVs.repl k hv h3⟩
theorem KVs.snoc (k : κ) {y : Val} {v : V} (hv : VR K G y v) : ∀ {kvs : List (κ × Val)} {es : List (κ × V)}, KVs K G kvs es → KVs K G (kvs ++ [(k, y)]) (es ++ [(k, v)])
  | [], es, h => by
    have h : es = [] := h
    subst h; exact ⟨v, [], rfl, hv, rfl⟩
  | (j, x) :: t, es, h => by
    obtain ⟨w, u, rfl, h2, h3⟩ := h
    exact ⟨w, u ++ [(k, v)], rfl, h2, KVs.snoc k hv h3⟩
theorem KVs.put (k : κ) {y : Val} {v : V} {kvs : List (κ × Val)} {es : List (κ × V)} (h : KVs K G kvs es) (hv : VR K G y v) : KVs K G (putV kvs k y) (putK es k v) := by
  unfold putV putK
  rw [h.any k]
  split
  · exact h.repl k hv
  · exact h.snoc k hv
theorem putV_new {kvs : List (κ × Val)} {k : κ} (y : Val) (h : ∀ p ∈ kvs, p.1 ≠ k) : putV kvs k y = kvs ++ [(k, y)] := by
  unfold putV
  rw [if_neg]
  intro e
  obtain ⟨p, h1, h2⟩ := List.any_eq_true.mp e
  exact h p h1 (of_decide_eq_true h2)
end
/-- a key of whole numbers -/
def kI (ns : List Int) : List Key := ns.map Sum.inl
theorem kI_kV (ns : List Int) : (kI ns).map kV = ns.map V.int := by
  unfold kI
  rw [List.map_map]; rfl
theorem kI_inj {a b : List Int} (h : kI a = kI b) : a = b := List.map_inj_right (fun _ _ e => Sum.inl.inj e) |>.mp h
section
variable {K : PySem.W.Frag} {r : List Val} {m : Mm} {Q : Val → Mm → Prop} {ta tb tc te td ty tv tx : TE} {tt : TT} {N : List Val → Mm → Prop} {E : Val → Mm → Prop} {t : TS}
/-- the dict at p, as it may be read -/
def Dat (m : Mm) (p : Addr) (kvs : List (List Key × Val)) : Prop := m p = some (.dT kvs) ∨ ∃ od es, m p = some (.lk od es kvs)
theorem Dat.rd {p : Addr} {kvs : List (List Key × Val)} {H G : Hp} (h : Dat m p kvs) (S : Sta K m H G) : ∃ es, Rd H p (.dT es) ∧ KVs K G kvs es := by
  rcases h with h | ⟨od, es, h⟩
  · obtain ⟨es, h1, h2⟩ := S.mem p _ h
    exact ⟨es, Or.inl h1, h2⟩
  · obtain ⟨h1, h2⟩ := S.mem p _ h
    exact ⟨es, Or.inr ⟨od, h1⟩, h2⟩
theorem t_of {G : Hp} {ns : List Int} {v : V} (h : VR K G (.t ns) v) : ∃ b, v = .ref b ∧ G b = some (.tup ((kI ns).map kV)) := by
  cases h with
  | t h => exact ⟨_, rfl, by rw [kI_kV]; exact h⟩
theorem t_d {G : Hp} {ns : List Int} {v : V} (h : VR K G (.t ns) v) : VR K G (.d (tupI ns)) v := by
  cases h with
  | t h => exact .d (rp_tuple.mpr ⟨_, _, rfl, SqT.of h, rpa_ints ns⟩)
theorem lt_d {G : Hp} {nss : List (List Int)} {v : V} (h : VR K G (.lt nss) v) : VR K G (.d (.list (nss.map tupI))) v := by
  cases h with
  | lt h h2 => exact .d (rp_list.mpr ⟨_, _, rfl, h, h2.all⟩)
theorem ev_t2d (h : Ev K te r m fun x m1 => ∃ ns, x = .t ns ∧ Q (.d (tupI ns)) m1) : Ev K te r m Q := fun σ H G S L R k =>
  h σ H G S L R fun v H1 G1 x m1 ⟨ns, hx, q⟩ S1 e1 r1 => by
    subst hx
    exact k v H1 G1 _ m1 q S1 e1 (t_d r1)
theorem ev_lt2d (h : Ev K te r m fun x m1 => ∃ nss, x = .lt nss ∧ Q (.d (.list (nss.map tupI))) m1) : Ev K te r m Q := fun σ H G S L R k =>
  h σ H G S L R fun v H1 G1 x m1 ⟨ns, hx, q⟩ S1 e1 r1 => by
    subst hx
    exact k v H1 G1 _ m1 q S1 e1 (lt_d r1)
theorem ev_varT {i : Nat} {ns : List Int} (h : r[i]? = some (.t ns)) (q : Q (.d (tupI ns)) m) : Ev K (tVar i) r m Q := ev_t2d (ev_var h (fun z => nomatch z) ⟨ns, rfl, q⟩)
theorem ev_varTN {i : Nat} {ks : List Nat} (h : r[i]? = some (.t (ks.map fun (k : Nat) => (k : Int)))) (q : Q (.d (tupN ks)) m) : Ev K (tVar i) r m Q := ev_varT h q
theorem ev_varL {i : Nat} {nss : List (List Int)} (h : r[i]? = some (.lt nss)) (q : Q (.d (.list (nss.map tupI))) m) : Ev K (tVar i) r m Q := ev_lt2d (ev_var h (fun z => nomatch z) ⟨nss, rfl, q⟩)
theorem ev_dget (h : Ev K td r m fun x m1 => ∃ p, x = .v (.ref p) ∧ Ev K ty r m1 fun y m2 => ∃ ns kvs z, y = .t ns ∧ Dat m2 p kvs ∧ getV kvs (kI ns) = some z ∧ Q z m2) : Ev K (tDGet td ty) r m Q := fun σ H G S L R k =>
  h σ H G S L _ fun v H1 G1 x m1 ⟨p, hx, h1⟩ S1 e1 r1 => h1 σ H1 G1 S1 (L.mono e1) _ fun w H2 G2 y m2 ⟨ns, kvs, z, hy, hd, hg, q⟩ S2 e2 r2 => by
    subst hx hy
    have r1 := r1.eq
    subst r1
    obtain ⟨b, rfl, hb⟩ := t_of r2
    obtain ⟨es, g1, g2⟩ := hd.rd S2
    obtain ⟨u, hu, ru⟩ := (g2.get (kI ns)).1 z hg
    exact ⟨p, u, rfl, Or.inr ⟨es, kI ns, b, g1, rfl, S2.sub _ _ hb, hu.symm⟩, k u H2 G2 z m2 q S2 (e1.trans e2) ru⟩
theorem ev_dnew (q : ∀ p, m p = none → Q (.v (.ref p)) (put m p (.dT []))) : Ev K tDNewT r m Q := fun σ H G S L R k p hp =>
  k (.ref p) _ G _ _ (q p (S.freeM hp)) (S.new hp ⟨[], upd_same, rfl⟩) (Le.refl G) .v
/-- {k: e} -/
theorem ev_disp1 (h : ∀ p, m p = none → Ev K ta r (put m p (.dT [])) fun x m1 => ∃ ns, x = .t ns ∧ Ev K tv r m1 fun y m2 => m2 p = some (.dT []) ∧ Q (.v (.ref p)) (put m2 p (.dT [(kI ns, y)]))) : Ev K (tDisp1 ta tv) r m Q := fun σ H G S L R k p hp =>
  h p (S.freeM hp) σ _ G (S.new hp ⟨[], upd_same, rfl⟩) L _ fun v H1 G1 x m1 ⟨ns, hx, h1⟩ S1 e1 r1 => h1 σ H1 G1 S1 (L.mono e1) _ fun w H2 G2 y m2 ⟨hm, q⟩ S2 e2 r2 => by
    subst hx
    obtain ⟨b, rfl, hb⟩ := t_of r1
    obtain ⟨es, g1, g2⟩ := S2.mem p _ hm
    have g2 : es = [] := g2
    subst g2
    exact ⟨b, kI ns, rfl, S2.sub _ _ (e2 _ _ hb), g1, k (.ref p) _ G2 _ _ q (S2.chg hm ⟨_, upd_same, w, [], rfl, r2, rfl⟩) (e1.trans e2) .v⟩
/-- d[k] = e -/
theorem w_dput (h : Ev K tv r m fun x m1 => Ev K td r m1 fun y m2 => ∃ p, y = .v (.ref p) ∧ Ev K ty r m2 fun z m3 => ∃ ns kvs, z = .t ns ∧ m3 p = some (.dT kvs) ∧ kvs.length < 100000 ∧ N r (put m3 p (.dT (putV kvs (kI ns) x)))) : Wp K (sDPut td ty tv) r m N E := fun σ H G D S L a b =>
  h σ H G S L _ fun v H1 G1 x m1 h1 S1 e1 r1 => h1 σ H1 G1 S1 (L.mono e1) _ fun w H2 G2 y m2 ⟨p, hy, h2⟩ S2 e2 r2 => h2 σ H2 G2 S2 (L.mono (e1.trans e2)) _ fun u H3 G3 z m3 ⟨ns, kvs, hz, hm, hl, q⟩ S3 e3 r3 => by
    subst hy hz
    have r2 := r2.eq
    subst r2
    obtain ⟨bk, rfl, hb⟩ := t_of r3
    obtain ⟨es, g1, g2⟩ := S3.mem p _ hm
    have hput : KVs K G3 (putV kvs (kI ns) x) (putK es (kI ns) v) := g2.put (kI ns) (r1.mono (e2.trans e3))
    refine ⟨p, upd H3 p (.dT (putK es (kI ns) v)), rfl, DPut.t g1 (S3.sub _ _ hb) (Nat.lt_of_lt_of_le (by rw [g2.len]; exact hl) (by decide)), ?_⟩
    exact a σ _ G3 r _ q (S3.chg hm ⟨_, upd_same, hput⟩) (e1.trans (e2.trans e3)) (L.mono (e1.trans (e2.trans e3)))
/-- a tuple that is there, taken as one that stays -/
theorem Sta.adopt {H G : Hp} {q : Addr} {xs : List V} (S : Sta K m H G) (h : H q = some (.tup xs)) : Sta K m H (upd G q (.tup xs)) ∧ Le G (upd G q (.tup xs)) := by
  have le : Le G (upd G q (.tup xs)) := fun a o e => by
    by_cases ha : a = q
    · subst ha
      have := S.sub _ _ e
      rw [h] at this
      cases this
      exact upd_same
    · rw [upd_ne ha]; exact e
  have hm : m q = none := by
    cases e : m q with
    | none => rfl
    | some o =>
      have hM := S.mem q o e
      cases o with
      | lst rs => obtain ⟨_, g, _⟩ := hM; rw [h] at g; cases g
      | dT rs => obtain ⟨_, g, _⟩ := hM; rw [h] at g; cases g
      | dK rs => obtain ⟨_, g, _⟩ := hM; rw [h] at g; cases g
      | lk a b c => obtain ⟨g, _⟩ := hM; rw [h] at g; cases g
      | box => obtain ⟨_, g⟩ := hM; rw [h] at g; cases g
      | g P => exact absurd h (hM.2.2.2 xs)
  refine ⟨⟨fun a o e => ?_, fun a o e => (S.mem a o e).mono le rfl, fun a o e => ?_⟩, le⟩
  · by_cases ha : a = q
    · subst ha; rw [upd_same] at e; cases e; exact h
    · rw [upd_ne ha] at e; exact S.sub a o e
  · rw [upd_ne (fun z => by rw [z, hm] at e; cases e)]; exact S.dis a o e
/-- for k in a dict -/
theorem w_forD {j : Nat} {p : Addr} {kvs : List (List Int × Val)} (hm : m p = some (.dT (kvs.map fun kv => (kI kv.1, kv.2))))
    (h : ∀ od es, Ev K td r (put m p (.lk od es (kvs.map fun kv => (kI kv.1, kv.2)))) fun x m1 => x = .v (.ref p) ∧ m1 = put m p (.lk od es (kvs.map fun kv => (kI kv.1, kv.2))))
    (W : Nat → List Val → Mm → Prop) (h0 : W 0 r m)
    (hs : ∀ (i : Nat) (k : List Int) (z : Val) r' m' od es, kvs[i]? = some (k, z) → W i r' m' → m' p = some (.dT (kvs.map fun kv => (kI kv.1, kv.2))) →
      Wp K t (r'.set j (.t k)) (put m' p (.lk od es (kvs.map fun kv => (kI kv.1, kv.2)))) (fun r2 m2 => m2 p = some (.lk od es (kvs.map fun kv => (kI kv.1, kv.2))) ∧ W (i + 1) r2 (put m2 p (.dT (kvs.map fun kv => (kI kv.1, kv.2))))) (fun x m2 => m2 p = some (.lk od es (kvs.map fun kv => (kI kv.1, kv.2))) ∧ E x (put m2 p (.dT (kvs.map fun kv => (kI kv.1, kv.2))))))
    (hd : ∀ r' m', W kvs.length r' m' → N r' m') : Wp K (tLock (tFor (iKeys td) (gName j) t)) r m N E := fun σ H G D S L a b => by
  generalize hkk : kvs.map (fun kv => (kI kv.1, kv.2)) = kk at *
  obtain ⟨es, g1, g2⟩ := S.mem p _ hm
  have hlen : es.length = kvs.length := by rw [g2.len, ← hkk, List.length_map]
  have keyAt : ∀ (i : Nat) (k : List Key) (v : V), es[i]? = some (k, v) → ∃ kz, kvs[i]? = some kz ∧ k = kI kz.1 := by
    have aux : ∀ (kk : List (List Key × Val)) (es : List (List Key × V)) (i : Nat) (k : List Key) (v : V), KVs K G kk es → es[i]? = some (k, v) → ∃ z, kk[i]? = some (k, z) := by
      intro kk
      induction kk with
      | nil => intro es i k v h e; have h : es = [] := h; subst h; simp at e
      | cons p t ih =>
        intro es i k v h e
        obtain ⟨k0, r0⟩ := p
        obtain ⟨v0, u, rfl, _, h3⟩ := h
        cases i with
        | zero => simp at e; exact ⟨r0, by simp [e.1]⟩
        | succ i => simpa using ih u i k v h3 (by simpa using e)
    intro i k v he
    obtain ⟨z, hz⟩ := aux kk es i k v g2 he
    rw [← hkk, List.getElem?_map] at hz
    cases hx : kvs[i]? with
    | none => rw [hx] at hz; cases hz
    | some kz => rw [hx] at hz; cases hz; exact ⟨kz, rfl, rfl⟩
  refine ⟨p, .dT es, g1, trivial, fun od => ?_⟩
  have S1 : Sta K (put m p (.lk od es kk)) (upd H p (.frz od (.dT es))) G := S.chg hm ⟨upd_same, g2⟩
  refine h od es σ _ G S1 L _ fun v H1 G1 x m1 ⟨hx, hm1⟩ S2 e1 r1 => ?_
  subst hx hm1
  have r1 := r1.eq
  subst r1
  obtain ⟨g3, g4⟩ := S2.mem p _ put_same
  have back : ∀ {m' : Mm} {H' G' : Hp}, Sta K m' H' G' → m' p = some (.lk od es kk) → Sta K (put m' p (.dT kk)) (upd H' p (.dT es)) G' := fun {m' H' G'} S' hm' => S'.chg hm' ⟨es, upd_same, (S'.mem p _ hm').2⟩
  refine ⟨p, od, rfl, Or.inr ⟨es, g3, for_it (walk_keysT (kvs := es)) (fun i σ' H' => ∃ G' r' m', W i r' (put m' p (.dT kk)) ∧ m' p = some (.lk od es kk) ∧ Sta K m' H' G' ∧ Le G G' ∧ Sl K G' r' σ') ⟨G1, r, _, ?_, put_same, S2, e1, L.mono e1⟩ ?_ ?_ ?_⟩⟩
  · rw [put_put]
    have e : put m p (.dT kk) = m := by
      funext c
      unfold put
      by_cases hc : c = p
      · rw [if_pos hc, hc, hm]
      · rw [if_neg hc]
    rw [e]; exact h0
  · rintro i σ' H' hi ⟨G', r', m', _, hm', S', _, _⟩
    exact (S'.mem p _ hm').1
  · rintro i y σ' H' H2 hi ⟨G', r', m', hw, hm', S', e', L'⟩ ⟨rfl, k, v, q, hk, rfl, hq⟩
    obtain ⟨⟨ki, z⟩, hkz, rfl⟩ := keyAt i k v hk
    rw [kI_kV] at hq
    obtain ⟨S3, e3⟩ := S'.adopt hq
    have hmm : put (put m' p (.dT kk)) p (.lk od es kk) = m' := by
      rw [put_put]
      funext c
      unfold put
      by_cases hc : c = p
      · rw [if_pos hc, hc, hm']
      · rw [if_neg hc]
    have hW := hs i ki z r' (put m' p (.dT kk)) od es hkz hw put_same
    rw [hmm] at hW
    refine hW (σ'.set j (some (.ref q))) _ _ _ S3 ((L'.mono e3).set (r := .t ki) (.t upd_same) j) (fun σ3 H3 G3 r3 m3 ⟨h3, hw3⟩ S3 e4 L3 => ⟨G3, r3, m3, hw3, h3, S3, e'.trans (e3.trans e4), L3⟩) (fun v H3 G3 x m3 ⟨h3, hE⟩ S3 e4 L3 => ?_)
    exact ⟨(S3.mem p _ h3).1, b v _ G3 x _ hE (back S3 h3) (e'.trans (e3.trans e4)) L3⟩
  · rintro σ' H' ⟨G', r', m', hw, hm', S', e', L'⟩
    rw [hlen] at hw
    exact ⟨(S'.mem p _ hm').1, a σ' _ G' r' _ (hd r' _ hw) (back S' hm') e' L'⟩
end
end DL
namespace DL
open PySem L2
section
variable {K : PySem.W.Frag} {r : List Val} {m : Mm} {Q : Val → Mm → Prop} {ta tb tc te tl : TE} {tt : TT} {N : List Val → Mm → Prop} {E : Val → Mm → Prop} {t : TS}
/-! tuples of ints that the code makes -/
theorem VRs.ints {G : Hp} : ∀ {ns : List Int} {xs : List V}, VRs K G (ns.map fun n => .d (.int n)) xs → xs = ns.map V.int
  | [], xs, h => h
  | n :: ns, xs, h => by
    obtain ⟨x, u, rfl, h1, h2⟩ := h
    rw [int_of h1, VRs.ints h2]; rfl
theorem ev_tupT {t : TA} (h : EvA K t r m fun xs m1 => ∃ ns : List Int, xs = ns.map (fun n => Val.d (.int n)) ∧ ns.length ≤ 100000 ∧ Q (.t ns) m1) : Ev K (tTup t) r m Q := fun σ H G S L R k =>
  h σ H G S L _ fun vs H1 G1 xs m1 ⟨ns, hx, hl, q⟩ S1 e1 r1 => by
    subst hx
    have hv := r1.ints
    subst hv
    refine ⟨by rw [List.length_map]; exact Nat.le_trans hl (by decide), fun p hp => ?_⟩
    have hg := S1.free hp
    exact k (.ref p) _ (upd G1 p _) _ m1 q (S1.fix hp) (e1.trans (Le.new hg)) (.t upd_same)
theorem on_tupLt {ns : List Int} (q : Q (.t ns) m) : OpN K (rTupO K) [.d (.list (ns.map PyData.int))] m Q := fun H G vs S a R k => by
  obtain ⟨v, rfl, h⟩ := vrs1 a
  obtain ⟨p, xs, hv, h2, h3⟩ := rp_list.mp h.rp
  have hx := h3.ints
  subst hx
  refine ⟨p, _, by rw [hv], Or.inl ⟨Or.inl (Le.rd S.sub h2), fun l hl => ?_⟩⟩
  have hg := S.free hl
  exact k _ _ (upd G l _) _ m q (S.fix hl) (Le.new hg) (.t upd_same)
theorem on_tupLtN {ks : List Nat} (q : Q (.t (ks.map fun (k : Nat) => (k : Int))) m) : OpN K (rTupO K) [.d (.list (ks.map intN))] m Q := by
  have e : ks.map intN = (ks.map fun (k : Nat) => (k : Int)).map PyData.int := by rw [List.map_map]; rfl
  rw [e]
  exact on_tupLt q
theorem ev_tupR1t {n : Nat} (hn : n ≤ 100000) (h : Ev K ta r m fun x m1 => x = .d (.int (n : Int)) ∧ Q (.t ((List.range n).map fun (k : Nat) => (k : Int))) m1) : Ev K (tTupRg (tRg1 ta)) r m Q := fun σ H G S L R k =>
  h σ H G S L _ fun v H1 G1 x m1 ⟨hx, q⟩ S1 e1 r1 => by
    subst hx
    rw [int_of r1]
    have e : (n : Int) = ((0 + n : Nat) : Int) := by omega
    refine ⟨(n : Int), rfl, by rw [e]; exact rgok (a := 0) (n := n) (by omega), fun p hp => ?_⟩
    have hg := S1.free hp
    have e2 : rgV 0 (n : Int) = ((List.range n).map fun (k : Nat) => (k : Int)).map V.int := by
      unfold rgV
      rw [show ((n : Int) - 0).toNat = n by omega, List.map_map]
      exact List.map_congr_left fun i _ => by show V.int (0 + (i : Int)) = V.int (i : Int); rw [Int.zero_add]
    rw [e2]
    exact k _ _ (upd G1 p _) _ m1 q (S1.fix hp) (e1.trans (Le.new hg)) (.t upd_same)
theorem o2_addTt {a b : List Int} (hz : a.length + b.length ≤ 100000) (q : Q (.t (a ++ b)) m) : Op2 K (rAdd K) (.t a) (.t b) m Q := fun H G v w S x y R k => by
  cases x with
  | @t _ p h1 =>
    cases y with
    | @t _ p' h2 =>
      refine Or.inr (Or.inl ⟨p, p', a.map V.int, b.map V.int, rfl, rfl, S.sqT (SqT.of h1), S.sqT (SqT.of h2), ?_, fun e => ?_, fun _ e => ?_, fun _ _ l hl => ?_⟩)
      · rw [List.length_map, List.length_map]; exact Nat.le_trans hz (by decide)
      · have e := List.map_eq_nil_iff.mp e
        subst e
        exact k _ H G _ m q S (Le.refl G) (.t h2)
      · have e := List.map_eq_nil_iff.mp e
        subst e
        rw [List.append_nil] at q
        exact k _ H G _ m q S (Le.refl G) (.t h1)
      · have hg := S.free hl
        exact k _ _ (upd G l _) _ m q (S.fix hl) (Le.new hg) (.t (by rw [List.map_append]; exact upd_same))
/-! lists of them -/
theorem VRs.toT {G : Hp} : ∀ {nss : List (List Int)} {xs : List V}, VRs K G (nss.map Val.t) xs → TAll G nss xs
  | [], xs, h => h
  | ns :: r, xs, h => by
    obtain ⟨x, u, rfl, h1, h2⟩ := h
    obtain ⟨b, rfl, hb⟩ := t_of h1
    rw [kI_kV] at hb
    exact ⟨b, u, rfl, hb, VRs.toT h2⟩
theorem TAll.len {G : Hp} : ∀ {nss : List (List Int)} {xs : List V}, TAll G nss xs → xs.length = nss.length
  | [], xs, h => by
    have h : xs = [] := h
    rw [h]; rfl
  | ns :: r, xs, h => by
    obtain ⟨b, t, rfl, _, h3⟩ := h
    rw [List.length_cons, List.length_cons, TAll.len h3]
theorem TAll.at {G : Hp} : ∀ {nss : List (List Int)} {xs : List V} {i : Nat} {x : V}, TAll G nss xs → xs[i]? = some x → ∃ ns b, nss[i]? = some ns ∧ x = .ref b ∧ G b = some (.tup (ns.map V.int))
  | [], xs, i, x, h, e => by
    have h : xs = [] := h
    subst h; simp at e
  | ns :: r, xs, 0, x, h, e => by
    obtain ⟨b, t, rfl, h2, h3⟩ := h
    have e : V.ref b = x := by simpa using e
    exact ⟨ns, b, rfl, e.symm, h2⟩
  | ns :: r, xs, i + 1, x, h, e => by
    obtain ⟨b, t, rfl, h2, h3⟩ := h
    obtain ⟨n2, b2, e1, e2, e3⟩ := TAll.at (i := i) (x := x) h3 (by simpa using e)
    exact ⟨n2, b2, by simpa using e1, e2, e3⟩
theorem TAll.append {G : Hp} : ∀ {a b : List (List Int)} {xs ys : List V}, TAll G a xs → TAll G b ys → TAll G (a ++ b) (xs ++ ys)
  | [], b, xs, ys, h, g => by
    have h : xs = [] := h
    subst h; exact g
  | ns :: r, b, xs, ys, h, g => by
    obtain ⟨c, t, rfl, h2, h3⟩ := h
    exact ⟨c, t ++ ys, rfl, h2, TAll.append h3 g⟩
theorem ev_lstT {t : TA} (h : EvA K t r m fun xs m1 => ∃ nss : List (List Int), xs = nss.map Val.t ∧ nss.length ≤ 100000 ∧ Q (.lt nss) m1) : Ev K (tLst t) r m Q := fun σ H G S L R k =>
  h σ H G S L _ fun vs H1 G1 xs m1 ⟨nss, hx, hl, q⟩ S1 e1 r1 => by
    subst hx
    have hv := r1.toT
    refine ⟨by rw [hv.len]; exact Nat.le_trans hl (by decide), fun p hp => ?_⟩
    have hg := S1.free hp
    exact k (.ref p) _ (upd G1 p _) _ m1 q (S1.fix hp) (e1.trans (Le.new hg)) (.lt (Rd.of upd_same) (hv.mono (Le.new hg)))
theorem o2_addLt {a b : List (List Int)} (hz : a.length + b.length ≤ 100000) (q : Q (.lt (a ++ b)) m) : Op2 K (rAdd K) (.lt a) (.lt b) m Q := fun H G v w S x y R k => by
  cases x with
  | @lt _ p xs h1 h1' =>
    cases y with
    | @lt _ p' ys h2 h2' =>
      refine Or.inr (Or.inr (Or.inl ⟨p, p', xs, ys, rfl, rfl, Le.rd S.sub h1, Le.rd S.sub h2, ?_, fun l hl => ?_⟩))
      · rw [h1'.len, h2'.len]; exact Nat.le_trans hz (by decide)
      · have hg := S.free hl
        exact k _ _ (upd G l (.lst (xs ++ ys))) _ m q (S.fix hl) (Le.new hg) (.lt (Rd.of upd_same) ((h1'.append h2').mono (Le.new hg)))
theorem w_forLt {j : Nat} {nss : List (List Int)} (h : Ev K tl r m fun x m1 => x = .lt nss ∧ m1 = m) (W : Nat → List Val → Mm → Prop) (h0 : W 0 r m)
    (hs : ∀ (i : Nat) (ns : List Int) r' m', nss[i]? = some ns → W i r' m' → Wp K t (r'.set j (.t ns)) m' (W (i + 1)) E) (hd : ∀ r' m', W nss.length r' m' → N r' m') : Wp K (tFor (iList K tl) (gName j) t) r m N E := fun σ H G D S L a b =>
  h σ H G S L _ fun v H1 G1 x m1 ⟨hx, hm⟩ S1 e1 r1 => by
    subst hx hm
    cases r1 with
    | @lt _ p xs hs1 hA =>
      have hs1 : SqL K G1 p xs := Or.inl hs1
      refine ⟨p, rfl, ⟨xs, S1.sqL hs1⟩, for_list (xs := xs) (fun i σ' H' => ∃ G' r' m', W i r' m' ∧ Sta K m' H' G' ∧ Le G1 G' ∧ Sl K G' r' σ') ⟨G1, r, _, h0, S1, Le.refl G1, L.mono e1⟩ ?_ ?_ ?_⟩
      · rintro i σ' H' hi ⟨G', r', m', _, S', e', _⟩
        exact S'.sqL (e'.sqL hs1)
      · rintro i y σ' H' hy ⟨G', r', m', hw, S', e', L'⟩
        obtain ⟨ns, c, hns, rfl, hc⟩ := hA.at hy
        refine hs i ns r' m' hns hw (σ'.set j (some (.ref c))) H' G' _ S' (L'.set (r := .t ns) (.t (e' _ _ hc)) j) (fun σ3 H3 G3 r3 m3 h3 S3 e3 L3 => ⟨G3, r3, m3, h3, S3, e'.trans e3, L3⟩) (fun v H3 G3 x m3 n3 S3 e3 L3 => b v H3 G3 x m3 n3 S3 (e1.trans (e'.trans e3)) L3)
      · rintro σ' H' ⟨G', r', m', hw, S', e', L'⟩
        rw [hA.len] at hw
        exact a σ' H' G' r' m' (hd r' m' hw) S' (e1.trans e') L'
/-! comprehensions whose items are any values -/
def LcV (K : PySem.W.Frag) (m : Mm) (G : Hp) (D : Addr) (W : Nat → List Val → Prop) (i : Nat) (H' : Hp) : Prop :=
  ∃ G' acc, W i acc ∧ acc.length ≤ i ∧ Sta K (put m D (.lst acc)) H' G' ∧ Le G G'
theorem lcv_turn {G : Hp} {D : Addr} {W : Nat → List Val → Prop} {i : Nat} {σ : L2.St} {H' : Hp} {r' : List Val} (hm : m D = none) (hi : i < 100000) (L : ∀ G', Le G G' → Sl K G' r' σ)
    (hs : ∀ m' acc, Ext m m' → W i acc → EvT K tt r' m' fun b m2 => m2 = m' ∧ (b = true → Ev K te r' m' fun x m3 => m3 = m' ∧ W (i + 1) (acc ++ [x])) ∧ (b = false → W (i + 1) acc))
    (h : LcV K m G D W i H') : tt σ H' fun b H3 => if b = true then te σ H3 fun y H4 => ∃ acc, H4 D = some (.lst acc) ∧ acc.length < sizeLine ∧ LcV K m G D W (i + 1) (upd H4 D (.lst (acc ++ [y]))) else LcV K m G D W (i + 1) H3 := by
  obtain ⟨G', acc, hw, hl, S, e⟩ := h
  have hx : Ext m (put m D (.lst acc)) := fun a o ha => by
    rw [put_ne (ne_of_get ha hm)]; exact ha
  refine hs _ acc hx hw σ H' G' S (L G' e) _ fun H3 G3 b m3 ⟨e3, h1, h2⟩ S3 l3 => ?_
  subst e3
  cases b with
  | true =>
    show te σ H3 _
    refine h1 rfl σ H3 G3 S3 (L G3 (e.trans l3)) _ fun v H4 G4 x m4 ⟨e4, hw'⟩ S4 l4 r4 => ?_
    subst e4
    obtain ⟨xs, g1, g2⟩ := S4.mem D _ put_same
    have hlen := g2.length
    refine ⟨xs, g1, Nat.lt_of_lt_of_le (show xs.length < 100000 by omega) (by decide), G4, acc ++ [x], hw', by rw [List.length_append]; show acc.length + 1 ≤ i + 1; omega, ?_, e.trans (l3.trans l4)⟩
    have S5 := S4.chg (u := .lst (acc ++ [x])) (o := .lst (xs ++ [v])) put_same ⟨_, upd_same, g2.append ⟨v, [], rfl, r4, rfl⟩⟩
    rw [put_put] at S5
    exact S5
  | false =>
    show LcV K m G D W (i + 1) H3
    exact ⟨G3, acc, h2 rfl, by omega, S3, e.trans l3⟩
theorem lcv_end {G : Hp} {D : Addr} {W : Nat → List Val → Prop} {n : Nat} {H' : Hp} {R : VK} (hm : m D = none) (h : LcV K m G D W n H') (hd : ∀ acc, W n acc → ∃ nss, acc = nss.map Val.t ∧ Q (.lt nss) m)
    (k : ∀ v H' G' x m', Q x m' → Sta K m' H' G' → Le G G' → VR K G' x v → R v H') : R (.ref D) H' := by
  obtain ⟨G', acc, hw, hl, S, e⟩ := h
  obtain ⟨nss, rfl, q⟩ := hd acc hw
  obtain ⟨xs, g1, g2⟩ := S.mem D _ put_same
  have hg := S.dis D _ put_same
  have S2 := S.freeze put_same g1
  rw [del_put hm] at S2
  exact k _ H' _ _ m q S2 (e.trans (Le.new hg)) (.lt (Rd.of upd_same) (g2.toT.mono (Le.new hg)))
theorem lcv_start {H G : Hp} {D : Addr} {W : Nat → List Val → Prop} (S : Sta K m H G) (hD : H D = none) (h0 : W 0 []) : LcV K m G D W 0 (upd H D (.lst [])) :=
  ⟨G, [], h0, Nat.le_refl _, S.new hD ⟨[], upd_same, rfl⟩, Le.refl G⟩
theorem ev_lcLt {j : Nat} {nss : List (List Int)} (h : Ev K tl r m fun x m1 => x = .lt nss ∧ m1 = m) (hn : nss.length ≤ 100000) (W : Nat → List Val → Prop) (h0 : W 0 [])
    (hs : ∀ (i : Nat) (ns : List Int) m' acc, nss[i]? = some ns → Ext m m' → W i acc → EvT K tt (r.set j (.t ns)) m' fun b m2 => m2 = m' ∧ (b = true → Ev K te (r.set j (.t ns)) m' fun x m3 => m3 = m' ∧ W (i + 1) (acc ++ [x])) ∧ (b = false → W (i + 1) acc))
    (hd : ∀ acc, W nss.length acc → ∃ out, acc = out.map Val.t ∧ Q (.lt out) m) : Ev K (tLc (iList K tl) (gName j) tt te [j]) r m Q := fun σ H G S L R k =>
  h σ H G S L _ fun v H1 G1 x m1 ⟨hx, hm⟩ S1 e1 r1 => by
    subst hx hm
    cases r1 with
    | @lt _ p xs hs1 hA =>
      have hs1 : SqL K G1 p xs := Or.inl hs1
      refine ⟨p, rfl, ⟨xs, S1.sqL hs1⟩, fun D hD => ?_⟩
      have hmD := S1.freeM hD
      refine lc_list (xs := xs) (LcV K m1 G1 D W) (lcv_start S1 hD h0) ?_ ?_ ?_
      · rintro i H' hi ⟨G', acc, _, _, S', e'⟩
        exact S'.sqL (e'.sqL hs1)
      · intro i y H' hy hP
        obtain ⟨ns, c, hns, rfl, hc⟩ := hA.at hy
        have hi : i < 100000 := by
          have := (List.getElem?_eq_some_iff.mp hy).1
          rw [hA.len] at this
          omega
        refine ⟨wipe1 σ j _, lcv_turn hmD hi (fun G' e' => ?_) (fun m' acc hx hw => hs i ns m' acc hns hx hw) hP⟩
        have := (L.mono (e1.trans e')).set (r := .t ns) (.t (e' _ _ hc)) j
        show Sl K G' (r.set j (.t ns)) ((σ.set j none).set j (some (.ref c)))
        rw [List.set_set]
        exact this
      · intro H' hP
        rw [hA.len] at hP
        exact lcv_end hmD hP hd fun v H' G' x m' q S' e' r' => k v H' G' x m' q S' (e1.trans e') r'
theorem ev_mapLt {j : Nat} {nss : List (List Int)} (h : Ev K tl r m fun x m1 => x = .lt nss ∧ m1 = m) (hn : nss.length ≤ 100000) (f : List Int → List Int)
    (hs : ∀ (ns : List Int) m', ns ∈ nss → Ext m m' → Ev K te (r.set j (.t ns)) m' fun x m3 => x = .t (f ns) ∧ m3 = m') (q : Q (.lt (nss.map f)) m) : Ev K (tLc (iList K tl) (gName j) tYes te [j]) r m Q :=
  ev_lcLt h hn (fun i acc => acc = ((nss.take i).map f).map Val.t) (by simp) (fun i ns m' acc hd hx hw => evt_yes ⟨rfl, fun _ => (hs ns m' (List.mem_of_getElem? hd) hx).imp fun x m3 e => ⟨e.2, by rw [hw, take_one hd, List.map_append, List.map_append, e.1]; rfl⟩, (fun g => nomatch g)⟩)
    (fun acc hw => ⟨_, hw.trans (by rw [List.take_length]), q⟩)
theorem ev_filLt {j : Nat} {nss : List (List Int)} (h : Ev K tl r m fun x m1 => x = .lt nss ∧ m1 = m) (hn : nss.length ≤ 100000) (p : List Int → Bool)
    (ht : ∀ (ns : List Int) m', ns ∈ nss → Ext m m' → EvT K tt (r.set j (.t ns)) m' fun b m3 => b = p ns ∧ m3 = m')
    (hs : ∀ (ns : List Int) m', ns ∈ nss → Ext m m' → Ev K te (r.set j (.t ns)) m' fun x m3 => x = .t ns ∧ m3 = m') (q : Q (.lt (nss.filter p)) m) : Ev K (tLc (iList K tl) (gName j) tt te [j]) r m Q :=
  ev_lcLt h hn (fun i acc => acc = ((nss.take i).filter p).map Val.t) (by simp) (fun i ns m' acc hd hx hw => by
    have hm := List.mem_of_getElem? hd
    exact (ht ns m' hm hx).imp fun b m2 e => ⟨e.2, fun hb => (hs ns m' hm hx).imp fun x m3 e2 => ⟨e2.2, by rw [hw, take_one hd, List.filter_append, List.filter_cons, if_pos (e.1.symm.trans hb), List.map_append, e2.1]; rfl⟩, fun hb => by rw [hw, take_one hd, List.filter_append, List.filter_cons, if_neg (by rw [← e.1, hb]; decide)]; simp⟩)
    (fun acc hw => ⟨_, hw.trans (by rw [List.take_length]), q⟩)
/-- sorted(.., key=len) -/
def byLen (nss : List (List Int)) : List (List Int) := nss.mergeSort fun a b => decide ((a.length : Int) ≤ (b.length : Int))
theorem TAll.zip {G : Hp} : ∀ {nss : List (List Int)} {xs : List V}, TAll G nss xs → ((xs.zip nss).map (·.1) = xs ∧ (xs.zip nss).map (·.2) = nss ∧ ∀ b ∈ xs.zip nss, ∃ t, b.1 = .ref t ∧ G t = some (.tup (b.2.map V.int)))
  | [], xs, h => by
    have h : xs = [] := h
    subst h
    exact ⟨rfl, rfl, fun b hb => nomatch hb⟩
  | ns :: r, xs, h => by
    obtain ⟨c, t, rfl, h2, h3⟩ := h
    obtain ⟨a1, a2, a3⟩ := TAll.zip h3
    refine ⟨by rw [List.zip_cons_cons, List.map_cons, a1], by rw [List.zip_cons_cons, List.map_cons, a2], fun b hb => ?_⟩
    rw [List.zip_cons_cons] at hb
    rcases List.mem_cons.mp hb with rfl | hb
    · exact ⟨c, rfl, h2⟩
    · exact a3 b hb
theorem tall_of {G : Hp} : ∀ (bs : List (V × List Int)), (∀ b ∈ bs, ∃ t, b.1 = .ref t ∧ G t = some (.tup (b.2.map V.int))) → TAll G (bs.map (·.2)) (bs.map (·.1))
  | [], _ => rfl
  | b :: bs, h => by
    obtain ⟨t, h1, h2⟩ := h b (List.mem_cons_self ..)
    exact ⟨t, bs.map (·.1), by rw [List.map_cons, h1], h2, tall_of bs fun c hc => h c (List.mem_cons_of_mem _ hc)⟩
theorem ev_sortLen {t : TA} (h : EvA K t r m fun xs m1 => ∃ nss, xs = [.lt nss] ∧ nss.length ≤ 100000 ∧ Q (.lt (byLen nss)) m1) : Ev K (tSortLen K t) r m Q := fun σ H G S L R k =>
  h σ H G S L _ fun vs H1 G1 xs m1 ⟨nss, hx, hl, q⟩ S1 e1 r1 => by
    subst hx
    obtain ⟨v, rfl, rv⟩ := vrs1 r1
    cases rv with
    | @lt _ p xs hs1 hA =>
      obtain ⟨z1, z2, z3⟩ := hA.zip
      refine ⟨p, xs.zip nss, rfl, by rw [z1]; exact S1.sqL (Or.inl hs1), fun b hb => ?_, fun l hl => ?_⟩
      · obtain ⟨t, e1, e2⟩ := z3 b hb
        exact ⟨t, e1, S1.sqT (SqT.of e2)⟩
      · have hg := S1.free hl
        have hperm : ∀ b ∈ (xs.zip nss).mergeSort fun a b => decide ((a.2.length : Int) ≤ (b.2.length : Int)), ∃ t, b.1 = .ref t ∧ G1 t = some (.tup (b.2.map V.int)) := fun b hb => z3 b ((List.mergeSort_perm _ _).mem_iff.mp hb)
        have hT := tall_of _ hperm
        have e2 : ((xs.zip nss).mergeSort fun a b => decide ((a.2.length : Int) ≤ (b.2.length : Int))).map (·.2) = byLen nss := by
          unfold byLen
          rw [List.map_mergeSort (s := fun a b : List Int => decide ((a.length : Int) ≤ (b.length : Int))) (fun a _ b _ => rfl), z2]
        rw [e2] at hT
        exact k _ _ (upd G1 l _) _ m1 q (S1.fix hl) (e1.trans (Le.new hg)) (.lt (Rd.of upd_same) (hT.mono (Le.new hg)))
/-! a key that a name holds -/
theorem ev_dgetV {td : TE} {i : Nat} {ns : List Int} (hk : r[i]? = some (.t ns)) (h : Ev K td r m fun x m1 => ∃ p kvs z, x = .v (.ref p) ∧ Dat m1 p kvs ∧ getV kvs (kI ns) = some z ∧ Q z m1) : Ev K (tDGet td (tVar i)) r m Q :=
  ev_dget (h.imp fun x m1 ⟨p, kvs, z, hx, hd, hg, q⟩ => ⟨p, hx, ev_var hk (fun h => nomatch h) ⟨ns, kvs, z, rfl, hd, hg, q⟩⟩)
theorem w_dputV {td tv : TE} {i : Nat} {ns : List Int} (hk : r[i]? = some (.t ns)) (h : Ev K tv r m fun x m1 => Ev K td r m1 fun y m2 => ∃ p kvs, y = .v (.ref p) ∧ m2 p = some (.dT kvs) ∧ kvs.length < 100000 ∧ N r (put m2 p (.dT (putV kvs (kI ns) x)))) : Wp K (sDPut td (tVar i) tv) r m N E :=
  w_dput (h.imp fun x m1 h1 => h1.imp fun y m2 ⟨p, kvs, hy, hm, hl, q⟩ => ⟨p, hy, ev_var hk (fun h => nomatch h) ⟨ns, kvs, rfl, hm, hl, q⟩⟩)
end
end DL
namespace DL
open PySem L2
abbrev kn (ks : List Nat) : List Int := ks.map fun (k : Nat) => (k : Int)
theorem kn_inj {a b : List Nat} (h : kn a = kn b) : a = b := List.map_inj_right (fun _ _ e => by omega) |>.mp h
/-! fractions from nought on, bounded -/
structure QB (q : Rat) (d v : Nat) : Prop where
  nn : 0 ≤ q
  le : q ≤ (v : Rat)
  den : q.den ≤ 2 ^ d
theorem QB.mono {q : Rat} {d v d' v' : Nat} (h : QB q d v) (hd : d ≤ d') (hv : v ≤ v') : QB q d' v' :=
  ⟨h.nn, Rat.le_trans h.le (Rat.natCast_le_natCast.mpr hv), Nat.le_trans h.den (Nat.pow_le_pow_right (by decide) hd)⟩
theorem QB.frB {q : Rat} {d v e : Nat} (h : QB q d v) (hv : v < 2 ^ e) : FrB q (d + e + 1) := by
  have hden := den_pos q
  refine ⟨?_, ?_⟩
  · have h0 : 0 ≤ q.num := Rat.num_nonneg.mpr h.nn
    have h1 : q.num ≤ (v : Int) * (q.den : Int) := by
      have := (Rat.le_iff q ((v : Nat) : Rat)).mp h.le
      have e1 : ((v : Nat) : Rat).den = 1 := rfl
      have e2 : ((v : Nat) : Rat).num = (v : Int) := rfl
      rw [e1, e2] at this
      simpa using this
    have h2 : q.num.natAbs ≤ v * q.den := by
      have : ((q.num.natAbs : Nat) : Int) ≤ ((v * q.den : Nat) : Int) := by rw [Int.natAbs_of_nonneg h0, Int.natCast_mul]; exact h1
      omega
    show q.num.natAbs < 2 ^ (d + e + 1)
    have h3 : v * q.den ≤ 2 ^ e * 2 ^ d := Nat.mul_le_mul (by omega) h.den
    rw [← Nat.pow_add] at h3
    refine Nat.lt_of_le_of_lt (Nat.le_trans h2 h3) ?_
    exact Nat.pow_lt_pow_right (by decide) (by omega)
  · show ((q.den : Nat) : Int).natAbs < 2 ^ (d + e + 1)
    rw [Int.natAbs_natCast]
    exact Nat.lt_of_le_of_lt h.den (Nat.pow_lt_pow_right (by decide) (by omega))
theorem den_mk_le (t : Int) (b : Nat) (hb : 0 < b) : (mkRat t b).den ≤ b := by
  rw [Rat.den_mkRat, if_neg (by omega)]
  exact Nat.div_le_self _ _
theorem QB.add {p q : Rat} {a b u v : Nat} (h : QB p a u) (g : QB q b v) : QB (p + q) (a + b) (u + v) := by
  refine ⟨Rat.add_nonneg h.nn g.nn, ?_, ?_⟩
  · have h1 := h.le
    have h2 := g.le
    rw [Rat.natCast_add]
    grind
  · rw [Rat.add_def']
    refine Nat.le_trans (den_mk_le _ _ (Nat.mul_pos (den_pos p) (den_pos q))) ?_
    rw [Nat.pow_add]
    exact Nat.mul_le_mul h.den g.den
theorem QB.mulN {q : Rat} {d v : Nat} (h : QB q d v) (n : Nat) : QB (((n : Int) : Rat) * q) d (n * v) := by
  have hn : (0 : Rat) ≤ ((n : Nat) : Rat) := Rat.natCast_nonneg
  refine ⟨?_, ?_, ?_⟩
  · rw [Rat.intCast_natCast]; exact Rat.mul_nonneg hn h.nn
  · rw [Rat.intCast_natCast, Rat.natCast_mul]
    exact Rat.mul_le_mul_of_nonneg_left h.le hn
  · rw [Rat.mul_def']
    have e : (((n : Int) : Rat)).den = 1 := rfl
    rw [e, Nat.one_mul]
    exact Nat.le_trans (den_mk_le _ _ (den_pos q)) h.den
theorem QB.over {q : Rat} {d v : Nat} (h : QB q d v) {n e w : Nat} (h0 : 0 < n) (he : n ≤ 2 ^ e) (hv : v ≤ w * n) : QB (q * mkRat 1 n) (d + e) w := by
  have hn : ((n : Nat) : Rat) ≠ 0 := nat_ne h0
  have hn0 : (0 : Rat) < ((n : Nat) : Rat) := Rat.natCast_pos.mpr h0
  have e1 : mkRat 1 n = 1 / ((n : Nat) : Rat) := by rw [Rat.mkRat_eq_div]; rfl
  have hinv : (0 : Rat) ≤ mkRat 1 n := Rat.num_nonneg.mp (by rw [Rat.num_mkRat, if_neg (by omega)]; exact Int.ediv_nonneg (by decide) (Int.natCast_nonneg _))
  refine ⟨Rat.mul_nonneg h.nn hinv, ?_, ?_⟩
  · have h1 : q ≤ ((w : Nat) : Rat) * ((n : Nat) : Rat) := by
      rw [← Rat.natCast_mul]
      exact Rat.le_trans h.le (Rat.natCast_le_natCast.mpr hv)
    rw [e1]
    generalize ((n : Nat) : Rat) = N at *
    generalize ((w : Nat) : Rat) = W at *
    have h2 : q * (1 / N) * N ≤ W * N := by
      have : q * (1 / N) * N = q := by grind
      rw [this]; exact h1
    exact Rat.le_of_mul_le_mul_right h2 hn0
  · rw [Rat.mul_def']
    refine Nat.le_trans (den_mk_le _ _ (Nat.mul_pos (den_pos q) (den_pos _))) ?_
    rw [Nat.pow_add]
    exact Nat.mul_le_mul h.den (Nat.le_trans (den_mk_le 1 n h0) he)
theorem QB.nat (n : Nat) : QB ((n : Int) : Rat) 0 n := by
  refine ⟨?_, ?_, ?_⟩
  · rw [Rat.intCast_natCast]; exact Rat.natCast_nonneg
  · rw [Rat.intCast_natCast]; exact Rat.le_refl
  · exact Nat.le_refl 1
/-! the time paper -/
def dueAcc (ss : List Int) (P : List Nat → Rat) (s : List Nat) (l : List Nat) : Rat := l.foldl (fun acc k => acc + ((ss.getD k 0 : Int) : Rat) * P (s.filter fun x => !decide (x = k))) ((ss.sum : Int) : Rat)
def dueT (ss : List Int) (P : List Nat → Rat) (s : List Nat) : Rat := dueAcc ss P s s * mkRat 1 (sumP ss s).toNat
def timeF (ss : List Int) : Nat → List Nat → Rat
  | 0, _ => 0
  | n + 1, s => dueT ss (timeF ss n) s
def timeT (ss : List Int) (s : List Nat) : Rat := timeF ss s.length s
theorem without_len {s : List Nat} (hs : s.Pairwise (· < ·)) {k : Nat} (hk : k ∈ s) : (s.filter fun x => !decide (x = k)).length + 1 = s.length := by
  induction s with
  | nil => cases hk
  | cons a t ih =>
    obtain ⟨h1, h2⟩ := List.pairwise_cons.mp hs
    rcases List.mem_cons.mp hk with rfl | hk
    · rw [List.filter_cons, if_neg (by simp)]
      have : (t.filter fun x => !decide (x = k)) = t := List.filter_eq_self.mpr fun x hx => by have := h1 x hx; simp; omega
      rw [this]; rfl
    · have : a ≠ k := by have := h1 k hk; omega
      rw [List.filter_cons, if_pos (by simp [this]), List.length_cons, List.length_cons, ih h2 hk]
theorem dueAcc_congr {ss : List Int} {P P' : List Nat → Rat} {s : List Nat} (h : ∀ k ∈ s, P (s.filter fun x => !decide (x = k)) = P' (s.filter fun x => !decide (x = k))) : ∀ l : List Nat, (∀ k ∈ l, k ∈ s) → dueAcc ss P s l = dueAcc ss P' s l := by
  intro l hl
  unfold dueAcc
  generalize ((ss.sum : Int) : Rat) = a
  induction l generalizing a with
  | nil => rfl
  | cons k t ih =>
    rw [List.foldl_cons, List.foldl_cons, h k (hl k (List.mem_cons_self ..))]
    exact ih (fun x hx => hl x (List.mem_cons_of_mem _ hx)) _
/-- bits of the paper's bottoms -/
def dB : Nat → Nat
  | 0 => 0
  | n + 1 => (n + 1) * dB n + 6
theorem sumP_pos {ss : List Int} (hs : Shares ss) {s : List Nat} (h0 : s ≠ []) (hk : ∀ k ∈ s, k < ss.length) : 1 ≤ sumP ss s := by
  cases s with
  | nil => exact absurd rfl h0
  | cons k t =>
    have := sumP_nonneg hs t
    rw [sumP_cons]
    have : 1 ≤ ss.getD k 0 := by
      rw [List.getD_eq_getElem?_getD, List.getElem?_eq_getElem (hk k (by simp))]
      exact (hs.each _ (List.getElem_mem _)).1
    omega
theorem kinds_without {n : Nat} {s : List Nat} (h : Kinds n s) (k : Nat) : Kinds n (s.filter fun x => !decide (x = k)) := ⟨h.up.filter _, fun x hx => h.lt x (List.mem_filter.mp hx).1⟩
theorem dB_le {n : Nat} (h : n ≤ 5) : dB n ≤ 1236 := by
  have : n = 0 ∨ n = 1 ∨ n = 2 ∨ n = 3 ∨ n = 4 ∨ n = 5 := by omega
  rcases this with rfl | rfl | rfl | rfl | rfl | rfl <;> decide
end DL
namespace DL
open PySem L2
def allSL (ks : List Nat) : List (List Nat) := ks.foldl (fun acc k => acc ++ acc.map fun s => s ++ [k]) [[]]
theorem allSL_snoc (ks : List Nat) (k : Nat) : allSL (ks ++ [k]) = allSL ks ++ (allSL ks).map fun s => s ++ [k] := by
  unfold allSL; rw [List.foldl_append]; rfl
theorem allSL_range : ∀ n, allSL (List.range n) = allS n
  | 0 => rfl
  | n + 1 => by rw [range_one, allSL_snoc, allSL_range n, allS]
theorem allSL_len (ks : List Nat) : (allSL ks).length = 2 ^ ks.length := by
  have gen : ∀ (ks : List Nat) (acc : List (List Nat)), (ks.foldl (fun acc k => acc ++ acc.map fun s => s ++ [k]) acc).length = acc.length * 2 ^ ks.length := by
    intro ks
    induction ks with
    | nil => intro acc; simp
    | cons k t ih => intro acc; rw [List.foldl_cons, ih, List.length_append, List.length_map, List.length_cons, Nat.pow_succ, ← Nat.mul_two, Nat.mul_assoc, Nat.mul_comm 2]
  have := gen ks [[]]
  simpa [allSL] using this
theorem allSL_mem_len {ks : List Nat} : ∀ s ∈ allSL ks, s.length ≤ ks.length := by
  have gen : ∀ (ks : List Nat) (acc : List (List Nat)) (c : Nat), (∀ a ∈ acc, a.length ≤ c) → ∀ s ∈ ks.foldl (fun acc k => acc ++ acc.map fun s => s ++ [k]) acc, s.length ≤ c + ks.length := by
    intro ks
    induction ks with
    | nil => intro acc c h s hs; exact h s hs
    | cons k t ih =>
      intro acc c h s hs
      rw [List.foldl_cons] at hs
      have := ih _ (c + 1) (fun a ha => by
        rcases List.mem_append.mp ha with ha | ha
        · have := h a ha; omega
        · obtain ⟨u, hu, rfl⟩ := List.mem_map.mp ha
          have := h u hu
          rw [List.length_append, List.length_singleton]; omega) s hs
      rw [List.length_cons]; omega
  intro s hs
  have := gen ks [[]] 0 (fun a ha => by rw [List.mem_singleton.mp ha]; exact Nat.le_refl _) s hs
  omega
theorem rngD_intN (n : Nat) : rngD 0 n = (List.range n).map intN := by
  unfold rngD
  exact List.map_congr_left fun i _ => by rw [Nat.zero_add]
def f_allSome : FSp := fun args m R => ∃ ks : List Nat, args = [.d (.list (ks.map intN))] ∧ ks.length ≤ 8 ∧ R (.lt ((allSL ks).map kn)) m
/-- the same, by their lengths -/
def ordS (n : Nat) : List (List Nat) := (allS n).mergeSort fun a b => decide ((a.length : Int) ≤ (b.length : Int))
theorem byLen_kn (n : Nat) : byLen ((allS n).map kn) = (ordS n).map kn := by
  unfold byLen ordS
  rw [List.map_mergeSort (s := fun a b : List Int => decide ((a.length : Int) ≤ (b.length : Int))) (fun a _ b _ => by simp)]
theorem ordS_perm (n : Nat) : (ordS n).Perm (allS n) := List.mergeSort_perm _ _
theorem ordS_sorted (n : Nat) : (ordS n).Pairwise fun a b => a.length ≤ b.length := by
  have h := List.pairwise_mergeSort (le := fun a b : List Nat => decide ((a.length : Int) ≤ (b.length : Int))) (fun a b c h1 h2 => by simp at *; omega) (fun a b => by simp; omega) (allS n)
  exact h.imp fun h => by simpa using h
theorem allS_nodup : ∀ n : Fin 6, (allS n).Nodup := by decide +kernel
theorem allS_kinds {n : Nat} {s : List Nat} (h : s ∈ allS n) : Kinds n s := ⟨allSup n s h, fun k hk => (allS_mem n s h).2 k hk⟩
  where allSup : ∀ n, ∀ s ∈ allS n, s.Pairwise (· < ·)
  | 0, s, h => by
    have : s = [] := by simpa [allS] using h
    subst this; exact List.Pairwise.nil
  | n + 1, s, h => by
    rw [allS] at h
    rcases List.mem_append.mp h with h | h
    · exact allSup n s h
    · obtain ⟨t, ht, rfl⟩ := List.mem_map.mp h
      exact List.pairwise_append.mpr ⟨allSup n t ht, List.pairwise_singleton .., fun x hx y hy => by rw [List.mem_singleton.mp hy]; exact (allS_mem n t ht).2 x hx⟩
/-! tables -/
def tabT (f : List Nat → Rat) (l : List (List Nat)) : List (List Key × Val) := l.map fun s => (kI (kn s), .d (frac (f s)))
theorem getV_tab {f : List Nat → Rat} {s : List Nat} : ∀ {l : List (List Nat)}, s ∈ l → getV (tabT f l) (kI (kn s)) = some (.d (frac (f s)))
  | [], h => nomatch h
  | a :: l, h => by
    unfold tabT
    rw [List.map_cons]
    by_cases e : a = s
    · subst e
      simp [getV, List.find?_cons]
    · have e2 : ¬ kI (kn a) = kI (kn s) := fun z => e (kn_inj (kI_inj z))
      have h2 : s ∈ l := by
        rcases List.mem_cons.mp h with h | h
        · exact absurd h.symm e
        · exact h
      have := getV_tab (f := f) h2
      unfold tabT at this
      simp only [getV, List.find?_cons, e2, decide_false] at this ⊢
      exact this
theorem putV_tab {f : List Nat → Rat} {s : List Nat} {l : List (List Nat)} (h : s ∉ l) : putV (tabT f l) (kI (kn s)) (.d (frac (f s))) = tabT f (l ++ [s]) := by
  rw [putV_new]
  · unfold tabT
    rw [List.map_append]; rfl
  · intro p hp e
    obtain ⟨a, ha, rfl⟩ := List.mem_map.mp hp
    exact h (kn_inj (kI_inj e) ▸ ha)
theorem tab_len (f : List Nat → Rat) (l : List (List Nat)) : (tabT f l).length = l.length := List.length_map ..
def noNil (s : List Nat) : Bool := !decide (s = [])
theorem eqv_nilT (ns : List Int) : PyData.eqv (tupI ns) (.tuple []) = decide (ns = []) := by
  cases ns with
  | nil => rfl
  | cons a t => simp [tupI, PyData.eqv, PyData.eqvAll]
def f_plusG : FSp := fun args m R => ∃ (t1 : Int) (b1 : Nat) (t2 : Int) (b2 : Nat), args = [.d (.tuple [.int t1, .int (b1 : Int)]), .d (.tuple [.int t2, .int (b2 : Int)])] ∧ 0 < b1 ∧ 0 < b2 ∧ Bt t1 3900 ∧ Bt (b1 : Int) 3900 ∧ Bt t2 3900 ∧ Bt (b2 : Int) 3900 ∧ R (.d (frac (mkRat t1 b1 + mkRat t2 b2))) m
end DL
namespace DL
open PySem L2 PyProof.Rows
end DL
namespace DL
open PySem L2
def wo (t : List Nat) (k : Nat) : List Nat := t.filter fun x => !decide (x = k)
/-! bounds -/
/-! the turns -/
def addF (G : List Nat → Int) (p : List Nat × Int) : List Nat → Int := fun u => if u = p.1 then G u + p.2 else G u
/-! tables of whole numbers -/
def insL (l : List (List Nat)) (t : List Nat) : List (List Nat) := if t ∈ l then l else l ++ [t]
abbrev dI (kvs : List (List Int × Val)) : List (List Key × Val) := kvs.map fun kv => (kI kv.1, kv.2)
structure TabOk (n : Nat) (G : List Nat → Int) (l : List (List Nat)) : Prop where
  nd : l.Nodup
  sub : ∀ s ∈ l, s ∈ allS n
  off : ∀ s, s ∉ l → G s = 0
theorem TabOk.add {n : Nat} {G : List Nat → Int} {l : List (List Nat)} (h : TabOk n G l) {t : List Nat} (ht : t ∈ allS n) (x : Int) : TabOk n (addF G (t, x)) (insL l t) := by
  unfold insL
  by_cases hm : t ∈ l
  · rw [if_pos hm]
    refine ⟨h.nd, h.sub, fun s hs => ?_⟩
    have : s ≠ t := fun e => hs (e ▸ hm)
    simp [addF, this, h.off s hs]
  · rw [if_neg hm]
    refine ⟨List.nodup_append.mpr ⟨h.nd, List.pairwise_singleton .., fun a ha b hb => by rw [List.mem_singleton.mp hb]; exact fun e => hm (e ▸ ha)⟩, fun s hs => ?_, fun s hs => ?_⟩
    · rcases List.mem_append.mp hs with hs | hs
      · exact h.sub s hs
      · rw [List.mem_singleton.mp hs]; exact ht
    · have h1 : s ∉ l := fun z => hs (List.mem_append_left _ z)
      have h2 : s ≠ t := fun e => hs (List.mem_append_right _ (by rw [e]; simp))
      simp [addF, h2, h.off s h1]
theorem TabOk.len {n : Nat} {G : List Nat → Int} {l : List (List Nat)} (h : TabOk n G l) (hn : n ≤ 5) : l.length ≤ 32 := by
  have h1 : l.Perm ((allS n).filter fun s => decide (s ∈ l)) := (List.perm_ext_iff_of_nodup h.nd ((allS_nodup ⟨n, by omega⟩).filter _)).mpr fun s => by
    rw [List.mem_filter]
    constructor
    · intro z; exact ⟨h.sub s z, decide_eq_true z⟩
    · intro z; exact of_decide_eq_true z.2
  have h2 := h1.length_eq
  have h3 := List.length_filter_le (fun s => decide (s ∈ l)) (allS n)
  have h4 := allS_len n
  have h5 : 2 ^ n ≤ 2 ^ 5 := Nat.pow_le_pow_right (by decide) hn
  omega
/-! words -/
end DL
namespace DL
open PySem L2
/-! all together -/
end DL
namespace DL
open PySem L2
end DL
namespace DL
open PySem L2
def f_box2 : FSp := fun args m R => ∃ (ns : List Int) (k : Nat), args = [.scr ns, .d (.int (k : Int))] ∧ k ≤ 1000 ∧ ∀ p, m p = none → R (.v (.ref p)) (put m p .box)
def f_shares2 : FSp := fun args m R => ∃ (p : Addr) (a : Int), args = [.v (.ref p), .d (.int a)] ∧ m p = some .box ∧ 1 ≤ a ∧ a ≤ 5 ∧ ∀ ss : List Int, Shares ss → (ss.length : Int) ≤ a → R (.d (tupI ss)) m
def f_timesG : FSp := fun args m R => ∃ (q : Rat) (t : Int) (b : Nat), args = [.d (frac q), .d (.int t), .d (.int (b : Int))] ∧ 0 < b ∧ FrB q 3900 ∧ Bt t 3900 ∧ Bt (b : Int) 3900 ∧ R (.d (frac (q * mkRat t b))) m
theorem mk_times (q : Rat) (t : Int) {b : Nat} (hb : 0 < b) : mkRat (q.num * t) (q.den * b) = q * mkRat t b := by
  have h := Rat.mkRat_mul_mkRat q.num t q.den b
  rw [Rat.mkRat_self] at h
  exact h.symm
end DL
/-! enumerate over a tuple -/
namespace DL
open PySem L2
end DL
/-! sum(d.values()) of a dict whose keys are tuples -/
namespace DL
open PySem L2
section
variable {K : PySem.W.Frag} {r : List Val} {m : Mm} {Q : Val → Mm → Prop} {te : TE}
theorem KVs.ints {G : Hp} {α : Type} : ∀ {kvs : List (α × Val)} {es : List (α × V)} {ns : List Int}, KVs K G kvs es → kvs.map (·.2) = ns.map (fun n => Val.d (.int n)) → es.map (·.2) = ns.map V.int
  | [], es, ns, h, e => by
    have h : es = [] := h
    subst h
    cases ns with
    | nil => rfl
    | cons _ _ => simp at e
  | (k, x) :: t, es, ns, h, e => by
    obtain ⟨v, u, rfl, h2, h3⟩ := h
    cases ns with
    | nil => simp at e
    | cons n ns =>
      rw [List.map_cons, List.map_cons] at e
      injection e with e1 e2
      rw [List.map_cons, List.map_cons, KVs.ints h3 e2]
      have e1 : x = .d (.int n) := e1
      subst e1
      rw [show v = .int n from int_of h2]
end
end DL
/-! no kind twice -/
namespace DL
open PySem L2
theorem knI_inj {a b : List Nat} (h : kI (kn a) = kI (kn b)) : a = b := by
  have h := kI_inj h
  unfold kn at h
  exact (List.map_inj_right (fun x y e => by omega)).mp h
end DL
/-! dict(list of pairs) with tuples as keys -/
namespace DL
open PySem L2
end DL
/-! some kinds, the fewer ahead: told number by number -/
namespace DL
open PySem L2
def ordX (n : Nat) : List (List Nat) := (List.range (n + 1)).flatMap fun k => (allS n).filter fun s => decide (s.length = k)
theorem flatMap_ext {α β : Type} {f g : α → List β} : ∀ {l : List α}, (∀ x ∈ l, f x = g x) → l.flatMap f = l.flatMap g
  | [], _ => rfl
  | a :: l, h => by rw [List.flatMap_cons, List.flatMap_cons, h a List.mem_cons_self, flatMap_ext fun x hx => h x (List.mem_cons_of_mem _ hx)]
theorem part_sorted {l : List (List Nat)} (h : l.Pairwise fun a b => a.length ≤ b.length) (c : Nat) : l = (l.filter fun s => decide (s.length < c)) ++ (l.filter fun s => !decide (s.length < c)) := by
  induction l with
  | nil => rfl
  | cons a t ih =>
    obtain ⟨h1, h2⟩ := List.pairwise_cons.mp h
    by_cases ha : a.length < c
    · rw [List.filter_cons, if_pos (by simp [ha]), List.filter_cons, if_neg (by simp [ha]), List.cons_append, ← ih h2]
    · have e1 : (t.filter fun s => decide (s.length < c)) = [] := List.filter_eq_nil_iff.mpr fun x hx => by have := h1 x hx; simp; omega
      have e2 : (t.filter fun s => !decide (s.length < c)) = t := List.filter_eq_self.mpr fun x hx => by have := h1 x hx; simp; omega
      rw [List.filter_cons, if_neg (by simp [ha]), List.filter_cons, if_pos (by simp [ha]), e1, e2, List.nil_append]
theorem flat_sorted : ∀ (n : Nat) (l : List (List Nat)), (l.Pairwise fun a b => a.length ≤ b.length) → (∀ s ∈ l, s.length < n) → l = (List.range n).flatMap fun k => l.filter fun s => decide (s.length = k)
  | 0, l, _, h => by
    cases l with
    | nil => rfl
    | cons a t => exact absurd (h a List.mem_cons_self) (Nat.not_lt_zero _)
  | n + 1, l, hs, h => by
    have ih := flat_sorted n (l.filter fun s => decide (s.length < n)) (hs.filter _) fun s hs' => by simpa using (List.mem_filter.mp hs').2
    have e := part_sorted hs n
    rw [List.range_succ, List.flatMap_append]
    have e1 : (l.filter fun s => !decide (s.length < n)) = l.filter fun s => decide (s.length = n) := List.filter_congr fun s hs' => by
      have := h s hs'
      by_cases hh : s.length = n
      · simp [hh]
      · have : s.length < n := by omega
        simp [hh, this]
    have e2 : ((List.range n).flatMap fun k => (l.filter fun s => decide (s.length < n)).filter fun s => decide (s.length = k)) = (List.range n).flatMap fun k => l.filter fun s => decide (s.length = k) := by
      refine flatMap_ext fun k hk => ?_
      have := List.mem_range.mp hk
      rw [List.filter_filter]
      exact List.filter_congr fun s _ => by simp; omega
    rw [e2] at ih
    rw [← ih]
    simp only [List.flatMap_cons, List.flatMap_nil, List.append_nil]
    rw [← e1]
    exact e
theorem ordS_filter (n k : Nat) : (ordS n).filter (fun s => decide (s.length = k)) = (allS n).filter fun s => decide (s.length = k) := by
  have h1 : ((allS n).filter fun s => decide (s.length = k)).Pairwise fun a b => (decide ((a.length : Int) ≤ (b.length : Int))) = true := by
    refine List.Pairwise.imp_of_mem (R := fun _ _ => True) (fun ha hb _ => ?_) (List.pairwise_of_forall fun _ _ => trivial)
    have := (List.mem_filter.mp ha).2
    have := (List.mem_filter.mp hb).2
    simp at *; omega
  have h2 : ((allS n).filter fun s => decide (s.length = k)).Sublist (ordS n) := List.sublist_mergeSort (fun a b c h1 h2 => by simp at h1 h2 ⊢; omega) (fun a b => by simp; omega) h1 List.filter_sublist
  have h3 := h2.filter fun s => decide (s.length = k)
  rw [List.filter_filter] at h3
  simp only [Bool.and_self] at h3
  exact (h3.eq_of_length ((ordS_perm n).filter _).length_eq.symm).symm
theorem ordS_eq (n : Nat) : ordS n = ordX n := by
  have h := flat_sorted (n + 1) (ordS n) ((ordS_sorted n).imp fun z => by first | exact z | (simp at z; omega)) fun s hs => by
    have := (allS_mem n s ((ordS_perm n).mem_iff.mp hs)).1
    omega
  rw [h]
  unfold ordX
  exact flatMap_ext fun k _ => ordS_filter n k
end DL
/-! in which share of the cases just some kinds are left at some time -/
namespace DL
open PySem L2
theorem ordX_facts : ∀ n : _root_.Fin 6, (ordX n.val).length ≤ 32 ∧ (∀ s ∈ ordX n.val, s ∈ allS n.val) ∧ (∀ s ∈ allS n.val, ∀ k ∈ s, wo s k ∈ allS n.val ∧ wo s k ≠ s ∧ (wo s k).length + 1 = s.length) := by decide +kernel
/-! bounds -/
def InD (q : Rat) (D : Nat) : Prop := ∃ z : Int, q * ((D : Nat) : Rat) = (z : Rat)
theorem InD.add {p q : Rat} {D : Nat} (h : InD p D) (g : InD q D) : InD (p + q) D := by
  obtain ⟨x, hx⟩ := h
  obtain ⟨y, hy⟩ := g
  exact ⟨x + y, by rw [Rat.add_mul, hx, hy, Rat.intCast_add]⟩
theorem InD.int (z : Int) (D : Nat) : InD (z : Rat) D := ⟨z * D, by rw [Rat.intCast_mul, Rat.intCast_natCast]⟩
theorem InD.sum {α : Type} {f : α → Rat} {D : Nat} : ∀ {l : List α}, (∀ x ∈ l, InD (f x) D) → InD (l.map f).sum D
  | [], _ => by have := InD.int 0 D; simpa using this
  | x :: l, h => by
    rw [List.map_cons, List.sum_cons]
    exact (h x List.mem_cons_self).add (InD.sum fun y hy => h y (List.mem_cons_of_mem _ hy))
theorem InD.den {q : Rat} {D : Nat} (h : InD q D) (h0 : 0 < D) : q.den ≤ D := by
  obtain ⟨z, hz⟩ := h
  have e : q = mkRat z D := by
    have hn := nat_ne h0
    rw [Rat.mkRat_eq_div, ← hz]
    generalize ((D : Nat) : Rat) = E at *
    grind
  rw [e]
  exact den_mk_le z D h0
structure ChB (q : Rat) (D v : Nat) : Prop where
  nn : 0 ≤ q
  le : q ≤ (v : Rat)
  ind : InD q D
theorem ChB.frB {q : Rat} {D v d e : Nat} (h : ChB q D v) (h0 : 0 < D) (hD : D ≤ 2 ^ d) (hv : v < 2 ^ e) : FrB q (d + e + 1) :=
  QB.frB ⟨h.nn, h.le, Nat.le_trans (h.ind.den h0) hD⟩ hv
end DL
/-! how long until so many kinds have come: by who is left, forth and back -/
namespace DL
open PySem L2
def lvl (n l : Nat) : List (List Nat) := (allS n).filter fun s => decide (s.length = l)
theorem mk_one (a : Int) (b : Nat) : mkRat a b = ((a : Int) : Rat) * mkRat 1 b := by
  rw [Rat.mkRat_eq_div, Rat.mkRat_eq_div, Rat.div_def, Rat.div_def]
  grind
theorem mk_int (a : Int) : mkRat a 1 = (a : Rat) := by rw [mk_one, show mkRat 1 1 = 1 from rfl, Rat.mul_one]
def updQ (f : List Nat → Rat) (t : List Nat) (v : Rat) : List Nat → Rat := fun u => if u = t then v else f u
/-! words -/
def f_lawSetsX : FSp := fun args m R => ∃ n : Nat, args = [.d (.int (n : Int))] ∧ n ≤ 5 ∧ R (.lt ((ordX n).map kn)) m
theorem putV_tabT {f : List Nat → Rat} {t : List Nat} {v : Rat} {l : List (List Nat)} (h : t ∈ l) : putV (tabT f l) (kI (kn t)) (.d (frac v)) = tabT (updQ f t v) l := by
  unfold putV
  rw [if_pos ?_]
  · unfold tabT
    rw [List.map_map]
    refine List.map_congr_left fun s _ => ?_
    show (if kI (kn s) = kI (kn t) then (kI (kn s), Val.d (frac v)) else (kI (kn s), .d (frac (f s)))) = (kI (kn s), Val.d (frac (updQ f t v s)))
    by_cases e : s = t
    · subst e; rw [if_pos rfl]; unfold updQ; rw [if_pos rfl]
    · rw [if_neg (fun z => e (knI_inj z))]; unfold updQ; rw [if_neg e]
  · rw [List.any_eq_true]
    exact ⟨_, List.mem_map.mpr ⟨t, h, rfl⟩, by simp⟩
section
variable {K : PySem.W.Frag} {r : List Val} {m : Mm} {Q : Val → Mm → Prop} {te tl ta tb : TE} {tt : TT}
/-- (k, x): k a tuple that the code made -/
theorem ev_tupP (h : Ev K ta r m fun x m1 => ∃ ns, x = .t ns ∧ Ev K tb r m1 fun y m2 => ∃ d, y = .d d ∧ Q (.p ns d) m2) : Ev K (tTup (tCons ta (tCons tb tNil))) r m Q := fun σ H G S L R k =>
  h σ H G S L _ fun v H1 G1 x m1 ⟨ns, hx, h1⟩ S1 e1 r1 => h1 σ H1 G1 S1 (L.mono e1) _ fun w H2 G2 y m2 ⟨d, hy, q⟩ S2 e2 r2 => by
    subst hx hy
    have r1 := r1.mono e2
    cases r1 with
    | t ht =>
      rename_i a
      refine ⟨by show 2 ≤ sizeLine; decide, fun p hp => ?_⟩
      have hg := S2.free hp
      have l := Le.new (o := .tup [.ref a, w]) hg
      exact k _ _ _ _ m2 q (S2.fix hp) (e1.trans (e2.trans l)) (.p upd_same (l _ _ ht) (Rp.mono l _ _ r2.rp))
end
end DL
/-! code that runs while an exception is handled: comprehensions over a range, defs that are handed the exception -/
namespace DL
open PySem L2 PySem.Spec PyProof.Rows L2H
/-- a comprehension's own context, the handled exception still in sight -/
abbrev blkP (X : Cx) (s : Shared) (H : Hp) (scope : Scope) (env : Env) (fp : List Addr) : Cx := { X.blk s H scope env fp with pn := X.pn }
theorem Inv.sight {X : Cx} {s0 : Shared} {H0 : Hp} {scope : Scope} {env : Env} {fp : List Addr} {σ : L2.St} {H : Hp} {s : Shared} (I : Inv (X.blk s0 H0 scope env fp) [] σ H s)
    (hp : ∀ p ∈ X.pn, s.heap.get? p.1 = some p.2 ∧ H p.1 = none ∧ p.1 ≠ env.locals ∧ p.1 ∉ frs X.stack ∧ ∀ v, p.2.data ≠ .cell v) : Inv (blkP X s0 H0 scope env fp) [] σ H s :=
  ⟨⟨I.ok.mod, I.ok.kind, I.ok.glob, I.ok.blt, I.ok.above, I.ok.inj, I.ok.has, I.ok.cab, I.ok.hd, I.ok.frames, I.ok.stk, I.ok.exf, I.ok.bs, I.ok.bsz, I.ok.noex, I.ok.exfs, I.ok.funs, I.ok.frf⟩, I.os, I.bare, I.base, I.loc, I.cell, I.free, I.freeC,
    fun p z => hp p (by simpa using z), I.hok, I.len⟩
section
variable {X : Cx}
theorem pe_lcH {elt tg iter : Expr} {ifs : List Expr} {scope : Scope} {own : List (Str × Nat)} {pos : Pos} {wi : TI} {g : TG} {tt : TT} {te : TE} (hot : HotC X) (hN : X.N.Nodup) (hi : PIH X tg iter wi) (ok : BlkOk X.N X.env.scope scope own)
    (hg : ∀ (s : Shared) (H : Hp) (C : Addr) (cl : List (Str × Addr)) (fp : List Addr), PG (blkP X s H scope (compEnvC scope cl C X.env) fp) tg g)
    (ht : ∀ (s : Shared) (H : Hp) (C : Addr) (cl : List (Str × Addr)) (fp : List Addr), PTs (blkP X s H scope (compEnvC scope cl C X.env) fp) ifs tt)
    (he : ∀ (s : Shared) (H : Hp) (C : Addr) (cl : List (Str × Addr)) (fp : List Addr), PE (blkP X s H scope (compEnvC scope cl C X.env) fp) elt te) (hs : ∀ x, foldedSetIterable iter X.env x = pure x := by intro _; rfl) :
    PE X (.ListComp elt [⟨tg, iter, ifs, 0⟩] scope pos) (tLc wi g tt te (own.map (·.2))) := by
  refine ⟨fun pins s σ H Q I h => ?_⟩
  rw [eval_ListComp]
  have cells : ∀ y ∈ scope.names, y.2 = .free → ∃ c, X.env.cells.lookup y.1 = some c := fun y hy e => (ok.free y hy e).elim (fun k => I.ok.has _ (.inl k)) fun k => I.ok.has _ (.inr k)
  refine wpAny_comprehension_free (use := none) rfl hs (closure_ok cells) ok.kind (fun y hy e => by rw [ok.uniq y hy, e]) (thn (hi.run pins s σ H _ I h) fun _ _ hx => thn hx fun itv s2 h2 => ?_)
  obtain ⟨it, fp, tn, J, H2, rfl, I2, T, st2, f2, q⟩ := h2
  refine wpAny_newObj_type (newEnv_comp ?_) (by show 0 ≤ sizeLine; decide)
  -- the new list, at the next free place
  generalize eD : s2.heap.objs.size = D
  obtain ⟨W, ⟨m0, w0⟩, turn⟩ := q D (I2.hok.fresh (Nat.le_of_eq eD))
  generalize e3 : ({ s2 with heap := s2.heap.push { cls := .type "list", data := .seq ([] : List Value).toArray } } : Shared) = s3
  have hh3 : s3.heap = s2.heap.push { cls := .type "list", data := .seq ([] : List Value).toArray } := by rw [← e3]
  have hz3 : s3.heap.objs.size = s2.heap.objs.size + 1 := by rw [hh3]; exact Heap.size_push ..
  have old3 : ∀ b o, s2.heap.get? b = some o → s3.heap.get? b = some o := fun b o e => by rw [hh3]; exact Heap.get?_push_of_some _ e
  have I3 : Inv X pins σ (upd H2 D (.lst [])) s3 := by
    have new : ObjOk X.prog X.w (upd H2 D (.lst [])) (s2.heap.push { cls := .type "list", data := .seq ([] : List Value).toArray }) D (.lst []) := ⟨Nat.zero_le _, [], 0, .nil, by rw [← eD]; exact Heap.get?_push_size _ rfl⟩
    rw [← e3]
    exact I2.laid (t' := s2.toks) (fun b o e => Heap.get?_push_of_some _ e) (Nat.le_of_eq eD) new
  have low : ∀ b ∈ fp, b < s2.heap.objs.size := fun b hb => by
    obtain ⟨o, e, _⟩ := T.obj _ _ st2 b hb
    exact Heap.lt_size e
  have f3 : ∀ b ∈ fp, FpOk X pins (upd H2 D (.lst [])) b ∧ b < s3.heap.objs.size := fun b hb => by
    have hb2 := low b hb
    have hbD : b ≠ D := by rw [← eD]; exact Nat.ne_of_lt hb2
    exact ⟨⟨by rw [upd_ne hbD]; exact (f2 b hb).1, (f2 b hb).2⟩, by rw [hz3]; exact Nat.lt_succ_of_lt hb2⟩
  have st3 : tn 0 s3.heap := T.keep _ _ _ st2 fun b _ o e => old3 b o e
  -- the exception, seen from within
  have seen : ∀ p ∈ X.pn, s3.heap.get? p.1 = some p.2 ∧ (upd H2 D (.lst [])) p.1 = none ∧ p.1 ∉ frs X.stack ∧ (∀ v, p.2.data ≠ .cell v) ∧ p.1 < s3.heap.objs.size := fun p hp => by
    obtain ⟨a1, a2, a3, a4, a5⟩ := I3.pin p (List.mem_append_left _ hp)
    exact ⟨a1, a2, fun z => (List.mem_cons.mp (I3.stkSub p.1 z)).elim a3 a4, a5, Heap.lt_size a1⟩
  have I4 := block_start I3 ok hN f3
  show codeAny _ _ (.compStart (.ListComp elt [⟨tg, iter, ifs, 0⟩] scope pos) 0 (.ref it) (.ref D) (compEnvC scope (cellsFrom (s3.heap.objs.size + 1) scope.names (cloFrom X.env.cells scope.names [])) s3.heap.objs.size X.env)) (compPost (model X.prog X.w) X.A X.xe none (EP X pins σ Q) (.ref D) s3.heap.objs.size) _
  have I4 := Inv.sight I4 fun p hp => by
    obtain ⟨a1, a2, a3, a4, a5⟩ := seen p hp
    exact ⟨pushCells_keeps _ _ _ _ (Heap.get?_push_of_some _ a1), a2, Nat.ne_of_lt a5, a3, a4⟩
  have pg := hg s3 (upd H2 D (.lst [])) s3.heap.objs.size (cellsFrom (s3.heap.objs.size + 1) scope.names (cloFrom X.env.cells scope.names [])) fp
  have pt := ht s3 (upd H2 D (.lst [])) s3.heap.objs.size (cellsFrom (s3.heap.objs.size + 1) scope.names (cloFrom X.env.cells scope.names [])) fp
  have pe := he s3 (upd H2 D (.lst [])) s3.heap.objs.size (cellsFrom (s3.heap.objs.size + 1) scope.names (cloFrom X.env.cells scope.names [])) fp
  have away : ∀ b ∈ fp, (upd H2 D (.lst [])) b = none := fun b hb => (f3 b hb).1.1
  have apart : ∀ b ∈ fp, ∀ p ∈ X.pn, p.1 ≠ b := fun b hb p hp => (f3 b hb).1.2.2.2.2.2 p (List.mem_append_left _ hp)
  generalize ece : compEnvC scope (cellsFrom (s3.heap.objs.size + 1) scope.names (cloFrom X.env.cells scope.names [])) s3.heap.objs.size X.env = ce at I4 pg pt pe ⊢
  have cL : ce.locals = s3.heap.objs.size := by rw [← ece]; rfl
  generalize eH3 : upd H2 D (.lst []) = H3 at I3 I4 pg pt pe w0 away f3
  generalize e4 : ({ s3 with heap := pushCells (s3.heap.push { cls := .type "dict", data := .dict #[] }) scope.names } : Shared) = s4 at I4 ⊢
  have st4 : tn 0 s4.heap := T.keep _ _ _ st3 fun b _ o e => by rw [← e4]; exact pushCells_keeps _ _ _ _ (Heap.get?_push_of_some _ e)
  have hotB : HotC (blkP X s3 H3 scope ce fp) := by
    obtain ⟨p, h1, hp⟩ := hot
    exact ⟨p, h1, hp⟩
  have stat : ∀ {σ' : L2.St} {H' : Hp} {s' : Shared}, Inv (blkP X s3 H3 scope ce fp) [] σ' H' s' → (∀ b ∈ fp, H' b = none) → ∀ b ∈ fp, FpOk (blkP X s3 H3 scope ce fp) [] H' b := fun I' hn b hb =>
    ⟨hn b hb, (I'.ok.exf b hb).1, I'.ok.exfs b hb, .inl hb, fun y c e => (I'.ok.exf b hb).2 y c e, fun p hp => apart b hb p (by simpa using hp)⟩
  have loop : codeAny (model X.prog X.w) X.A (.compLoop (.ListComp elt [⟨tg, iter, ifs, 0⟩] scope pos) 0 (.ref it) (.ref D) ce) (compPost (model X.prog X.w) X.A X.xe none (EP X pins σ Q) (.ref D) s3.heap.objs.size) s4 := by
    refine compLoop_any (fun n s' => ∃ i H', Inv (blkP X s3 H3 scope ce fp) [] (wipe σ (own.map (·.2))) H' s' ∧ tn i s'.heap ∧ (∀ b ∈ fp, H' b = none) ∧ W i n H') ?_ m0 ⟨0, H3, I4, st4, away, w0⟩
    rintro n s5 ⟨i, H5, I5, st5, n5, w5⟩
    rcases turn i n H5 w5 with ⟨stop, qq⟩ | ⟨go, Nx, hNx, step⟩
    · refine thnF (T.done (blkP X s3 H3 scope ce fp) rfl rfl rfl hotB i [] s5 _ H5 (fun _ _ => False) I5 (stat I5 n5) st5 stop) fun r s6 hd => ?_
      obtain ⟨rfl, I6⟩ := hd
      have back : Inv X pins σ H5 s6 := I3.call' (ch := fp) I6.os I6.base I6.hok I6.bare fun b hb => ⟨(f3 b hb).1.2.2.2.1, (f3 b hb).1.2.1, (f3 b hb).1.2.2.2.2.1, (f3 b hb).1.2.2.2.2.2⟩
      have nC : H5 s3.heap.objs.size = none := by
        have z : H5 ce.locals = none := I6.free
        rwa [cL] at z
      obtain ⟨m, hn, _⟩ := I6.loc
      have hn : s6.heap.Ns ce.locals m := hn
      rw [cL] at hn
      obtain ⟨f0, f1, _, f3', f4, f5⟩ := I3.fpOk (Nat.le_refl _) nC
      exact ⟨m, hn, fun h'' sb => ⟨.ref D, H5, back.turned (t' := s6.toks) (fun b o hb e => (sb.2 b hb).trans e) f0 f1 f3' f4 f5, rfl, qq⟩⟩
    · refine thnF (T.item (blkP X s3 H3 scope ce fp) rfl rfl rfl hotB i [] s5 _ H5 (fun _ _ => False) I5 (stat I5 n5) st5 go) fun r s6 hi6 => ?_
      obtain ⟨u, rfl, h6⟩ := hi6
      refine thnF h6 fun _ s7 ⟨x, H7, I7, r7, y7, st7, n7⟩ => ?_
      have I7' := I7.pinned (stat I7 n7) (T.obj _ _ st7)
      refine thnF (pg.run _ s7 _ H7 x u _ I7' r7 (step x H7 y7)) fun _ s8 ⟨σ8, H8, I8, hw8, q8⟩ => thnF (pt.run _ s8 σ8 H8 _ I8 q8) fun b s9 ⟨H9, I9, q9⟩ => ?_
      have fin : ∀ {s' : Shared} {H' : Hp}, Inv (blkP X s3 H3 scope ce fp) ([] ++ pinsAt fp s7.heap) σ8 H' s' → Nx H' →
          ∃ m, m < n ∧ ∃ i H', Inv (blkP X s3 H3 scope ce fp) [] (wipe σ (own.map (·.2))) H' s' ∧ tn i s'.heap ∧ (∀ b ∈ fp, H' b = none) ∧ W i m H' := fun {s' H'} I' nx => by
        obtain ⟨m', hm, w'⟩ := hNx H' nx
        have kept : ∀ b ∈ fp, ∀ o, s7.heap.get? b = some o → s'.heap.get? b = some o ∧ H' b = none := fun b hb o e => by
          have z := I'.pin (b, o) (List.mem_append_right _ (List.mem_append_right _ (mem_pinsAt hb e)))
          exact ⟨z.1, z.2.1⟩
        have hl : (wipe σ (own.map (·.2))).length = σ8.length := by rw [← hw8, wipe_length]
        refine ⟨m', hm, i + 1, H', (I'.unpinned (pins := [])).weak hl (fun j v e => ?_), T.keep _ _ _ st7 fun b hb o e => (kept b hb o e).1, fun b hb => ?_, w'⟩
        · rw [← hw8] at e
          exact (wipe_some e).1
        · obtain ⟨o, e, _⟩ := T.obj _ _ st7 b hb
          exact (kept b hb o e).2
      cases b with
      | false =>
        simp only [Bool.false_eq_true, if_false] at q9 ⊢
        exact fin I9 q9
      | true =>
        simp only [if_true] at q9 ⊢
        refine thnF (pe.run _ s9 σ8 H9 _ I9 q9) fun z s10 ⟨yv, H10, I10, r10, acc, hD10, hz10, nx⟩ => ?_
        exact app_ok (X := blkP X s3 H3 scope ce fp) I10 hD10 hz10 r10 fun s11 I11 => fin I11 nx
  exact codeAny_compStart_list loop (T.self X.A 0 _ _ _ st4 loop)
end
end DL
/-! defs that are handed the exception that is handled; isinstance of it -/
namespace DL
open PySem L2 PySem.Spec PyProof.Rows L2H
structure FnP (P : Program) (w : World) (K : PySem.W.Frag) (mg : Str → Option Value) (base : Heap) (k : Nat) (f : Addr) (fd : FuncData) (ps : List Str) (sp : Addr → Value → Sp) : Prop where
  len : ∀ a c vs H Q E, sp a c vs H Q E → vs.length = ps.length
  run : ∀ (A : Around) (outer : List Env) (s : Shared) (H : Hp) (args : Args) (us : List Value) (vs : List V) (Q : VK) (E : XK) (p : Addr × Obj) (c : Value), RoomH k A → Hot1 A p → Zc c none p.2 → PinOk outer H s p →
    Env0 P w K mg base A outer s H → BindsTo s fd args (ps.zip us) → Vals vs us → sp p.1 c vs H Q E → codeAny (model P w) A (.call (.ref f) args) (CR CX0 outer P w H s Q E) s
section
variable {P : Program} {w : World} {K : PySem.W.Frag} {mg : Str → Option Value} {base : Heap}
theorem fnP_of {x qual : Str} {st : Stmt} {f : Addr} {fd : FuncData} {N ps : List Str} {k : Nat} {sp : Addr → Value → Sp} (F : Fun K x qual st f fd) (S : FnScope N ps (defScope st)) (len : ∀ a c vs H Q E, sp a c vs H Q E → vs.length = ps.length)
    (hbody : ∀ (cdv : Value) (A : Around) (outer : List Env) (s : Shared) (H : Hp) (vs : List V) (Q : VK) (E : XK) (p : Addr × Obj) (c : Value), Hot1 A p → Zc c none p.2 → RoomH k (A.deeper (envOfC qual (defScope st) s.heap.objs.size f cdv)) → sp p.1 c vs H Q E →
      ∃ t, PSs (cxH CX0 P w K mg base N qual (defScope st) f cdv A outer s H E p).nox (defBody st) t ∧ t { nx := fun _ H' => Q .non H', rt := Q } (L2.start N vs) H) : FnP P w K mg base (k + 1) f fd ps sp := by
  obtain ⟨oc, od, kV, doc, pm, an, cdv, ct, osl, rfl, lk, hcd⟩ := F.ex
  refine ⟨len, fun A outer s H args us vs Q E p c hr hot hz hpin e0 hb r hsp => ?_⟩
  have here : ∀ b o, base.get? b = some o → s.heap.get? b = some o := fun b o e => (e0.bs b o e).1
  have KX : K.In s.heap := e0.mod.kin.keeps here
  have par : ∀ y ∈ ps.zip us, (defScope st).names.lookup y.1 = some .local ∨ ((defScope st).names.lookup y.1 = some .cell ∧ ((cellsFrom (s.heap.objs.size + 1) (defScope st).names []).lookup y.1).isSome = true) := fun y hy =>
    (S.par y.1 (List.of_mem_zip (a := y.1) (b := y.2) hy).1).imp id fun q => ⟨q, PySem.W.cellsFrom_some _ _ _ (.inl q)⟩
  refine codeAny_call_function hr.depth (KX _ _ lk) rfl S.co S.gen rfl (PySem.W.codeRec_of KX hcd) (hb _ _ _ _ (wpAny_newFunctionEnv_cells S.kind par fun env he s1 x => ?_))
  subst he
  obtain ⟨t, ht, hq⟩ := hbody cdv A outer s H vs Q E p c hot hz (hr.deeper _) hsp
  have I : Inv (cxH CX0 P w K mg base N qual (defScope st) f cdv A outer s H E p) [] (L2.start N vs) H s1 := inv_startH S hpin e0 (len _ _ _ _ _ _ hsp) r x
  refine ⟨(e0.mod.nolimit.keeps here).keeps x.toInCall.keep, codeAny_func (wpAny_mono (ht.nox.run [] s1 (L2.start N vs) H _ I hq) (fun fl s' hs => ?_) fun e s' hs => hs)⟩
  cases fl with
  | ret u =>
    obtain ⟨v, σ', H', J, rv, q⟩ := hs
    exact ⟨v, H', J.os, J.bare, J.base, J.hok, rv, q⟩
  | next =>
    obtain ⟨σ', H', J, q⟩ := hs
    exact ⟨.non, H', J.os, J.bare, J.base, J.hok, rfl, q⟩
  | brk =>
    obtain ⟨_, _, _, q⟩ := hs
    exact q.elim
  | cont =>
    obtain ⟨_, _, _, q⟩ := hs
    exact q.elim
end
/-- the exception that is handled, seen in a context: where it stands and its class -/
def Sees (X : Cx) (a : Addr) (c : Value) : Prop := ∃ oe : Obj, (a, oe) ∈ X.pn ∧ Hot1 X.A (a, oe) ∧ Zc c none oe
theorem Sees.hot {X : Cx} {a : Addr} {c : Value} (h : Sees X a c) : HotC X := by
  obtain ⟨oe, h1, h2, _⟩ := h
  exact ⟨(a, oe), h2, h1⟩
section
variable {X : Cx} {k : Nat} {f : Addr} {fd : FuncData} {ps : List Str} {sp : Addr → Value → Sp} {x : Str} {q pos : Pos} {e : Expr} {es : List Expr} {t : TA} {a : Addr} {c : Value}
theorem pe_callP (F : FnP X.prog X.w X.K X.mg X.base k f fd ps sp) (hr : RoomH k X.A) (hc : Sees X a c) (hg : Gl X x) (hm : X.mg x = some (.ref f)) (hk : PySem.W.keepIn X.K (.ref f) = true) (hb : Binds X.K fd ps [])
    (ha : PA X (e :: es) t) (hdb : (x == ("__debug__" : Str)) = false := by decide) (he : starEach (e :: es) X.env = (false, eval e X.env) :: starEach es X.env := by rfl) (hpl : (backTo pos (starEach es X.env)).any (·.1) = false := by rfl) :
    PE X (.Call (.Name x q) (e :: es) [] pos) (tCall (sp a c) [] E0 t) := by
  refine ⟨fun pins s σ H Q I h => ?_⟩
  refine wpAny_Call_Name_kw (ld_glob I hg hm ?_ hdb)
  refine PySem.W.callWith_K (h₀ := X.base) I.ok.mod.kin hk (thn (ha.run pos pins s σ H _ I h) fun us s1 hh => ?_) he hpl
  obtain ⟨vs, H1, I1, r, hsp⟩ := hh
  refine ⟨I1.kIn, ?_⟩
  rw [List.append_nil] at hsp
  obtain ⟨oe, hp, hot, hz⟩ := hc
  have hl : us.length = ps.length := by rw [← r.length]; exact F.len _ _ _ _ _ _ hsp
  have b := hb s1 us I1.kIn (by rw [List.append_nil]; exact hl)
  rw [List.append_nil] at b
  obtain ⟨p1, p2, p3, p4, p5⟩ := I1.pin (a, oe) (List.mem_append_left _ hp)
  have pin : PinOk X.stack H1 s1 (a, oe) := ⟨p1, p2, fun z => (List.mem_cons.mp (I1.stkSub a z)).elim p3 p4, p5⟩
  refine wpAny_call (codeAny_mono (F.run X.A X.stack s1 H1 ⟨us, []⟩ us vs Q E0 (a, oe) c hr hot hz pin I1.env0 b r hsp) fun r s' hq => ?_)
  cases r with
  | error e => exact (pass0 pins σ H1 s1 e s' I1 hq)
  | ok fl =>
    cases fl with
    | ret u => exact I1.after hq
    | next => exact hq.elim
    | brk => exact hq.elim
    | cont => exact hq.elim
/-- an object held as one of class D, without a dict, is an instance of D -/
theorem inst_plain {h : Heap} {c D : Addr} {oe : Obj} {vs : Array Value} (g : h.get? c = some oe) (z : Zc (.ref D) none oe) (f : oe.data = .fields vs) : PySem.W.InstAt h c oe D none :=
  ⟨g, z.1, by unfold PySem.W.notCls; rw [f] <;> rfl, by rw [z.2]; trivial⟩
theorem call_isP {D : Addr} (hc : Sees X a (.ref D)) (C : ExcC X.K D) : CallR X (.builtin "isinstance") (rIsE X.K D a) := by
  rintro pins s σ H xs us Q I r ⟨y, cv, b, rfl, val, one, q⟩
  obtain ⟨oe, mem, ⟨_, vs, flds, _⟩, z⟩ := hc
  obtain ⟨u, t, r1, r2, rfl⟩ : ∃ u t, RelV (.ref a) u ∧ RelV y t ∧ us = [u, t] := match us, r with
    | [u, t], .cons r1 (.cons r2 .nil) => ⟨u, t, r1, r2, rfl⟩
  obtain rfl : u = Value.ref a := r1
  obtain rfl : t = cv := val t r2
  have at1 := inst_plain (I.pin (a, oe) (List.mem_append_left _ mem)).1 z flds
  exact PySem.W.kia_one (PySem.W.handS_kitx_exc C.hg C.hk C.hs C.hd C.ha C.hn C.ht C.hm) I.kIn at1 one (fun w => nomatch w) fun tk => ⟨.bl b, H, I.kept (t' := tk) fun _ _ w => w, rfl, q⟩
theorem kIsP (K : PySem.W.Frag) {D : Addr} (hc : Sees X a (.ref D)) (C : ExcC K D) (h : X.K = K := by rfl) : CallR X (.builtin "isinstance") (rIsE K D a) := by
  subst h; exact call_isP hc C
end
/-! at the level of data -/
def spP (K : PySem.W.Frag) (ok : Addr → Prop) (f : Addr → Addr → FSp) : Addr → Value → Sp := fun a c vs H Q E => ∃ D, c = .ref D ∧ ok D ∧ spD K (f a D) vs H Q E
section
variable {K : PySem.W.Frag} {m : Mm} {r : List Val} {Q : Val → Mm → Prop}
theorem on_isE {D a : Addr} {c : V} {cv : Value} {b : Bool} (hc : ∀ u, RelV c u → u = cv) (hk : PySem.W.kitOne K (.ref D) cv = some b) (q : Q (.d (.bool b)) m) : OpN K (rIsE K D a) [.v (.ref a), .v c] m Q := fun H G vs S x R k => by
  obtain ⟨v, w, rfl, h1, h2⟩ := vrs2 x
  obtain rfl := h1.eq
  obtain rfl := h2.eq
  exact ⟨_, cv, b, rfl, hc, hk, k _ H G _ m q S (Le.refl G) vr_bool⟩
theorem relV_ref {C : Addr} : ∀ u, RelV (.ref C) u → u = .ref C := fun u h => h
theorem relV_ty {T : String} : ∀ u, RelV (.ty T) u → u = .type T := fun u h => h
theorem ev_callP {ok : Addr → Prop} {f : Addr → Addr → FSp} {a D : Addr} {t : TA} {E : XK} (hD : ok D) (h : EvA K t r m fun xs m1 => f a D xs m1 Q) : Ev K (tCall (spP K ok f a (.ref D)) [] E t) r m Q := fun σ H G S L R k =>
  h σ H G S L _ fun vs H1 G1 xs m1 h1 S1 e1 r1 => by
    rw [List.append_nil]
    exact ⟨D, rfl, hD, m1, G1, xs, Q, S1, r1, h1, fun v' H3 G3 z m3 h3 S3 e3 r3 => k v' H3 G3 z m3 h3 S3 (e1.trans e3) r3⟩
end
section
variable {P : Program} {w : World} {K : PySem.W.Frag} {mg : Str → Option Value} {base : Heap}
structure ClP (P : Program) (w : World) (K : PySem.W.Frag) (mg : Str → Option Value) (base : Heap) (k : Nat) (x : Str) (ok : Addr → Prop) (sp : Addr → Addr → FSp) : Prop where
  ex : ∃ f fd ps, FnP P w K mg base k f fd ps (spP K ok sp) ∧ mg x = some (.ref f) ∧ PySem.W.keepIn K (.ref f) = true ∧ Binds K fd ps []
theorem pe_clP {X : Cx} {k j : Nat} {x : Str} {ok : Addr → Prop} {sp : Addr → Addr → FSp} {e : Expr} {es : List Expr} {t : TA} {p pos : Pos} {a : Addr} {c : Value} (cl : ClP P w K mg base k x ok sp) (hr : RoomH j X.A) (hk : k ≤ j) (hc : Sees X a c) (hg : Gl X x) (ha : PA X (e :: es) t)
    (hP : X.prog = P := by rfl) (hw : X.w = w := by rfl) (hK : X.K = K := by rfl) (hmg : X.mg = mg := by rfl) (hbs : X.base = base := by rfl) (hdb : (x == ("__debug__" : Str)) = false := by decide)
    (he : starEach (e :: es) X.env = (false, eval e X.env) :: starEach es X.env := by rfl) (hpl : (backTo pos (starEach es X.env)).any (·.1) = false := by rfl) :
    PE X (.Call (.Name x p) (e :: es) [] pos) (tCall (spP K ok sp a c) [] E0 t) := by
  subst hP hw hK hmg hbs
  obtain ⟨f, fd, ps, F, hm, hkp, hb⟩ := cl.ex
  exact pe_callP F (hr.mono hk) hc hg hm hkp hb ha hdb he hpl
theorem fnP_ok {x qual : Str} {st : Stmt} {f : Addr} {fd : FuncData} {N ps : List Str} {k : Nat} {ok : Addr → Prop} {sp : Addr → Addr → FSp} (F : Fun K x qual st f fd) (S : FnScope N ps (defScope st)) (hl : ∀ a D args m R, sp a D args m R → args.length = ps.length)
    (hb : ∀ (cdv : Value) (A : Around) (outer : List Env) (s : Shared) (H : Hp) (E : XK) (p : Addr × Obj) (D : Addr), ok D → Sees (cxH CX0 P w K mg base N qual (defScope st) f cdv A outer s H E p).nox p.1 (.ref D) → RoomH k (A.deeper (envOfC qual (defScope st) s.heap.objs.size f cdv)) →
      ∃ t, PSs (cxH CX0 P w K mg base N qual (defScope st) f cdv A outer s H E p).nox (defBody st) t ∧
        ∀ args m R, sp p.1 D args m R → Wp K t (args ++ List.replicate (N.length - args.length) .any) m (fun _ m' => R (.d .none) m') R) : FnP P w K mg base (k + 1) f fd ps (spP K ok sp) := by
  refine fnP_of F S (fun a c vs H Q E h => ?_) (fun cdv A outer s H vs Q E p c hot hz hr h => ?_)
  · obtain ⟨D, _, _, m, G, args, R, _, r1, h1, _⟩ := h
    rw [r1.length]; exact hl a D args m R h1
  · obtain ⟨D, rfl, hD, m, G, args, R, S1, r1, h1, k1⟩ := h
    have hs : Sees (cxH CX0 P w K mg base N qual (defScope st) f cdv A outer s H E p).nox p.1 (.ref D) := ⟨p.2, List.mem_singleton.mpr rfl, hot, hz⟩
    obtain ⟨t, ht, hw⟩ := hb cdv A outer s H E p D hD hs hr
    refine ⟨t, ht, hw args m R h1 _ H G _ S1 ?_ (fun σ' H' G' r' m' hn S' e' L' => k1 .non H' G' (.d .none) m' hn S' e' (.d (rp_none.mpr rfl))) (fun v H' G' x m' hn S' e' L' => k1 v H' G' x m' hn S' e' L')⟩
    unfold L2.start
    rw [r1.length]
    exact Sl.start _ r1
/-- hot forms of a few rules -/
theorem kEqH {X : Cx} {j : Nat} (K : PySem.W.Frag) (hr : RoomH j X.A) (h : X.K = K := by rfl) : OpR X (compareOp .Eq) (rEqA K) := by
  subst h
  exact op_eq.or (op_eqD (by have := hr.un; omega))
end
end DL
/-! try .. except C as n, n a name that a comprehension of the suite reads (a cell); all that is raised is of C -/
namespace DL
open PySem L2 PySem.Spec PyProof.Rows L2H
section
variable {X : Cx} {pins : List (Addr × Obj)} {σ : L2.St} {H : Hp} {s : Shared}
/-- a name's cell is emptied -/
theorem Inv.emptied {i : Nat} {n : Str} {c : Addr} {h' : Heap} (I : Inv X pins σ H s) (hN : X.N.Nodup) (hi : X.N[i]? = some n) (hk : X.env.kindOf n = some .cell) (hfn : X.fn n = true) (hc : X.env.cells.lookup n = some c) (he : h'.IsCell c none) (sb : Heap.SameBut c s.heap h') :
    Inv X pins (σ.set i none) H { s with heap := h' } := by
  obtain ⟨m, hn, hl⟩ := id I.loc
  have low : ∀ b o, X.s_0.heap.get? b = some o → b ≠ c := fun b o e => Nat.ne_of_lt (Nat.lt_of_lt_of_le (Heap.lt_size e) (I.ok.cab n c hfn hc))
  have hHc : H c = none := I.freeC n c hc
  refine ⟨I.ok, I.os, I.bare, ⟨fun b o e k hb hx => (sb.2 b (low b o e)).trans (I.base.keep b o e k hb hx), fun b o e k hb hx => ?_, I.base.free, fun b o e hx => ?_, I.base.tups, I.base.frzs, I.base.tbls⟩,
    ⟨m, hn.sameBut sb (Ne.symm (I.cne n c hc)), fun j y v e1 e2 e3 => ?_⟩, fun y d e => ?_, I.free, I.freeC, fun p hp => ?_, fun b ob e => ?_, by rw [List.length_set]; exact I.len⟩
  · obtain ⟨sl, e1⟩ := I.base.slot b o e k hb hx
    exact ⟨sl, (sb.2 b (low b o e)).trans e1⟩
  · obtain ⟨o', e1⟩ := I.base.there b o e hx
    exact ⟨o', (sb.2 b (low b o e)).trans e1⟩
  · have hj : j ≠ i := fun z => by
      subst z
      rw [List.getElem?_set] at e2
      split at e2
      · split at e2 <;> cases e2
      · rename_i q; exact q rfl
    rw [List.getElem?_set_ne (Ne.symm hj)] at e2
    obtain ⟨u, ru, look⟩ := hl j y v e1 e2 e3
    refine ⟨u, ru, ?_⟩
    rcases look with ⟨k, e⟩ | ⟨k, d, e, z⟩
    · exact .inl ⟨k, e⟩
    · refine .inr ⟨k, d, e, z.sameBut sb fun q => hj ?_⟩
      have : y = n := I.ok.inj y n c (q ▸ e) hc
      exact nodup_ix hN e1 (this ▸ hi)
  · by_cases q : d = c
    · exact ⟨none, q ▸ he⟩
    · obtain ⟨w, z⟩ := I.cell y d e
      exact ⟨w, z.sameBut sb q⟩
  · obtain ⟨e, k, ne, nf, nc⟩ := I.pin p hp
    obtain ⟨w, o, ho, hd⟩ := I.cell n c hc
    have : p.1 ≠ c := fun q => by
      rw [q, ho] at e
      injection e with e
      exact nc w (e ▸ hd)
    exact ⟨(sb.2 p.1 this).trans e, k, ne, nf, nc⟩
  · refine (I.hok b ob e).stay (fun d w hd q => (sb.2 d ?_).trans q) (fun _ q => q) fun _ _ q => q
    rintro rfl
    rcases hd with rfl | hd
    · rw [hHc] at e; cases e
    · rw [hHc] at hd; cases hd
theorem gone_cell {M : Model} {A : Around} {E : Value → Shared → Prop} {i : Nat} {n : Str} {pos : Pos} {Q : Unit → Shared → Prop} (I : Inv X pins σ H s) (hN : X.N.Nodup) (hi : X.N[i]? = some n) (hk : X.env.kindOf n = some .cell) (hfn : X.fn n = true)
    (h : ∀ s', Inv X pins (σ.set i none) H s' → Q () s') : wpAny M A (do bindName X.env n .none; unbindBehindTheSuite X.env n pos) Q E s := by
  refine wpAny_bind (wpAny_bindName (store_ok (v := .non) I hN hi (.inr hk) rfl (fun s1 I1 => ?_) (.inl hfn)))
  obtain ⟨m, _, hl⟩ := id I1.loc
  have hlt : i < σ.length := by rw [I.len]; exact (List.getElem?_eq_some_iff.mp hi).1
  obtain ⟨u, _, look⟩ := hl i n .non hi (by rw [List.getElem?_set_self hlt]) (.inr (.inl hk))
  obtain ⟨c, hc, z⟩ : ∃ c, X.env.cells.lookup n = some c ∧ s1.heap.IsCell c (some u) := by
    rcases look with ⟨k, _⟩ | ⟨_, c, e, z⟩
    · rw [hk] at k; cases k
    · exact ⟨c, e, z⟩
  unfold unbindBehindTheSuite
  refine wpAny_onRaise ?_
  unfold unbindName
  refine wpAny_bind (wpAny_point (wpAny_bind ?_))
  unfold deleteName
  simp only [hk]
  refine wpAny_bind (wpAny_cellOf hc (wpAny_bind (wpAny_cellGet z ?_)))
  simp only [Option.isSome_some, if_true]
  refine wpAny_cellSet z fun h' hc' sb => wpAny_point ?_
  have J := Inv.emptied I1 hN hi hk hfn hc hc' sb
  rw [List.set_set] at J
  exact h _ J
end
/-- what a try wishes of what its body raises: it is of the class c, and the suite does with it at a (in slot i) what is wanted -/
def wC (K : PySem.W.Frag) (c : Value) (i : Nat) (ts : Addr → Value → Option Addr → TS) (D : Ends) : L2.WX := fun cls d σ H => PySem.W.exmOne K cls c = some true ∧
  ∀ a, H a = none → ts a cls d ⟨fun σ' H' => D.nx (σ'.set i none) H', D.rt, fun σ' H' => D.bk (σ'.set i none) H', fun σ' H' => D.ct (σ'.set i none) H'⟩ (σ.set i (some (.ref a))) H
def tTryC (K : PySem.W.Frag) (c : Value) (i : Nat) (ts : Addr → Value → Option Addr → TS) (tb : L2.WX → TS) : TS := fun D σ H => tb (wC K c i ts D) D σ H
theorem ps_tryC0 {X : Cx} {x n : Str} {c : Value} {i : Nat} {body suite : List Stmt} {b₀ : Stmt} {np pos pos' : Pos} {tb : L2.WX → TS} {ts : Addr → Value → Option Addr → TS} (hs : X.stack = X.env :: X.outer) (hf : X.env.frame = some X.env.locals) (hN : X.N.Nodup) (hi : X.N[i]? = some n)
    (hk : X.env.kindOf n = some .cell) (hfn : X.fn n = true) (hc : Names X x c)
    (hb : ∀ (W : L2.WX) (pn : List (Addr × Obj)) (xe : Value → Shared → Prop), L2N.Takes (X.tr pn xe) W → PassesOwn (model X.prog X.w) X.A X.env xe → PSs (X.tr pn xe) body (tb W))
    (hsu : ∀ (a : Addr) (oe : Obj) (cls : Value) (d : Option Addr) (pn : List (Addr × Obj)), L2N.Zn cls d oe → (∃ vs, oe.data = .fields vs) → PSs (X.suite a ((a, oe) :: pn)) (b₀ :: suite) (ts a cls d)) :
    PS X (.Try body [.ExceptHandler (some (.Name x np)) (some n) (b₀ :: suite) pos'] [] [] pos) (fun D σ H => tb (wC X.K c i ts D) D σ H) := by
  refine ⟨fun pins s σ H D I h => ?_⟩
  have frs2 : X.A.frames = some (X.env :: X.outer) := by rw [I.ok.frames, hs]
  -- the body runs with this wish
  let xe' : Value → Shared → Prop := fun e s₁ => wpAny (model X.prog X.w) X.A (noteFrame e X.env) (fun _ s₂ => wpAny (model X.prog X.w) X.A (setFlight e none) (fun _ s₃ =>
    wpAny (model X.prog X.w) X.A (handleBy e X.env [.ExceptHandler (some (.Name x np)) (some n) (b₀ :: suite) pos']) (SP X pins D) X.xe s₃) X.xe s₂) X.xe s₁
  have caught : L2N.Takes (X.tr (X.pn ++ pins) xe') (wC X.K c i ts D) := fun u s' got => by
    obtain ⟨a, B, sI, pins', σ', H', cls, d, rfl, J', nb, up, sky, na, os, ag, isC, run⟩ := got
    have J : Inv X pins σ' H' sI := J'.ofTry I.ok
    have sky2 : Sky B (X.env :: X.outer) a (L2N.Zn cls d) X.env.locals s'.heap := by rw [← hs]; exact sky
    show wpAny (model X.prog X.w) X.A (noteFrame (.ref a) X.env) _ _ _
    refine L2N.Sky.land L2N.Zn.steady frs2 hf sky2 fun h3 fl3 up3 => ?_
    have J3 : Inv X pins σ' H' { s' with heap := h3 } := J.landed nb fl3.1 (up.trans up3) os ag
    obtain ⟨o3, v3, get3, z3, d3⟩ := fl3.there
    have off : a ∉ frs (X.env :: X.outer) := fun hm => by
      obtain ⟨_, o', e', hnf⟩ := fl3.2.2.1.mem hm
      rw [get3] at e'; cases e'
      exact hnf _ d3
    have nL : a ≠ X.env.locals := fun z => off (List.mem_filterMap.mpr ⟨X.env, List.mem_cons_self, by rw [hf, z]⟩)
    have nF : a ∉ X.fs := fun hm => by
      obtain ⟨e, he, q⟩ := List.mem_filterMap.mp hm
      exact off (List.mem_filterMap.mpr ⟨e, List.mem_cons_of_mem _ he, q⟩)
    have S3 := J3.suite get3 d3 na nL nF
    have LT : PySem.W.Looks (model X.prog X.w) h3 (typeOf (.ref a)) cls := fun A Q E s k q => wpAny_typeOf_ref (k _ _ get3) (by rw [z3.1]; exact q)
    refine wpAny_handleBy_cons (codeAny_handlers_test ?_) (by intro q; cases q)
    have named : ∀ {Q : Value → Shared → Prop} {E : Value → Shared → Prop}, Q c { s' with heap := h3 } → wpAny (model X.prog X.w) (X.A.mark (some (.ref a))) (eval (.Name x np) X.env) Q E { s' with heap := h3 } := fun {Q E} q => by
      obtain ⟨g1, g2, hm | ⟨hm, hv, hnn⟩⟩ := hc
      · exact ld_glob (X := X.suite a ((a, o3) :: (X.pn ++ pins))) S3 g1 hm q g2
      · exact ld_blt (X := X.suite a ((a, o3) :: (X.pn ++ pins))) S3 g1 hm hv q hnn g2
    refine named ((PySem.W.exm_one (M := model X.prog X.w) J3.kIn LT isC).here (codeAny_handlers_suite_as ?_))
    refine HandSPX.lands_againZ fl3 fun h4 fl4 up4 => ?_
    have J4 : Inv X pins σ' H' { s' with heap := h4 } := J.landed nb fl4.1 ((up.trans up3).trans up4) os ag
    obtain ⟨o4, v4, get4, z4, d4⟩ := fl4.there
    refine store_ok (X := X.suite a ((a, o4) :: (X.pn ++ pins))) (v := .ref a) (J4.suite get4 d4 na nL nF) hN hi (.inr hk) rfl (fun s5 S5 => ?_) (.inl hfn)
    refine wpAny_mono ((hsu a o4 cls d (X.pn ++ pins) z4 ⟨_, d4⟩).run [] s5 _ H' _ S5 (run a na)) (fun f s6 hsp => ?_) (fun _ _ z => z.elim)
    have over : ∀ {σ6 : L2.St} {H6 : Hp} {Q : Shared → Prop}, Inv (X.suite a ((a, o4) :: (X.pn ++ pins))) [] σ6 H6 s6 → (∀ s7, Inv X pins (σ6.set i none) H6 s7 → Q s7) →
        wpAny (model X.prog X.w) X.A (do bindName X.env n .none; unbindBehindTheSuite X.env n pos') (fun _ s7 => Q s7) X.xe s6 := fun S6 hq => gone_cell (S6.unsuite I.ok) hN hi hk hfn hq
    cases f with
    | ret u =>
      obtain ⟨v6, σ6, H6, S6, r6, q6⟩ := hsp
      exact over S6 fun s7 J7 => ⟨_, _, _, J7, r6, q6⟩
    | next =>
      obtain ⟨σ6, H6, S6, q6⟩ := hsp
      exact over S6 fun s7 J7 => ⟨_, _, J7, q6⟩
    | brk =>
      obtain ⟨σ6, H6, S6, q6⟩ := hsp
      exact over S6 fun s7 J7 => ⟨_, _, J7, q6⟩
    | cont =>
      obtain ⟨σ6, H6, S6, q6⟩ := hsp
      exact over S6 fun s7 J7 => ⟨_, _, J7, q6⟩
  refine wpAny_Try_except (wpAny_mono ((hb (wC X.K c i ts D) (X.pn ++ pins) xe' caught PassesOwn.looking).run [] s σ H D (I.toTry _) h) (fun f s1 hsp => ?_) (fun e s1 he => he))
  cases f with
  | next =>
    obtain ⟨σ', H', J', q⟩ := hsp
    exact wpAny_execs_nil ⟨σ', H', J'.ofTry I.ok, q⟩
  | ret u =>
    obtain ⟨v, σ', H', J', r, q⟩ := hsp
    exact ⟨v, σ', H', J'.ofTry I.ok, r, q⟩
  | brk =>
    obtain ⟨σ', H', J', q⟩ := hsp
    exact ⟨σ', H', J'.ofTry I.ok, q⟩
  | cont =>
    obtain ⟨σ', H', J', q⟩ := hsp
    exact ⟨σ', H', J'.ofTry I.ok, q⟩
theorem ps_tryC {X : Cx} {K : PySem.W.Frag} {x n : Str} {c : Value} {i : Nat} {body suite : List Stmt} {b₀ : Stmt} {np pos pos' : Pos} {tb : L2.WX → TS} {ts : Addr → Value → Option Addr → TS} (hs : X.stack = X.env :: X.outer) (hf : X.env.frame = some X.env.locals) (hN : X.N.Nodup) (hi : X.N[i]? = some n)
    (hk : X.env.kindOf n = some .cell) (hfn : X.fn n = true) (hc : Names X x c)
    (hb : ∀ (W : L2.WX) (pn : List (Addr × Obj)) (xe : Value → Shared → Prop), L2N.Takes (X.tr pn xe) W → PassesOwn (model X.prog X.w) X.A X.env xe → PSs (X.tr pn xe) body (tb W))
    (hsu : ∀ (a : Addr) (oe : Obj) (cls : Value) (d : Option Addr) (pn : List (Addr × Obj)), L2N.Zn cls d oe → (∃ vs, oe.data = .fields vs) → PSs (X.suite a ((a, oe) :: pn)) (b₀ :: suite) (ts a cls d)) (hK : X.K = K := by rfl) :
    PS X (.Try body [.ExceptHandler (some (.Name x np)) (some n) (b₀ :: suite) pos'] [] [] pos) (tTryC K c i ts tb) := by
  subst hK
  exact ps_tryC0 hs hf hN hi hk hfn hc hb hsu
end DL
/-! defs that may refuse, and the try that catches, at the level of data -/
namespace DL
open PySem L2 PySem.Spec PyProof.Rows L2H
abbrev FSpX := List Val → Mm → (Val → Mm → Prop) → (Addr → Mm → Prop) → Prop
def spX (K : PySem.W.Frag) (f : FSpX) : Sp := fun vs H Q E => ∃ m G args R X, Sta K m H G ∧ VRs K G args vs ∧ f args m R X ∧ (∀ v H' G' x m', R x m' → Sta K m' H' G' → Le G G' → VR K G' x v → Q v H') ∧
  (∀ C m' H' G', X C m' → Sta K m' H' G' → Le G G' → E (.ref C) none H')
def EvX (K : PySem.W.Frag) (G0 : Hp) (t : TE) (r : List Val) (m : Mm) (Q : Val → Mm → Prop) : Prop :=
  ∀ σ H G, Le G0 G → Sta K m H G → Sl K G r σ → ∀ R : VK, (∀ v H' G' x m', Q x m' → Sta K m' H' G' → Le G G' → VR K G' x v → R v H') → t σ H R
def Wx (K : PySem.W.Frag) (G0 : Hp) (t : TS) (r : List Val) (m : Mm) (N : List Val → Mm → Prop) (E : Val → Mm → Prop) : Prop :=
  ∀ σ H G (D : Ends), Le G0 G → Sta K m H G → Sl K G r σ → (∀ σ' H' G' r' m', N r' m' → Sta K m' H' G' → Le G G' → Sl K G' r' σ' → D.nx σ' H') →
    (∀ v H' G' x m', E x m' → Sta K m' H' G' → Le G G' → VR K G' x v → D.rt v H') → t D σ H
/-- what is refused here is taken -/
def TkX (K : PySem.W.Frag) (G0 : Hp) (r : List Val) (W : L2.WX) (X : Addr → Mm → Prop) : Prop := ∀ C m' H' G' σ, X C m' → Sta K m' H' G' → Le G0 G' → Sl K G' r σ → W (.ref C) none σ H'
section
variable {K : PySem.W.Frag} {G0 : Hp} {r : List Val} {m : Mm} {Q : Val → Mm → Prop} {N : List Val → Mm → Prop} {E : Val → Mm → Prop} {t u : TS} {te ta tb : TE} {tt : TT} {W : L2.WX} {X : Addr → Mm → Prop}
theorem EvX.of (h : Ev K te r m Q) : EvX K G0 te r m Q := fun σ H G _ S L R k => h σ H G S L R k
theorem Wx.of (h : Wp K t r m N E) : Wx K G0 t r m N E := fun σ H G D _ S L a b => h σ H G D S L a b
theorem wx_seq (h : Wx K G0 t r m (fun r1 m1 => Wx K G0 u r1 m1 N E) E) : Wx K G0 (tSeq t u) r m N E := fun σ H G D g0 S L a b =>
  h σ H G { D with nx := u D } g0 S L (fun σ1 H1 G1 r1 m1 h1 S1 e1 L1 => h1 σ1 H1 G1 D (g0.trans e1) S1 L1 (fun σ2 H2 G2 r2 m2 n2 S2 e2 L2 => a σ2 H2 G2 r2 m2 n2 S2 (e1.trans e2) L2)
    (fun v H2 G2 x m2 n2 S2 e2 L2 => b v H2 G2 x m2 n2 S2 (e1.trans e2) L2)) b
theorem wx_if (h : EvT K tt r m fun c m1 => (c = true → Wx K G0 t r m1 N E) ∧ (c = false → Wx K G0 u r m1 N E)) : Wx K G0 (tIfS tt t u) r m N E := fun σ H G D g0 S L a b =>
  h σ H G S L _ fun H1 G1 c m1 h1 S1 e1 => by
    cases c with
    | true =>
      show t D σ H1
      exact h1.1 rfl σ H1 G1 D (g0.trans e1) S1 (L.mono e1) (fun σ2 H2 G2 r2 m2 n2 S2 e2 L2 => a σ2 H2 G2 r2 m2 n2 S2 (e1.trans e2) L2) (fun v H2 G2 x m2 n2 S2 e2 L2 => b v H2 G2 x m2 n2 S2 (e1.trans e2) L2)
    | false =>
      show u D σ H1
      exact h1.2 rfl σ H1 G1 D (g0.trans e1) S1 (L.mono e1) (fun σ2 H2 G2 r2 m2 n2 S2 e2 L2 => a σ2 H2 G2 r2 m2 n2 S2 (e1.trans e2) L2) (fun v H2 G2 x m2 n2 S2 e2 L2 => b v H2 G2 x m2 n2 S2 (e1.trans e2) L2)
theorem wx_ret (h : EvX K G0 te r m E) : Wx K G0 (tRet te) r m N E := fun σ H G D g0 S L a b => h σ H G g0 S L _ b
/-- raise C(..) -/
def tRaise (C : Addr) (W : L2.WX) : TS := fun _ σ H => W (.ref C) none σ H
theorem wx_raise {C : Addr} (hW : TkX K G0 r W X) (q : X C m) : Wx K G0 (tRaise C W) r m N E := fun σ H G D g0 S L a b => hW C m H G σ q S g0 L
theorem evx_call {f : FSpX} {t : TA} (hW : TkX K G0 r W X) (h : EvA K t r m fun xs m1 => f xs m1 Q X) : EvX K G0 (tCallS (spX K f) (WE W) t) r m Q := fun σ H G g0 S L R k =>
  h σ H G S L _ fun vs H1 G1 xs m1 h1 S1 e1 r1 =>
    ⟨m1, G1, xs, Q, X, S1, r1, h1, fun v' H3 G3 z m3 h3 S3 e3 r3 => k v' H3 G3 z m3 h3 S3 (e1.trans e3) r3, fun C m' H' G' hx S' e' => hW C m' H' G' σ hx S' (g0.trans (e1.trans e')) (L.mono (e1.trans e'))⟩
/-- a suite that is told only of exceptions without fields of their own -/
def tNoD (d : Option Addr) (t : TS) : TS := fun D σ H => d = none ∧ t D σ H
theorem w_noD (h : Wp K t r m N E) : Wp K (tNoD none t) r m N E := fun σ H G D S L a b => ⟨rfl, h σ H G D S L a b⟩
theorem w_tryC {tb : L2.WX → TS} {c : Value} {i : Nat} {ts : Addr → Value → Option Addr → TS} (X : Addr → Mm → Prop) (hb : ∀ (W : L2.WX) (G0 : Hp), TkX K G0 r W X → Wx K G0 (tb W) r m N E)
    (hx : ∀ C m', X C m' → PySem.W.exmOne K (.ref C) c = some true ∧ ∀ a, Wp K (ts a (.ref C) none) (r.set i (.v (.ref a))) m' (fun r' m'' => N (r'.set i .any) m'') E) :
    Wp K (tTryC K c i ts tb) r m N E := fun σ H G D S L a b => by
  refine hb (wC K c i ts D) G (fun C m' H' G' σ' hC S' e' L' => ?_) σ H G D (Le.refl G) S L a b
  obtain ⟨h1, h2⟩ := hx C m' hC
  refine ⟨h1, fun x _ => ?_⟩
  exact h2 x (σ'.set i (some (.ref x))) H' G' _ S' (L'.set (r := .v (.ref x)) .v i) (fun σ2 H2 G2 r2 m2 hn S2 e2 L2 => a (σ2.set i none) H2 G2 (r2.set i .any) m2 hn S2 (e'.trans e2) (L2.forget i)) fun v H2 G2 y m2 hn S2 e2 L2 => b v H2 G2 y m2 hn S2 (e'.trans e2) L2
end
theorem pss_noD {X : Cx} {st : List Stmt} {t : TS} {d : Option Addr} (h : d = none → PSs X st t) : PSs X st (tNoD d t) := ⟨fun pins s σ H D I hw => (h hw.1).run pins s σ H D I hw.2⟩
theorem ps_raiseN {X : Cx} {W : L2.WX} {C : Addr} {x m : Str} {j : Nat} {p p2 pos pos' : Pos} {bmB : List Value} {B newId initId : String} (hc : X.calm = true) (tk : L2N.Takes X W) (F : ExcBaseFacts B newId initId bmB) (q : PySem.W.excIn X.K C bmB newId = true) (gC : X.mg x = some (.ref C))
    (kC : PySem.W.keepIn X.K (.ref C) = true) (r : Raises X (.ref C)) (hg : Gl X x) (hdb : (x == ("__debug__" : Str)) = false := by decide) :
    PS X (.Raise (some (.Call (.Name x p) [.Constant (.str m) j p2] [] pos)) none pos') (tRaise C W) := L2N.ps_raise hc tk (L2N.pmk_own F q gC kC r hg hdb)
/-- what the written part says of a class of refusals -/
structure RfT (K : PySem.W.Frag) (mg : Str → Option Value) (x : Str) (C : Addr) : Prop where
  g : mg x = some (.ref C)
  q : PySem.W.excIn K C [.type "ValueError", .type "Exception", .type "BaseException", .type "object"] "ValueError.__new__" = true
  kp : PySem.W.keepIn K (.ref C) = true
  bs : PySem.W.subIn K (.ref C) (.type "BaseException") = some true
  ty : PySem.W.typeIn K (.ref C) = some (.type "type")
theorem ps_rf {X : Cx} {K : PySem.W.Frag} {mg : Str → Option Value} {W : L2.WX} {C : Addr} {x m : Str} {j : Nat} {p p2 pos pos' : Pos} (T : RfT K mg x C) (tk : L2N.Takes X W) (hg : Gl X x) (hc : X.calm = true := by rfl) (hK : X.K = K := by rfl) (hmg : X.mg = mg := by rfl)
    (hdb : (x == ("__debug__" : Str)) = false := by decide) : PS X (.Raise (some (.Call (.Name x p) [.Constant (.str m) j p2] [] pos)) none pos') (tRaise C W) := by
  subst hK hmg
  exact ps_raiseN hc tk PySem.F.excBase_ValueError T.q T.g T.kp (raises_own T.bs T.ty) hg hdb
/-- the i-th of the classes cs, all of them under gat -/
structure XT (K : PySem.W.Frag) (cs : List Addr) (gat : Addr) (i : Nat) (C : Addr) : Prop where
  exc : ExcC K C
  one : ∀ j, j < 8 → PySem.W.kitOne K (.ref C) (.ref (cs.getD j 0)) = some (decide (j = i))
  gt : PySem.W.kitOne K (.ref C) (.ref gat) = some true
  val : PySem.W.kitOne K (.ref C) (.type "ValueError") = some true
  em : PySem.W.exmOne K (.ref C) (.ref gat) = some true
theorem xt_mk {K : PySem.W.Frag} {c0 c1 c2 c3 c4 c5 c6 c7 gat C : Addr} {i : Nat} (e : ExcC K C) (h0 : PySem.W.kitOne K (.ref C) (.ref c0) = some (decide (0 = i))) (h1 : PySem.W.kitOne K (.ref C) (.ref c1) = some (decide (1 = i))) (h2 : PySem.W.kitOne K (.ref C) (.ref c2) = some (decide (2 = i)))
    (h3 : PySem.W.kitOne K (.ref C) (.ref c3) = some (decide (3 = i))) (h4 : PySem.W.kitOne K (.ref C) (.ref c4) = some (decide (4 = i))) (h5 : PySem.W.kitOne K (.ref C) (.ref c5) = some (decide (5 = i))) (h6 : PySem.W.kitOne K (.ref C) (.ref c6) = some (decide (6 = i)))
    (h7 : PySem.W.kitOne K (.ref C) (.ref c7) = some (decide (7 = i))) (g : PySem.W.kitOne K (.ref C) (.ref gat) = some true) (v : PySem.W.kitOne K (.ref C) (.type "ValueError") = some true) (m : PySem.W.exmOne K (.ref C) (.ref gat) = some true) : XT K [c0, c1, c2, c3, c4, c5, c6, c7] gat i C where
  exc := e
  one := fun j hj => by
    match j, hj with
    | 0, _ => exact h0
    | 1, _ => exact h1
    | 2, _ => exact h2
    | 3, _ => exact h3
    | 4, _ => exact h4
    | 5, _ => exact h5
    | 6, _ => exact h6
    | 7, _ => exact h7
  gt := g
  val := v
  em := m
abbrev okE (K : PySem.W.Frag) (cs : List Addr) (gat : Addr) : Addr → Prop := fun D => ∃ i, XT K cs gat i D
def f_lawClasses (K : PySem.W.Frag) (cs : List Addr) (gat : Addr) : Addr → Addr → FSp := fun a D args m R => ∃ i, XT K cs gat i D ∧ args = [.v (.ref a)] ∧ R (.d (.list ((List.range 8).map fun j => .bool (decide (j = i))))) m
def f_lawOnly (K : PySem.W.Frag) (cs : List Addr) (gat : Addr) : Addr → Addr → FSp := fun a D args m R => ∃ (i n : Nat), XT K cs gat i D ∧ i < 8 ∧ n < 8 ∧ args = [.v (.ref a), .d (.int (n : Int))] ∧ R (.d (.bool (decide (n = i)))) m
theorem sees_suite {X : Cx} {a : Addr} {oe : Obj} {cls : Value} {d : Option Addr} {pn : List (Addr × Obj)} (hz : L2N.Zn cls d oe) (hf : ∃ vs, oe.data = .fields vs) (hd : d = none) : Sees (X.suite a ((a, oe) :: pn)) a cls := by
  obtain ⟨vs, hv⟩ := hf
  subst hd
  exact ⟨oe, List.mem_cons_self, ⟨rfl, vs, hv, hz.2.2 vs hv⟩, hz.1, hz.2.1⟩
section
variable {P : Program} {w : World} {K : PySem.W.Frag} {mg : Str → Option Value} {base : Heap}
structure ClX (P : Program) (w : World) (K : PySem.W.Frag) (mg : Str → Option Value) (base : Heap) (k : Nat) (x : Str) (sp : FSpX) : Prop where
  ex : ∃ f fd ps, FnOk P w K mg base (L2N.CX P w) k f fd ps (spX K sp) ∧ mg x = some (.ref f) ∧ PySem.W.keepIn K (.ref f) = true ∧ Binds K fd ps []
theorem pe_clX {X : Cx} {W : L2.WX} {k j : Nat} {x : Str} {sp : FSpX} {e : Expr} {es : List Expr} {t : TA} {p pos : Pos} (c : ClX P w K mg base k x sp) (hr : Room j X.A) (hk : k ≤ j) (hg : Gl X x) (tk : L2N.Takes X W) (ha : PA X (e :: es) t)
    (hP : X.prog = P := by rfl) (hw : X.w = w := by rfl) (hK : X.K = K := by rfl) (hmg : X.mg = mg := by rfl) (hbs : X.base = base := by rfl)
    (hdb : (x == ("__debug__" : Str)) = false := by decide)
    (he : starEach (e :: es) X.env = (false, eval e X.env) :: starEach es X.env := by rfl) (hpl : (backTo pos (starEach es X.env)).any (·.1) = false := by rfl) :
    PE X (.Call (.Name x p) (e :: es) [] pos) (tCallS (spX K sp) (WE W) t) := by
  subst hP hw hK hmg hbs
  obtain ⟨f, fd, ps, F, hm, hkp, hb⟩ := c.ex
  exact pe_callS F (hr.mono hk) hg hm hkp hb (fun σ => L2N.passAt tk σ) ha hdb he hpl
theorem fnX_ok {x qual : Str} {st : Stmt} {f : Addr} {fd : FuncData} {N ps : List Str} {k : Nat} {sp : FSpX} (F : Fun K x qual st f fd) (S : FnScope N ps (defScope st)) (hl : ∀ args m R X, sp args m R X → args.length = ps.length)
    (hb : ∀ (cdv : Value) (A : Around) (outer : List Env) (s : Shared) (H : Hp) (E : XK), Room k (A.deeper (envOfC qual (defScope st) s.heap.objs.size f cdv)) →
      ∃ t, PSs (cxOf (L2N.CX P w) P w K mg base N qual (defScope st) f cdv A outer s H E) (defBody st) t ∧
        ∀ args m R X, sp args m R X → ∀ G0, (∀ r, TkX K G0 r (fun cls d _ H => E cls d H) X) → Wx K G0 t (args ++ List.replicate (N.length - args.length) .any) m (fun _ m' => R (.d .none) m') R) :
    FnOk P w K mg base (L2N.CX P w) (k + 1) f fd ps (spX K sp) := by
  obtain ⟨oc, od, kV, doc, pm, an, cdv, ct, osl, rfl, lk, hcd⟩ := F.ex
  refine fn_of lk hcd S (fun vs H Q E h => ?_) fun A outer s H vs Q E hr h => ?_
  · obtain ⟨m, G, args, R, X, S1, r1, h1, _⟩ := h
    rw [r1.length]; exact hl args m R X h1
  · obtain ⟨m, G, args, R, X, S1, r1, h1, k1, k2⟩ := h
    obtain ⟨t, ht, hw⟩ := hb cdv A outer s H E hr
    refine ⟨t, ht, ?_⟩
    refine hw args m R X h1 G (fun r C m' H' G' σ hx S' e' _ => k2 C m' H' G' hx S' e') _ H G _ (Le.refl G) S1 ?_ (fun σ' H' G' r' m' hn S' e' L' => k1 .non H' G' (.d .none) m' hn S' e' (.d (rp_none.mpr rfl))) (fun v H' G' x m' hn S' e' L' => k1 v H' G' x m' hn S' e' L')
    unfold L2.start
    rw [r1.length]
    exact Sl.start _ r1
end
end DL
/-! what is refused: words -/
namespace DL
open PySem L2 PySem.Spec PyProof.Rows L2H
section
variable {K : PySem.W.Frag} {r : List Val} {m : Mm} {Q : Val → Mm → Prop}
/-- [place for place in range(8) if only(e, place)] -/
theorem ev_places {cs : List Addr} {gat a D : Addr} {i e j : Nat} (hX : XT K cs gat i D) (hi : i < 8) (he : r[e]? = some (.v (.ref a))) (hj : j < r.length) (hej : e ≠ j) (q : Q (.d (.list [.int (i : Int)])) m) :
    Ev K (tLc (iRng1 (tCons (tC (.int 8)) tNil)) (gName j) (tB (tCall (spP K (okE K cs gat) (f_lawOnly K cs gat) a (.ref D)) [] E0 (tCons (tVar e) (tCons (tVar j) tNil)))) (tVar j) [j]) r m Q := by
  refine ev_lcR1 (n := 8) (eva_cons (ev_cI (eva_nil ⟨rfl, rfl⟩))) (by decide) (fun n acc => acc = if i < n then [.int (i : Int)] else []) (by simp) (fun n m' acc hn hx hw => ?_) (fun acc hw => by rw [hw, if_pos hi]; exact q)
  refine evt_B (ev_callP ⟨i, hX⟩ (eva_cons (ev_var (x := .v (.ref a)) (by rw [List.getElem?_set_ne (Ne.symm hej)]; exact he) (fun z => nomatch z) (eva_cons (ev_var (x := .d (.int (n : Int))) (by rw [List.getElem?_set_self hj]) (fun z => nomatch z) (eva_nil ?_))))))
  refine ⟨i, n, hX, hi, hn, rfl, _, rfl, rfl, fun hc => ?_, fun hc => ?_⟩
  · have hc : n = i := by simpa using hc
    refine ev_var (x := .d (.int (n : Int))) (by rw [List.getElem?_set_self hj]) (fun z => nomatch z) ⟨rfl, _, rfl, ?_⟩
    rw [hw, if_neg (by omega), if_pos (by omega), hc]; rfl
  · have hc : n ≠ i := by simpa using hc
    rw [hw]
    by_cases h : i < n
    · rw [if_pos h, if_pos (by omega)]
    · rw [if_neg h, if_neg (by omega)]
end
theorem roomM {k : Nat} {A : Around} {h : Option Value} (r : Room k A) : RoomH k (A.mark h) := ⟨r.dp, r.un⟩
theorem eqv_only : ∀ i n : _root_.Fin 8, PyData.eqv (.list ((List.range 8).map fun j => PyData.bool (decide (j = i.val)))) (.list ((List.range 8).map fun (j : Nat) => PyData.bool (decide ((j : Int) = ((n.val : Nat) : Int))))) = decide (n.val = i.val) := by decide +kernel
def refused (i : Nat) : PyData := .list [.str "refused", .int (i : Int)]
/-! the cases of the small words -/
/-! slices -/
end DL
/-! a def that refuses, called where it answers; a def that answers here and refuses there -/
namespace DL
open PySem L2 PySem.Spec PyProof.Rows L2H
def orX (f : FSp) (g : FSpX) : FSpX := fun args m R X => f args m R ∨ g args m R X
section
variable {P : Program} {w : World} {K : PySem.W.Frag} {mg : Str → Option Value} {base : Heap}
theorem fnOk_or {k : Nat} {f : Addr} {fd : FuncData} {ps : List Str} {fs : FSp} {sp : FSpX} (o : FnOk P w K mg base CX0 k f fd ps (spD K fs)) (F : FnOk P w K mg base (L2N.CX P w) k f fd ps (spX K sp)) : FnOk P w K mg base (L2N.CX P w) k f fd ps (spX K (orX fs sp)) where
  len := fun vs H Q E ⟨m, G, args, R, X, S, r, hf, k1, k2⟩ => by
    rcases hf with hf | hf
    · exact o.len vs H Q E ⟨m, G, args, R, S, r, hf, k1⟩
    · exact F.len vs H Q E ⟨m, G, args, R, X, S, r, hf, k1, k2⟩
  run := fun A outer s H args us vs Q E hr he hB hv ⟨m, G, as, R, X, S, r, hf, k1, k2⟩ => by
    rcases hf with hf | hf
    · refine codeAny_mono (o.run A outer s H args us vs Q E hr he hB hv ⟨m, G, as, R, S, r, hf, k1⟩) fun res s' g => ?_
      match res, g with
      | .ok (.ret u), g => exact g
      | .error e, g => exact g.elim
    · exact F.run A outer s H args us vs Q E hr he hB hv ⟨m, G, as, R, X, S, r, hf, k1, k2⟩
end
end DL
/-! orders; what the laws on refusals ask -/
namespace DL
open PySem L2 PySem.Spec PyProof.Rows L2H
theorem atI_ex {l : List PyData} {z : Int} (h0 : 0 ≤ z) (h1 : z < (l.length : Int)) : ∃ d ∈ l, atI l z = some d := by
  obtain ⟨k, rfl⟩ : ∃ k : Nat, z = (k : Int) := ⟨z.toNat, by omega⟩
  have hk : k < l.length := by omega
  exact ⟨l[k], List.getElem_mem hk, by rw [atI_nth, List.getElem?_eq_getElem hk]⟩
section
variable {K : PySem.W.Frag} {r : List Val} {m : Mm} {Q : Val → Mm → Prop} {ta : TA} {tb : TE}
/-- l[z], one of them -/
theorem o2_ixLx {l : List PyData} {z : Int} (h0 : 0 ≤ z) (h1 : z < (l.length : Int)) (q : ∀ d ∈ l, Q (.d d) m) : Op2 K (rIx K) (.d (.list l)) (.d (.int z)) m Q := by
  obtain ⟨d, hd, e⟩ := atI_ex h0 h1
  exact o2_ixL e (q d hd)
end
end DL
/-! chances of orders; for a, b in a list of pairs -/
namespace DL
open PySem L2 PySem.Spec PyProof.Rows L2H
section
variable {P : Program} {w : World} {K : PySem.W.Frag} {mg : Str → Option Value} {base : Heap}
theorem Cl.imp {k : Nat} {x : Str} {f g : FSp} (c : Cl P w K mg base k x f) (h : ∀ args m R, g args m R → f args m R) : Cl P w K mg base k x g := by
  obtain ⟨a, fd, ps, F, hm, hk, hb⟩ := c.ex
  exact ⟨a, fd, ps, F.imp fun vs H Q E ⟨m, G, args, R, S, r, hf, k⟩ => ⟨m, G, args, R, S, r, h _ _ _ hf, k⟩, hm, hk, hb⟩
end
/-! what an order's kinds have -/
end DL
/-! repr of data with dicts (and no lists) -/
namespace DL
open PySem L2 PySem.Spec PyProof.Rows L2H
section
variable {X : Cx} {pins : List (Addr × Obj)} {σ : L2.St} {H : Hp} {s : Shared}
theorem key_reads {h : Heap} : ∀ {k : Key} {u : Value}, RelV (kV k) u → Reads h u (keyD k) []
  | .inl i, u, r => by
    obtain ⟨t, rfl⟩ := r
    exact Reads.int i t
  | .inr x, u, r => by
    obtain ⟨t, rfl⟩ := r
    exact Reads.str x t
theorem keys_reads {h : Heap} : ∀ {ks : List Key} {us : List Value}, Vals (ks.map kV) us → ReadsAll h us (ks.map keyD) []
  | [], us, r => by cases r; exact ReadsAll.nil
  | k :: ks, us, r => by
    cases r with
    | cons r1 r2 => exact ReadsAll.cons (as := []) (bs := []) (key_reads r1) (keys_reads r2)
theorem tup_reads (I : Inv X pins σ H s) {b : Addr} {ks : List Key} (h : H b = some (.tup (ks.map kV))) : Reads s.heap (.ref b) (.tuple (ks.map keyD)) [] := by
  obtain ⟨its, rv, ⟨o, ho, hc, n, hd⟩, _⟩ := I.tuple (SqT.of h)
  exact Reads.tuple ho hc hd (keys_reads rv)
end
end DL
/-! taking items out of a list; a list mixed up -/
namespace DL
open PySem L2 PySem.Spec PyProof.Rows L2H
theorem VRs.erase {K : PySem.W.Frag} {G : Hp} : ∀ {rs : List Val} {xs : List V} (i : Nat), VRs K G rs xs → VRs K G (rs.eraseIdx i) (xs.eraseIdx i)
  | [], xs, i, h => by
    have h : xs = [] := h
    subst h
    exact rfl
  | r :: rs, xs, 0, h => by
    obtain ⟨v, t, rfl, h1, h2⟩ := h
    exact h2
  | r :: rs, xs, i + 1, h => by
    obtain ⟨v, t, rfl, h1, h2⟩ := h
    exact ⟨v, _, rfl, h1, VRs.erase i h2⟩
end DL
/-! what are no orders; what may be shown -/
namespace DL
open PySem L2 PySem.Spec PyProof.Rows L2H
/-! shown, with or without dicts -/
end DL
/-! [e for i, x in enumerate(a tuple)] -/
namespace DL
open PySem L2 PySem.Spec PyProof.Rows L2H
section
variable {K : PySem.W.Frag} {r : List Val} {m : Mm} {Q : Val → Mm → Prop} {te : TE}
theorem LcW.fix {G : Hp} {D T : Addr} {W : Nat → List PyData → Prop} {i : Nat} {H' : Hp} {o : HO} (h : LcW K m G D W i H') (hT : H' T = none) : ∃ G', Le G G' ∧ LcW K m (upd G' T o) D W i (upd H' T o) ∧ Le G (upd G' T o) := by
  obtain ⟨G', acc, hw, hl, S, e⟩ := h
  have hn := Le.new (o := o) (S.free hT)
  exact ⟨G', e, ⟨upd G' T o, acc, hw, hl, S.fix hT, Le.refl _⟩, e.trans hn⟩
end
end DL
/-! evened, named -/
namespace DL
open PySem L2 PySem.Spec PyProof.Rows L2H
end DL
/-! orders, and the chances by who is left -/
namespace DL
open PySem L2 PySem.Spec PyProof.Rows L2H
end DL
/-! all orders -/
namespace DL
open PySem L2 PySem.Spec PyProof.Rows L2H
end DL
/-! whole orders: what comes to one, what rises -/
namespace DL
open PySem L2
/-! some kind twice -/
/-! the sums so far -/
end DL
/-! the mean until all have come, over a list of shares: by parts that alternate -/
namespace DL
open PySem L2
/-! the paper's number is this one -/
end DL
/-! kinds bought or drawn -/
namespace DL
open PySem L2
section
variable {K : PySem.W.Frag} {r : List Val} {m : Mm} {Q : Val → Mm → Prop} {te tl : TE} {tt : TT}
theorem on_lenDT {p : Addr} {kvs : List (List Key × Val)} (hm : m p = some (.dT kvs)) (q : Q (.d (.int (kvs.length : Int))) m) : OpN K rLenT [.v (.ref p)] m Q := fun H G vs S a R k => by
  obtain ⟨v, rfl, h⟩ := vrs1 a
  have h := h.eq
  subst h
  obtain ⟨es, h1, h2⟩ := S.mem p _ hm
  refine ⟨p, es, rfl, h1, ?_⟩
  rw [h2.len]
  exact k _ H G _ m q S (Le.refl G) vr_int
theorem on_lenLt {nss : List (List Int)} (q : Q (.d (.int (nss.length : Int))) m) : OpN K (rLen K) [.lt nss] m Q := fun H G vs S a R k => by
  obtain ⟨v, rfl, h⟩ := vrs1 a
  cases h with
  | lt h1 h2 =>
    refine Or.inl ⟨_, _, rfl, Or.inl (Or.inl (Le.rd S.sub h1)), ?_⟩
    rw [h2.len]
    exact k _ H G _ m q S (Le.refl G) vr_int
theorem on_isiDT {p : Addr} {kvs : List (List Key × Val)} (hm : m p = some (.dT kvs)) (q : Q (.d (.bool true)) m) : OpN K (rIsi K) [.v (.ref p), .v (.ty "dict")] m Q := fun H G vs S a R k => by
  obtain ⟨v, w, rfl, h1, h2⟩ := vrs2 a
  rw [h2.eq, h1.eq]
  obtain ⟨es, g1, g2⟩ := S.mem p _ hm
  exact ⟨.ref p, .ty "dict", _, _, true, rfl, .ty "dict", .base (.dT g1), kit_ty (a := "dict") (by decide +kernel), k _ H G _ m q S (Le.refl G) vr_bool⟩
theorem inV_strs (x : Str) (xs : List Str) : inV (.str x) (xs.map V.str) = decide (x ∈ xs) := by
  unfold inV
  rw [List.any_map]
  induction xs with
  | nil => rfl
  | cons n ns ih =>
    rw [List.any_cons, ih]
    by_cases h : x = n
    · subst h; simp [eqV]
    · have h2 : ¬ n = x := fun e => h e.symm
      simp [eqV, h, h2]
theorem o2_inStrs {x : Str} {xs : List Str} {neg : Bool} (q : Q (.d (.bool (if neg then !decide (x ∈ xs) else decide (x ∈ xs)))) m) : Op2 K (rIn K neg) (.d (.str x)) (.d (.tuple (xs.map PyData.str))) m Q := fun H G v w S a b R k => by
  rw [str_of a]
  obtain ⟨p, ys, rfl, g1, g2⟩ := rp_tuple.mp b.rp
  rw [g2.strs] at g1
  refine ⟨p, _, rfl, Or.inr (S.sqT g1), rfl, by rw [List.all_map, List.all_eq_true]; exact fun _ _ => rfl, ?_⟩
  rw [inV_strs]
  exact k _ H G _ m q S (Le.refl G) vr_bool
theorem TAll.drop {G : Hp} : ∀ {nss : List (List Int)} {xs : List V} (n : Nat), TAll G nss xs → TAll G (nss.drop n) (xs.drop n)
  | nss, xs, 0, h => h
  | [], xs, n + 1, h => by
    have h : xs = [] := h
    subst h; exact rfl
  | ns :: r, xs, n + 1, h => by
    obtain ⟨b, t, rfl, h2, h3⟩ := h
    exact TAll.drop n h3
/-- l[a:] of a list of tuples -/
theorem ev_slLt {tl th : TO} (h : Ev K te r m fun x m1 => ∃ nss, x = .lt nss ∧ EvO K tl r m1 fun lo m2 => EvO K th r m2 fun hi m3 => ∃ a : Nat, lo = some (a : Int) ∧ hi = none ∧ Q (.lt (nss.drop a)) m3) : Ev K (tSl (rSlL K) te tl th) r m Q := fun σ H G S L R k =>
  h σ H G S L _ fun v H1 G1 x m1 ⟨nss, hx, h1⟩ S1 e1 r1 => h1 σ H1 G1 S1 (L.mono e1) _ fun H2 G2 lo m2 h2 S2 e2 => h2 σ H2 G2 S2 (L.mono (e1.trans e2)) _ fun H3 G3 hi m3 ⟨a, ha, hb, q⟩ S3 e3 => by
    subst hx ha hb
    have r3 := r1.mono (e2.trans e3)
    cases r3 with
    | lt g1 g2 =>
      rename_i b xs
      refine ⟨b, xs, rfl, Or.inl (Le.rd S3.sub g1), fun l hl => ?_⟩
      have hg := S3.free hl
      have e : cutV xs (some (a : Int)) none = xs.drop a := by
        unfold cutV
        rw [HT.sIx_none, HT.sIx_nat]
        by_cases ha : a ≤ xs.length
        · rw [Nat.min_eq_left ha, List.take_of_length_le (by rw [List.length_drop]; exact Nat.le_refl _)]
        · rw [Nat.min_eq_right (by omega), Nat.sub_self, List.take_zero, List.drop_of_length_le (by omega)]
      rw [e]
      exact k _ _ (upd G3 l (.lst (xs.drop a))) _ m3 q (S3.fix hl) (e1.trans (e2.trans (e3.trans (Le.new hg)))) (.lt (Rd.of upd_same) ((g2.drop a).mono (Le.new hg)))
end
/-! some kinds but none, the fewer ahead -/
def rsX (n : Nat) : List (List Nat) := (ordX n).filter noNil
theorem rsX_facts : ∀ n : _root_.Fin 6, ordX n.val = [] :: rsX n.val ∧ (ordX n.val).drop 1 = rsX n.val ∧ (rsX n.val).Nodup ∧ (rsX n.val).length ≤ 31 ∧ (rsX n.val).length + 1 = (allS n.val).length ∧ ∀ s ∈ rsX n.val, s ∈ allS n.val ∧ s ≠ [] := by decide +kernel
theorem rsX_ahead : ∀ n : _root_.Fin 6, ∀ i : _root_.Fin 32, ∀ s, (rsX n.val)[i.val]? = some s → (∀ k ∈ s, wo s k ∈ [] :: (rsX n.val).take i.val) ∧ s ∉ [] :: (rsX n.val).take i.val := by
  have h : ∀ n : _root_.Fin 6, ∀ i : _root_.Fin 32, ((rsX n.val)[i.val]?).all (fun s => (s.all fun k => decide (wo s k ∈ [] :: (rsX n.val).take i.val)) && decide (s ∉ [] :: (rsX n.val).take i.val)) = true := by decide +kernel
  intro n i s hs
  have h1 := h n i
  rw [hs] at h1
  simp only [Option.all_some, Bool.and_eq_true, List.all_eq_true, decide_eq_true_eq] at h1
  exact ⟨fun k hk => h1.1 k hk, h1.2⟩
theorem rsX_range : ∀ n : _root_.Fin 6, 0 < n.val → List.range n.val ∈ rsX n.val := by decide +kernel
theorem rsX_filter (n : Nat) : ((ordX n).map kn).filter (fun ks => !decide (ks = [])) = (rsX n).map kn := by
  unfold rsX
  rw [List.filter_map]
  refine congrArg (List.map kn) (List.filter_congr fun s _ => ?_)
  show (!decide (kn s = [])) = noNil s
  unfold noNil
  rw [show decide (kn s = []) = decide (s = []) from decide_eq_decide.mpr List.map_eq_nil_iff]
/-! numbers by who is left, one told by the others -/
def genF (ss : List Int) (g : List Nat → Rat → Rat) : Nat → List Nat → Rat
  | 0, _ => 0
  | n + 1, s => g s (dueT ss (genF ss g n) s)
def genT (ss : List Int) (g : List Nat → Rat → Rat) (s : List Nat) : Rat := genF ss g s.length s
theorem genT_step (ss : List Int) (g : List Nat → Rat → Rat) {s : List Nat} (hs : s.Pairwise (· < ·)) (h0 : s ≠ []) : genT ss g s = g s (dueT ss (genT ss g) s) := by
  unfold genT
  cases hn : s.length with
  | zero => exact absurd (List.length_eq_zero_iff.mp hn) h0
  | succ n =>
    show g s (dueT ss (genF ss g n) s) = _
    refine congrArg (g s) ?_
    unfold dueT
    rw [dueAcc_congr (P' := fun o => genF ss g o.length o) (fun k hk => ?_) s (fun _ h => h)]
    have := without_len hs hk
    have e : (s.filter fun x => !decide (x = k)).length = n := by omega
    show genF ss g n _ = genF ss g _ _
    rw [e]
/-! bounds -/
def PB (ss : List Int) (P : List Nat → Rat) : Prop := ∀ s, Kinds ss.length s → QB (P s) (dB s.length) (99 * s.length)
theorem accG {ss : List Int} (hs : Shares ss) {P : List Nat → Rat} {s : List Nat} {d n : Nat} (hP : ∀ k ∈ s, QB (P (s.filter fun x => !decide (x = k))) d (99 * n)) : ∀ l : List Nat, (∀ k ∈ l, k ∈ s) → QB (dueAcc ss P s l) (l.length * d) (45 + 99 * n * (sumP ss l).toNat) := by
  intro l
  have hsum := shares_sum hs
  have gen : ∀ (l : List Nat) (a : Rat) (c v : Nat), QB a c v → (∀ k ∈ l, k ∈ s) → QB (l.foldl (fun acc k => acc + ((ss.getD k 0 : Int) : Rat) * P (s.filter fun x => !decide (x = k))) a) (c + l.length * d) (v + 99 * n * (sumP ss l).toNat) := by
    intro l
    induction l with
    | nil =>
      intro a c v h _
      exact h.mono (by simp) (by simp)
    | cons k t ih =>
      intro a c v h hl
      rw [List.foldl_cons]
      have hb := getD_bounds hs k
      have e1 : ss.getD k 0 = (((ss.getD k 0).toNat : Nat) : Int) := by omega
      have h1 := (hP k (hl k (List.mem_cons_self ..))).mulN (ss.getD k 0).toNat
      rw [← e1] at h1
      have h2 := ih _ _ _ (h.add h1) fun x hx => hl x (List.mem_cons_of_mem _ hx)
      refine h2.mono ?_ ?_
      · rw [List.length_cons, Nat.succ_mul]; omega
      · have e2 : (sumP ss (k :: t)).toNat = (ss.getD k 0).toNat + (sumP ss t).toNat := by
          have := sumP_nonneg hs t
          rw [sumP_cons]; omega
        rw [e2, Nat.mul_add]
        have e3 : (ss.getD k 0).toNat * (99 * n) = 99 * n * (ss.getD k 0).toNat := Nat.mul_comm _ _
        omega
  intro hl
  have e : ss.sum = ((ss.sum.toNat : Nat) : Int) := by omega
  have h0 : QB ((ss.sum : Int) : Rat) 0 45 := by
    rw [e]
    exact (QB.nat _).mono (Nat.le_refl _) (by omega)
  exact (gen l _ 0 45 h0 hl).mono (by omega) (Nat.le_refl _)
theorem PB.sub {ss : List Int} {P : List Nat → Rat} (h : PB ss P) {s : List Nat} (hk : Kinds ss.length s) {n : Nat} (hl : s.length = n + 1) : ∀ k ∈ s, QB (P (s.filter fun x => !decide (x = k))) (dB n) (99 * n) := fun k hks => by
  have := h _ (kinds_without hk k)
  have hw := without_len hk.up hks
  rw [show (s.filter fun x => !decide (x = k)).length = n by omega] at this
  exact this
theorem PB.due {ss : List Int} (hs : Shares ss) {P : List Nat → Rat} (h : PB ss P) {s : List Nat} (hk : Kinds ss.length s) (h0 : s ≠ []) : QB (dueT ss P s) (dB s.length) (99 * s.length) := by
  cases hn : s.length with
  | zero => exact absurd (List.length_eq_zero_iff.mp hn) h0
  | succ n =>
    have h1 := accG hs (h.sub hk hn) s (fun _ h => h)
    have hp := sumP_pos hs h0 hk.lt
    have hle := sumP_le hs hk
    unfold dueT
    refine (h1.over (n := (sumP ss s).toNat) (e := 6) (w := 99 * (n + 1)) (by omega) (by show _ ≤ 64; omega) ?_).mono (by rw [hn]; exact Nat.le_refl _) (Nat.le_refl _)
    generalize hS : (sumP ss s).toNat = S
    have : 1 ≤ S := by omega
    rw [Nat.mul_add, Nat.add_mul, Nat.mul_one]
    have : 99 ≤ 99 * S := by omega
    omega
theorem PB.fr {ss : List Int} (hs : Shares ss) {P : List Nat → Rat} (h : PB ss P) {s : List Nat} (hk : Kinds ss.length s) : FrB (P s) 1300 := by
  have h1 := hk.len
  have h2 := hs.few
  have h3 := dB_le (n := s.length) (by omega)
  exact ((h s hk).frB (e := 10) (by show _ < 1024; omega)).mono (by omega)
theorem PB.accFr {ss : List Int} (hs : Shares ss) {P : List Nat → Rat} (h : PB ss P) {s : List Nat} (hk : Kinds ss.length s) (i : Nat) : FrB (dueAcc ss P s (s.take i)) 1300 := by
  have h1 := hk.len
  have h2 := hs.few
  cases hn : s.length with
  | zero =>
    have : s = [] := List.length_eq_zero_iff.mp hn
    subst this
    have := shares_sum hs
    have e : ss.sum = ((ss.sum.toNat : Nat) : Int) := by omega
    have : dueAcc ss P [] (List.take i []) = ((ss.sum : Int) : Rat) := by simp [dueAcc]
    rw [this, e]
    exact ((QB.nat ss.sum.toNat).frB (e := 10) (by show _ < 1024; omega)).mono (by decide)
  | succ n =>
    have hb := accG hs (h.sub hk hn) (s.take i) fun k hk => List.mem_of_mem_take hk
    have hl : (s.take i).length ≤ n + 1 := by rw [List.length_take]; omega
    have hsl : sumP ss (s.take i) ≤ 45 := by
      have := sumP_le9 hs (s.take i)
      omega
    have hd : (s.take i).length * dB n + 6 ≤ dB (n + 1) := by
      show _ ≤ (n + 1) * dB n + 6
      exact Nat.add_le_add_right (Nat.mul_le_mul_right _ hl) 6
    have hd2 := dB_le (n := n + 1) (by omega)
    have hv : 45 + 99 * n * (sumP ss (s.take i)).toNat ≤ 45 + 99 * 4 * 45 := by
      refine Nat.add_le_add_left (Nat.mul_le_mul (Nat.mul_le_mul_left _ (by omega)) (by omega)) _
    exact (hb.frB (e := 15) (by show _ < 32768; omega)).mono (by omega)
def priceQ (c : Nat) (s : List Nat) : Rat := ((c * s.length : Nat) : Int)
theorem price_QB {c : Nat} (hc : c ≤ 99) (s : List Nat) : QB (priceQ c s) (dB s.length) (99 * s.length) := (QB.nat (c * s.length)).mono (Nat.zero_le _) (Nat.mul_le_mul_right _ hc)
theorem gen_PB {ss : List Int} (hs : Shares ss) {c : Nat} (hc : c ≤ 99) {g : List Nat → Rat → Rat} (hg : ∀ s x, g s x = x ∨ g s x = priceQ c s) : PB ss (genT ss g) := by
  have : ∀ (n : Nat) (s : List Nat), s.length ≤ n → Kinds ss.length s → QB (genT ss g s) (dB s.length) (99 * s.length) := by
    intro n
    induction n with
    | zero =>
      intro s hl hk
      have : s = [] := List.length_eq_zero_iff.mp (by omega)
      subst this
      exact ⟨Rat.le_refl, Rat.le_refl, Nat.le_refl 1⟩
    | succ n ih =>
      intro s hl hk
      by_cases h0 : s = []
      · subst h0; exact ⟨Rat.le_refl, Rat.le_refl, Nat.le_refl 1⟩
      · rw [genT_step ss g hk.up h0]
        have hd : QB (dueT ss (genT ss g) s) (dB s.length) (99 * s.length) := by
          have hP : PB ss (fun t => if t.length ≤ n then genT ss g t else 0) := fun t ht => by
            show QB (if t.length ≤ n then genT ss g t else 0) _ _
            split
            · exact ih t (by assumption) ht
            · exact ⟨Rat.le_refl, by exact_mod_cast Nat.zero_le _, Nat.one_le_two_pow⟩
          have h1 := hP.due hs hk h0
          have e : dueT ss (fun t => if t.length ≤ n then genT ss g t else 0) s = dueT ss (genT ss g) s := by
            unfold dueT
            rw [dueAcc_congr (P' := genT ss g) (fun k hks => ?_) s (fun _ h => h)]
            show (if _ then _ else _) = _
            rw [if_pos (by have := without_len hk.up hks; omega)]
          rw [e] at h1
          exact h1
        rcases hg s (dueT ss (genT ss g) s) with h | h
        · rw [h]; exact hd
        · rw [h]; exact price_QB hc s
  exact fun s hk => this s.length s (Nat.le_refl _) hk
/-! the laws of costs -/
def planT (ss : List Int) (c : Nat) (b : List Nat → Bool) : List Nat → Rat := genT ss fun s x => if b s = true then priceQ c s else x
theorem plan_PB {ss : List Int} (hs : Shares ss) {c : Nat} (hc : c ≤ 99) (b : List Nat → Bool) : PB ss (planT ss c b) := gen_PB hs hc fun s x => by
  split
  · exact Or.inr rfl
  · exact Or.inl rfl
theorem plan_step (ss : List Int) (c : Nat) (b : List Nat → Bool) {s : List Nat} (hs : s.Pairwise (· < ·)) (h0 : s ≠ []) : planT ss c b s = if b s = true then priceQ c s else dueT ss (planT ss c b) s := genT_step ss _ hs h0
/-! words -/
def f_dueG : FSp := fun args m R => ∃ (ss : List Int) (s : List Nat) (p : Addr) (kvs : List (List Key × Val)) (P : List Nat → Rat), args = [.d (tupI ss), .v (.ref p), .d (tupN s)] ∧ Shares ss ∧ Kinds ss.length s ∧ s ≠ [] ∧ Dat m p kvs ∧ PB ss P ∧
  (∀ k ∈ s, getV kvs (kI (kn (s.filter fun x => !decide (x = k)))) = some (.d (frac (P (s.filter fun x => !decide (x = k)))))) ∧ R (.d (frac (dueT ss P s))) m
def f_rising : FSp := fun args m R => ∃ ss : List Int, args = [.d (tupI ss)] ∧ Shares ss ∧ R (.lt ((rsX ss.length).map kn)) m
def f_needPrice : FSp := fun args m R => ∃ (ss : List Int) (c : Nat), args = [.d (tupI ss), .d (.int (c : Int))] ∧ Shares ss ∧ c ≤ 99 ∧ R (.d .none) m
def tabS (f : List Nat → Str) (l : List (List Nat)) : List (List Int × Val) := l.map fun s => (kn s, .d (.str (f s)))
def told (b : Bool) : Str := if b = true then "buy" else "draw"
theorem told_buy (b : Bool) : decide (told b = "buy") = b := by cases b <;> decide
end DL
/-! k13: cases, what lacks and means, in another order and each so many times -/
namespace DL
open PySem L2
/-! what comes of a list, n draws, with a beside -/
/-! each so many times -/
/-! the program's numbers -/
end DL
/-! sorted(d.items()), d with tuples for keys -/
namespace DL
open PySem L2 PySem.Spec PyProof.Rows
mutual
def flD : PyData → Bool
  | .none => true
  | .bool _ => true
  | .int _ => true
  | .str _ => true
  | .list _ => false
  | .tuple ds => flDAll ds
  | .dict _ => false
def flDAll : List PyData → Bool
  | [] => true
  | d :: ds => flD d && flDAll ds
end
section
variable {X : Cx} {pins : List (Addr × Obj)} {σ : L2.St} {H : Hp} {s : Shared}
mutual
theorem rd0 (I : Inv X pins σ H s) : ∀ (d : PyData) (v : V) (u : Value), flD d = true → Rp X.K H d v → RelV v u → Reads s.heap u d []
  | .none, v, u, _, h, r => by rw [rp_none.mp h] at r; cases r; exact Reads.none
  | .bool b, v, u, _, h, r => by rw [rp_bool.mp h] at r; cases r; exact Reads.bool b
  | .int i, v, u, _, h, r => by
    rw [rp_int.mp h] at r
    obtain ⟨t, rfl⟩ := r
    exact Reads.int i t
  | .str x, v, u, _, h, r => by
    rw [rp_str.mp h] at r
    obtain ⟨t, rfl⟩ := r
    exact Reads.str x t
  | .list ds, v, u, n, _, _ => by simp [flD] at n
  | .dict ds, v, u, n, _, _ => by simp [flD] at n
  | .tuple ds, v, u, n, h, r => by
    obtain ⟨a, xs, rfl, h2, h3⟩ := rp_tuple.mp h
    cases r
    obtain ⟨its, rv, ⟨o, ho, hc, n2, hd⟩, _⟩ := I.tuple h2
    exact Reads.tuple ho hc hd (rd0All I ds xs its (by simpa [flD] using n) h3 rv)
theorem rd0All (I : Inv X pins σ H s) : ∀ (ds : List PyData) (vs : List V) (us : List Value), flDAll ds = true → RpAll X.K H ds vs → Vals vs us → ReadsAll s.heap us ds []
  | [], vs, us, _, h, r => by rw [rpa_nil.mp h] at r; cases r; exact ReadsAll.nil
  | d :: ds, vs, us, n, h, r => by
    obtain ⟨x, t, rfl, h1, h2⟩ := rpa_cons.mp h
    simp only [flDAll, Bool.and_eq_true] at n
    cases r with
    | cons r1 r2 => exact ReadsAll.cons (as := []) (bs := []) (rd0 I d x _ n.1 h1 r1) (rd0All I ds t _ n.2 h2 r2)
end
end
abbrev It := List Int × V × PyData
def encI (e : List Int × PyData) : PyData := .tuple [tupI e.1, e.2]
def encE (e : It) : PyData := .tuple [tupI e.1, e.2.2]
def rSortIt (K : PySem.W.Frag) : List V → Hp → VK → Prop := fun vs H Q => ∃ (p a : Addr) (es : List It), vs = [.ref p] ∧ H p = some (DX.itemsO p a) ∧ H a = some (.dT (es.map fun e => (kI e.1, e.2.1))) ∧ es.length ≤ 1000 ∧
  (∀ e ∈ es, Rp K H e.2.2 e.2.1 ∧ flD e.2.2 = true ∧ e.2.2.depth ≤ 10) ∧ PySem.W.AllAlike (es.map encE) ∧
  ∀ (H' : Hp) (l : Addr) (zs : List (Addr × It)), (∀ b o, H b = some o → H' b = some o) → H l = none → H' l = some (.lst (zs.map fun z => V.ref z.1)) → zs.map (·.2) = es.mergeSort (PySem.W.dataLe false encE) →
    (∀ z ∈ zs, H z.1 = none ∧ z.2 ∈ es ∧ ∃ q, H' z.1 = some (.tup [.ref q, z.2.2.1]) ∧ H q = some (.tup ((kI z.2.1).map kV))) → Q (.ref l) H'
theorem each_zip {as : List Addr} {es : List It} (h : as.length = es.length) : PySem.W.EachIs (fun (v : Value) (b : Addr × It) => v = .ref b.1) (as.map Value.ref) (as.zip es) := by
  induction as generalizing es with
  | nil => cases es with | nil => exact .nil | cons _ _ => cases h
  | cons a as ih => cases es with
    | nil => cases h
    | cons e es => exact .cons rfl (ih (by simpa using h))
theorem cr_sortIt {X : Cx} (hc : X.calm = true) (hu : X.A.units + 64 < cLine) : CallR X (.builtin "sorted") (rSortIt X.K) := by
  intro pins s σ H xs us Q I r h
  obtain ⟨p, a, es, rfl, hp, ha, hsz, hv, hal, q⟩ := h
  obtain rfl := Vals.ref1 r
  have view : s.heap.IsItemsView p a := (show ObjOk X.prog X.w H s.heap p (DX.itemsO p a) from I.hok p _ hp).1
  obtain ⟨z, hd, xs', rel, o, en, ep, ho, hx, hdat, hes, his, hn⟩ := dt_of I.hok ha
  have l1 : (es.map fun e => (kI e.1, e.2.1)).length = xs'.length := Paired.length rel
  rw [List.length_map] at l1
  have l2 : en.size = xs'.length := size_of_entries hes
  have hh : X.A.handled = none := I.ok.hd hc
  refine DT.sortedI (es := en) (ep := ep) hh view ⟨o, ho, hx, hdat⟩ (by rw [sizeLine_eq]; omega) fun h' tk as hk hlt hl hG => ?_
  have lak : as.length = es.length := by omega
  have nd : as.Nodup := List.Pairwise.imp (fun h => Nat.ne_of_lt h) hG.rise
  -- what was made of each entry
  have pr : ∀ (j : Nat) (b : Addr) (e : It), as[j]? = some b → es[j]? = some e → ∃ (kq : Addr) (u : Value), H kq = some (.tup ((kI e.1).map kV)) ∧ RelV e.2.1 u ∧ h'.get? b = some { cls := .type "tuple", data := .seq #[Value.ref kq, u] } := by
    intro j b e hj hej
    obtain ⟨ent, he, hg⟩ := hG.pairs j b hj
    rw [entry_at hes j] at he
    cases hxj : xs'[j]? with
    | none => rw [hxj] at he; cases he
    | some x =>
      rw [hxj] at he
      have een := Option.some.inj he
      obtain ⟨e0, he0, r1, r2, r3⟩ := DX.pget rel hxj
      rw [List.getElem?_map, hej] at he0
      cases he0
      refine ⟨x.2.1, x.2.2, r2, r3, ?_⟩
      rw [hg, ← een]
      rfl
  have hob : (h'.push { cls := .type "list", data := .seq (as.map Value.ref).toArray }).get? h'.objs.size = some (seqObj "list" (as.map Value.ref).toArray 0) := Heap.get?_push_size _ rfl
  have kb : ∀ b o, s.heap.get? b = some o → (h'.push { cls := .type "list", data := .seq (as.map Value.ref).toArray }).get? b = some o := fun b o e => Heap.get?_push_of_some _ (hk b o e)
  have ne0 : ∀ b o, h'.get? b = some o → b ≠ h'.objs.size := fun b o e => Nat.ne_of_lt (Heap.lt_size e)
  have ka : ∀ b o, h'.get? b = some o → (h'.push { cls := .type "list", data := .seq (as.map Value.ref).toArray }).get? b = some o := fun b o e => Heap.get?_push_of_some _ e
  generalize h'.push { cls := .type "list", data := .seq (as.map Value.ref).toArray } = h2 at hob kb ka ⊢
  have rdE : ∀ (j : Nat) (b : Addr) (e : It), as[j]? = some b → es[j]? = some e → Reads h2 (.ref b) (encE e) [] := by
    intro j b e hj hej
    obtain ⟨kq, u, hkq, hu', hg⟩ := pr j b e hj hej
    obtain ⟨v1, v2, _⟩ := hv e (List.mem_of_getElem? hej)
    have k1 := tup_reads I hkq
    have e1 : (kI e.1).map keyD = e.1.map PyData.int := by unfold kI; rw [List.map_map]; rfl
    rw [e1] at k1
    have k2 := rd0 I _ _ _ v2 v1 hu'
    exact Reads.tuple (ka _ _ hg) rfl rfl (ReadsAll.cons (as := []) (bs := []) (PyProof.Rows.Reads.keeps (fun b o e => kb b o e) k1) (ReadsAll.cons (as := []) (bs := []) (PyProof.Rows.Reads.keeps (fun b o e => kb b o e) k2) ReadsAll.nil))
  have zipAt : ∀ z ∈ as.zip es, ∃ j : Nat, as[j]? = some z.1 ∧ es[j]? = some z.2 := fun z hz => by
    obtain ⟨j, hj⟩ := List.mem_iff_getElem?.mp hz
    exact ⟨j, List.getElem?_zip_eq_some.mp hj⟩
  have m2 : (as.zip es).map (·.2) = es := List.map_snd_zip (by rw [lak]; exact Nat.le_refl _)
  have encM : (as.zip es).map (fun b => encE b.2) = es.map encE := by
    have := congrArg (List.map encE) m2
    rw [List.map_map] at this
    exact this
  refine PySem.W.list_sort_data (A := X.A.in1) (s := { s with heap := h2, toks := tk }) (bs := as.zip es) (enc := fun b => encE b.2) (R := fun (v : Value) (b : Addr × It) => v = .ref b.1) hob (each_zip lak) ?_ (by rw [encM]; exact hal) (PySem.W.Sortable.tuples fun b => ⟨_, _, rfl⟩) (by rw [List.length_zip, lak, Nat.min_self, sizeLine_eq]; omega) (fun b hb => ?_) fun out hlen hE => ?_
  · exact (PySem.W.each_mem (each_zip lak)).mono fun v b ⟨hvb, hb⟩ => by
      subst hvb
      obtain ⟨j, j1, j2⟩ := zipAt b hb
      exact ⟨[], rdE j _ _ j1 j2, fun z => nomatch z⟩
  · obtain ⟨j, j1, j2⟩ := zipAt b hb
    obtain ⟨_, _, hdp⟩ := hv b.2 (List.mem_of_getElem? j2)
    have : (encE b.2).depth ≤ 12 := by
      unfold encE
      simp only [PyData.depth, PyData.depthAll, tupI, depth_ints]
      omega
    show X.A.units + 1 + 1 + (encE b.2).depth < cLine
    omega
  · show EP X pins σ Q (.ref h'.objs.size) { s with heap := sortedHeap h2 h'.objs.size (as.map Value.ref) out.toArray, toks := tk }
    generalize hzs : (as.zip es).mergeSort (PySem.W.dataLe false fun b => encE b.2) = zs at hE
    have pz : zs.Perm (as.zip es) := by rw [← hzs]; exact List.mergeSort_perm _ _
    have ez : zs.map (·.2) = es.mergeSort (PySem.W.dataLe false encE) := by
      have hm := List.map_mergeSort (r := PySem.W.dataLe false fun b : Addr × It => encE b.2) (s := PySem.W.dataLe false encE) (f := fun b : Addr × It => b.2) (l := as.zip es) (fun a _ b _ => rfl)
      rw [m2] at hm
      rw [← hzs]; exact hm
    have hout : out = zs.map fun z => Value.ref z.1 := by
      clear hlen ez pz hzs
      induction hE with
      | nil => rfl
      | cons h1 h2 ih => rw [h1, ih]; rfl
    have kF : ∀ b o, b ≠ h'.objs.size → h2.get? b = some o → (sortedHeap h2 h'.objs.size (as.map Value.ref) out.toArray).get? b = some o := fun b o hb e => (PyProof.Rows.sortedHeap_old hb (Heap.lt_size e)).trans e
    have kS : ∀ b o, s.heap.get? b = some o → (sortedHeap h2 h'.objs.size (as.map Value.ref) out.toArray).get? b = some o := fun b o e => kF b o (ne0 _ _ (hk b o e)) (kb b o e)
    obtain ⟨eF, heF⟩ := PyProof.Rows.sortedHeap_at (vs := as.map Value.ref) (out := out.toArray) hob
    have I1 : Inv X pins σ H { s with heap := sortedHeap h2 h'.objs.size (as.map Value.ref) out.toArray, toks := tk } := I.kept (t' := tk) kS
    have hn0 : H h'.objs.size = none := I.hok.fresh (Nat.le_of_lt hlt)
    have hzl : zs.length = es.length := by rw [pz.length_eq, List.length_zip, lak, Nat.min_self]
    have rv : Vals (zs.map fun z => V.ref z.1) out := by
      rw [hout]
      exact vals_maps (fun z : Addr × It => V.ref z.1) (fun z => Value.ref z.1) zs fun _ _ => rfl
    have I2 : Inv X pins σ (upd H h'.objs.size (.lst (zs.map fun z => V.ref z.1))) { s with heap := sortedHeap h2 h'.objs.size (as.map Value.ref) out.toArray, toks := tk } :=
      I1.take (h' := sortedHeap h2 h'.objs.size (as.map Value.ref) out.toArray) (t' := tk) (fun b ob _ e => e) (I.fpOk (Nat.le_of_lt hlt) hn0) ⟨by rw [List.length_map, sizeLine_eq]; omega, out, eF, rv, heF⟩
    obtain ⟨H2, I3, g, qt⟩ := DX.takeT (P := fun b vs => ∃ (j : Nat) (e : It) (kq : Addr), as[j]? = some b ∧ es[j]? = some e ∧ vs = [.ref kq, e.2.1] ∧ H kq = some (.tup ((kI e.1).map kV))) I as _ I2 nd fun b hb => by
      obtain ⟨j, hj⟩ := List.mem_iff_getElem?.mp hb
      have hje : j < es.length := by rw [← lak]; exact (List.getElem?_eq_some_iff.mp hj).1
      obtain ⟨kq, u, hkq, hu', hg⟩ := pr j b es[j] hj (List.getElem?_eq_getElem hje)
      have hbl : s.heap.objs.size ≤ b := Nat.le_of_lt (hG.above b hb)
      refine ⟨hbl, ?_, [.ref kq, es[j].2.1], ⟨j, es[j], kq, hj, List.getElem?_eq_getElem hje, rfl, hkq⟩, fun H3 => ⟨(by rw [sizeLine_eq]; show 2 ≤ 16777216; omega), [Value.ref kq, u], .cons rfl (.cons hu' .nil), ⟨_, kF _ _ (ne0 _ _ hg) (ka _ _ hg), rfl, 0, rfl⟩⟩⟩
      rw [upd_ne (ne0 _ _ hg)]
      exact I.hok.fresh hbl
    have gr : ∀ b o, H b = some o → H2 b = some o := fun b o e => g b o (by rw [upd_ne (ne_of_none e hn0)]; exact e)
    refine ⟨.ref h'.objs.size, H2, I3, rfl, q H2 h'.objs.size zs gr hn0 (g _ _ upd_same) ez fun z' hz' => ?_⟩
    obtain ⟨i, i1, i2⟩ := zipAt z' (pz.mem_iff.mp hz')
    obtain ⟨vs, ⟨j, e, kq, j1, j2, ev, hkq⟩, hH⟩ := qt z'.1 (List.mem_of_getElem? i1)
    have eij : i = j := (List.getElem?_inj (List.getElem?_eq_some_iff.mp i1).1 nd).mp (i1.trans j1.symm)
    subst eij
    have ee : e = z'.2 := Option.some.inj (j2.symm.trans i2)
    subst ee
    refine ⟨I.hok.fresh (Nat.le_of_lt (hG.above _ (List.mem_of_getElem? i1))), List.mem_of_getElem? i2, kq, ?_, hkq⟩
    rw [ev] at hH
    exact hH
/-! everything that is known and may not change -/
section
variable {K : PySem.W.Frag} {m : Mm} {H G : Hp}
theorem Sta.all (S : Sta K m H G) : Sta K m H (fun a => if m a = none then H a else none) ∧ Le G (fun a => if m a = none then H a else none) := by
  have hle : Le G (fun a => if m a = none then H a else none) := fun a o h => by
    have hm : m a = none := by
      cases e : m a with
      | none => rfl
      | some u => rw [S.dis a u e] at h; cases h
    show (if m a = none then H a else none) = some o
    rw [if_pos hm]; exact S.sub a o h
  refine ⟨⟨fun a o h => ?_, fun a o h => (S.mem a o h).mono hle rfl, fun a o h => ?_⟩, hle⟩
  · have h : (if m a = none then H a else none) = some o := h
    by_cases hm : m a = none
    · rw [if_pos hm] at h; exact h
    · rw [if_neg hm] at h; cases h
  · show (if m a = none then H a else none) = none
    rw [if_neg (by rw [h]; exact fun z => nomatch z)]
theorem Sta.grow {H' : Hp} (S : Sta K m H G) (h : ∀ b o, H b = some o → H' b = some o) : Sta K m H' G := by
  refine ⟨fun a o e => h a o (S.sub a o e), fun a o e => ?_, S.dis⟩
  obtain ⟨u, hu⟩ := (S.mem a o e).some
  exact (S.mem a o e).mono (Le.refl G) ((h a u hu).trans hu.symm)
theorem Sta.notTup {q : Addr} {xs : List V} (S : Sta K m H G) (h : H q = some (.tup xs)) : m q = none := by
  cases e : m q with
  | none => rfl
  | some o =>
    have := S.mem q o e
    cases o with
    | lst rs => obtain ⟨ys, h1, _⟩ := this; rw [h] at h1; cases h1
    | dT kvs => obtain ⟨ys, h1, _⟩ := this; rw [h] at h1; cases h1
    | dK kvs => obtain ⟨ys, h1, _⟩ := this; rw [h] at h1; cases h1
    | lk od es kvs => have h1 := this.1; rw [h] at h1; cases h1
    | box => obtain ⟨n, h1⟩ := this; rw [h] at h1; cases h1
    | g P => exact absurd h (this.2.2.2 xs)
theorem KVs.its : ∀ {kds : List (List Int × PyData)} {es : List (List Key × V)}, KVs K G (kds.map fun e => (kI e.1, Val.d e.2)) es → ∃ its : List It, es = its.map (fun e => (kI e.1, e.2.1)) ∧ its.map (fun e => (e.1, e.2.2)) = kds ∧ ∀ e ∈ its, Rp K G e.2.2 e.2.1
  | [], es, h => ⟨[], h, rfl, fun _ z => nomatch z⟩
  | e :: kds, es, h => by
    obtain ⟨v, u, rfl, h2, h3⟩ := h
    obtain ⟨its, rfl, e2, e3⟩ := KVs.its h3
    refine ⟨(e.1, v, e.2) :: its, rfl, by rw [List.map_cons, e2], fun x hx => ?_⟩
    rcases List.mem_cons.mp hx with rfl | hx
    · exact h2.rp
    · exact e3 x hx
theorem Le.at {G G' : Hp} (h : Le G G') {a : Addr} {o : HO} (e : G a = some o) : G' a = some o := h a o e
theorem rp_items {G4 : Hp} : ∀ {zs : List (Addr × It)}, (∀ z ∈ zs, Rp K G4 (encE z.2) (.ref z.1)) → RpAll K G4 (zs.map fun z => encE z.2) (zs.map fun z => V.ref z.1)
  | [], _ => rpa_nil.mpr rfl
  | z :: zs, h => rpa_cons.mpr ⟨_, _, rfl, h z List.mem_cons_self, rp_items fun y hy => h y (List.mem_cons_of_mem _ hy)⟩
variable {r : List Val} {Q : Val → Mm → Prop} {te : TE}
theorem ev_sortItems (h : Ev K te r m fun x m1 => ∃ (p : Addr) (kds : List (List Int × PyData)), x = .v (.ref p) ∧ m1 p = some (.dT (kds.map fun e => (kI e.1, Val.d e.2))) ∧ kds.length ≤ 1000 ∧
      (∀ e ∈ kds, flD e.2 = true ∧ e.2.depth ≤ 10) ∧ PySem.W.AllAlike (kds.map encI) ∧ Q (.d (.list ((kds.mergeSort (PySem.W.dataLe false encI)).map encI))) m1) :
    Ev K (tCB (rSortIt K) (tCons (tBM0 K "dict" DX.rItemsT te) tNil)) r m Q := fun σ H G S L R k =>
  h σ H G S L _ fun v H1 G1 x m1 ⟨p, kds, hx, hm, hlen, hfl, hal, q⟩ S1 e1 r1 => by
    subst hx
    obtain rfl := r1.eq
    obtain ⟨es, hes, hk⟩ := S1.mem p _ hm
    obtain ⟨its, rfl, ek, hrp⟩ := hk.its
    refine ⟨.inr (.inr (.inl ⟨rfl, .inr ⟨_, hes⟩⟩)), p, _, rfl, rfl, hes, fun z hz => ?_⟩
    have hzp : p ≠ z := fun e => by rw [e, hz] at hes; cases hes
    have S2 := S1.fix (o := DX.itemsO z p) hz
    have hg := S1.free hz
    have eK : its.map encE = kds.map encI := by rw [← ek, List.map_map]; rfl
    refine ⟨z, p, its, rfl, upd_same, by rw [upd_ne hzp]; exact hes, by have := congrArg List.length ek; rw [List.length_map] at this; omega, fun e he => ?_, by rw [eK]; exact hal, fun H' l zs gr hl hH ez hz' => ?_⟩
    · obtain ⟨f1, f2⟩ := hfl (e.1, e.2.2) (by rw [← ek]; exact List.mem_map.mpr ⟨e, he, rfl⟩)
      exact ⟨Rp.mono S2.sub _ _ (Rp.mono (Le.new hg) _ _ (hrp e he)), f1, f2⟩
    · have S3 := S2.grow gr
      obtain ⟨S4, l4⟩ := S3.all
      have hG4 : ∀ b o, m1 b = none → H' b = some o → (fun a => if m1 a = none then H' a else none) b = some o := fun b o h1 h2 => by
        show (if m1 b = none then H' b else none) = some o
        rw [if_pos h1]; exact h2
      have es2 : (kds.mergeSort (PySem.W.dataLe false encI)).map encI = zs.map fun z => encE z.2 := by
        have hmm := List.map_mergeSort (r := PySem.W.dataLe false encE) (s := PySem.W.dataLe false encI) (f := fun e : It => (e.1, e.2.2)) (l := its) (fun a _ b _ => rfl)
        rw [ek, ← ez] at hmm
        rw [← hmm, List.map_map, List.map_map]; rfl
      rw [es2] at q
      refine k _ H' _ _ m1 q S4 (e1.trans ((Le.new hg).trans l4)) (.d (rp_list.mpr ⟨l, _, rfl, Rd.of (hG4 l _ (S2.freeM hl) hH), rp_items fun y hy => ?_⟩))
      obtain ⟨y1, y2, qq, y3, y4⟩ := hz' y hy
      have hq' := gr _ _ y4
      rw [kI_kV] at hq'
      have mq : m1 qq = none := S2.notTup y4
      have key : Rp K (fun a => if m1 a = none then H' a else none) (tupI y.2.1) (.ref qq) := rp_tuple.mpr ⟨qq, _, rfl, SqT.of (hG4 _ _ mq hq'), rpa_ints _⟩
      exact rp_tuple.mpr ⟨y.1, _, rfl, SqT.of (hG4 _ _ (S2.freeM y1) y3), rpa_cons.mpr ⟨_, _, rfl, key, rpa_cons.mpr ⟨_, _, rfl, Rp.mono ((Le.new hg).trans l4) _ _ (hrp _ y2), rpa_nil.mpr rfl⟩⟩⟩
end
theorem pe_sortItems {X : Cx} {o : Expr} {to : TE} {apos cpos p pos : Pos} {j : Nat} (K : PySem.W.Frag) (hr : Room j X.A) (hg : Gl X "sorted") (hm : X.mg "sorted" = none) (ho : PE X o to) (hK : X.K = K := by rfl) (hc : X.calm = true := by rfl)
    (hbase : attributeBase o "items" X.env (eval o X.env) = eval o X.env := by rfl) (hline : (apos.endLine == cpos.line) = true := by rfl)
    (hs : starEach [Expr.Call (.Attribute o "items" apos) [] [] cpos] X.env = [(false, eval (.Call (.Attribute o "items" apos) [] [] cpos) X.env)] := by rfl) :
    PE X (.Call (.Name "sorted" p) [.Call (.Attribute o "items" apos) [] [] cpos] [] pos) (tCB (rSortIt K) (tCons (tBM0 K "dict" DX.rItemsT to) tNil)) := by
  subst hK
  exact pe_callB (cr_sortIt hc (by have := hr.un; omega)) hg hm (by decide +kernel) (pa_cons (pe_bm0 PySem.F.plainAttrs_dict PySem.F.slot_dict_items PySem.F.type_dict_items DX.mt_itemsT ho hbase hline) pa_nil)
/-! in whatever order they were put in -/
theorem alike_keys (x y : List Int) : PySem.W.alike (tupI x) (tupI y) = true := by
  unfold tupI
  simp only [PySem.W.alike]
  exact PySem.W.alike_ints x y
/-! d.clear() -/
/-! the numbers of a paper, as pairs -/
end DL
/-! k01: shares and fractions known among all sorts of things -/
namespace DL
open PySem L2 PySem.Spec PyProof.Rows
/-! == of lists of unlike length -/
section
variable {K : PySem.W.Frag} {r : List Val} {m : Mm} {Q : Val → Mm → Prop}
/-- {'a': 1} -/
theorem ev_dispS {k : Str} {i : Int} (q : Q (.d (.dict [(.str k, .int i)])) m) : Ev K (tDisp [(tC (.str k), tC (.int i))]) r m Q := fun σ H G S L R kk p hp => by
  have hg := S.free hp
  refine ⟨upd_same, [(.inr k, .int i)], rfl, by show 1 ≤ 15; decide, ?_⟩
  rw [upd_upd]
  refine kk _ _ (upd G p (.dK [(.inr k, .int i)])) _ m q (S.fix hp) (Le.new hg) (.d ?_)
  rw [Rp]
  refine ⟨p, rfl, Or.inr ⟨_, upd_same, ?_⟩⟩
  rw [RpK]
  refine ⟨.inr k, .int i, [], rfl, rfl, by rw [Rp], ?_⟩
  rw [RpK]
end
/-! what may be shown -/
end DL
/-! so many of each: defs that call themselves, needs, the mean by what is still needed -/
namespace DL
open PySem L2
/-! slices of tuples of ints -/
/-! needs -/
structure NeedV (n : Nat) (v : List Nat) : Prop where
  len : v.length = n
  few : ∀ x ∈ v, x ≤ 3
def lessV (v : List Nat) (k : Nat) : List Nat := v.take k ++ [v.getD k 0 - 1] ++ v.drop (k + 1)
theorem lessV_set {v : List Nat} {k : Nat} (h : k < v.length) : lessV v k = v.set k (v.getD k 0 - 1) := by
  unfold lessV
  rw [List.set_eq_take_append_cons_drop, if_pos h, List.append_assoc]; rfl
theorem NeedV.less {n : Nat} {v : List Nat} (h : NeedV n v) {k : Nat} (hk : k < n) : NeedV n (lessV v k) := by
  have hk : k < v.length := by rw [h.len]; exact hk
  rw [lessV_set hk]
  refine ⟨by rw [List.length_set]; exact h.len, fun x hx => ?_⟩
  rcases List.mem_or_eq_of_mem_set hx with hx | hx
  · exact h.few x hx
  · have : v.getD k 0 ≤ 3 := by
      rw [List.getD_eq_getElem?_getD, List.getElem?_eq_getElem hk]
      exact h.few _ (List.getElem_mem hk)
    omega
/-! the mean by what is still needed -/
/-! bounds -/
theorem allS_filter : ∀ (n : Nat) (p : Nat → Bool), (List.range n).filter p ∈ allS n
  | 0, p => by simp [allS]
  | n + 1, p => by
    have ih := allS_filter n p
    rw [List.range_succ, List.filter_append]
    unfold allS
    by_cases h : p n = true
    · simp [h, ih]
    · simp [h, ih]
/-! what is known -/
structure TabN (n : Nat) (l : List (List Nat)) : Prop where
  nd : l.Nodup
  nv : ∀ v ∈ l, NeedV n v
  zero : List.replicate n 0 ∈ l
theorem nd_len {α : Type} [BEq α] [LawfulBEq α] : ∀ {l r : List α}, l.Nodup → (∀ x ∈ l, x ∈ r) → l.length ≤ r.length
  | [], r, _, _ => Nat.zero_le _
  | x :: l, r, hn, hs => by
    obtain ⟨h1, h2⟩ := List.nodup_cons.mp hn
    have := nd_len (r := r.erase x) h2 fun y hy => (List.mem_erase_of_ne (fun (e : y = x) => h1 (by rw [← e]; exact hy))).mpr (hs y (List.mem_cons_of_mem _ hy))
    have hx := hs x List.mem_cons_self
    have e := List.length_erase_of_mem hx
    have := List.length_pos_of_mem hx
    rw [List.length_cons]
    omega
def allN : Nat → List (List Nat)
  | 0 => [[]]
  | n + 1 => (allN n).flatMap fun v => (List.range 4).map fun x => x :: v
theorem allN_len : ∀ n, (allN n).length = 4 ^ n
  | 0 => rfl
  | n + 1 => by
    have ih := allN_len n
    unfold allN
    rw [Nat.pow_succ, ← ih]
    generalize allN n = l
    induction l with
    | nil => rfl
    | cons a t ih => rw [List.flatMap_cons, List.length_append, ih, List.length_cons, List.length_map, List.length_range]; omega
theorem need_mem : ∀ {n : Nat} {v : List Nat}, NeedV n v → v ∈ allN n
  | 0, [], _ => List.mem_singleton.mpr rfl
  | 0, x :: v, h => by have := h.len; simp at this
  | n + 1, [], h => by have := h.len; simp at this
  | n + 1, x :: v, h => List.mem_flatMap.mpr ⟨v, need_mem ⟨by have := h.len; simpa using this, fun y hy => h.few y (List.mem_cons_of_mem _ hy)⟩, List.mem_map.mpr ⟨x, List.mem_range.mpr (by have := h.few x List.mem_cons_self; omega), rfl⟩⟩
theorem TabN.len {n : Nat} (hn : n ≤ 5) {l : List (List Nat)} (h : TabN n l) : l.length ≤ 1024 := by
  refine Nat.le_trans (nd_len h.nd fun v hv => need_mem (h.nv v hv)) ?_
  rw [allN_len]
  exact Nat.pow_le_pow_right (by decide) hn
theorem TabN.add {n : Nat} {l : List (List Nat)} (h : TabN n l) {v : List Nat} (hv : NeedV n v) (hm : v ∉ l) : TabN n (l ++ [v]) :=
  ⟨List.nodup_append.mpr ⟨h.nd, by simp, fun a ha b hb => by rw [List.mem_singleton.mp hb]; exact fun e => hm (e ▸ ha)⟩, fun u hu => by
    rcases List.mem_append.mp hu with hu | hu
    · exact h.nv u hu
    · rw [List.mem_singleton.mp hu]; exact hv, List.mem_append_left _ h.zero⟩
theorem put_self {m : Mm} {a : Addr} {o : MO} (h : m a = some o) : put m a o = m := by
  funext b
  by_cases e : b = a
  · subst e; rw [put_same, h]
  · rw [put_ne e]
/-! (0,) * n as a key -/
/-! how many states, what is right -/
def stN : List Nat → Nat
  | [] => 1
  | x :: v => (x + 1) * stN v
end DL
/-! k23: the mean by needs, all states in order -/
namespace DL
open PySem L2
/-- a row as a number, base four -/
def val4 (s : List Nat) : Nat := s.foldl (fun a x => 4 * a + x) 0
structure Sts (v : List Nat) (l : List (List Nat)) : Prop where
  len : l.length = stN v
  mem : ∀ s ∈ l, s.length = v.length ∧ (∀ x ∈ s, x ≤ 3) ∧ s.sum ≤ v.sum ∧ ∀ k, k < s.length → lessV s k ∈ l
  up : l.Pairwise fun a b => val4 a < val4 b
  self : v ∈ l
theorem Sts.nodup {v : List Nat} {l : List (List Nat)} (h : Sts v l) : l.Nodup := h.up.imp fun hab e => by rw [e] at hab; exact absurd hab (Nat.lt_irrefl _)
end DL
/-! k24: so many draws with so many of each, by times: plain mathematics -/
namespace DL
open PySem L2 RZ
/-- how many ways to choose -/
def ch : Nat → Nat → Nat
  | _, 0 => 1
  | 0, _ + 1 => 0
  | n + 1, m + 1 => ch n m + ch n (m + 1)
/-! turn by turn -/
/-! the dict of a turn -/
def totF (F : List Nat → Int) (l : List (List Nat)) (φ : List Nat → Int) : Int := (l.map fun s => F s * φ s).sum
structure TabG (n : Nat) (F : List Nat → Int) (l : List (List Nat)) : Prop where
  nd : l.Nodup
  nv : ∀ s ∈ l, NeedV n s
  off : ∀ s, s ∉ l → F s = 0
  nn : ∀ s, 0 ≤ F s
theorem TabG.add {n : Nat} {F : List Nat → Int} {l : List (List Nat)} (h : TabG n F l) {t : List Nat} (ht : NeedV n t) {x : Int} (hx : 0 ≤ x) : TabG n (addF F (t, x)) (insL l t) := by
  have nn : ∀ s, 0 ≤ addF F (t, x) s := fun s => by
    have := h.nn s
    unfold addF
    split <;> omega
  unfold insL
  by_cases hm : t ∈ l
  · rw [if_pos hm]
    exact ⟨h.nd, h.nv, fun s hs => by
      have : s ≠ t := fun e => hs (e ▸ hm)
      simp [addF, this, h.off s hs], nn⟩
  · rw [if_neg hm]
    refine ⟨List.nodup_append.mpr ⟨h.nd, by simp, fun a ha b hb => by rw [List.mem_singleton.mp hb]; exact fun e => hm (e ▸ ha)⟩, fun s hs => ?_, fun s hs => ?_, nn⟩
    · rcases List.mem_append.mp hs with hs | hs
      · exact h.nv s hs
      · rw [List.mem_singleton.mp hs]; exact ht
    · have h1 : s ∉ l := fun z => hs (List.mem_append_left _ z)
      have h2 : s ≠ t := fun e => hs (by rw [e]; exact List.mem_append_right _ (List.mem_singleton.mpr rfl))
      simp [addF, h2, h.off s h1]
theorem TabG.len {n : Nat} (hn : n ≤ 5) {F : List Nat → Int} {l : List (List Nat)} (h : TabG n F l) : l.length ≤ 1024 := by
  refine Nat.le_trans (nd_len h.nd fun v hv => need_mem (h.nv v hv)) ?_
  rw [allN_len]
  exact Nat.pow_le_pow_right (by decide) hn
theorem tot_ge {F : List Nat → Int} (nn : ∀ s, 0 ≤ F s) : ∀ (l : List (List Nat)), 0 ≤ totF F l (fun _ => 1) ∧ ∀ s ∈ l, F s ≤ totF F l fun _ => 1
  | [] => ⟨Int.le_refl _, fun _ h => nomatch h⟩
  | a :: l => by
    obtain ⟨h1, h2⟩ := tot_ge nn l
    have ha := nn a
    have e : totF F (a :: l) (fun _ => 1) = F a + totF F l fun _ => 1 := by
      unfold totF
      rw [List.map_cons, List.sum_cons, Int.mul_one]
    rw [e]
    refine ⟨by omega, fun s hs => ?_⟩
    rcases List.mem_cons.mp hs with rfl | hs
    · omega
    · have := h2 s hs; omega
theorem TabG.le {n : Nat} {F : List Nat → Int} {l : List (List Nat)} (h : TabG n F l) (s : List Nat) : F s ≤ totF F l fun _ => 1 := by
  obtain ⟨h1, h2⟩ := tot_ge h.nn l
  by_cases hs : s ∈ l
  · exact h2 s hs
  · rw [h.off s hs]; exact h1
/-- what is left at nothing more to need -/
theorem tot_none {n : Nat} {F : List Nat → Int} : ∀ {l : List (List Nat)}, l.Nodup → (∀ s ∈ l, s.length = n) → totF F l (fun s => if s = List.replicate s.length 0 then 1 else 0) = if List.replicate n 0 ∈ l then F (List.replicate n 0) else 0
  | [], _, _ => rfl
  | a :: l, hn, hl => by
    obtain ⟨h1, h2⟩ := List.nodup_cons.mp hn
    have ih := tot_none (F := F) h2 fun s hs => hl s (List.mem_cons_of_mem _ hs)
    have e : totF F (a :: l) (fun s => if s = List.replicate s.length 0 then 1 else 0) = F a * (if a = List.replicate a.length 0 then 1 else 0) + totF F l fun s => if s = List.replicate s.length 0 then 1 else 0 := by
      unfold totF
      rw [List.map_cons, List.sum_cons]
    rw [e, ih, hl a List.mem_cons_self]
    by_cases ha : a = List.replicate n 0
    · subst ha
      rw [if_pos rfl, if_neg h1, if_pos List.mem_cons_self]
      omega
    · have : (List.replicate n 0 ∈ a :: l) ↔ List.replicate n 0 ∈ l := by
        rw [List.mem_cons]
        exact ⟨fun h => h.resolve_left fun e => ha e.symm, Or.inr⟩
      rw [if_neg ha, Int.mul_zero, Int.zero_add]
      simp only [this]
theorem TabG.none {n : Nat} {F : List Nat → Int} {l : List (List Nat)} (h : TabG n F l) : totF F l (fun s => if s = List.replicate s.length 0 then 1 else 0) = F (List.replicate n 0) := by
  rw [tot_none h.nd fun s hs => (h.nv s hs).len]
  by_cases hz : List.replicate n 0 ∈ l
  · rw [if_pos hz]
  · rw [if_neg hz, h.off _ hz]
/-! bounds -/
/-! rows -/
end DL
/-! comprehensions over what is not known ahead -/
namespace DL
open PySem L2
end DL
/-! pairs of a whole number and a tuple of ints, lists of such, these sorted -/
namespace DL
open PySem L2 PySem.Spec PyProof.Rows
def qP (i : Int) (ns : List Int) : Hp → V → Prop := fun G v => ∃ b c, v = .ref b ∧ G b = some (.tup [.int i, .ref c]) ∧ G c = some (.tup (ns.map V.int))
theorem qP.mono {i : Int} {ns : List Int} {v : V} (G G' : Hp) (e : Le G G') (h : qP i ns G v) : qP i ns G' v := by
  obtain ⟨b, c, h1, h2, h3⟩ := h
  exact ⟨b, c, h1, e _ _ h2, e _ _ h3⟩
def lqP (qs : List (Int × List Int)) : Hp → V → Prop := fun G v => ∃ (a : Addr) (bs : List (V × Int × List Int)), v = .ref a ∧ Rd G a (.lst (bs.map (·.1))) ∧ bs.map (·.2) = qs ∧ ∀ b ∈ bs, qP b.2.1 b.2.2 G b.1
theorem lqP.mono {qs : List (Int × List Int)} {v : V} (G G' : Hp) (e : Le G G') (h : lqP qs G v) : lqP qs G' v := by
  obtain ⟨a, bs, h1, h2, h3, h4⟩ := h
  exact ⟨a, bs, h1, e.rd h2, h3, fun b hb => (h4 b hb).mono _ _ e⟩
/-! sorted of such a list -/
end DL
/-! dicts whose keys are pairs of tuples of ints -/
namespace DL
open PySem L2 PySem.Spec PyProof.Rows
abbrev PK := List Int × List Int
def pkK (k : PK) : NestedKey := .tup [.tup (k.1.map NestedKey.num), .tup (k.2.map NestedKey.num)]
def PkAt (H : Hp) (b : Addr) (k : PK) : Prop := ∃ c d, H b = some (.tup [.ref c, .ref d]) ∧ H c = some (.tup (k.1.map V.int)) ∧ H d = some (.tup (k.2.map V.int))
theorem PkAt.keep {H H' : Hp} {b : Addr} {k : PK} (e : ∀ c xs, H c = some (.tup xs) → H' c = some (.tup xs)) (h : PkAt H b k) : PkAt H' b k := by
  obtain ⟨c, d, h1, h2, h3⟩ := h
  exact ⟨c, d, e _ _ h1, e _ _ h2, e _ _ h3⟩
theorem PkAt.mono {H H' : Hp} {b : Addr} {k : PK} (e : Le H H') (h : PkAt H b k) : PkAt H' b k := h.keep fun c xs z => e _ _ z
section
variable {P : Program} {w : World} {H : Hp} {h : Heap}
theorem nest_all : ∀ {ns : List Int} {us : List Value}, Vals (ns.map V.int) us → NestedAll h (ns.map NestedKey.num) us
  | [], us, r => by cases r; exact .nil
  | n :: ns, us, r => by
    cases r with
    | cons r1 r2 =>
      obtain ⟨t, rfl⟩ := r1
      exact .cons (.int n t) (nest_all r2)
theorem nest_ints {c : Addr} {ns : List Int} (ok : HOk P w H h) (e : H c = some (.tup (ns.map V.int))) : NestedIs h (.tup (ns.map NestedKey.num)) (.ref c) := by
  have hok := ok c _ e
  obtain ⟨_, us, r, o, g1, g2, n, g3⟩ := hok
  exact .tup g1 g2 g3 (by rw [List.toList_toArray]; exact nest_all r)
theorem depth_nums : ∀ ns : List Int, NestedKey.depthAll (ns.map NestedKey.num) = 0
  | [] => by simp [NestedKey.depthAll]
  | n :: ns => by simp [NestedKey.depthAll, NestedKey.depth, depth_nums ns]
theorem pk_is {b : Addr} {k : PK} (ok : HOk P w H h) (e : PkAt H b k) : (nestedKind P w).is h (pkK k) b := by
  obtain ⟨c, d, h1, h2, h3⟩ := e
  have hok := ok b _ h1
  obtain ⟨_, us, r, o, g1, g2, n, g3⟩ := hok
  refine ⟨.tup g1 g2 g3 ?_, ?_⟩
  · rw [List.toList_toArray]
    cases r with
    | cons r1 r2 =>
      cases r2 with
      | cons r3 r4 =>
        cases r4
        cases r1
        cases r3
        exact .cons (nest_ints ok h2) (.cons (nest_ints ok h3) .nil)
  · unfold pkK
    simp only [NestedKey.depth, NestedKey.depthAll, depth_nums]
    decide
end
abbrev PkE := PK × Addr × V
def PkR (p : PkE) (q : NestedKey × Addr × Value) : Prop := q.1 = pkK p.1 ∧ q.2.1 = p.2.1 ∧ RelV p.2.2 q.2.2
/-- the dict at a as one object -/
def pkO (P : Program) (w : World) (a : Addr) (es : List PkE) : HO := .ext fun h => (a == sysModules) = false ∧ ∃ xs, Paired PkR es xs ∧ ∃ o en ep, h.get? a = some o ∧ o.ExactDict ∧ o.data = .dict en ep ∧ en.toList = xs.map (entryOfKey (nestedKind P w)) ∧ (xs.map (·.1)).Nodup
def PkOb (P : Program) (w : World) (H : Hp) (a : Addr) (es : List PkE) : Prop := H a = some (pkO P w a es) ∨ es = [] ∧ H a = some (.dT [])
structure PkD (P : Program) (w : World) (H : Hp) (a : Addr) (es : List PkE) : Prop where
  obj : PkOb P w H a es
  keys : ∀ e ∈ es, PkAt H e.2.1 e.1
  few : es.length ≤ 100000
theorem PkD.dict {P : Program} {w : World} {H : Hp} {h : Heap} {a : Addr} {es : List PkE} (ok : HOk P w H h) (x : PkD P w H a es) : (a == sysModules) = false ∧ ∃ xs, Paired PkR es xs ∧ h.DictOfH (nestedKind P w) a xs := by
  rcases x.obj with e | ⟨rfl, e⟩
  · obtain ⟨⟨h0, xs, r, o, en, ep, g1, g2, g3, g4, g5⟩, _⟩ := (show ObjOk P w H h a (pkO P w a es) from ok a _ e)
    refine ⟨h0, xs, r, o, en, ep, g1, g2, g3, g4, fun y hy => ?_, g5⟩
    have all : ∀ {l : List PkE} {ys : List (NestedKey × Addr × Value)}, Paired PkR l ys → (∀ e ∈ l, PkAt H e.2.1 e.1) → ∀ y ∈ ys, (nestedKind P w).is h y.1 y.2.1 := fun {l ys} r => by
      induction r with
      | nil => exact fun _ _ z => nomatch z
      | @cons p q ps qs hpq _ ih =>
        intro hk y hy
        rcases List.mem_cons.mp hy with rfl | hy
        · obtain ⟨e1, e2, _⟩ := hpq
          rw [e1, e2]
          exact pk_is ok (hk p List.mem_cons_self)
        · exact ih (fun e he => hk e (List.mem_cons_of_mem _ he)) y hy
    exact all r x.keys y hy
  · obtain ⟨z, y, xs, r, o, en, ep, g1, g2, g3, g4, _⟩ := (show ObjOk P w H h a (.dT []) from ok a _ e)
    cases r
    exact ⟨y, [], .nil, o, en, ep, g1, g2, g3, g4, (fun _ z => nomatch z), List.nodup_nil⟩
/-! readings and rules -/
section
variable {X : Cx} {o i value : Expr} {pos pos' : Pos} {td ty tv : TE} {j : Nat} {P : Program} {w : World}
theorem pk_room {A : Around} (hr : Room j A) : (nestedKind P w).room A.in1 := by
  have := hr.un
  show A.units + 1 + 8 < cLine
  omega
end
/-! at the level of data -/
def pkP (k : PK) : Hp → V → Prop := fun G v => ∃ b, v = .ref b ∧ PkAt G b k
theorem pkP.mono {k : PK} {v : V} (G G' : Hp) (e : Le G G') (h : pkP k G v) : pkP k G' v := by
  obtain ⟨b, h1, h2⟩ := h
  exact ⟨b, h1, h2.mono e⟩
end DL
/-! what the second gatherer lacks when the first one has all -/
namespace DL
open PySem L2
theorem kinds_filter {n : Nat} {s : List Nat} (h : Kinds n s) : (List.range n).filter (fun x => decide (x ∈ s)) = s := by
  have n1 : ((List.range n).filter fun x => decide (x ∈ s)).Nodup := List.nodup_range.filter _
  have n2 : s.Nodup := h.up.imp fun e => Nat.ne_of_lt e
  have hp : ((List.range n).filter fun x => decide (x ∈ s)).Perm s := (List.perm_ext_iff_of_nodup n1 n2).mpr fun x => by
    rw [List.mem_filter, List.mem_range, decide_eq_true_eq]
    exact ⟨fun z => z.2, fun z => ⟨h.lt x z, z⟩⟩
  exact hp.eq_of_pairwise (fun a b _ _ h1 h2 => by omega) (List.pairwise_lt_range.filter _) h.up
theorem kinds_allS {n : Nat} {s : List Nat} (h : Kinds n s) : s ∈ allS n := by
  rw [← kinds_filter h]
  exact allS_filter n _
/-! the tables -/
abbrev PN := List Nat × List Nat
structure TabK (n : Nat) (l : List PN) : Prop where
  nd : l.Nodup
  gs : ∀ k ∈ l, Kinds n k.1 ∧ Kinds n k.2
theorem TabK.len {n : Nat} (hn : n ≤ 5) {l : List PN} (h : TabK n l) : l.length ≤ 1024 := by
  have hm : ∀ k ∈ l, k ∈ (allS n).flatMap fun a => (allS n).map fun b => (a, b) := fun k hk => List.mem_flatMap.mpr ⟨k.1, kinds_allS (h.gs k hk).1, List.mem_map.mpr ⟨k.2, kinds_allS (h.gs k hk).2, rfl⟩⟩
  refine Nat.le_trans (nd_len h.nd hm) ?_
  have hl : ∀ (x y : List (List Nat)), (x.flatMap fun a => y.map fun b => (a, b)).length = x.length * y.length := fun x y => by
    induction x with
    | nil => simp
    | cons a t ih => rw [List.flatMap_cons, List.length_append, ih, List.length_map, List.length_cons, Nat.succ_mul, Nat.add_comm]
  rw [hl, allS_len]
  have : 2 ^ n ≤ 2 ^ 5 := Nat.pow_le_pow_right (by decide) hn
  exact Nat.mul_le_mul this this
theorem TabK.put {n : Nat} {l l' : List PN} (h : TabK n l) {k : PN} (hk : Kinds n k.1 ∧ Kinds n k.2) (hs : ∀ x ∈ l', x ∈ l ∨ x = k) (hn : l.Nodup → l'.Nodup) : TabK n l' := ⟨hn h.nd, fun x hx => by
  rcases hs x hx with hx | rfl
  · exact h.gs x hx
  · exact hk⟩
/-! the words -/
end DL
/-! list.sort of tuples of which the first one is empty -/
/-! list(d), sorted(d), dict(d) of a dict with tuple keys -/
namespace DL
open PySem L2 PySem.Spec PyProof.Rows
theorem raw_keys {P : Program} {w : World} {xs : List (List Key × Addr × Value)} {en : Array DictEntry} (hes : en.toList = xs.map (entryOfKey (tupleKind (mixKind P w)))) {acc : Array Value} (h : PySem.ItemsOf (fun i v => ∃ hi : i < en.size, v = en[i].key) acc en.size) : acc.toList = xs.map fun x => Value.ref x.2.1 := by
  obtain ⟨h1, h2⟩ := h
  have hl : en.size = xs.length := size_of_entries hes
  refine List.ext_getElem? fun j => ?_
  by_cases hj : j < xs.length
  · have ha : j < acc.size := by omega
    have e1 : acc[j]? = some acc[j] := Array.getElem?_eq_getElem ha
    obtain ⟨hi, e2⟩ := h2 j _ e1
    have e3 : en[j]? = some en[j] := Array.getElem?_eq_getElem hi
    rw [entry_at hes j, List.getElem?_eq_getElem hj] at e3
    have e4 := Option.some.inj e3
    rw [Array.getElem?_toList, e1, e2, List.getElem?_map, List.getElem?_eq_getElem hj, ← e4]
    rfl
  · rw [List.getElem?_eq_none (by rw [Array.length_toList]; omega), List.getElem?_eq_none (by rw [List.length_map]; omega)]
theorem kt_keys {H : Hp} {kvs : List (List Key × V)} {xs : List (List Key × Addr × Value)} (r : KT H kvs xs) : xs.map (·.1) = kvs.map (·.1) ∧ ∀ x ∈ xs, H x.2.1 = some (.tup (x.1.map kV)) := by
  induction r with
  | nil => exact ⟨rfl, fun _ z => nomatch z⟩
  | @cons p q ps qs hq _ ih =>
    refine ⟨by rw [List.map_cons, List.map_cons, ih.1, hq.1], fun x hx => ?_⟩
    rcases List.mem_cons.mp hx with rfl | hx
    · rw [← hq.1]; exact hq.2.1
    · exact ih.2 x hx
/-! list(d) -/
/-! sorted(d) -/
theorem each_refs (zs : List (Addr × List Int)) : PySem.W.EachIs (fun (v : Value) (b : Addr × List Int) => v = .ref b.1) (zs.map fun z => Value.ref z.1) zs := by
  induction zs with
  | nil => exact .nil
  | cons a t ih => exact .cons rfl ih
end DL
/-! dict(d), and these at the level of data -/
namespace DL
open PySem L2 PySem.Spec PyProof.Rows
/-- dict(d): what the library says of filling a dict by another one, on a dict just made -/
theorem dict_ofH {prog : Program} {w : World} {K : Type} [DecidableEq K] {knd : HeapKind prog w K} {A : Around} {E : Value → Shared → Prop} {s : Shared} {o : Addr} {more : List (K × Addr × Value)} {Q : Value → Shared → Prop} (hu : ∀ B : Around, B.units ≤ A.units + 3 → knd.room B) (hoS : (o == sysModules) = false) (ho : s.heap.DictOfH knd o more)
    (hkp : ∀ x ∈ more, knd.is (s.heap.push { cls := .type "dict", data := .dict #[] }) x.1 x.2.1) (hty : ∀ x ∈ more, s.TypeIs (.ref x.2.1) "tuple") (hap : (more.map fun x => knd.hash x.1).Nodup) (hsz : more.length ≤ sizeLine)
    (h : ∀ h', h'.DictOfH knd s.heap.objs.size more → Heap.SameBut s.heap.objs.size (s.heap.push { cls := .type "dict", data := .dict #[] }) h' → Q (.ref s.heap.objs.size) { s with heap := h' }) :
    wpAny (model prog w) A (call (.type "dict") [.ref o]) Q E s := by
  have up : ∀ b u, s.heap.get? b = some u → (s.heap.push { cls := .type "dict", data := .dict #[] }).get? b = some u := fun b u e => Heap.get?_push_of_some _ e
  have d0 := Heap.DictOfH.new (knd := knd) s.heap
  have d1 := ho.at' (up o) hkp
  have apart : s.heap.objs.size ≠ o := fun e => by
    obtain ⟨u, _, _, g, _⟩ := ho
    exact Nat.lt_irrefl _ (e ▸ Heap.lt_size g)
  have types : ∀ x ∈ more, ({ s with heap := s.heap.push { cls := .type "dict", data := .dict #[] } } : Shared).TypeIs (.ref x.2.1) "tuple" := fun x hx => (hty x hx).imp fun u z => ⟨up _ _ z.1, z.2⟩
  refine callType_codes (Q₁ := fun v t => v = .ref s.heap.objs.size ∧ t = { s with heap := s.heap.push { cls := .type "dict", data := .dict #[] } }) F.kt_called_dict (F.kt_typeCall_dict_1 _) F.entry_dict_init (kt_code_dict_new _ ⟨rfl, rfl⟩) fun v t e => ?_
  obtain ⟨rfl, rfl⟩ := e
  refine ⟨d0.typeIs, F.args_dict_init_2 _ _, ?_⟩
  unfold Builtin.«dict.__init__» Builtin.Dict.selfAndRest
  refine wpAny_bind (wpAny_bind (wpAny_notOrdered_dict d0.typeIs (wpAny_pure ?_)))
  show wpAny _ A.in1.in1 (Builtin.Dict.updateFrom "dict.__init__" _ (.ref o) [] .none) _ _ _
  refine updateFrom_dictH (A := A.in1) (kvs := []) .none (hu _ (by show A.units + 1 + 1 ≤ _; omega)) apart hoS d0 d1 (.inr ⟨types, hap⟩) (by rw [List.length_nil, Nat.zero_add]; exact hsz) fun h' hd _ hs => ⟨rfl, h h' ?_ hs⟩
  rwa [storedAllH_nil_of_nodup more ho.nodup] at hd
def hI (ns : List Int) : Int := reduceHash (Builtin.Tuple.tupleHashOf (ns.map hashInt))
theorem hash_kI (P : Program) (w : World) (ns : List Int) : (tupleKind (mixKind P w)).hash (kI ns) = hI ns := by
  show reduceHash (Builtin.Tuple.tupleHashOf ((kI ns).map (mixKind P w).hash)) = _
  unfold kI hI
  rw [List.map_map]
  rfl
def rDictC : List V → Hp → VK → Prop := fun vs H Q => ∃ (a : Addr) (kvs : List (List Int × V)), vs = [.ref a] ∧ H a = some (.dT (kvs.map fun e => (kI e.1, e.2))) ∧ (kvs.map fun e => hI e.1).Nodup ∧
  ∀ p, H p = none → Q (.ref p) (upd H p (.dT (kvs.map fun e => (kI e.1, e.2))))
theorem cr_dictC {X : Cx} (hu : X.A.units + 64 < cLine) : CallR X (.type "dict") rDictC := by
  rintro pins s σ H vs us Q I r ⟨a, kvs, rfl, ha, hap, q⟩
  obtain rfl := Vals.ref1 r
  obtain ⟨z, lo, xs, rel, dd⟩ := dt_of I.hok ha
  obtain ⟨k1, k2⟩ := kt_keys rel
  have hl : xs.length = (kvs.map fun e => (kI e.1, e.2)).length := (Paired.length rel).symm
  refine dict_ofH (knd := tupleKind (mixKind X.prog X.w)) (fun B hB => show B.units < cLine by omega) lo dd (fun x hx => ?_) (fun x hx => ?_) ?_ (by rw [hl]; exact z) fun h' hd hs => ?_
  · obtain ⟨_, _, _, _, _, _, _, his, _⟩ := id dd
    obtain ⟨o', its', n', w1, w2⟩ := his x hx
    exact ⟨o', its', n', Heap.get?_push_of_some _ w1, w2⟩
  · obtain ⟨_, its, rv, o, g1, g2, n, g3⟩ := (show ObjOk X.prog X.w H s.heap x.2.1 (.tup (x.1.map kV)) from I.hok x.2.1 _ (k2 x hx))
    exact ⟨o, g1, g2⟩
  · have : (xs.map fun x => (tupleKind (mixKind X.prog X.w)).hash x.1) = kvs.map fun e => hI e.1 := by
      rw [show (xs.map fun x => (tupleKind (mixKind X.prog X.w)).hash x.1) = (xs.map (·.1)).map (tupleKind (mixKind X.prog X.w)).hash by rw [List.map_map]; rfl, k1, List.map_map, List.map_map]
      exact List.map_congr_left fun e _ => hash_kI _ _ _
    rw [this]; exact hap
  · have hf : H s.heap.objs.size = none := I.hok.fresh (Nat.le_refl _)
    have big : (s.heap.objs.size == sysModules) = false := beq_eq_false_iff_ne.mpr (Nat.ne_of_gt I.big)
    have stay : ∀ {l : List (List Key × V)} {l2 : List (List Key × Addr × Value)} {o : HO}, KT H l l2 → KT (upd H s.heap.objs.size o) l l2 := fun z => by
      induction z with
      | nil => exact .nil
      | cons h _ ih => exact .cons ⟨h.1, by rw [upd_ne (ne_of_none h.2.1 hf)]; exact h.2.1, h.2.2⟩ ih
    have ok : ObjOk X.prog X.w (upd H s.heap.objs.size (.dT (kvs.map fun e => (kI e.1, e.2)))) h' s.heap.objs.size (.dT (kvs.map fun e => (kI e.1, e.2))) := by
      obtain ⟨o1, es, ep, q1, q2, q3, q4, q5, q6⟩ := hd
      exact ⟨z, big, xs, stay rel, o1, es, ep, q1, q2, q3, q4, q6⟩
    exact ⟨.ref s.heap.objs.size, _, I.laid (t' := s.toks) (fun b u e => (hs.2 b (Nat.ne_of_lt (Heap.lt_size e))).trans (Heap.get?_push_of_some _ e)) (Nat.le_refl _) ok, rfl, q _ hf⟩
theorem kDictC {X : Cx} {j : Nat} (hr : Room j X.A) : CallR X (.type "dict") rDictC := cr_dictC (by have := hr.un; omega)
/-! at the level of data -/
section
variable {K : PySem.W.Frag} {m : Mm} {Q : Val → Mm → Prop}
theorem tall_zs {G : Hp} : ∀ {zs : List (Addr × List Int)}, (∀ z ∈ zs, G z.1 = some (.tup (z.2.map V.int))) → TAll G (zs.map (·.2)) (zs.map fun z => V.ref z.1)
  | [], _ => rfl
  | z :: zs, h => ⟨z.1, _, rfl, h z List.mem_cons_self, tall_zs fun y hy => h y (List.mem_cons_of_mem _ hy)⟩
theorem KVs.keyI {G : Hp} : ∀ {kvs : List (List Int × Val)} {es : List (List Key × V)}, KVs K G (dI kvs) es → ∃ ks : List (List Int × V), es = ks.map (fun e => (kI e.1, e.2)) ∧ ks.map (·.1) = kvs.map (·.1)
  | [], es, h => ⟨[], h, rfl⟩
  | (k, z) :: kvs, es, h => by
    obtain ⟨v, u, rfl, h2, h3⟩ := h
    obtain ⟨ks, rfl, e⟩ := KVs.keyI h3
    exact ⟨(k, v) :: ks, rfl, by rw [List.map_cons, List.map_cons, e]⟩
theorem keys_in {H G : Hp} (S : Sta K m H G) {zs : List (Addr × List Int)} (h : ∀ z ∈ zs, H z.1 = some (.tup (z.2.map V.int))) : ∃ G', Sta K m H G' ∧ Le G G' ∧ ∀ z ∈ zs, G' z.1 = some (.tup (z.2.map V.int)) := by
  obtain ⟨S', hle⟩ := S.all
  refine ⟨_, S', hle, fun z hz => ?_⟩
  show (if m z.1 = none then H z.1 else none) = _
  rw [if_pos (S.notTup (h z hz))]
  exact h z hz
theorem on_dictC {p : Addr} {kvs : List (List Int × Val)} (hm : m p = some (.dT (dI kvs))) (hh : (kvs.map fun e => hI e.1).Nodup) (q : ∀ p', m p' = none → Q (.v (.ref p')) (put m p' (.dT (dI kvs)))) : OpN K rDictC [.v (.ref p)] m Q := fun H G vs S a R k => by
  obtain ⟨v, rfl, hv⟩ := vrs1 a
  obtain rfl := hv.eq
  obtain ⟨es, g1, g2⟩ := S.mem p _ hm
  obtain ⟨ks, rfl, e⟩ := KVs.keyI g2
  refine ⟨p, ks, rfl, g1, ?_, fun l hl => ?_⟩
  · have : (ks.map fun e => hI e.1) = kvs.map fun e => hI e.1 := by
      have := congrArg (List.map hI) e
      rw [List.map_map, List.map_map] at this
      exact this
    rw [this]; exact hh
  · exact k _ _ G _ _ (q l (S.freeM hl)) (S.new hl ⟨_, upd_same, g2⟩) (Le.refl G) .v
end
end DL
namespace DL
open PySem L2
instance (i : Int) (k : Nat) : Decidable (Bt i k) := by unfold Bt; infer_instance
instance (q : Rat) (a : Nat) : Decidable (FrB q a) := by unfold FrB; infer_instance
end DL
/-! repr of any data; the end of a law that knows that sys.modules stands ahead of it -/
namespace DL
open PySem L2 PySem.Spec PyProof.Rows L2H
def SysAt (base : Heap) : Prop := ∃ mm, base.Ns sysModules mm
section
variable {X : Cx} {pins : List (Addr × Obj)} {σ : L2.St} {H : Hp} {s : Shared}
theorem sys_ne (I : Inv X pins σ H s) (hs : SysAt X.base) {a : Addr} (h : ∃ o, H a = some o) : a ≠ sysModules := fun e => by
  obtain ⟨mm, o, _, _, ho, _⟩ := hs
  have := (I.bs _ _ ho).2
  obtain ⟨u, hu⟩ := h
  rw [e, this] at hu
  cases hu
mutual
theorem rdA (I : Inv X pins σ H s) (hs : SysAt X.base) : ∀ (d : PyData) (v : V) (u : Value), Rp X.K H d v → RelV v u → ∃ as, Reads s.heap u d as ∧ sysModules ∉ as
  | .none, v, u, h, r => by
    rw [rp_none.mp h] at r; cases r
    exact ⟨[], Reads.none, fun z => nomatch z⟩
  | .bool b, v, u, h, r => by
    rw [rp_bool.mp h] at r; cases r
    exact ⟨[], Reads.bool b, fun z => nomatch z⟩
  | .int i, v, u, h, r => by
    rw [rp_int.mp h] at r
    obtain ⟨t, rfl⟩ := r
    exact ⟨[], Reads.int i t, fun z => nomatch z⟩
  | .str x, v, u, h, r => by
    rw [rp_str.mp h] at r
    obtain ⟨t, rfl⟩ := r
    exact ⟨[], Reads.str x t, fun z => nomatch z⟩
  | .list ds, v, u, h, r => by
    obtain ⟨a, xs, rfl, h2, h3⟩ := rp_list.mp h
    cases r
    obtain ⟨z, its, n, rv, hl, e⟩ := rd_list I h2
    obtain ⟨as, hr, hns⟩ := rdAAll I hs ds xs its h3 rv
    refine ⟨a :: as, Reads.list e rfl rfl (by rw [List.toList_toArray]; exact hr), fun z => ?_⟩
    rcases List.mem_cons.mp z with z | z
    · exact sys_ne I hs (by rcases h2 with h2 | ⟨_, h2⟩ <;> exact ⟨_, h2⟩) z.symm
    · exact hns z
  | .tuple ds, v, u, h, r => by
    obtain ⟨a, xs, rfl, h2, h3⟩ := rp_tuple.mp h
    cases r
    obtain ⟨its, rv, ⟨o, ho, hc, n2, hd⟩, _⟩ := I.tuple h2
    obtain ⟨as, hr, hns⟩ := rdAAll I hs ds xs its h3 rv
    exact ⟨as, Reads.tuple ho hc hd hr, hns⟩
  | .dict kvs, v, u, h, r => by
    rw [Rp] at h
    obtain ⟨a, rfl, h⟩ := h
    cases r
    rcases h with ⟨es, h1, h2⟩ | ⟨es, h1, h2⟩
    · obtain ⟨_, hd, xs, rel, o, es2, ep, g1, g2, g3, g4, _⟩ := dt_rd I.hok (.inl h1)
      obtain ⟨as, bs, q1, q2, q3, q4⟩ := rdAT I hs kvs es xs h2 rel
      refine ⟨a :: as ++ bs, Reads.dict g1 g2.1 g3 ?_ ?_, ?_⟩
      · rw [g4, List.map_map]; exact q1
      · rw [g4, List.map_map]; exact q2
      · intro z
        rcases List.mem_append.mp z with z | z
        · rcases List.mem_cons.mp z with z | z
          · rw [z] at hd; simp at hd
          · exact q3 z
        · exact q4 z
    · obtain ⟨_, hd, vs, rel, o, es2, ep, g1, g2, g3, _, g4, _⟩ := dk_rd I.hok (.inl h1)
      obtain ⟨as, bs, q1, q2, q3, q4⟩ := rdAK I hs kvs es vs es2.toList h2 rel g4
      refine ⟨a :: as ++ bs, Reads.dict g1 g2.1 g3 q1 q2, ?_⟩
      intro z
      rcases List.mem_append.mp z with z | z
      · rcases List.mem_cons.mp z with z | z
        · rw [z] at hd; simp at hd
        · exact q3 z
      · exact q4 z
theorem rdAAll (I : Inv X pins σ H s) (hs : SysAt X.base) : ∀ (ds : List PyData) (vs : List V) (us : List Value), RpAll X.K H ds vs → Vals vs us → ∃ as, ReadsAll s.heap us ds as ∧ sysModules ∉ as
  | [], vs, us, h, r => by
    rw [rpa_nil.mp h] at r; cases r
    exact ⟨[], ReadsAll.nil, fun z => nomatch z⟩
  | d :: ds, vs, us, h, r => by
    obtain ⟨x, t, rfl, h2, h3⟩ := rpa_cons.mp h
    cases r with
    | cons r1 r2 =>
      obtain ⟨as, q1, q2⟩ := rdA I hs d x _ h2 r1
      obtain ⟨bs, q3, q4⟩ := rdAAll I hs ds t _ h3 r2
      exact ⟨as ++ bs, ReadsAll.cons q1 q3, fun z => (List.mem_append.mp z).elim q2 q4⟩
theorem rdAT (I : Inv X pins σ H s) (hs : SysAt X.base) : ∀ (kvs : List (PyData × PyData)) (es : List (List Key × V)) (xs : List (List Key × Addr × Value)), RpT X.K H kvs es → KT H es xs →
    ∃ as bs, ReadsAll s.heap (xs.map fun x => Value.ref x.2.1) (kvs.map (·.1)) as ∧ ReadsAll s.heap (xs.map fun x => x.2.2) (kvs.map (·.2)) bs ∧ sysModules ∉ as ∧ sysModules ∉ bs
  | [], es, xs, h, r => by
    rw [RpT] at h
    subst h
    cases r
    exact ⟨[], [], ReadsAll.nil, ReadsAll.nil, (fun z => nomatch z), (fun z => nomatch z)⟩
  | (k, d) :: kvs, es, xs, h, r => by
    rw [RpT] at h
    obtain ⟨ks, v, t, rfl, rfl, h2, h3⟩ := h
    cases r with
    | @cons p q ps qs hq r2 =>
      obtain ⟨e1, e2, e3⟩ := hq
      obtain ⟨as, q1, q2⟩ := rdA I hs d v _ h2 e3
      obtain ⟨cs, bs, q3, q4, q5, q6⟩ := rdAT I hs kvs t qs h3 r2
      exact ⟨[] ++ cs, as ++ bs, ReadsAll.cons (tup_reads I e2) q3, ReadsAll.cons q1 q4, q5, fun z => (List.mem_append.mp z).elim q2 q6⟩
theorem rdAK (I : Inv X pins σ H s) (hs : SysAt X.base) : ∀ (kvs : List (PyData × PyData)) (es : List (Key × V)) (vs : List (Key × Value)) (en : List DictEntry), RpK X.K H kvs es → KV es vs → Pairs (mixKind X.prog X.w) en vs →
    ∃ as bs, ReadsAll s.heap (en.map (·.key)) (kvs.map (·.1)) as ∧ ReadsAll s.heap (en.map (·.val)) (kvs.map (·.2)) bs ∧ sysModules ∉ as ∧ sysModules ∉ bs
  | [], es, vs, en, h, r, p => by
    rw [RpK] at h
    subst h
    cases r
    cases p
    exact ⟨[], [], ReadsAll.nil, ReadsAll.nil, (fun z => nomatch z), (fun z => nomatch z)⟩
  | (k, d) :: kvs, es, vs, en, h, r, p => by
    rw [RpK] at h
    obtain ⟨ks, v, t, rfl, rfl, h2, h3⟩ := h
    cases r with
    | @cons p1 q ps qs hq r2 =>
      obtain ⟨e1, e3⟩ := hq
      cases p with
      | @cons e kv es2 kvs2 g1 g2 g3 =>
        obtain ⟨as, q1, q2⟩ := rdA I hs d v _ h2 e3
        obtain ⟨cs, bs, q3, q4, q5, q6⟩ := rdAK I hs kvs t qs es2 h3 r2 g3
        have kr : Reads s.heap e.key (keyD ks) [] := by
          have e1 : ks = q.1 := e1
          rw [e1]
          rcases keyIs_shape g1 with ⟨i, tk, e5, e4⟩ | ⟨x, tk, e5, e4⟩
          · rw [e5, e4]; exact Reads.int i tk
          · rw [e5, e4]; exact Reads.str x tk
        rw [← g2] at q1
        exact ⟨[] ++ cs, as ++ bs, ReadsAll.cons kr q3, ReadsAll.cons q1 q4, q5, fun z => (List.mem_append.mp z).elim q2 q6⟩
end
end
def rReprA (K : PySem.W.Frag) : List V → Hp → VK → Prop := fun xs H Q => ∃ v d, xs = [v] ∧ Rp K H d v ∧ d.depth ≤ 64 ∧ d.showable = true ∧ d.shown.length ≤ sizeLine ∧ Q (.str d.shown) H
theorem cReprA {X : Cx} {k : Nat} (hr : Room k X.A) (hg : X.A.guards = some []) (hs : SysAt X.base) : CallR X (.builtin "repr") (rReprA X.K) := by
  intro pins s σ H xs us Q I r h
  obtain ⟨v, d, rfl, hd, h1, h2, h3, q⟩ := h
  by_cases hdd : d.hasDict = true
  · obtain ⟨u, rfl, rx⟩ := vals1 r
    obtain ⟨as, rd, ns⟩ := rdA I hs d _ u hd rx
    have := hr.un
    have hv : ∃ a, v = V.ref a := by
      cases d with
      | list ds => obtain ⟨a, _, e, _⟩ := rp_list.mp hd; exact ⟨a, e⟩
      | tuple ds => obtain ⟨a, _, e, _⟩ := rp_tuple.mp hd; exact ⟨a, e⟩
      | dict kvs => rw [Rp] at hd; obtain ⟨a, e, _⟩ := hd; exact ⟨a, e⟩
      | _ => simp [PyData.hasDict] at hdd
    obtain ⟨a, rfl⟩ := hv
    cases rx
    exact repr_of_reads' rd h2 (fun _ => ns) hg (by omega) (fun _ _ e => e) (fun h' u tk hk => ⟨.str _, H, I.kept hk, ⟨_, rfl⟩, q⟩) h3
  · exact cRepr hr hg pins s σ H [v] us Q I r ⟨v, d, rfl, hd, by simpa using hdd, h1, h2, h3, q⟩
structure ShA (x : PyData) : Prop where
  dp : x.depth ≤ 64
  sh : x.showable = true
  ln : x.shown.length ≤ 16777216
section
variable {K : PySem.W.Frag} {m : Mm} {Q : Val → Mm → Prop}
theorem on_showN {x : PyData} (h : ShA x) (q : Q (.d (.str x.shown)) m) : OpN K (rReprA K) [.d x] m Q := fun H G vs S a R kk => by
  obtain ⟨v, rfl, hv⟩ := vrs1 a
  exact ⟨v, x, rfl, Rp.mono S.sub _ _ hv.rp, h.dp, h.sh, by rw [sizeLine_eq]; exact h.ln, kk _ H G _ m q S (Le.refl G) vr_str⟩
end
theorem Sh.toA {x : PyData} {k n : Nat} (h : Sh x k n) (h1 : k ≤ 64) (h2 : n ≤ 16777216) : ShA x := ⟨Nat.le_trans h.dp h1, h.sh, Nat.le_trans h.ln h2⟩
section
variable {P : Program} {w : World} {K : PySem.W.Frag} {mg mb : Str → Option Value} {k : Nat} {fa a : Addr} {fd : FuncData} {x : Str} {sp : FSp} {s1 : Shared} {vs : List Value} {ns : List Int}
/-- what the law's def is asked at the heap behind the top: the script alone is known -/
theorem law_coreS (KX : K.In s1.heap) (hns : s1.heap.Ns mainGlobals mg) (hb : s1.heap.Ns builtinsNs mb) (hbb : ∀ x : Str, x ≠ "__name__" → mb x = bootBuiltins x) (hlim : s1.heap.NoLimit) (hgs : s1.gens = #[])
    (ha : s1.heap.get? a = some { cls := .type "list", data := .seq vs.toArray }) (hr : Room k callerA)
    (hsy : SysAt s1.heap) (F : ∀ base : Heap, K.In base → base.Ns mainGlobals mg → SysAt base → FnG P w K mg base k fa fd [x] (spD K sp)) (hbind : ∀ (s : Shared) (u : Value), BindsTo s fd ⟨[u], []⟩ [(x, u)])
    (hsp : sp [.scr ns] (fun _ => none) fun y _ => y = .d (.bool true))
    (H : Hp) (hO : Only H) (hS : SqL K H a (ns.map V.int)) (hok : HOk P w H s1.heap) (hA : ∀ b, H b ≠ none → b = a) (hK : H a ≠ none → K.lookup a = none) :
    codeAny (model P w) callerA (.call (.ref fa) ⟨[.ref a], []⟩) (fun r s' => r = .ok (.ret (.bool true)) ∧ OldK s1.heap s'.heap ∧ s'.os = s1.os ∧ PyProof.Rows.AllBare s'.gens) s1 := by
  have baseOf : ∀ {b : Addr} {o : Obj}, s1.heap.get? b = some o → H b = none → (hidT s1.heap H).get? b = some o := hidT_get
  have free : ∀ {b : Addr} {o : Obj} {es : Array DictEntry} {ep : Nat}, s1.heap.get? b = some o → o.data = .dict es ep → H b = none := fun {b o es ep} e d => by
    cases q : H b with
    | none => rfl
    | some u =>
      obtain rfl : b = a := hA b fun z => by rw [q] at z; cases z
      rw [ha] at e
      cases e
      exact absurd d fun z => nomatch z
  have nsK : ∀ {b : Addr} {m : Str → Option Value}, s1.heap.Ns b m → (hidT s1.heap H).Ns b m := fun ⟨o, es, ep, e, d, z⟩ => ⟨o, es, ep, baseOf e (free e d), d, z⟩
  have kB : K.In (hidT s1.heap H) := fun b o e => baseOf (KX b o e) (by
    cases q : H b with
    | none => rfl
    | some u =>
      obtain rfl : b = a := hA b fun z => by rw [q] at z; cases z
      rw [hK fun z => by rw [q] at z; cases z] at e
      cases e)
  have e0 : Env0 P w K mg (hidT s1.heap H) callerA [] s1 H := by
    refine ⟨rfl, ⟨kB, nsK hns, ⟨mb, nsK hb, hbb⟩, ?_⟩, fun b o e => of_hidT e, Nat.le_of_eq (hidT_size _ _), trivial, fun b z => ?_, hok, .of_eq hgs⟩
    · obtain ⟨mc, z1, z2⟩ := hlim
      exact ⟨mc, nsK z1, z2⟩
    · exact nomatch (show b ∈ ([] : List Addr) from z)
  have hs : spD K sp [.ref a] H (fun v _ => v = .bl true) fun _ _ _ => False := by
    refine ⟨fun _ => none, H, [.scr ns], fun y _ => y = .d (.bool true), ⟨fun _ _ e => e, (fun _ _ e => nomatch e), (fun _ _ e => nomatch e)⟩, ⟨_, [], rfl, .scr hS, rfl⟩, hsp, ?_⟩
    intro v H' G' y m' hy _ _ hv
    subst hy
    exact rp_bool.mp hv.rp
  refine codeAny_mono ((F _ kB (nsK hns) (let ⟨mm, z⟩ := hsy; ⟨mm, nsK z⟩)).run callerA [] s1 H ⟨[.ref a], []⟩ [.ref a] [.ref a] _ _ rfl hr e0 (hbind s1 (.ref a)) (.cons rfl .nil) hs) fun r s' h => ?_
  cases r with
  | error e => exact False.elim h
  | ok fl =>
    cases fl with
    | next => exact False.elim h
    | brk => exact False.elim h
    | cont => exact False.elim h
    | ret u =>
      obtain ⟨v, H', os, bare, un, hok', rv, q⟩ := h
      have q : v = .bl true := q
      subst q
      obtain rfl : u = Value.bool true := rv
      refine ⟨rfl, OldK.of_keep fun b o e => ?_, os, bare⟩
      cases q : H b with
      | none => exact un.keep b o e q (fun z => nomatch (show b ∈ ([] : List Addr) from z)) (fun z => nomatch z)
      | some y =>
        rcases hO b with z | ⟨ob, xs, z⟩
        · rw [q] at z; cases z
        · obtain ⟨e1, _⟩ := hok b _ z
          obtain ⟨e2, _⟩ := hok' b _ (un.frzs b ob _ z)
          rw [e] at e1
          cases e1
          exact e2
theorem law_runS (KX : K.In s1.heap) (hns : s1.heap.Ns mainGlobals mg) (hb : s1.heap.Ns builtinsNs mb) (hbb : ∀ x : Str, x ≠ "__name__" → mb x = bootBuiltins x) (hlim : s1.heap.NoLimit) (hgs : s1.gens = #[])
    (ha : s1.heap.get? a = some { cls := .type "list", data := .seq vs.toArray }) (hi : PyProof.Rows.IntsAre vs ns) (hl : ns.length ≤ sizeLine) (hr : Room k callerA)
    (hsy : SysAt s1.heap) (F : ∀ base : Heap, K.In base → base.Ns mainGlobals mg → SysAt base → FnG P w K mg base k fa fd [x] (spD K sp)) (hbind : ∀ (s : Shared) (u : Value), BindsTo s fd ⟨[u], []⟩ [(x, u)])
    (hsp : sp [.scr ns] (fun _ => none) fun y _ => y = .d (.bool true)) :
    codeAny (model P w) callerA (.call (.ref fa) ⟨[.ref a], []⟩) (fun r s' => r = .ok (.ret (.bool true)) ∧ OldK s1.heap s'.heap ∧ s'.os = s1.os ∧ PyProof.Rows.AllBare s'.gens) s1 := by
  have rv := vals_ints hi
  have hlen := hi.length
  cases hk : K.lookup a with
  | some o =>
    have e := KX a o hk
    rw [ha] at e
    cases e
    refine law_coreS KX hns hb hbb hlim hgs ha hr hsy F hbind hsp (fun _ => none) (fun _ => Or.inl rfl) (Or.inr ⟨_, vs.toArray, _, hk, rfl, rfl, rfl, ?_, ?_⟩) (fun b u z => nomatch (show (none : Option HO) = some u from z)) (fun b z => absurd rfl z) fun z => absurd rfl z
    · rw [List.size_toArray, hlen]; exact hl
    · simpa using rv
  | none =>
    refine law_coreS KX hns hb hbb hlim hgs ha hr hsy F hbind hsp (fun b => if b = a then some (.frz { cls := .type "list", data := .seq vs.toArray } (.lst (ns.map V.int))) else none) (fun b => ?_) (Or.inl (Or.inr ⟨{ cls := .type "list", data := .seq vs.toArray }, if_pos rfl⟩)) (fun b u z => ?_) (fun b z => ?_) fun _ => hk
    · by_cases h : b = a
      · exact Or.inr ⟨_, _, if_pos h⟩
      · exact Or.inl (if_neg h)
    · by_cases h : b = a
      · have z := (if_pos h).symm.trans z
        cases z
        subst h
        exact ⟨ha, by rw [List.length_map]; exact hl, vs, _, rv, ha⟩
      · exact nomatch (if_neg h).symm.trans z
    · by_cases h : b = a
      · exact h
      · exact absurd (if_neg h) z
end
/-- from the law's def to the row -/
theorem walkS {l : PySem.W.OpenLaw} {n k : Nat} {q : Program} {loose : List Str} {XP : (Str → Option Value) → Heap → Prop} {YP : World → Heap → Prop} {d : DefRec} {K : Params → PySem.W.Frag} {sp : FSp} {x : Str}
    (hn : l.most = some n) (hn2 : n ≤ sizeLine) (hi : importsNone q = true) (hdf : d.params.defaults = []) (hr : Room k callerA) (hY : ∀ (w : World) (h : Heap), YP w h → (K w.params).In h)
    (F : ∀ (w : World) (mg : Str → Option Value) (fa : Addr) (h : Heap), (K w.params).In h → h.Ns mainGlobals mg → mg d.name = some (.ref fa) →
      ∃ fd : FuncData, (∀ (s : Shared) (u : Value), BindsTo s fd ⟨[u], []⟩ [(x, u)]) ∧
        ∀ base : Heap, (K w.params).In base → base.Ns mainGlobals mg → SysAt base → FnG l.prog w (K w.params) mg base k fa fd [x] (spD (K w.params) sp))
    (hsp : ∀ ns : List Int, ns.length ≤ n → (∀ z ∈ ns, Builtin.Int.intBits z ≤ 1048576) → sp [.scr ns] (fun _ => none) fun y _ => y = .d (.bool true)) :
    PySem.W.WalkO q loose XP YP l.row.toRowW d [] (fun f vs => PySem.call f vs) := by
  refine Att.attach_callB hn hdf fun w s0 s1 mg mb fa o pm cd doc a vs ns G Y ho hd hcd hmg hobj hints hlen hbits hg => ?_
  have KX := hY w _ Y
  obtain ⟨fd, hb, hF⟩ := F w mg fa _ KX G.T.g hmg
  exact law_runS KX G.T.g G.T.b G.T.builtins G.T.nolimit hg hobj hints (Nat.le_trans hlen hn2) hr (let ⟨mm, z, _⟩ := (G.T.seer hi).mods; ⟨mm, z⟩) hF hb (hsp ns hlen hbits)
/-! how long it is shown -/
structure ShB (d : PyData) (k n : Nat) : Prop where
  dp : d.depth ≤ k
  sh : d.showable = true
  ln : d.shown.length ≤ n
theorem ShB.mono {d : PyData} {k n k' n' : Nat} (h : ShB d k n) (h1 : k ≤ k') (h2 : n ≤ n') : ShB d k' n' := ⟨Nat.le_trans h.dp h1, h.sh, Nat.le_trans h.ln h2⟩
theorem Sh.toB {d : PyData} {k n : Nat} (h : Sh d k n) : ShB d k n := ⟨h.dp, h.sh, h.ln⟩
theorem ShB.toA {x : PyData} {k n : Nat} (h : ShB x k n) (h1 : k ≤ 64) (h2 : n ≤ 16777216) : ShA x := ⟨Nat.le_trans h.dp h1, h.sh, Nat.le_trans h.ln h2⟩
theorem shbAll {k n : Nat} : ∀ {ds : List PyData}, (∀ d ∈ ds, ShB d k n) → PyData.depthAll ds ≤ k ∧ PyData.showableAll ds = true ∧ ((PyData.shownAll ds).map (·.length)).sum ≤ n * ds.length ∧ (PyData.shownAll ds).length = ds.length
  | [], _ => ⟨by simp only [PyData.depthAll]; exact Nat.zero_le _, by simp only [PyData.showableAll], by simp [PyData.shownAll], by simp [PyData.shownAll]⟩
  | d :: ds, h => by
    have h1 := h d (List.mem_cons_self ..)
    obtain ⟨b, c, e, f⟩ := shbAll (ds := ds) fun x hx => h x (List.mem_cons_of_mem _ hx)
    refine ⟨?_, by simp only [PyData.showableAll, h1.sh, c]; rfl, ?_, ?_⟩
    · simp only [PyData.depthAll]
      exact Nat.max_le.mpr ⟨h1.dp, b⟩
    · have := h1.ln
      simp only [PyData.shownAll, List.map_cons, List.sum_cons, List.length_cons]
      rw [Nat.mul_succ]
      omega
    · simp only [PyData.shownAll, List.length_cons, f]
theorem shb_tuple {ds : List PyData} {k n c : Nat} (h : ∀ d ∈ ds, ShB d k n) (hc : ds.length ≤ c) : ShB (.tuple ds) (k + 1) ((n + 2) * c + 3) := by
  obtain ⟨b, e, f, g⟩ := shbAll h
  refine ⟨by simp only [PyData.depth]; omega, by simp only [PyData.showable, e], ?_⟩
  simp only [PyData.shown]
  have := tupleText_len_le (PyData.shownAll ds)
  have h1 : n * ds.length ≤ n * c := Nat.mul_le_mul_left n hc
  have h2 : (n + 2) * c = n * c + 2 * c := Nat.add_mul n 2 c
  omega
theorem shb_list {ds : List PyData} {k n c : Nat} (h : ∀ d ∈ ds, ShB d k n) (hc : ds.length ≤ c) : ShB (.list ds) (k + 1) ((n + 2) * c + 3) := by
  obtain ⟨b, e, f, g⟩ := shbAll h
  refine ⟨by simp only [PyData.depth]; omega, by simp only [PyData.showable, e], ?_⟩
  simp only [PyData.shown]
  have := listText_len_le (PyData.shownAll ds)
  have h1 : n * ds.length ≤ n * c := Nat.mul_le_mul_left n hc
  have h2 : (n + 2) * c = n * c + 2 * c := Nat.add_mul n 2 c
  omega
end DL
/-! unlike things are shown unlike, where one of them is made of ints, tuples, lists -/
namespace DL
open PySem
def sL (x : PyData) : List Nat := x.shown.cps.toList
theorem cps_app (a b : Str) : (a ++ b).cps.toList = a.cps.toList ++ b.cps.toList := by
  show (a.cps ++ b.cps).toList = _
  exact Array.toList_append
theorem sL_int (i : Int) : sL (.int i) = (toString i).toList.map Char.toNat := by
  unfold sL
  simp only [PyData.shown]
  rw [Str.ofString_eq_toList]
def bdT (c : Nat) : List PyData → List Nat
  | [] => [c]
  | x :: t => 44 :: 32 :: (sL x ++ bdT c t)
theorem join_bd (c : Nat) : ∀ (t : List PyData) (x : PyData), (Str.join ", " (PyData.shownAll (x :: t))).cps.toList ++ [c] = sL x ++ bdT c t
  | [], x => by
    simp only [PyData.shownAll, Str.join]
    rfl
  | y :: t, x => by
    have ih := join_bd c t y
    simp only [PyData.shownAll] at ih ⊢
    rw [Str.join]
    · rw [cps_app, cps_app, List.append_assoc, List.append_assoc, ih]
      rfl
    · exact fun h => nomatch h
theorem sL_nil : sL (.list []) = [91, 93] := by decide +kernel
theorem sL_list (x : PyData) (t : List PyData) : sL (.list (x :: t)) = 91 :: (sL x ++ bdT 93 t) := by
  have h : (PyData.list (x :: t)).shown = ("[" : Str) ++ Str.join ", " (PyData.shownAll (x :: t)) ++ "]" := by
    simp only [PyData.shown, PyData.shownAll]
    unfold PySem.listText
    rw [show textFrom 0 "[" (PyData.shown x :: PyData.shownAll t) = textFrom 1 (("[" : Str) ++ PyData.shown x) (PyData.shownAll t) by rfl]
    rw [textFrom_pos _ _ _ _ (by decide)]
  unfold sL
  rw [h, cps_app, cps_app, List.append_assoc]
  rw [show ("]" : Str).cps.toList = [93] by decide +kernel, show ("[" : Str).cps.toList = [91] by decide +kernel, join_bd 93 t x]
  rfl
theorem sL_tnil : sL (.tuple []) = [40, 41] := by decide +kernel
theorem sL_tone (x : PyData) : sL (.tuple [x]) = 40 :: (sL x ++ [44, 41]) := by
  unfold sL
  simp only [PyData.shown, PyData.shownAll]
  unfold PySem.tupleText
  rw [cps_app, cps_app]
  rw [show ("(" : Str).cps.toList = [40] by decide +kernel]
  rfl
theorem sL_tup (x y : PyData) (t : List PyData) : sL (.tuple (x :: y :: t)) = 40 :: (sL x ++ bdT 41 (y :: t)) := by
  have h : (PyData.tuple (x :: y :: t)).shown = ("(" : Str) ++ Str.join ", " (PyData.shownAll (x :: y :: t)) ++ ")" := by
    simp only [PyData.shown]
    unfold PySem.tupleText
    have hl : ((PyData.shownAll (x :: y :: t)).length == 1) = false := by simp [PyData.shownAll]
    rw [hl]
    rfl
  unfold sL
  rw [h, cps_app, cps_app, List.append_assoc]
  rw [show (")" : Str).cps.toList = [41] by decide +kernel, show ("(" : Str).cps.toList = [40] by decide +kernel, join_bd 41 (y :: t) x]
  rfl
/-! the first sign -/
def hc : PyData → Nat → Prop
  | .none, c => c = 78
  | .bool _, c => c = 84 ∨ c = 70
  | .int _, c => (48 ≤ c ∧ c ≤ 57) ∨ c = 45
  | .str _, c => c = 39 ∨ c = 34
  | .list _, c => c = 91
  | .tuple _, c => c = 40
  | .dict _, c => c = 123
def dgS (c : Nat) : Prop := (48 ≤ c ∧ c ≤ 57) ∨ c = 45
theorem int_dgS (i : Int) : ∀ c ∈ sL (.int i), dgS c := fun c hc => by
  rw [sL_int] at hc
  obtain ⟨ch, h1, rfl⟩ := List.mem_map.mp hc
  rcases PyProof.Rows.int_sign i ch h1 with h | h
  · have h : (48 : UInt32) ≤ ch.val ∧ ch.val ≤ 57 := by simpa [Char.isDigit] using h
    exact Or.inl ⟨UInt32.le_iff_toNat_le.mp h.1, UInt32.le_iff_toNat_le.mp h.2⟩
  · exact Or.inr (by rw [h]; rfl)
theorem int_ne (i : Int) : sL (.int i) ≠ [] := fun h => by
  rw [sL_int] at h
  have h : (toString i).toList = [] := List.map_eq_nil_iff.mp h
  cases i with
  | ofNat n =>
    have h : (Nat.repr n).toList = [] := h
    rw [Nat.toList_repr] at h
    exact Nat.toDigits_ne_nil h
  | negSucc n =>
    have h : ("-" ++ Nat.repr (n + 1)).toList = [] := h
    simp at h
theorem fold_head (f : Nat → List Nat) : ∀ (l : List Nat) (acc : Array Nat), ∃ t, (l.foldl (fun out c => out ++ (f c).toArray) acc).toList = acc.toList ++ t
  | [], acc => ⟨[], by simp⟩
  | c :: l, acc => by
    obtain ⟨t, ht⟩ := fold_head f l (acc ++ (f c).toArray)
    exact ⟨f c ++ t, by rw [List.foldl_cons, ht]; simp⟩
theorem sL_head : ∀ x : PyData, ∃ c l, sL x = c :: l ∧ hc x c
  | .none => ⟨78, [111, 110, 101], by decide +kernel, rfl⟩
  | .bool true => ⟨84, [114, 117, 101], by decide +kernel, Or.inl rfl⟩
  | .bool false => ⟨70, [97, 108, 115, 101], by decide +kernel, Or.inr rfl⟩
  | .int i => by
    cases h : sL (.int i) with
    | nil => exact absurd h (int_ne i)
    | cons c l => exact ⟨c, l, rfl, int_dgS i c (by rw [h]; exact List.mem_cons_self)⟩
  | .str x => by
    have hq : reprQuote x = 39 ∨ reprQuote x = 34 := by
      unfold reprQuote
      split <;> simp
    obtain ⟨t, ht⟩ := fold_head (PySem.Builtin.Str.reprChar (reprQuote x)) x.cps.toList #[reprQuote x]
    refine ⟨reprQuote x, t ++ [reprQuote x], ?_, hq⟩
    unfold sL
    simp only [PyData.shown]
    unfold reprText
    show ((x.cps.foldl (fun out c => out ++ (PySem.Builtin.Str.reprChar (reprQuote x) c).toArray) #[reprQuote x]).push (reprQuote x)).toList = _
    rw [Array.toList_push, ← Array.foldl_toList, ht]
    rfl
  | .list [] => ⟨91, [93], sL_nil, rfl⟩
  | .list (x :: t) => ⟨91, _, sL_list x t, rfl⟩
  | .tuple [] => ⟨40, [41], sL_tnil, rfl⟩
  | .tuple [x] => ⟨40, _, sL_tone x, rfl⟩
  | .tuple (x :: y :: t) => ⟨40, _, sL_tup x y t, rfl⟩
  | .dict kvs => by
    refine ⟨123, (Str.join ", " (PyData.shownKv kvs)).cps.toList ++ ("}" : Str).cps.toList, ?_, rfl⟩
    unfold sL
    simp only [PyData.shown]
    unfold PySem.dictText
    rw [cps_app, cps_app, show ("{" : Str).cps.toList = [123] by decide +kernel]
    rfl
/-- what may stand behind an item -/
def sep (r : List Nat) : Prop := ∀ c l, r = c :: l → c = 44 ∨ c = 41 ∨ c = 93
theorem dgS_cut : ∀ {l1 l2 r1 r2 : List Nat}, (∀ c ∈ l1, dgS c) → (∀ c ∈ l2, dgS c) → sep r1 → sep r2 → l1 ++ r1 = l2 ++ r2 → l1 = l2 ∧ r1 = r2
  | [], [], r1, r2, _, _, _, _, h => ⟨rfl, h⟩
  | [], c :: l2, r1, r2, _, h2, s1, _, h => by
    have := s1 c _ h
    have := h2 c List.mem_cons_self
    unfold dgS at this
    omega
  | c :: l1, [], r1, r2, h1, _, _, s2, h => by
    have := s2 c _ h.symm
    have := h1 c List.mem_cons_self
    unfold dgS at this
    omega
  | c :: l1, d :: l2, r1, r2, h1, h2, s1, s2, h => by
    rw [List.cons_append, List.cons_append] at h
    injection h with e h
    obtain ⟨h3, h4⟩ := dgS_cut (fun c hc => h1 c (List.mem_cons_of_mem _ hc)) (fun c hc => h2 c (List.mem_cons_of_mem _ hc)) s1 s2 h
    exact ⟨by rw [e, h3], h4⟩
theorem int_text_inj {i j : Int} (h : sL (.int i) = sL (.int j)) : i = j := by
  rw [sL_int, sL_int] at h
  have hc : ∀ {a b : Char}, a.toNat = b.toNat → a = b := fun {a b} e => Char.ext (UInt32.toNat_inj.mp e)
  have h2 : (toString i).toList = (toString j).toList := (List.map_inj_right (fun _ _ e => hc e)).mp h
  exact Int.repr_injective (String.toList_inj.mp h2)
mutual
def itl : PyData → Bool
  | .int _ => true
  | .list ys => itlAll ys
  | .tuple ys => itlAll ys
  | .none => false
  | .bool _ => false
  | .str _ => false
  | .dict _ => false
def itlAll : List PyData → Bool
  | [] => true
  | y :: t => itl y && itlAll t
end
theorem bd_head (c : Nat) (hc : c = 41 ∨ c = 93) (t : List PyData) (r : List Nat) : sep (bdT c t ++ r) := fun d l h => by
  cases t with
  | nil =>
    have h : c :: r = d :: l := h
    injection h with h _
    omega
  | cons x t =>
    have h : 44 :: (32 :: (sL x ++ bdT c t) ++ r) = d :: l := h
    injection h with h _
    omega
theorem same_head {x y : PyData} {r1 r2 : List Nat} (h : sL x ++ r1 = sL y ++ r2) : ∃ c, hc x c ∧ hc y c := by
  obtain ⟨c, l, e1, h1⟩ := sL_head x
  obtain ⟨d, k, e2, h2⟩ := sL_head y
  rw [e1, e2, List.cons_append, List.cons_append] at h
  injection h with e _
  exact ⟨c, h1, e ▸ h2⟩
theorem not_close {y : PyData} (hy : itl y = true) {r1 r2 : List Nat} {c : Nat} (hc' : c = 41 ∨ c = 93) : c :: r1 ≠ sL y ++ r2 := fun h => by
  obtain ⟨d, k, e2, h2⟩ := sL_head y
  rw [e2, List.cons_append] at h
  injection h with e _
  subst e
  cases y <;> simp [itl] at hy <;> simp only [hc] at h2 <;> omega
mutual
theorem cut : ∀ (y x : PyData) (r1 r2 : List Nat), itl y = true → sep r1 → sep r2 → sL x ++ r1 = sL y ++ r2 → x = y ∧ r1 = r2
  | .int i, x, r1, r2, _, s1, s2, h => by
    obtain ⟨c, h1, h2⟩ := same_head h
    cases x with
    | int j =>
      obtain ⟨h3, h4⟩ := dgS_cut (int_dgS j) (int_dgS i) s1 s2 h
      exact ⟨by rw [int_text_inj h3], h4⟩
    | _ => simp only [hc] at h1 h2; omega
  | .list ys, x, r1, r2, hy, s1, s2, h => by
    obtain ⟨c, h1, h2⟩ := same_head h
    cases x with
    | list xs =>
      cases ys with
      | nil =>
        cases xs with
        | nil => exact ⟨rfl, List.append_cancel_left h⟩
        | cons a t =>
          rw [sL_nil, sL_list] at h
          injection h with _ h
          obtain ⟨d, k, e2, h2⟩ := sL_head a
          rw [e2] at h
          injection h with h _
          subst h
          cases a <;> simp only [hc] at h2 <;> omega
      | cons b u =>
        have hy : itl b = true ∧ itlAll u = true := by simpa [itl, itlAll] using hy
        cases xs with
        | nil =>
          rw [sL_nil, sL_list] at h
          injection h with _ h
          have h : 93 :: ([] ++ r1) = (sL b ++ bdT 93 u) ++ r2 := h
          rw [List.append_assoc] at h
          exact absurd h (not_close hy.1 (Or.inr rfl))
        | cons a t =>
          rw [sL_list, sL_list] at h
          injection h with _ h
          have h : (sL a ++ bdT 93 t) ++ r1 = (sL b ++ bdT 93 u) ++ r2 := h
          rw [List.append_assoc, List.append_assoc] at h
          obtain ⟨h3, h4⟩ := cut b a _ _ hy.1 (bd_head 93 (Or.inr rfl) t r1) (bd_head 93 (Or.inr rfl) u r2) h
          obtain ⟨h5, h6⟩ := cutT u t 93 r1 r2 hy.2 (Or.inr rfl) h4
          exact ⟨by rw [h3, h5], h6⟩
    | _ => simp only [hc] at h1 h2; omega
  | .tuple ys, x, r1, r2, hy, s1, s2, h => by
    obtain ⟨c, h1, h2⟩ := same_head h
    cases x with
    | tuple xs =>
      have s41 : ∀ r : List Nat, sep (44 :: r) := fun r d l e => by injection e with e _; omega
      cases ys with
      | nil =>
        cases xs with
        | nil => exact ⟨rfl, List.append_cancel_left h⟩
        | cons a t =>
          obtain ⟨d, k, e2, h2⟩ := sL_head a
          have h3 : d = 41 := by
            cases t with
            | nil =>
              rw [sL_tnil, sL_tone, e2] at h
              injection h with _ h
              injection h with h _
            | cons b t =>
              rw [sL_tnil, sL_tup, e2] at h
              injection h with _ h
              injection h with h _
          subst h3
          cases a <;> simp only [hc] at h2 <;> omega
      | cons b u =>
        have hy : itl b = true ∧ itlAll u = true := by simpa [itl, itlAll] using hy
        cases xs with
        | nil =>
          rw [sL_tnil] at h
          cases u with
          | nil =>
            rw [sL_tone] at h
            injection h with _ h
            have h : 41 :: ([] ++ r1) = (sL b ++ [44, 41]) ++ r2 := h
            rw [List.append_assoc] at h
            exact absurd h (not_close hy.1 (Or.inl rfl))
          | cons b2 u =>
            rw [sL_tup] at h
            injection h with _ h
            have h : 41 :: ([] ++ r1) = (sL b ++ bdT 41 (b2 :: u)) ++ r2 := h
            rw [List.append_assoc] at h
            exact absurd h (not_close hy.1 (Or.inl rfl))
        | cons a t =>
          cases t with
          | nil =>
            cases u with
            | nil =>
              rw [sL_tone, sL_tone] at h
              injection h with _ h
              have h : (sL a ++ [44, 41]) ++ r1 = (sL b ++ [44, 41]) ++ r2 := h
              rw [List.append_assoc, List.append_assoc] at h
              obtain ⟨h3, h4⟩ := cut b a _ _ hy.1 (s41 _) (s41 _) h
              exact ⟨by rw [h3], by injection h4 with _ h4; injection h4 with _ h4⟩
            | cons b2 u =>
              rw [sL_tone, sL_tup] at h
              injection h with _ h
              have h : (sL a ++ [44, 41]) ++ r1 = (sL b ++ bdT 41 (b2 :: u)) ++ r2 := h
              rw [List.append_assoc, List.append_assoc] at h
              obtain ⟨h3, h4⟩ := cut b a _ _ hy.1 (s41 _) (s41 _) h
              have h4 : 44 :: (41 :: r1) = 44 :: (32 :: (sL b2 ++ bdT 41 u) ++ r2) := h4
              injection h4 with _ h4
              injection h4 with h4 _
              omega
          | cons a2 t =>
            cases u with
            | nil =>
              rw [sL_tup, sL_tone] at h
              injection h with _ h
              have h : (sL a ++ bdT 41 (a2 :: t)) ++ r1 = (sL b ++ [44, 41]) ++ r2 := h
              rw [List.append_assoc, List.append_assoc] at h
              obtain ⟨h3, h4⟩ := cut b a _ _ hy.1 (s41 _) (s41 _) h
              have h4 : 44 :: (32 :: (sL a2 ++ bdT 41 t) ++ r1) = 44 :: (41 :: r2) := h4
              injection h4 with _ h4
              injection h4 with h4 _
              omega
            | cons b2 u =>
              rw [sL_tup, sL_tup] at h
              injection h with _ h
              have h : (sL a ++ bdT 41 (a2 :: t)) ++ r1 = (sL b ++ bdT 41 (b2 :: u)) ++ r2 := h
              rw [List.append_assoc, List.append_assoc] at h
              obtain ⟨h3, h4⟩ := cut b a _ _ hy.1 (s41 _) (s41 _) h
              obtain ⟨h5, h6⟩ := cutT (b2 :: u) (a2 :: t) 41 r1 r2 hy.2 (Or.inl rfl) h4
              exact ⟨by rw [h3, h5], h6⟩
    | _ => simp only [hc] at h1 h2; omega
  | .none, _, _, _, hy, _, _, _ => by simp [itl] at hy
  | .bool _, _, _, _, hy, _, _, _ => by simp [itl] at hy
  | .str _, _, _, _, hy, _, _, _ => by simp [itl] at hy
  | .dict _, _, _, _, hy, _, _, _ => by simp [itl] at hy
theorem cutT : ∀ (ys xs : List PyData) (c : Nat) (r1 r2 : List Nat), itlAll ys = true → (c = 41 ∨ c = 93) → bdT c xs ++ r1 = bdT c ys ++ r2 → xs = ys ∧ r1 = r2
  | [], xs, c, r1, r2, _, hc', h => by
    cases xs with
    | nil => exact ⟨rfl, List.append_cancel_left h⟩
    | cons a t =>
      have h : 44 :: (32 :: (sL a ++ bdT c t) ++ r1) = c :: r2 := h
      injection h with h _
      omega
  | b :: u, xs, c, r1, r2, hy, hc', h => by
    have hy : itl b = true ∧ itlAll u = true := by simpa [itlAll] using hy
    cases xs with
    | nil =>
      have h : c :: r1 = 44 :: (32 :: (sL b ++ bdT c u) ++ r2) := h
      injection h with h _
      omega
    | cons a t =>
      have h : 44 :: (32 :: ((sL a ++ bdT c t) ++ r1)) = 44 :: (32 :: ((sL b ++ bdT c u) ++ r2)) := h
      injection h with _ h
      injection h with _ h
      rw [List.append_assoc, List.append_assoc] at h
      obtain ⟨h3, h4⟩ := cut b a _ _ hy.1 (bd_head c hc' t r1) (bd_head c hc' u r2) h
      obtain ⟨h5, h6⟩ := cutT u t c r1 r2 hy.2 hc' h4
      exact ⟨by rw [h3, h5], h6⟩
end
/-- shown alike: alike -/
theorem shown_inj {x y : PyData} (hy : itl y = true) (h : x.shown = y.shown) : x = y := by
  have h2 : sL x ++ [] = sL y ++ [] := by unfold sL; rw [h]
  exact (cut y x [] [] hy (fun _ _ e => nomatch e) (fun _ _ e => nomatch e) h2).1
end DL
/-! k33: pack papers among things that are told otherwise -/
namespace DL
open PySem L2
/-! it is the paper where it is shown as the paper -/
end DL
/-! k21: rules, papers that are over or under, words -/
namespace DL
open PySem L2
section
variable {K : PySem.W.Frag} {r : List Val} {m : Mm} {Q : Val → Mm → Prop} {te td tl : TE} {tt : TT}
/-- items of data over a list of tuples, with a test -/
theorem ev_lcLtD {j : Nat} {nss : List (List Int)} (h : Ev K tl r m fun x m1 => x = .lt nss ∧ m1 = m) (hn : nss.length ≤ 100000) (p : List Int → Bool) (g : List Int → PyData)
    (ht : ∀ (ns : List Int) m', ns ∈ nss → Ext m m' → EvT K tt (r.set j (.t ns)) m' fun b m3 => b = p ns ∧ m3 = m')
    (hs : ∀ (ns : List Int) m', ns ∈ nss → Ext m m' → p ns = true → Ev K te (r.set j (.t ns)) m' fun x m3 => x = .d (g ns) ∧ m3 = m') (q : Q (.d (.list ((nss.filter p).map g))) m) : Ev K (tLc (iList K tl) (gName j) tt te [j]) r m Q := fun σ H G S L R k =>
  h σ H G S L _ fun v H1 G1 x m1 ⟨hx, hm⟩ S1 e1 r1 => by
    subst hx hm
    cases r1 with
    | @lt _ a xs hs1 hA =>
      have hs1 : SqL K G1 a xs := Or.inl hs1
      refine ⟨a, rfl, ⟨xs, S1.sqL hs1⟩, fun D hD => ?_⟩
      have hmD := S1.freeM hD
      refine lc_list (xs := xs) (LcW K m1 G1 D fun i acc => acc = ((nss.take i).filter p).map g) (lc_start S1 hD (by simp)) ?_ ?_ ?_
      · rintro i H' hi ⟨G', acc, _, _, S', e'⟩
        exact S'.sqL (e'.sqL hs1)
      · intro i y H' hy hP
        obtain ⟨ns, c, hns, rfl, hc⟩ := hA.at hy
        have hmem := List.mem_of_getElem? hns
        have hi : i < 100000 := by
          have := (List.getElem?_eq_some_iff.mp hy).1
          rw [hA.len] at this
          omega
        refine ⟨wipe1 σ j _, lc_turn hmD hi (fun G' e' => ?_) (fun m' acc hx hw => (ht ns m' hmem hx).imp fun b m2 e => ⟨e.2, fun hb => (hs ns m' hmem hx (e.1.symm.trans hb)).imp fun x m3 e2 => ⟨e2.2, g ns, e2.1, ?_⟩, fun hb => ?_⟩) hP⟩
        · have := (L.mono (e1.trans e')).set (r := .t ns) (.t (e' _ _ hc)) j
          show Sl K G' (r.set j (.t ns)) ((σ.set j none).set j (some (.ref c)))
          rw [List.set_set]
          exact this
        · rw [hw, take_one hns, List.filter_append, List.filter_cons, if_pos (e.1.symm.trans hb), List.map_append]; rfl
        · rw [hw, take_one hns, List.filter_append, List.filter_cons, if_neg (by rw [← e.1, hb]; decide)]; simp
      · intro H' hP
        rw [hA.len] at hP
        exact lc_end hmD hP (fun acc hw => by rw [hw, List.take_length]; exact q) fun v H' G' x m' q S' e' r' => k v H' G' x m' q S' (e1.trans e') r'
theorem o2_ixLt {nss : List (List Int)} {i : Nat} {ns : List Int} (h : nss[i]? = some ns) (q : Q (.t ns) m) : Op2 K (rIx K) (.lt nss) (.d (.int (i : Int))) m Q := fun H G v w S a b R k => by
  rw [int_of b]
  cases a with
  | @lt _ p xs h1 h2 =>
    have hlen := h2.len
    have hi : i < xs.length := by rw [hlen]; exact (List.getElem?_eq_some_iff.mp h).1
    obtain ⟨ns', c, hns, hc, hG⟩ := h2.at (List.getElem?_eq_getElem hi)
    rw [h] at hns
    cases hns
    refine Or.inl ⟨p, xs, (i : Int), .ref c, rfl, rfl, S.sqL (Or.inl h1), ?_, k _ H G _ m q S (Le.refl G) (.t hG)⟩
    exact L2.atI_nat (by rw [List.getElem?_eq_getElem hi, hc])
end
end DL
/-! k21: papers that are over or under: plain mathematics, words -/
namespace DL
open PySem L2
def hQ : Rat := mkRat 1 2
/-- papers whose numbers are small enough -/
structure FB (ss : List Int) (P : List Nat → Rat) : Prop where
  nn : ∀ s, Kinds ss.length s → 0 ≤ P s
  fr : ∀ s, Kinds ss.length s → FrB (P s) 1400
  acc : ∀ s, Kinds ss.length s → ∀ i, FrB (dueAcc ss P s (s.take i)) 1400
theorem PB.fb {ss : List Int} (hs : Shares ss) {P : List Nat → Rat} (h : PB ss P) : FB ss P := ⟨fun s hk => (h s hk).nn, fun s hk => (h.fr hs hk).mono (by decide), fun s hk i => (h.accFr hs hk i).mono (by decide)⟩
theorem FB.due {ss : List Int} (hs : Shares ss) {P : List Nat → Rat} (h : FB ss P) {s : List Nat} (hk : Kinds ss.length s) (h0 : s ≠ []) : FrB (dueT ss P s) 1420 := by
  have ha := h.acc s hk s.length
  rw [List.take_length] at ha
  have hp := sumP_pos hs h0 hk.lt
  have hl := sumP_le hs hk
  exact ha.mul (b := 8) (frB_mk (bt_lit (n := 1) (by decide) (by decide)) (bt_lit (n := 8) (by show _ < 256; omega) (by decide)) (by omega)) (by decide)
/-- 1/2 more -/
def addH (P : List Nat → Rat) : List Nat → Rat := fun s => if s = [] then P s else P s + hQ
/-! the time paper's own numbers -/
/-! words -/
def someL (n : Nat) : List (List Nat) := (allS n).filter noNil
/-- a paper stands at p -/
structure PapAt (ss : List Int) (m : Mm) (p : Addr) (P : List Nat → Rat) : Prop where
  sh : Shares ss
  fb : FB ss P
  nil : P [] = 0
  mem : m p = some (.dT (tabT P ([] :: rsX ss.length)))
theorem PapAt.less {ss : List Int} {m m' : Mm} {p : Addr} {P : List Nat → Rat} (h : PapAt ss m p P) (hl : ∀ a o, m a = some o → m' a = some o) : PapAt ss m' p P := ⟨h.sh, h.fb, h.nil, hl _ _ h.mem⟩
def ovB (ss : List Int) (P : List Nat → Rat) : Bool := (someL ss.length).any fun s => decide (P s < dueT ss P s)
theorem someL_k {n : Nat} {s : List Nat} (h : s ∈ someL n) : Kinds n s ∧ s ≠ [] := by
  obtain ⟨h1, h2⟩ := List.mem_filter.mp h
  exact ⟨allS_kinds h1, by simpa [noNil] using h2⟩
theorem rs_all : ∀ n : _root_.Fin 6, ∀ s ∈ allS n.val, s ∈ [] :: rsX n.val := by decide +kernel
theorem rs_nodup : ∀ n : _root_.Fin 6, (([] :: rsX n.val).map fun s => hI (kn s)).Nodup := by decide +kernel
theorem zero_in : ∀ n : _root_.Fin 6, 1 ≤ n.val → [0] ∈ someL n.val := by decide +kernel
/-! what they tell -/
/-- the paper while 1/2 is added -/
def hF (ss : List Int) (l : List (List Nat)) : List Nat → Rat := fun s => if s ∈ l then addH (timeT ss) s else timeT ss s
theorem tabT_same {f g : List Nat → Rat} {l : List (List Nat)} (h : ∀ s ∈ l, f s = g s) : tabT f l = tabT g l := List.map_congr_left fun s hs => by rw [h s hs]
end DL
/-! k63: papers and plans told; for a, b in two pairs; d.pop(k) -/
namespace DL
open PySem L2 PySem.Spec PyProof.Rows
/-! d.pop(k), the key there -/
def rPop1T : V → List V → Hp → VK → Prop := fun x xs H Q => ∃ (a : Addr) (kvs : List (List L2.Key × V)) (k : List L2.Key) (b : Addr) (v : V), x = .ref a ∧ xs = [.ref b] ∧ H a = some (.dT kvs) ∧ H b = some (.tup (k.map kV)) ∧
  valV kvs k = some v ∧ Q v (upd H a (.dT (dropK kvs k)))
theorem mt_pop1T {X : Cx} (hu : X.A.units + 1 < cLine) : MtR X "dict.pop" rPop1T := by
  intro pins s σ H x xs v us Q I rx rxs h
  obtain ⟨a, kvs, k, b, v0, rfl, rfl, ha, hb, hv, q⟩ := h
  cases rx
  obtain ⟨u1, rfl, r1⟩ := vals1 rxs
  cases r1
  obtain ⟨z, hd, xs', rel, dd⟩ := dt_of I.hok ha
  have hz : xs'.length ≤ sizeLine := by rw [← Paired.length rel]; exact z
  have r := rel.val k
  rw [hv] at r
  obtain ⟨p, hp, rp⟩ : ∃ p, atKey xs' k = some p ∧ RelV v0 p.2 := by
    cases ev : atKey xs' k with
    | none => rw [ev] at r; exact (show False from r).elim
    | some p => rw [ev] at r; exact ⟨p, rfl, r⟩
  refine call_pop_heap (more := []) (.inl rfl) (PySem.F.args_dict_pop_2 _ _) (tupleKind_room_in1 hu) (key_of I.hok hb) hd dd hp (fun h' dd' hs => ?_) hz
  obtain ⟨o, es, ep, hq, h2, h3, h4, _, h5⟩ := dd'
  have I2 : Inv X pins σ (upd H a (.dT (dropK kvs k))) { s with heap := h', toks := s.toks + (tupleKind (mixKind X.prog X.w)).draws k } :=
    d_write I (by rw [ha]; exact True.intro) hs ⟨o, hq⟩ ⟨Nat.le_trans (dropK_le kvs k) z, hd, _, (DX.KT_drop k rel).keeps (fun c ys ec => (by rw [upd_ne (ne_of ec ha (fun z => nomatch z))]; exact ec)), o, es, ep, hq, h2, h3, h4, h5⟩
  exact ⟨v0, _, I2, rp, q⟩
theorem kPop1T (K : PySem.W.Frag) {X : Cx} {e : Expr} {to : TE} {ta : TA} (hp : PE X e (tBM X.K "dict" rPop1T to ta)) (h : X.K = K := by rfl) : PE X e (tBM K "dict" rPop1T to ta) := h ▸ hp
section
variable {K : PySem.W.Frag} {r : List Val} {m : Mm} {Q : Val → Mm → Prop} {te tk : TE}
theorem KVs.dropK {G : Hp} (k : List Key) : ∀ {kvs : List (List Key × Val)} {es : List (List Key × V)}, KVs K G kvs es → KVs K G (kvs.filter fun e => !decide (e.1 = k)) (L2.dropK es k)
  | [], es, h => by
    have h : es = [] := h
    subst h; exact rfl
  | (c, x) :: t, es, h => by
    obtain ⟨v, u, rfl, h2, h3⟩ := h
    have ih := KVs.dropK k h3
    by_cases e : c = k
    · have z1 : L2.dropK ((c, v) :: u) k = L2.dropK u k := List.filter_cons_of_neg (by simp [e])
      rw [z1, List.filter_cons, if_neg (by simp [e])]
      exact ih
    · have z1 : L2.dropK ((c, v) :: u) k = (c, v) :: L2.dropK u k := List.filter_cons_of_pos (by simp [e])
      rw [z1, List.filter_cons, if_pos (by simp [e])]
      exact ⟨v, _, rfl, h2, ih⟩
theorem ev_pop1T (h : Ev K te r m fun x m1 => ∃ p, x = .v (.ref p) ∧ (∃ kvs, m1 p = some (.dT kvs)) ∧ Ev K tk r m1 fun y m2 => ∃ (kvs : List (List Key × Val)) (ns : List Int) (z : Val), y = .t ns ∧ m2 p = some (.dT kvs) ∧ getV kvs (kI ns) = some z ∧ Q z (put m2 p (.dT (kvs.filter fun e => !decide (e.1 = kI ns))))) :
    Ev K (tBM K "dict" rPop1T te (tCons tk tNil)) r m Q := fun σ H G S L R k =>
  h σ H G S L _ fun v H1 G1 x m1 ⟨p, hx, ⟨kvs0, hm⟩, h1⟩ S1 e1 r1 => by
    subst hx
    obtain rfl := r1.eq
    obtain ⟨es, hes, hk⟩ := S1.mem p _ hm
    refine ⟨.inr (.inr (.inl ⟨rfl, .inr ⟨_, hes⟩⟩)), ?_⟩
    refine h1 σ H1 G1 S1 (L.mono e1) _ fun w H2 G2 y m2 ⟨kvs, ns, z, hy, hm2, hg, q⟩ S2 e2 r2 => ?_
    subst hy
    obtain ⟨b, rfl, hb⟩ := t_of r2
    obtain ⟨es2, g1, g2⟩ := S2.mem p _ hm2
    obtain ⟨v, hv, rv⟩ := (g2.get (kI ns)).1 z hg
    exact ⟨p, es2, kI ns, b, v, rfl, rfl, g1, S2.sub _ _ hb, hv, k v _ G2 _ _ q (S2.chg hm2 ⟨_, upd_same, g2.dropK (kI ns)⟩) (e1.trans e2) rv⟩
end
/-! plans as pairs -/
def prsS (f : List Nat → Str) (l : List (List Nat)) : List (List Int × PyData) := l.map fun s => (kn s, .str (f s))
theorem tabS_prs (f : List Nat → Str) (l : List (List Nat)) : dI (tabS f l) = (prsS f l).map fun e => (kI e.1, Val.d e.2) := by
  unfold dI tabS prsS; rw [List.map_map, List.map_map]; rfl
theorem prsS_alike (f : List Nat → Str) (l : List (List Nat)) : PySem.W.AllAlike ((prsS f l).map encI) := by
  intro d hd d' hd'
  obtain ⟨e, he, rfl⟩ := List.mem_map.mp hd
  obtain ⟨e', he', rfl⟩ := List.mem_map.mp hd'
  obtain ⟨s, _, rfl⟩ := List.mem_map.mp he
  obtain ⟨s', _, rfl⟩ := List.mem_map.mp he'
  show PySem.W.alike (.tuple [tupI (kn s), .str (f s)]) (.tuple [tupI (kn s'), .str (f s')]) = true
  simp only [PySem.W.alike, PySem.W.alikeAll, alike_keys, Bool.and_self]
theorem prsS_flat (f : List Nat → Str) (l : List (List Nat)) : ∀ e ∈ prsS f l, flD e.2 = true ∧ e.2.depth ≤ 10 := fun e he => by
  obtain ⟨s, _, rfl⟩ := List.mem_map.mp he
  exact ⟨by simp [flD], by simp [PyData.depth]⟩
theorem sh_told (b : Bool) : Sh (.str (told b)) 0 10 := by
  cases b
  · exact ⟨by simp [PyData.hasDict], by simp [PyData.depth], by decide +kernel, by decide +kernel⟩
  · exact ⟨by simp [PyData.hasDict], by simp [PyData.depth], by decide +kernel, by decide +kernel⟩
theorem sh_keys {s : List Nat} (g1 : s.length ≤ 5) (g2 : ∀ k ∈ s, k ≤ 10) : Sh (tupI (kn s)) 1 4000 := by
  have : Sh (.tuple ((kn s).map PyData.int)) 1 38 := sh_tuple (k := 0) (n := 5) (c := 5) (fun d hd => by
    obtain ⟨i, hi, rfl⟩ := List.mem_map.mp hd
    obtain ⟨k, hk, rfl⟩ := List.mem_map.mp hi
    have := g2 k hk
    exact sh_int (a := 4) (by show _ < 16; omega) (by decide) (by decide)) (by unfold kn; rw [List.length_map, List.length_map]; exact g1)
  exact this.mono (Nat.le_refl _) (by decide)
theorem sh_prsS {f : List Nat → Bool} {l : List (List Nat)} (hl : l.length ≤ 40) (h : ∀ s ∈ l, s.length ≤ 5 ∧ (∀ k ∈ s, k ≤ 10)) : Sh (.list (((prsS (fun s => told (f s)) l).mergeSort (PySem.W.dataLe false encI)).map encI)) 3 400000 := by
  have h1 : ∀ d ∈ ((prsS (fun s => told (f s)) l).mergeSort (PySem.W.dataLe false encI)).map encI, Sh d 2 8007 := fun d hd => by
    obtain ⟨e, he, rfl⟩ := List.mem_map.mp hd
    obtain ⟨s, hs, rfl⟩ := List.mem_map.mp ((List.mergeSort_perm _ _).mem_iff.mp he)
    obtain ⟨g1, g2⟩ := h s hs
    exact sh_tuple (k := 1) (n := 4000) (c := 2) (fun d hd => by
      rcases List.mem_cons.mp hd with rfl | hd
      · exact sh_keys g1 g2
      · rw [List.mem_singleton.mp hd]; exact (sh_told (f s)).mono (by decide) (by decide)) (Nat.le_refl 2)
  exact (sh_list (c := 40) h1 (by rw [List.length_map, List.length_mergeSort]; unfold prsS; rw [List.length_map]; exact hl)).mono (Nat.le_refl _) (by decide)
end DL
/-! things that may be dicts with tuple keys, lists of such things -/
namespace DL
open PySem L2
/-! dicts of data -/
def dV (kds : List (List Int × PyData)) : List (List Int × Val) := kds.map fun e => (e.1, Val.d e.2)
def dctD (kds : List (List Int × PyData)) : PyData := .dict (kds.map fun e => (tupI e.1, e.2))
def lkD (kds : List (List Int × PyData)) (k : List Int) : Option PyData := (kds.find? fun e => decide (e.1 = k)).map (·.2)
theorem dV_len (kds : List (List Int × PyData)) : (dI (dV kds)).length = kds.length := by unfold dI dV; rw [List.length_map, List.length_map]
theorem getV_dV (kds : List (List Int × PyData)) (k : List Int) : getV (dI (dV kds)) (kI k) = (lkD kds k).map Val.d := by
  induction kds with
  | nil => rfl
  | cons e kds ih =>
    unfold getV lkD dI dV at *
    rw [List.map_cons, List.map_cons, List.find?_cons, List.find?_cons]
    by_cases h : e.1 = k
    · subst h; simp
    · rw [show decide (kI e.1 = kI k) = false from decide_eq_false fun z => h (kI_inj z), show decide (e.1 = k) = false from decide_eq_false h]
      exact ih
theorem lkD_mem {kds : List (List Int × PyData)} (hn : (kds.map (·.1)).Nodup) {e : List Int × PyData} (he : e ∈ kds) : lkD kds e.1 = some e.2 := by
  induction kds with
  | nil => cases he
  | cons a kds ih =>
    rw [List.map_cons, List.nodup_cons] at hn
    unfold lkD at *
    rw [List.find?_cons]
    rcases List.mem_cons.mp he with rfl | he
    · simp
    · have : a.1 ≠ e.1 := fun z => hn.1 (z ▸ List.mem_map.mpr ⟨e, he, rfl⟩)
      rw [show decide (a.1 = e.1) = false from decide_eq_false this]
      exact ih hn.2 he
theorem lkD_in {kds : List (List Int × PyData)} {k : List Int} {d : PyData} (h : lkD kds k = some d) : (k, d) ∈ kds := by
  induction kds with
  | nil => cases h
  | cons a kds ih =>
    unfold lkD at *
    rw [List.find?_cons] at h
    by_cases e : a.1 = k
    · rw [show decide (a.1 = k) = true from decide_eq_true e] at h
      cases h
      rw [← e]; exact List.mem_cons_self
    · rw [show decide (a.1 = k) = false from decide_eq_false e] at h
      exact List.mem_cons_of_mem _ (ih h)
section
variable {K : PySem.W.Frag} {G : Hp}
theorem rpT_of : ∀ {kds : List (List Int × PyData)} {es : List (List Key × V)}, KVs K G (dI (dV kds)) es → RpT K G (kds.map fun e => (tupI e.1, e.2)) es
  | [], es, h => by rw [List.map_nil, RpT]; exact h
  | e :: kds, es, h => by
    obtain ⟨v, u, rfl, h2, h3⟩ := h
    rw [List.map_cons, RpT]
    refine ⟨kI e.1, v, u, rfl, ?_, h2.rp, rpT_of h3⟩
    unfold tupI kI
    rw [List.map_map]
    rfl
end
section
variable {K : PySem.W.Frag} {r : List Val} {m : Mm} {Q : Val → Mm → Prop} {te tl ta tb : TE} {tt : TT} {N : List Val → Mm → Prop} {E : Val → Mm → Prop} {t : TS}
theorem on_showDT {p : Addr} {kds : List (List Int × PyData)} (hm : m p = some (.dT (dI (dV kds)))) (h : ShA (dctD kds)) (q : Q (.d (.str (dctD kds).shown)) m) : OpN K (rReprA K) [.v (.ref p)] m Q := fun H G vs S a R kk => by
  obtain ⟨v, rfl, hv⟩ := vrs1 a
  obtain rfl := hv.eq
  obtain ⟨es, g1, g2⟩ := S.mem p _ hm
  refine ⟨_, dctD kds, rfl, ?_, h.dp, h.sh, by rw [sizeLine_eq]; exact h.ln, kk _ H G _ m q S (Le.refl G) vr_str⟩
  unfold dctD
  rw [Rp]
  exact ⟨p, rfl, Or.inl ⟨es, g1, RpT.mono S.sub _ _ (rpT_of g2)⟩⟩
/-! len of anything that has one -/
def rLenA (K : PySem.W.Frag) : List V → Hp → VK → Prop := fun xs H Q => rLen K xs H Q ∨ (rLenT xs H Q ∨ ∃ a kvs, xs = [V.ref a] ∧ H a = some (.dK kvs) ∧ Q (.int kvs.length) H)
theorem kLenA (K : PySem.W.Frag) {X : Cx} (h : X.K = K := by rfl) : CallR X (.builtin "len") (rLenA K) := by
  subst h
  exact (kLen X.K).or (call_len_dT.or call_lenD)
theorem rpT_len : ∀ {kvs : List (PyData × PyData)} {es : List (List Key × V)}, RpT K G kvs es → es.length = kvs.length := by
  intro kvs
  induction kvs with
  | nil => intro es h; rw [RpT] at h; rw [h]; rfl
  | cons e kvs ih =>
    intro es h
    obtain ⟨k, d⟩ := e
    rw [RpT] at h
    obtain ⟨ks, v, u, rfl, _, _, h3⟩ := h
    rw [List.length_cons, List.length_cons, ih h3]
theorem rpK_len {G : Hp} : ∀ {kvs : List (PyData × PyData)} {es : List (Key × V)}, RpK K G kvs es → es.length = kvs.length := by
  intro kvs
  induction kvs with
  | nil => intro es h; rw [RpK] at h; rw [h]; rfl
  | cons e kvs ih =>
    intro es h
    obtain ⟨k, d⟩ := e
    rw [RpK] at h
    obtain ⟨ks, v, u, rfl, _, _, h3⟩ := h
    rw [List.length_cons, List.length_cons, ih h3]
theorem on_lenDD {kvs : List (PyData × PyData)} (q : Q (.d (.int (kvs.length : Int))) m) : OpN K (rLenA K) [.d (.dict kvs)] m Q := fun H G vs S a R k => by
  obtain ⟨v, rfl, hv⟩ := vrs1 a
  have hv := hv.rp
  rw [Rp] at hv
  obtain ⟨p, rfl, ⟨es, h1, h2⟩ | ⟨es, h1, h2⟩⟩ := hv
  · refine Or.inr (Or.inl ⟨p, es, rfl, S.sub _ _ h1, ?_⟩)
    rw [rpT_len h2]
    exact k _ H G _ m q S (Le.refl G) vr_int
  · refine Or.inr (Or.inr ⟨p, es, rfl, S.sub _ _ h1, ?_⟩)
    rw [rpK_len h2]
    exact k _ H G _ m q S (Le.refl G) vr_int
theorem on_lenAT {xs : List Val} (h : OpN K rLenT xs m Q) : OpN K (rLenA K) xs m Q := fun H G vs S a R k => Or.inr (Or.inl (h H G vs S a R k))
/-! lists of any values, that stay -/
def vL (K : PySem.W.Frag) (rs : List Val) : Val := .g fun G v => ∃ a xs, v = .ref a ∧ Rd G a (.lst xs) ∧ VRs K G rs xs
theorem vL_mono (rs : List Val) (v : V) : ∀ G G', Le G G' → (∃ a xs, v = .ref a ∧ Rd G a (.lst xs) ∧ VRs K G rs xs) → ∃ a xs, v = .ref a ∧ Rd G' a (.lst xs) ∧ VRs K G' rs xs := fun G G' e ⟨a, xs, h1, h2, h3⟩ => ⟨a, xs, h1, e.rd h2, h3.mono e⟩
theorem vL_mk {G : Hp} {rs : List Val} {a : Addr} {xs : List V} (h : Rd G a (.lst xs)) (h2 : VRs K G rs xs) : VR K G (vL K rs) (.ref a) := .g ⟨a, xs, rfl, h, h2⟩ (vL_mono rs _)
theorem vL_of {G : Hp} {rs : List Val} {v : V} (h : VR K G (vL K rs) v) : ∃ a xs, v = .ref a ∧ Rd G a (.lst xs) ∧ VRs K G rs xs := by
  cases h with
  | g h _ => exact h
theorem ev_lstV {t : TA} (h : EvA K t r m fun xs m1 => xs.length ≤ 100000 ∧ Q (vL K xs) m1) : Ev K (tLst t) r m Q := fun σ H G S L R k =>
  h σ H G S L _ fun vs H1 G1 xs m1 ⟨hl, q⟩ S1 e1 r1 => by
    refine ⟨by rw [r1.length]; exact Nat.le_trans hl (by decide), fun p hp => ?_⟩
    have hg := S1.free hp
    exact k (.ref p) _ (upd G1 p _) _ m1 q (S1.fix hp) (e1.trans (Le.new hg)) (vL_mk (Rd.of upd_same) (r1.mono (Le.new hg)))
def LcY (K : PySem.W.Frag) (G : Hp) (D : Addr) (W : Nat → List Val → Mm → Prop) (i : Nat) (H' : Hp) : Prop :=
  ∃ G' acc mm, W i acc mm ∧ mm D = none ∧ acc.length = i ∧ Sta K (put mm D (.lst acc)) H' G' ∧ Le G G'
/-- [.. for j in range(n)], any items, what may change may change -/
theorem ev_lcR1Y {ta : TA} {j : Nat} {n : Nat} (h : EvA K ta r m fun xs m1 => xs = [.d (.int (n : Int))] ∧ m1 = m) (hn : n ≤ 100000) (W : Nat → List Val → Mm → Prop) (h0 : W 0 [] m)
    (hs : ∀ (i : Nat) mm D acc, i < n → mm D = none → W i acc mm → Ev K te (r.set j (.d (.int (i : Int)))) (put mm D (.lst acc)) fun x m3 => ∃ mm', mm' D = none ∧ m3 = put mm' D (.lst acc) ∧ W (i + 1) (acc ++ [x]) mm')
    (hd : ∀ acc mm, acc.length = n → W n acc mm → Q (vL K acc) mm) : Ev K (tLc (iRng1 ta) (gName j) tYes te [j]) r m Q := fun σ H G S L R k =>
  h σ H G S L _ fun vs H1 G1 xs m1 ⟨hx, hm⟩ S1 e1 r1 => by
    subst hx hm
    obtain ⟨v1, rfl, a1⟩ := vrs1 r1
    have a1 := int_of a1
    subst a1
    have en : ((n : Int)).toNat = n := by omega
    refine ⟨(n : Int), rfl, by omega, by omega, ?_⟩
    rw [en]
    intro D hD
    have hmD := S1.freeM hD
    refine lc_range (lo := 0) (n := n) (LcY K G1 D W) ⟨G1, [], m1, h0, hmD, rfl, S1.new hD ⟨[], upd_same, rfl⟩, Le.refl G1⟩ ?_ ?_
    · intro i H' hi hP
      rw [Int.zero_add]
      refine ⟨wipe1 σ j _, ?_⟩
      obtain ⟨G', acc, mm, hw, hmm, hl, S', e'⟩ := hP
      show te _ H' _
      refine hs i mm D acc hi hmm hw _ H' G' S' (sl_in (L.mono e1) e' (rp_int.mpr rfl)) _ fun v H4 G4 x m4 ⟨mm', hm', e4, hw'⟩ S4 l4 r4 => ?_
      subst e4
      obtain ⟨xs, g1, g2⟩ := S4.mem D _ put_same
      have hlen := g2.length
      refine ⟨xs, g1, Nat.lt_of_lt_of_le (show xs.length < 100000 by omega) (by decide), G4, acc ++ [x], mm', hw', hm', by rw [List.length_append, hl]; rfl, ?_, e'.trans l4⟩
      have S5 := S4.chg (u := .lst (acc ++ [x])) (o := .lst (xs ++ [v])) put_same ⟨_, upd_same, g2.append ⟨v, [], rfl, r4, rfl⟩⟩
      rw [put_put] at S5
      exact S5
    · intro H' ⟨G', acc, mm, hw, hmm, hl, S', e'⟩
      obtain ⟨xs, g1, g2⟩ := S'.mem D _ put_same
      have hg := S'.dis D _ put_same
      have S2 := S'.freeze put_same g1
      rw [del_put hmm] at S2
      exact k _ H' _ _ mm (hd acc mm hl hw) S2 (e1.trans (e'.trans (Le.new hg))) (vL_mk (Rd.of upd_same) (g2.mono (Le.new hg)))
/-! x in a list of tuples -/
end
end DL
/-! k17: any thing looked at as a paper: plain mathematics, words -/
namespace DL
open PySem L2
theorem pair_rise : ∀ {ns : List Int}, (∀ i, i + 1 < ns.length → ns.getD i 0 < ns.getD (i + 1) 0) → ns.Pairwise (· < ·)
  | [], _ => List.Pairwise.nil
  | [a], _ => List.pairwise_singleton ..
  | a :: b :: t, h => by
    have hp := pair_rise (ns := b :: t) fun i hi => by simpa using h (i + 1) (by simpa using hi)
    have hab : a < b := by simpa using h 0 (by simp)
    refine List.pairwise_cons.mpr ⟨fun x hx => ?_, hp⟩
    rcases List.mem_cons.mp hx with rfl | hx
    · exact hab
    · exact Int.lt_trans hab ((List.pairwise_cons.mp hp).1 x hx)
theorem kinds_are {n : Nat} {ns : List Int} (h : areKinds (tupI ns) (n : Int) = true) : ∃ s, Kinds n s ∧ ns = kn s := by
  have h : ((ns.map PyData.int).all (okK n) && rising (ns.map PyData.int)) = true := h
  rw [Bool.and_eq_true, List.all_eq_true] at h
  obtain ⟨h1, h2⟩ := h
  have hb : ∀ i ∈ ns, 0 ≤ i ∧ i < (n : Int) := fun i hi => by
    have := h1 (.int i) (List.mem_map.mpr ⟨i, hi, rfl⟩)
    have : (decide (0 ≤ i) && decide (i < (n : Int))) = true := this
    simpa using this
  have e : ns = kn (ns.map Int.toNat) := by
    unfold kn
    rw [List.map_map]
    refine (List.map_id _).symm.trans (List.map_congr_left fun i hi => ?_)
    have := (hb i hi).1
    show i = ((i.toNat : Nat) : Int)
    omega
  refine ⟨ns.map Int.toNat, ⟨?_, fun k hk => ?_⟩, e⟩
  · have hp : ns.Pairwise (· < ·) := pair_rise fun i hi => by
      unfold rising at h2
      rw [List.all_eq_true] at h2
      have := of_decide_eq_true (h2 i (List.mem_range.mpr (by rw [List.length_map]; omega)))
      have g : ∀ j, j < ns.length → intOf ((ns.map PyData.int).getD j .none) = ns.getD j 0 := fun j hj => by
        rw [List.getD_eq_getElem?_getD, List.getElem?_map, List.getD_eq_getElem?_getD, List.getElem?_eq_getElem hj]; rfl
      rw [g i (by omega), g (i + 1) hi] at this
      exact this
    exact List.pairwise_map.mpr (hp.imp_of_mem fun {a b} ha hb' hab => by
      have := hb a ha
      have := hb b hb'
      omega)
  · obtain ⟨i, hi, rfl⟩ := List.mem_map.mp hk
    have := hb i hi
    omega
def topI : PyData → Int
  | .tuple (.int t :: _) => t
  | _ => 0
def frQ : PyData → Rat
  | .tuple [.int t, .int b] => mkRat t b.toNat
  | _ => 0
def okEn (n : Nat) (e : List Int × PyData) : Bool := areKinds (tupI e.1) (n : Int) && (isFrac e.2 && decide (0 ≤ topI e.2))
def numK (kds : List (List Int × PyData)) (s : List Nat) : Rat := match lkD kds (kn s) with
  | some d => frQ d
  | none => 0
def okPap (n : Nat) (kds : List (List Int × PyData)) : Bool := decide (kds.length = 2 ^ n) && (kds.all (okEn n) && decide (numK kds [] = 0))
/-! things -/
inductive Tg where
  | dat (x : PyData)
  | dct (kds : List (List Int × PyData))
def Tg.data : Tg → PyData
  | .dat x => x
  | .dct kds => dctD kds
/-- the thing t stands at y -/
def Tg.At (m : Mm) (y : Val) : Tg → Prop
  | .dat x => y = .d x ∧ ∀ kvs, x = .dict kvs → kvs.length ≤ 1
  | .dct kds => ∃ p, y = .v (.ref p) ∧ m p = some (.dT (dI (dV kds))) ∧ (kds.map (·.1)).Nodup ∧ kds.length ≤ 100 ∧ ∀ e ∈ kds, szFrac e.2 ∧ e.1.length ≤ 100
theorem Tg.At.less {m m' : Mm} {y : Val} {t : Tg} (h : t.At m y) (hl : ∀ a o, m a = some o → m' a = some o) : t.At m' y := by
  cases t with
  | dat x => exact h
  | dct kds =>
    obtain ⟨p, h1, h2, h3⟩ := h
    exact ⟨p, h1, hl _ _ h2, h3⟩
theorem Tg.At.ne {m : Mm} {y : Val} {t : Tg} (h : t.At m y) : y ≠ .any := by
  cases t with
  | dat x => rw [h.1]; exact fun z => nomatch z
  | dct kds =>
    obtain ⟨p, h1, _⟩ := h
    rw [h1]; exact fun z => nomatch z
def Tg.pap (n : Nat) : Tg → Bool
  | .dat _ => false
  | .dct kds => okPap n kds
def Tg.num : Tg → List Nat → Rat
  | .dat _ => fun _ => 0
  | .dct kds => numK kds
def Tg.over (ss : List Int) (t : Tg) : PyData := if t.pap ss.length = true then (if ovB ss t.num = true then .none else frac (t.num (List.range ss.length))) else .none
/-- a paper stands at p, its keys in any order -/
structure PapD (ss : List Int) (m : Mm) (p : Addr) (kds : List (List Int × PyData)) : Prop where
  sh : Shares ss
  fb : FB ss (numK kds)
  mem : m p = some (.dT (dI (dV kds)))
  num : ∀ s, Kinds ss.length s → lkD kds (kn s) = some (frac (numK kds s))
theorem PapD.get {ss : List Int} {m : Mm} {p : Addr} {kds : List (List Int × PyData)} (h : PapD ss m p kds) {s : List Nat} (hs : Kinds ss.length s) : getV (dI (dV kds)) (kI (kn s)) = some (.d (frac (numK kds s))) := by
  rw [getV_dV, h.num s hs]; rfl
/-- small enough for all that is reckoned -/
def TgB (ss : List Int) (t : Tg) : Prop := t.pap ss.length = true → FB ss t.num
/-! bounds of what is grown -/
/-- bits of the bottoms -/
def gB : Nat → Nat
  | 0 => 0
  | n + 1 => (n + 1) * gB n + 12
/-- each number small: bottoms by how many kinds, tops at most v -/
def GB (ss : List Int) (v : Nat) (P : List Nat → Rat) : Prop := ∀ s, Kinds ss.length s → QB (P s) (gB s.length) v
theorem accB {ss : List Int} (hs : Shares ss) {P : List Nat → Rat} {s : List Nat} {d v : Nat} (hP : ∀ k ∈ s, QB (P (s.filter fun x => !decide (x = k))) d v) : ∀ l : List Nat, (∀ k ∈ l, k ∈ s) → QB (dueAcc ss P s l) (l.length * d) (45 + l.length * (9 * v)) := by
  intro l
  have hsum := shares_sum hs
  have gen : ∀ (l : List Nat) (a : Rat) (c u : Nat), QB a c u → (∀ k ∈ l, k ∈ s) → QB (l.foldl (fun acc k => acc + ((ss.getD k 0 : Int) : Rat) * P (s.filter fun x => !decide (x = k))) a) (c + l.length * d) (u + l.length * (9 * v)) := by
    intro l
    induction l with
    | nil =>
      intro a c u h _
      exact h.mono (by simp) (by simp)
    | cons k t ih =>
      intro a c u h hl
      rw [List.foldl_cons]
      have hb := getD_bounds hs k
      have e1 : ss.getD k 0 = (((ss.getD k 0).toNat : Nat) : Int) := by omega
      have h1 := (hP k (hl k (List.mem_cons_self ..))).mulN (ss.getD k 0).toNat
      rw [← e1] at h1
      have h1 := h1.mono (d' := d) (v' := 9 * v) (Nat.le_refl _) (Nat.mul_le_mul_right _ (by omega))
      have h2 := ih _ _ _ (h.add h1) fun x hx => hl x (List.mem_cons_of_mem _ hx)
      have e2 : (t.length + 1) * (9 * v) = t.length * (9 * v) + 9 * v := Nat.succ_mul _ _
      refine h2.mono ?_ ?_
      · rw [List.length_cons, Nat.succ_mul]; omega
      · show _ ≤ u + (t.length + 1) * (9 * v)
        omega
  intro hl
  have e : ss.sum = ((ss.sum.toNat : Nat) : Int) := by omega
  have h0 : QB ((ss.sum : Int) : Rat) 0 45 := by
    rw [e]
    exact (QB.nat _).mono (Nat.le_refl _) (by omega)
  exact (gen l _ 0 45 h0 hl).mono (by omega) (Nat.le_refl _)
theorem GB.sub {ss : List Int} {v : Nat} {P : List Nat → Rat} (h : GB ss v P) {s : List Nat} (hk : Kinds ss.length s) {n : Nat} (hl : s.length = n + 1) : ∀ k ∈ s, QB (P (s.filter fun x => !decide (x = k))) (gB n) v := fun k hks => by
  have := h _ (kinds_without hk k)
  have hw := without_len hk.up hks
  rw [show (s.filter fun x => !decide (x = k)).length = n by omega] at this
  exact this
theorem gB_le {n : Nat} (h : n ≤ 4) : gB n ≤ 492 := by
  have : n = 0 ∨ n = 1 ∨ n = 2 ∨ n = 3 ∨ n = 4 := by omega
  rcases this with rfl | rfl | rfl | rfl | rfl <;> decide
theorem GB.fb {ss : List Int} (hs : Shares ss) (h4 : ss.length ≤ 4) {v : Nat} (hv : v ≤ 1100000) {P : List Nat → Rat} (h : GB ss v P) : FB ss P := by
  refine ⟨fun s hk => (h s hk).nn, fun s hk => ?_, fun s hk i => ?_⟩
  · have := hk.len
    have := gB_le (n := s.length) (by omega)
    exact ((h s hk).frB (e := 21) (by show _ < 2097152; omega)).mono (by omega)
  · have hl4 := hk.len
    cases hn : s.length with
    | zero =>
      have : s = [] := List.length_eq_zero_iff.mp hn
      subst this
      have := shares_sum hs
      have e : ss.sum = ((ss.sum.toNat : Nat) : Int) := by omega
      have : dueAcc ss P [] (List.take i []) = ((ss.sum : Int) : Rat) := by simp [dueAcc]
      rw [this, e]
      exact ((QB.nat ss.sum.toNat).frB (e := 10) (by show _ < 1024; omega)).mono (by decide)
    | succ n =>
      have hb := accB hs (h.sub hk hn) (s.take i) fun k hk => List.mem_of_mem_take hk
      have hl : (s.take i).length ≤ 4 := by rw [List.length_take]; omega
      have hd := gB_le (n := n) (by omega)
      have hg : gB n ≤ 120 := by
        have : n = 0 ∨ n = 1 ∨ n = 2 ∨ n = 3 := by omega
        rcases this with rfl | rfl | rfl | rfl <;> decide
      have hd2 : (s.take i).length * gB n ≤ 480 := Nat.le_trans (Nat.mul_le_mul hl hg) (by decide)
      have hv2 : (s.take i).length * (9 * v) ≤ 4 * (9 * 1100000) := Nat.mul_le_mul hl (Nat.mul_le_mul_left _ hv)
      exact (hb.frB (e := 26) (by show _ < 67108864; omega)).mono (by omega)
theorem GB.due {ss : List Int} (hs : Shares ss) {v : Nat} {P : List Nat → Rat} {s : List Nat} (hk : Kinds ss.length s) (h0 : s ≠ []) {n : Nat} (hl : s.length = n + 1) (hP : ∀ k ∈ s, QB (P (s.filter fun x => !decide (x = k))) (gB n) v) : QB (dueT ss P s) ((n + 1) * gB n + 6) (45 + (n + 1) * (9 * v)) := by
  have h1 := accB hs hP s fun _ h => h
  have hp := sumP_pos hs h0 hk.lt
  have hle := sumP_le hs hk
  unfold dueT
  rw [← hl]
  refine h1.over (n := (sumP ss s).toNat) (e := 6) (by omega) (by show _ ≤ 64; omega) ?_
  exact Nat.le_mul_of_pos_right _ (by omega)
/-- the values, level by level -/
def vB : Nat → Nat
  | 0 => 0
  | n + 1 => 45 + (n + 1) * (9 * vB n) + 4
/-- papers, level by level small -/
def LB (ss : List Int) (P : List Nat → Rat) (s : List Nat) : Prop := QB (P s) (gB s.length) (vB s.length)
theorem LB.due {ss : List Int} (hs : Shares ss) {P : List Nat → Rat} {s : List Nat} (hk : Kinds ss.length s) (h0 : s ≠ []) {n : Nat} (hl : s.length = n + 1) (h : ∀ k ∈ s, LB ss P (s.filter fun x => !decide (x = k))) : QB (dueT ss P s) ((n + 1) * gB n + 6) (45 + (n + 1) * (9 * vB n)) := by
  refine GB.due hs hk h0 hl fun k hks => ?_
  have := h k hks
  have hw := without_len hk.up hks
  unfold LB at this
  rw [show (s.filter fun x => !decide (x = k)).length = n by omega] at this
  exact this
/-! dicts by a table -/
def tabX (f : List Nat → PyData) (l : List (List Nat)) : List (List Int × PyData) := l.map fun s => (kn s, f s)
theorem tabX_keys (f : List Nat → PyData) (l : List (List Nat)) : (tabX f l).map (·.1) = l.map kn := by unfold tabX; rw [List.map_map]; rfl
theorem tabX_nodup {f : List Nat → PyData} {l : List (List Nat)} (h : l.Nodup) : ((tabX f l).map (·.1)).Nodup := by
  rw [tabX_keys]
  exact h.map _ fun x y ne e => ne (kn_inj e)
theorem lkD_tabX {f : List Nat → PyData} {s : List Nat} : ∀ {l : List (List Nat)}, s ∈ l → lkD (tabX f l) (kn s) = some (f s)
  | [], h => by cases h
  | t :: l, h => by
    unfold lkD tabX
    rw [List.map_cons, List.find?_cons]
    by_cases e : t = s
    · subst e; simp
    · have h1 : ¬ kn t = kn s := fun z => e (kn_inj z)
      rw [show decide (kn t = kn s) = false from decide_eq_false h1]
      rcases List.mem_cons.mp h with h | h
      · exact absurd h.symm e
      · exact lkD_tabX h
theorem lkD_tabX_none {f : List Nat → PyData} {s : List Nat} {l : List (List Nat)} (h : s ∉ l) : lkD (tabX f l) (kn s) = none := by
  cases e : lkD (tabX f l) (kn s) with
  | none => rfl
  | some d =>
    obtain ⟨u, hu, e2⟩ := List.mem_map.mp (lkD_in e)
    injection e2 with e3 _
    exact absurd (kn_inj e3 ▸ hu) h
theorem putV_tabX {f : List Nat → PyData} {s : List Nat} {x : PyData} {l : List (List Nat)} (h : s ∈ l) : putV (dI (dV (tabX f l))) (kI (kn s)) (.d x) = dI (dV (tabX (fun u => if u = s then x else f u) l)) := by
  unfold putV
  have hany : ((dI (dV (tabX f l))).any fun kv => decide (kv.1 = kI (kn s))) = true := by
    rw [List.any_eq_true]
    refine ⟨(kI (kn s), .d (f s)), ?_, by simp⟩
    unfold dI dV tabX
    rw [List.map_map, List.map_map]
    exact List.mem_map.mpr ⟨s, h, rfl⟩
  rw [if_pos hany]
  unfold dI dV tabX
  rw [List.map_map, List.map_map, List.map_map, List.map_map, List.map_map]
  refine List.map_congr_left fun u _ => ?_
  show (if kI (kn u) = kI (kn s) then _ else _) = _
  by_cases e : u = s
  · subst e
    rw [if_pos rfl]
    show _ = (kI (kn u), Val.d (if u = u then x else f u))
    rw [if_pos rfl]
  · rw [if_neg fun z => e (kn_inj (kI_inj z))]
    show _ = (kI (kn u), Val.d (if u = s then x else f u))
    rw [if_neg e]
theorem putV_tabX_new {f : List Nat → PyData} {s : List Nat} {x : PyData} {l : List (List Nat)} (h : s ∉ l) : putV (dI (dV (tabX f l))) (kI (kn s)) (.d x) = dI (dV (tabX (fun u => if u = s then x else f u) (l ++ [s]))) := by
  rw [putV_new _ fun p hp => ?_]
  · unfold tabX dV dI
    rw [List.map_append, List.map_append, List.map_append, List.map_map, List.map_map, List.map_map, List.map_map]
    have e1 : l.map (fun u => (kI (kn u), Val.d (f u))) = l.map (fun u => (kI (kn u), Val.d (if u = s then x else f u))) := List.map_congr_left fun u hu => by
      have hne : ¬ u = s := fun e => h (e ▸ hu)
      rw [if_neg hne]
    have e2 : [(kI (kn s), Val.d x)] = [(kI (kn s), Val.d (if s = s then x else f s))] := by rw [if_pos rfl]
    exact (congrArg (· ++ [(kI (kn s), Val.d x)]) e1).trans (congrArg (_ ++ ·) e2)
  · unfold dI dV tabX at hp
    rw [List.map_map, List.map_map] at hp
    obtain ⟨t, ht, rfl⟩ := List.mem_map.mp hp
    exact fun z => h (kn_inj (kI_inj z) ▸ ht)
/-! how long dicts are shown -/
theorem shbKv {k n : Nat} : ∀ {kvs : List (PyData × PyData)}, (∀ e ∈ kvs, ShB e.1 k n ∧ ShB e.2 k n) → PyData.depthKv kvs ≤ k ∧ PyData.showableKv kvs = true ∧ ((PyData.shownKv kvs).map (·.length)).sum ≤ (2 * n + 2) * kvs.length ∧ (PyData.shownKv kvs).length = kvs.length
  | [], _ => ⟨by simp only [PyData.depthKv]; exact Nat.zero_le _, by simp only [PyData.showableKv], by simp [PyData.shownKv], by simp [PyData.shownKv]⟩
  | e :: kvs, h => by
    obtain ⟨h1, h2⟩ := h e List.mem_cons_self
    obtain ⟨b, c, e1, f⟩ := shbKv (kvs := kvs) fun x hx => h x (List.mem_cons_of_mem _ hx)
    obtain ⟨x, y⟩ := e
    refine ⟨?_, by simp only [PyData.showableKv, h1.sh, h2.sh, c]; rfl, ?_, ?_⟩
    · simp only [PyData.depthKv]
      exact Nat.max_le.mpr ⟨Nat.max_le.mpr ⟨h1.dp, h2.dp⟩, b⟩
    · have l1 : x.shown.length ≤ n := h1.ln
      have l2 : y.shown.length ≤ n := h2.ln
      simp only [PyData.shownKv, List.map_cons, List.sum_cons, List.length_cons]
      rw [strLen_append, strLen_append, Nat.mul_succ]
      have : (": " : Str).length = 2 := by decide +kernel
      omega
    · simp only [PyData.shownKv, List.length_cons, f]
theorem shb_dict {kvs : List (PyData × PyData)} {k n c : Nat} (h : ∀ e ∈ kvs, ShB e.1 k n ∧ ShB e.2 k n) (hc : kvs.length ≤ c) : ShB (.dict kvs) (k + 1) ((2 * n + 4) * c + 3) := by
  obtain ⟨b, e, f, g⟩ := shbKv h
  refine ⟨by simp only [PyData.depth]; omega, by simp only [PyData.showable, e], ?_⟩
  simp only [PyData.shown]
  have := dictText_len_le (PyData.shownKv kvs)
  have h1 : (2 * n + 2) * kvs.length ≤ (2 * n + 2) * c := Nat.mul_le_mul_left _ hc
  have h2 : (2 * n + 4) * c = (2 * n + 2) * c + 2 * c := by rw [show 2 * n + 4 = 2 * n + 2 + 2 by omega, Nat.add_mul]
  omega
theorem shb_key {s : List Nat} (h : ∀ k ∈ s, k ≤ 1000) (hl : s.length ≤ 20) : ShB (tupI (kn s)) 4 9000 := by
  refine (shb_tuple (ds := (kn s).map PyData.int) (k := 0) (n := 12) (c := 20) (fun d hd => ?_) (by rw [List.length_map, List.length_map]; exact hl)).mono (by decide) (by decide)
  obtain ⟨i, hi, rfl⟩ := List.mem_map.mp hd
  obtain ⟨k, hk, rfl⟩ := List.mem_map.mp hi
  have := h k hk
  exact (sh_int (a := 11) (bt_lit (n := 11) (by show _ < 2048; omega) (by decide)) (by decide) (by decide)).toB
theorem shA_tabX {f : List Nat → PyData} {l : List (List Nat)} (hl : l.length ≤ 64) (hk : ∀ s ∈ l, (∀ k ∈ s, k ≤ 1000) ∧ s.length ≤ 20) (hf : ∀ s ∈ l, ShB (f s) 4 9000) : ShA (dctD (tabX f l)) := by
  unfold dctD tabX
  rw [List.map_map]
  refine (shb_dict (k := 4) (n := 9000) (c := 64) (fun e he => ?_) (by rw [List.length_map]; exact hl)).toA (by decide) (by decide)
  obtain ⟨s, hs, rfl⟩ := List.mem_map.mp he
  exact ⟨shb_key (hk s hs).1 (hk s hs).2, hf s hs⟩
/-- what a thing must be like in the law -/
structure Gd (ss : List Int) (t : Tg) : Prop where
  sh : ShA t.data
  b : TgB ss t
/-! the things of k17 -/
/-! what is grown -/
theorem allS_small {n : Nat} (hn : n ≤ 5) {s : List Nat} (h : s ∈ allS n) : (∀ k ∈ s, k ≤ 1000) ∧ s.length ≤ 20 := by
  obtain ⟨h1, h2⟩ := allS_mem n s h
  exact ⟨fun k hk => by have := h2 k hk; omega, by omega⟩
/-- such a table stands at p -/
theorem at_tabX {m : Mm} {p : Addr} {f : List Nat → PyData} {l : List (List Nat)} (hm : m p = some (.dT (dI (dV (tabX f l))))) (hn : l.Nodup) (hl : l.length ≤ 100) (h : ∀ u ∈ l, szFrac (f u) ∧ u.length ≤ 100) : (Tg.dct (tabX f l)).At m (.v (.ref p)) :=
  ⟨p, rfl, hm, tabX_nodup hn, by unfold tabX; rw [List.length_map]; exact hl, fun e he => by
    obtain ⟨u, hu, rfl⟩ := List.mem_map.mp he
    exact ⟨(h u hu).1, by rw [List.length_map]; exact (h u hu).2⟩⟩
theorem put_del {m : Mm} {a : Addr} {o : MO} (h : m a = some o) : put (del m a) a o = m := by
  funext c
  unfold put del
  by_cases hc : c = a
  · rw [if_pos hc, hc, h]
  · rw [if_neg hc, if_neg hc]
theorem on_showTh {K : PySem.W.Frag} {m : Mm} {Q : Val → Mm → Prop} {y : Val} {t : Tg} (h : t.At m y) (hs : ShA t.data) (q : Q (.d (.str t.data.shown)) m) : OpN K (rReprA K) [y] m Q := by
  cases t with
  | dat x => rw [h.1]; exact on_showN hs q
  | dct kds =>
    obtain ⟨p, rfl, h2, _⟩ := h
    exact on_showDT h2 hs q
end DL
/-! dicts with tuple keys, some of which are tuples of truths -/
namespace DL
open PySem L2 PySem.Spec PyProof.Rows
def nkI (ns : List Int) : NestedKey := .tup (ns.map NestedKey.num)
theorem nkI_inj {a b : List Int} (h : nkI a = nkI b) : a = b := by
  unfold nkI at h
  injection h with h
  exact (List.map_inj_right (fun _ _ z => NestedKey.num.inj z)).mp h
inductive OKey where
  | okI (ns : List Int)
  | okB (bs : List Bool)
def b01 (b : Bool) : Int := if b = true then 1 else 0
def OKey.num : OKey → List Int
  | .okI ns => ns
  | .okB bs => bs.map b01
def OKey.data : OKey → PyData
  | .okI ns => tupI ns
  | .okB bs => .tuple (bs.map PyData.bool)
def OKey.At (H : Hp) (b : Addr) : OKey → Prop
  | .okI ns => H b = some (.tup (ns.map V.int))
  | .okB bs => H b = some (.tup (bs.map V.bl))
theorem OKey.At.mono {H H' : Hp} {b : Addr} {z : OKey} (e : Le H H') (h : z.At H b) : z.At H' b := by
  cases z with
  | okI ns => exact e _ _ h
  | okB bs => exact e _ _ h
theorem rpa_bls {K : PySem.W.Frag} {G : Hp} : ∀ (bs : List Bool), RpAll K G (bs.map PyData.bool) (bs.map V.bl)
  | [] => rpa_nil.mpr rfl
  | b :: bs => rpa_cons.mpr ⟨_, _, rfl, rp_bool.mpr rfl, rpa_bls bs⟩
theorem OKey.At.rp {K : PySem.W.Frag} {H : Hp} {b : Addr} {z : OKey} (h : z.At H b) : Rp K H z.data (.ref b) := by
  cases z with
  | okI ns => exact rp_tuple.mpr ⟨b, _, rfl, SqT.of h, rpa_ints _⟩
  | okB bs => exact rp_tuple.mpr ⟨b, _, rfl, SqT.of h, rpa_bls _⟩
section
variable {P : Program} {w : World} {H : Hp} {h : Heap}
theorem nest_bls : ∀ {bs : List Bool} {us : List Value}, Vals (bs.map V.bl) us → NestedAll h ((bs.map b01).map NestedKey.num) us
  | [], us, r => by cases r; exact .nil
  | n :: ns, us, r => by
    cases r with
    | cons r1 r2 =>
      cases r1
      exact .cons (.bool rfl) (nest_bls r2)
theorem ok_is {b : Addr} {z : OKey} (ok : HOk P w H h) (e : z.At H b) : (nestedKind P w).is h (nkI z.num) b := by
  refine ⟨?_, ?_⟩
  · cases z with
    | okI ns => exact nest_ints ok e
    | okB bs =>
      obtain ⟨_, us, r, o, g1, g2, n, g3⟩ := (show ObjOk P w H h b (.tup (bs.map V.bl)) from ok b _ e)
      exact .tup g1 g2 g3 (by rw [List.toList_toArray]; exact nest_bls r)
  · unfold nkI
    simp only [NestedKey.depth, depth_nums]
    decide
theorem hashes_num (ns : List Int) : NestedKey.hashes w (ns.map NestedKey.num) = (kI ns).map (mixKind P w).hash := by
  induction ns with
  | nil => rfl
  | cons n ns ih =>
    show _ :: _ = _ :: _
    rw [ih]
    rfl
theorem hash_nkI (ns : List Int) : (nestedKind P w).hash (nkI ns) = (tupleKind (mixKind P w)).hash (kI ns) := by
  show reduceHash (Builtin.Tuple.tupleHashOf (NestedKey.hashes w (ns.map NestedKey.num))) = reduceHash (Builtin.Tuple.tupleHashOf _)
  rw [hashes_num (P := P)]
end
abbrev OE := OKey × Addr × V
def valN (es : List OE) (k : List Int) : Option V := (es.find? fun e => decide (e.1.num = k)).map (·.2.2)
def NkR (p : OE) (q : NestedKey × Addr × Value) : Prop := q.1 = nkI p.1.num ∧ q.2.1 = p.2.1 ∧ RelV p.2.2 q.2.2
theorem nk_val {es : List OE} {xs : List (NestedKey × Addr × Value)} (r : Paired NkR es xs) (k : List Int) : RelO (valN es k) ((atKey xs (nkI k)).map (·.2)) := by
  induction r with
  | nil => exact True.intro
  | @cons p q ps qs hpq _ ih =>
    obtain ⟨e1, _, e3⟩ := hpq
    by_cases hk : p.1.num = k
    · have l1 : valN (p :: ps) k = some p.2.2 := by simp [valN, hk]
      have l2 : atKey (q :: qs) (nkI k) = some q.2 := by simp [atKey, e1, hk]
      rw [l1, l2]; exact e3
    · have hk2 : ¬ nkI p.1.num = nkI k := fun z => hk (nkI_inj z)
      have l1 : valN (p :: ps) k = valN ps k := by simp [valN, hk]
      have l2 : atKey (q :: qs) (nkI k) = atKey qs (nkI k) := by simp [atKey, e1, hk2]
      rw [l1, l2]; exact ih
/-- the dict at a as one object -/
def nkO (P : Program) (w : World) (a : Addr) (es : List OE) : HO := .ext fun h => (a == sysModules) = false ∧ ∃ xs, Paired NkR es xs ∧ ∃ o en ep, h.get? a = some o ∧ o.ExactDict ∧ o.data = .dict en ep ∧ en.toList = xs.map (entryOfKey (nestedKind P w)) ∧ (xs.map (·.1)).Nodup
/-- read, perhaps while it is walked -/
structure NkW (P : Program) (w : World) (H : Hp) (a : Addr) (es : List OE) : Prop where
  obj : H a = some (nkO P w a es) ∨ ∃ o, H a = some (.frz o (nkO P w a es))
  keys : ∀ e ∈ es, e.1.At H e.2.1
theorem nk_obj {P : Program} {w : World} {H : Hp} {h : Heap} {a : Addr} {es : List OE} (ok : HOk P w H h) (x : H a = some (nkO P w a es) ∨ ∃ o, H a = some (.frz o (nkO P w a es))) : (a == sysModules) = false ∧ ∃ xs, Paired NkR es xs ∧ ∃ o en ep, h.get? a = some o ∧ o.ExactDict ∧ o.data = .dict en ep ∧ en.toList = xs.map (entryOfKey (nestedKind P w)) ∧ (xs.map (·.1)).Nodup := by
  rcases x with e | ⟨o, e⟩
  · obtain ⟨x, _⟩ := (show ObjOk P w H h a (nkO P w a es) from ok a _ e)
    exact x
  · obtain ⟨_, x, _⟩ := (show ObjOk P w H h a (.frz o (nkO P w a es)) from ok a _ e)
    exact x
theorem NkW.dict {P : Program} {w : World} {H : Hp} {h : Heap} {a : Addr} {es : List OE} (ok : HOk P w H h) (x : NkW P w H a es) : (a == sysModules) = false ∧ ∃ xs, Paired NkR es xs ∧ h.DictOfH (nestedKind P w) a xs := by
  obtain ⟨h0, xs, r, o, en, ep, g1, g2, g3, g4, g5⟩ := nk_obj ok x.obj
  refine ⟨h0, xs, r, o, en, ep, g1, g2, g3, g4, fun y hy => ?_, g5⟩
  have all : ∀ {l : List OE} {ys : List (NestedKey × Addr × Value)}, Paired NkR l ys → (∀ e ∈ l, e.1.At H e.2.1) → ∀ y ∈ ys, (nestedKind P w).is h y.1 y.2.1 := fun {l ys} r => by
    induction r with
    | nil => exact fun _ _ z => nomatch z
    | @cons p q ps qs hpq _ ih =>
      intro hk y hy
      rcases List.mem_cons.mp hy with rfl | hy
      · obtain ⟨e1, e2, _⟩ := hpq
        rw [e1, e2]
        exact ok_is ok (hk p List.mem_cons_self)
      · exact ih (fun e he => hk e (List.mem_cons_of_mem _ he)) y hy
  exact all r x.keys y hy
theorem nk_ok {P : Program} {w : World} {H : Hp} {h : Heap} {a : Addr} {es : List OE} {xs : List (NestedKey × Addr × Value)} (h0 : (a == sysModules) = false) (r : Paired NkR es xs) (d : h.DictOfH (nestedKind P w) a xs) : ObjOk P w H h a (nkO P w a es) := by
  obtain ⟨o, en, ep, g1, g2, g3, g4, _, g5⟩ := d
  refine ⟨⟨h0, xs, r, o, en, ep, g1, g2, g3, g4, g5⟩, ⟨o, g1⟩, fun h1 h2 hh hk => ?_⟩
  obtain ⟨a0, ys, b1, o1, en1, ep1, b2, b3⟩ := hh
  exact ⟨a0, ys, b1, o1, en1, ep1, hk _ b2, b3⟩
/-! one kind of keys taken as the other -/
def YX (y : NestedKey × Addr × Value) (x : List Key × Addr × Value) : Prop := ∃ ns, y.1 = nkI ns ∧ x.1 = kI ns ∧ y.2 = x.2
theorem yx_entries {P : Program} {w : World} {ys : List (NestedKey × Addr × Value)} {xs : List (List Key × Addr × Value)} (r : Paired YX ys xs) : ys.map (entryOfKey (nestedKind P w)) = xs.map (entryOfKey (tupleKind (mixKind P w))) := by
  induction r with
  | nil => rfl
  | @cons y x ys xs h _ ih =>
    obtain ⟨ns, e1, e2, e3⟩ := h
    rw [List.map_cons, List.map_cons, ih]
    refine congrArg (· :: _) ?_
    unfold entryOfKey
    rw [e1, e2, e3, hash_nkI]
theorem yx_keys {ys : List (NestedKey × Addr × Value)} {xs : List (List Key × Addr × Value)} (r : Paired YX ys xs) : (xs.map (·.1)).Nodup → (ys.map (·.1)).Nodup := by
  have key : ∀ {ys : List (NestedKey × Addr × Value)} {xs : List (List Key × Addr × Value)}, Paired YX ys xs → ∀ ns, nkI ns ∈ ys.map (·.1) → kI ns ∈ xs.map (·.1) := fun {ys xs} r => by
    induction r with
    | nil => exact fun _ h => nomatch h
    | @cons y x ys xs h _ ih =>
      intro ns hm
      obtain ⟨ks, e1, e2, e3⟩ := h
      rw [List.map_cons] at hm ⊢
      rcases List.mem_cons.mp hm with e | hm
      · rw [e1] at e
        rw [e2, nkI_inj e]
        exact List.mem_cons_self
      · exact List.mem_cons_of_mem _ (ih ns hm)
  induction r with
  | nil => exact fun _ => List.nodup_nil
  | @cons y x ys xs h t ih =>
    intro hn
    rw [List.map_cons, List.nodup_cons] at hn ⊢
    obtain ⟨ks, e1, e2, e3⟩ := h
    refine ⟨fun hm => hn.1 ?_, ih hn.2⟩
    rw [e1] at hm
    rw [e2]
    exact key t ks hm
theorem yx_put {ys : List (NestedKey × Addr × Value)} {xs : List (List Key × Addr × Value)} (r : Paired YX ys xs) (k : List Int) (u : Value) : Paired YX (ys.map (putAt (nkI k) u)) (xs.map (putAt (kI k) u)) := by
  induction r with
  | nil => exact .nil
  | @cons y x ys xs h t ih =>
    rw [List.map_cons, List.map_cons]
    refine .cons ?_ ih
    obtain ⟨ks, e1, e2, e3⟩ := h
    unfold putAt
    by_cases hk : ks = k
    · subst hk
      rw [if_pos e1, if_pos e2]
      exact ⟨ks, e1, e2, by rw [e3]⟩
    · rw [if_neg (fun z => hk (nkI_inj (e1.symm.trans z))), if_neg (fun z => hk (kI_inj (e2.symm.trans z)))]
      exact ⟨ks, e1, e2, e3⟩
theorem yx_val {ys : List (NestedKey × Addr × Value)} {xs : List (List Key × Addr × Value)} (r : Paired YX ys xs) (k : List Int) : atKey ys (nkI k) = atKey xs (kI k) := by
  induction r with
  | nil => rfl
  | @cons y x ys xs h t ih =>
    obtain ⟨ks, e1, e2, e3⟩ := h
    unfold atKey at *
    rw [List.find?_cons, List.find?_cons]
    by_cases hk : ks = k
    · subst hk
      rw [decide_eq_true e1, decide_eq_true e2]
      show some y.2 = some x.2
      rw [e3]
    · rw [decide_eq_false (fun z => hk (nkI_inj (e1.symm.trans z))), decide_eq_false (fun z => hk (kI_inj (e2.symm.trans z)))]
      exact ih
def zipO (kvs : List (List Int × V)) (bs : List Addr) : List OE := (kvs.zip bs).map fun e => (.okI e.1.1, e.2, e.1.2)
abbrev kvI (kvs : List (List Int × V)) : List (List Key × V) := kvs.map fun e => (kI e.1, e.2)
theorem yx_of {H : Hp} : ∀ {kvs : List (List Int × V)} {xs : List (List Key × Addr × Value)}, KT H (kvI kvs) xs → ∃ ys, Paired YX ys xs ∧ Paired NkR (zipO kvs (xs.map fun x => x.2.1)) ys
  | [], xs, r => by
    cases r
    exact ⟨[], .nil, .nil⟩
  | e :: kvs, xs, r => by
    cases r with
    | @cons p q ps qs h t =>
      obtain ⟨h1, h2, h3⟩ := h
      obtain ⟨ys, r1, r2⟩ := yx_of t
      exact ⟨(nkI e.1, q.2) :: ys, .cons ⟨e.1, rfl, h1.symm, rfl⟩ r1, .cons ⟨rfl, rfl, h3⟩ r2⟩
theorem zip_keys {H : Hp} : ∀ {kvs : List (List Int × V)} {bs : List Addr}, IsKeys H (kvI kvs) bs → ∀ e ∈ zipO kvs bs, e.1.At H e.2.1
  | [], bs, r => fun e he => nomatch he
  | a :: kvs, bs, r => by
    cases r with
    | @cons p b ps bs h t =>
      intro e he
      rcases List.mem_cons.mp he with rfl | he
      · have h : H b = some (.tup ((kI a.1).map kV)) := h
        rw [kI_kV] at h
        exact h
      · exact zip_keys t e he
/-! readings and rules -/
def sOPut (P : Program) (w : World) (td ty tv : TE) : TS := fun D σ H => tv σ H fun v H1 => td σ H1 fun x H2 => ty σ H2 fun y H3 => ∃ (a b : Addr) (kvs : List (List Int × V)) (z : OKey), x = .ref a ∧ y = .ref b ∧ z.At H3 b ∧ H3 a = some (.dT (kvI kvs)) ∧ kvs.length < 100000 ∧
  ((valV (kvI kvs) (kI z.num)).isSome = true → D.nx σ (upd H3 a (.dT (putK (kvI kvs) (kI z.num) v)))) ∧
  (valV (kvI kvs) (kI z.num) = none → ∀ bs : List Addr, IsKeys H3 (kvI kvs) bs → D.nx σ (upd H3 a (nkO P w a (zipO kvs bs ++ [(z, b, v)]))))
def tOGet (P : Program) (w : World) (td ty : TE) : TE := fun σ H Q => td σ H fun x H1 => ty σ H1 fun y H2 => ∃ (a b : Addr) (es : List OE) (z : OKey) (v : V), x = .ref a ∧ y = .ref b ∧ z.At H2 b ∧ NkW P w H2 a es ∧ valN es z.num = some v ∧ Q v H2
def tOr (t1 t2 : TE) : TE := fun σ H Q => t1 σ H Q ∨ t2 σ H Q
def iOr (t1 t2 : TI) : TI := fun σ H R => t1 σ H R ∨ t2 σ H R
def sOr (t1 t2 : TS) : TS := fun D σ H => t1 D σ H ∨ t2 D σ H
section
variable {X : Cx} {o i value e : Expr} {pos pos' : Pos} {td ty tv t1 t2 : TE} {j : Nat}
theorem pe_or (h1 : PE X e t1) (h2 : PE X e t2) : PE X e (tOr t1 t2) := ⟨fun pins s σ H Q I q => q.elim (h1.run pins s σ H Q I) (h2.run pins s σ H Q I)⟩
theorem pi_or {tg : Expr} {i1 i2 : TI} (h1 : PI X tg e i1) (h2 : PI X tg e i2) : PI X tg e (iOr i1 i2) := ⟨fun pins s σ H R I q => q.elim (h1.run pins s σ H R I) (h2.run pins s σ H R I)⟩
theorem ps_or {st : Stmt} {s1 s2 : TS} (h1 : PS X st s1) (h2 : PS X st s2) : PS X st (sOr s1 s2) := ⟨fun pins s σ H D I q => q.elim (h1.run pins s σ H D I) (h2.run pins s σ H D I)⟩
theorem pe_oget (hr : Room j X.A) (ho : PE X o td) (hi : PE X i ty) (hs : NoSl i) : PE X (.Subscript o i pos) (tOGet X.prog X.w td ty) := by
  refine ⟨fun pins s σ H Q I hh => ?_⟩
  refine subD_of PySem.F.slot_dict_getitem.lookup hs (thn (ho.run pins s σ H _ I hh) fun u1 s1 ⟨x, H1, I1, rx, q1⟩ => thn (hi.run pins s1 σ H1 _ I1 q1) fun u2 s2 ⟨y, H2, I2, ry, a, b, es, k, v, ex, ey, hk, hd, hv, q⟩ => ?_)
  subst ex ey
  obtain rfl : u1 = Value.ref a := rx
  obtain rfl : u2 = Value.ref b := ry
  obtain ⟨h0, xs, r, dd⟩ := hd.dict I2.hok
  refine ⟨dd.typeIs, ?_⟩
  have hq := nk_val r k.num
  rw [hv] at hq
  obtain ⟨u, hu, ru⟩ := hq.some_of
  obtain ⟨p, hp, hp2⟩ := Option.map_eq_some_iff.mp hu
  refine wpAny_getItem_heap (pk_room hr) (ok_is I2.hok hk) dd hp ?_
  rw [hp2]
  exact ⟨v, H2, I2.tok _, ru, q⟩
theorem ps_oput (hr : Room j X.A) (ho : PE X o td) (hi : PE X i ty) (hv : PE X value tv) (hs : swapsWith value (some (.Subscript o i pos')) pos.line X.env = pure false) :
    PS X (.Assign [.Subscript o i pos'] value pos) (sOPut X.prog X.w td ty tv) := by
  refine ⟨fun pins s σ H D I hh => ?_⟩
  refine wpAny_Assign_Subscript (thn (hv.run pins s σ H _ I hh) fun u0 s1 ⟨v, H1, I1, rv, q1⟩ => thn (ho.run pins s1 σ H1 _ I1 q1) fun u1 s2 ⟨x, H2, I2, rx, q2⟩ => thn (hi.run pins s2 σ H2 _ I2 q2) fun u2 s3 ⟨y, H3, I3, ry, a, b, kvs, z, ex, ey, hk, hd, hl, hA, hB⟩ => ?_) hs
  subst ex ey
  obtain rfl : u1 = Value.ref a := rx
  obtain rfl : u2 = Value.ref b := ry
  obtain ⟨hz, h0, xs, kt, dt⟩ := dt_of I3.hok hd
  obtain ⟨o1, en1, ep1, g1, g2, g3, g4, g5, g6⟩ := dt
  obtain ⟨ys, r1, r2⟩ := yx_of kt
  have ik := isKeys_of kt
  have dd : s3.heap.DictOfH (nestedKind X.prog X.w) a ys := by
    refine ⟨o1, en1, ep1, g1, g2, g3, ?_, fun y hy => ?_, yx_keys r1 g6⟩
    · rw [g4, yx_entries r1]
    · have all : ∀ {l : List OE} {ys : List (NestedKey × Addr × Value)}, Paired NkR l ys → (∀ e ∈ l, e.1.At H3 e.2.1) → ∀ y ∈ ys, (nestedKind X.prog X.w).is s3.heap y.1 y.2.1 := fun {l ys} r => by
        induction r with
        | nil => exact fun _ _ z => nomatch z
        | @cons p q ps qs hpq _ ih =>
          intro hk y hy
          rcases List.mem_cons.mp hy with rfl | hy
          · obtain ⟨e1, e2, _⟩ := hpq
            rw [e1, e2]
            exact ok_is I3.hok (hk p List.mem_cons_self)
          · exact ih (fun e he => hk e (List.mem_cons_of_mem _ he)) y hy
      exact all r2 (zip_keys ik) y hy
  have hxl : ys.length ≤ sizeLine := by
    have h1 := Paired.length r1
    have h2 := Paired.length kt
    rw [List.length_map] at h2
    rw [sizeLine_eq]; omega
  refine wpAny_setItem_heap (hsz := hxl) (pk_room hr) (ok_is I3.hok hk) dd fun h' dd' hs' => ?_
  have hex : ∃ u, h'.get? a = some u := let ⟨u, _, _, hu, _⟩ := dd'; ⟨u, hu⟩
  have mu : Mut (H3 a) := by rw [hd]; exact True.intro
  have hval := kt.val (kI z.num)
  cases hsome : valV (kvI kvs) (kI z.num) with
  | some v0 =>
    rw [hsome] at hval
    obtain ⟨u, hu, ru⟩ := hval.some_of
    obtain ⟨p, hp, hp2⟩ := Option.map_eq_some_iff.mp hu
    have hp' : atKey ys (nkI z.num) = some p := by rw [yx_val r1, hp]
    have hb' : ∃ b', H3 b' = some (.tup ((kI z.num).map kV)) := by
      have : ∀ {l : List (List Key × V)} {xs : List (List Key × Addr × Value)}, KT H3 l xs → atKey xs (kI z.num) = some p → ∃ b', H3 b' = some (.tup ((kI z.num).map kV)) := fun {l xs} r => by
        induction r with
        | nil => exact fun h => nomatch h
        | @cons p1 q ps qs hpq _ ih =>
          intro h
          obtain ⟨e1, e2, _⟩ := hpq
          by_cases hk : q.1 = kI z.num
          · exact ⟨_, by rw [← hk, ← e1]; exact e2⟩
          · refine ih ?_
            unfold atKey at h ⊢
            rw [List.find?_cons, decide_eq_false hk] at h
            exact h
      exact this kt hp
    obtain ⟨b', hb'⟩ := hb'
    have kt' := kt.put (kI z.num) hb' rv
    rw [storedH_old hp] at kt'
    rw [storedH_old hp'] at dd'
    obtain ⟨o2, en2, ep2, k1, k2, k3, k4, k5, k6⟩ := dd'
    refine ⟨σ, _, I3.write (x := a) (e := a) mu (Or.inl rfl) (fun c u hc z => (hs'.2 c hc).trans z) hex ?_, hA (by rw [hsome]; rfl)⟩
    refine ⟨?_, h0, _, Paired.mapP kt' fun p1 q1 h1 => ⟨h1.1, ?_, h1.2.2⟩, o2, en2, ep2, k1, k2, k3, ?_, ?_⟩
    · refine Nat.le_trans (length_putK _ _ _) ?_
      rw [List.length_map, sizeLine_eq]; omega
    · have h12 := h1.2.1
      by_cases hc : q1.2.1 = a
      · rw [hc, hd] at h12; cases h12
      · rw [upd_ne hc]; exact h12
    · rw [k4]
      exact yx_entries (yx_put r1 _ _)
    · rw [keys_map_putAt]; exact g6
  | none =>
    rw [hsome] at hval
    have hn : atKey ys (nkI z.num) = none := by
      rw [yx_val r1]
      cases hq : atKey xs (kI z.num) with
      | none => rfl
      | some p => rw [hq] at hval; exact (show False from hval).elim
    rw [storedH_new hn] at dd'
    exact ⟨σ, _, I3.write (x := a) (e := a) mu (Or.inl rfl) (fun c u hc z => (hs'.2 c hc).trans z) hex (nk_ok h0 (Paired.snoc r2 ⟨rfl, rfl, rv⟩) dd'), hB hsome _ ik⟩
end
end DL
/-! dicts with odd keys: walked, told, at the level of data -/
namespace DL
open PySem L2 PySem.Spec PyProof.Rows L2H
def rOr (r1 r2 : List V → Hp → VK → Prop) : List V → Hp → VK → Prop := fun xs H Q => r1 xs H Q ∨ r2 xs H Q
theorem call_rOr {X : Cx} {f : Value} {r r' : List V → Hp → VK → Prop} (h : CallR X f r) (h' : CallR X f r') : CallR X f (rOr r r') := h.or h'
/-! walked -/
def Itnk (P : Program) (w : World) (d : Addr) (o : Obj) (es : List OE) : L2.It :=
  ⟨fun i H => H d = some (.frz o (nkO P w d es)) ∧ i < es.length, fun i H x H' => H' = H ∧ ∃ e, es[i]? = some e ∧ x = .ref e.2.1, fun i H => H d = some (.frz o (nkO P w d es)) ∧ es.length ≤ i⟩
theorem frz_nk {X : Cx} {pins : List (Addr × Obj)} {σ : L2.St} {H : Hp} {s : Shared} {d : Addr} {o : Obj} {es : List OE} (I : Inv X pins σ H s) (h : H d = some (.frz o (nkO X.prog X.w d es))) :
    (d == sysModules) = false ∧ s.heap.get? d = some o ∧ o.ExactDict ∧ ∃ (en : Array DictEntry) (ep : Nat), o.data = .dict en ep ∧ en.size = es.length ∧ ∀ (i : Nat) (e : OE), es[i]? = some e → ∃ t : DictEntry, en[i]? = some t ∧ t.key = .ref e.2.1 := by
  obtain ⟨hd, ⟨h0, xs, r, o2, en, ep, g1, g2, g3, g4, g5⟩, _⟩ := (show ObjOk X.prog X.w H s.heap d (.frz o (nkO X.prog X.w d es)) from I.hok d _ h)
  rw [hd] at g1
  cases g1
  refine ⟨h0, hd, g2, en, ep, g3, ?_, fun i e he => ?_⟩
  · have l1 : en.size = xs.length := size_of_entries g4
    have l2 := Paired.length r
    omega
  · obtain ⟨b, hb, _, e2, _⟩ := paired_get r he
    have q := entry_at g4 i
    rw [hb] at q
    refine ⟨_, q, ?_⟩
    show Value.ref b.2.1 = _
    rw [e2]
theorem turn_nk {P : Program} {w : World} {K : PySem.W.Frag} {tg : Expr} {d : Addr} {o : Obj} {en : Array DictEntry} {ep : Nat} {es : List OE} (it : Addr) (hod : o.data = .dict en ep) : Turn P w K tg (Itnk P w d o es) [it] it (fun i h => h.IsKeyIter it d i es.length ep) where
  mem := by simp
  obj := fun i h st b hb => by
    have hbi : b = it := by simpa using hb
    subst hbi
    obtain ⟨oi, q1, _, q3⟩ := st
    exact ⟨oi, q1, fun v z => by rw [q3] at z; cases z⟩
  keep := fun i h h' st k => st.at fun oi z => k it (by simp) oi z
  item := by
    intro X hP hw hK hc i pins s σ H E I hf st hg
    subst hP hw hK
    obtain ⟨hd, hi⟩ := hg
    obtain ⟨f0, f1, _, f3, f4, f5⟩ := hf it (by simp)
    obtain ⟨_, hgd, _, en', ep', hdt, hsz, ent⟩ := frz_nk I hd
    obtain ⟨rfl, rfl⟩ := dict_ep hod hdt
    have hei : es[i]? = some es[i] := List.getElem?_eq_getElem hi
    obtain ⟨tt, ht, hkey⟩ := ent i _ hei
    refine next_key_item st hgd hdt hsz ht fun h' st' sb => ?_
    have I1 : Inv X pins σ H { s with heap := h' } := I.turned (t' := s.toks) (fun b ob hb z => (sb.2 b hb).trans z) f0 f1 f3 f4 f5
    obtain ⟨oi, q1, q2, q3⟩ := id st'
    exact ⟨tt.key, rfl, go_of (s := { s with heap := h' }) q1 q2 q3 (by decide) ⟨.ref es[i].2.1, H, I1, hkey, ⟨rfl, _, hei, rfl⟩, st', fun b hb => (hf b hb).1⟩⟩
  done := by
    intro X hP hw hK hc i pins s σ H E I hf st hg
    subst hP hw hK
    obtain ⟨hd, hi⟩ := hg
    obtain ⟨f0, f1, _, f3, f4, f5⟩ := hf it (by simp)
    obtain ⟨_, hgd, _, en', ep', hdt, hsz, ent⟩ := frz_nk I hd
    obtain ⟨rfl, rfl⟩ := dict_ep hod hdt
    exact next_key_end (I.ok.hd hc) st hgd hdt hsz hi fun h' eb => ⟨rfl, I.turned (t' := s.toks) (fun b ob hb z => eb b ob hb z) f0 f1 f3 f4 f5⟩
  self := fun A i s Q E st h => by
    refine wpAny_pyIter_slot st.typeIs F.slot_dict_keyiterator_iter (wpAny_call_entry F.slot_dict_keyiterator_iter st.typeIs F.entry_dict_keyiterator_iter ?_ (F.args_dict_keyiterator_iter_1 _))
    show wpAny _ _ (ret (.ref it)) _ _ s
    exact wpAny_pure ⟨_, rfl, "dict_keyiterator", _, st.typeIs, F.slot_dict_keyiterator_next.lookup, h⟩
def iKeysO (P : Program) (w : World) (td : TE) : TI := fun σ H R => td σ H fun x H1 => ∃ d o es, x = .ref d ∧ H1 d = some (.frz o (nkO P w d es)) ∧ R (Itnk P w d o es) H1
theorem pi_keysO {X : Cx} {tg e : Expr} {td : TE} (he : PE X e td) : PI X tg e (iKeysO X.prog X.w td) := by
  refine ⟨fun pins s σ H R I hh => ?_⟩
  refine thn (he.run pins s σ H _ I hh) fun u s1 ⟨x, H1, I1, rx, d, o, es, ex, hd, q⟩ => ?_
  subst ex
  obtain rfl : u = Value.ref d := rx
  obtain ⟨h0, hgd, hx, en, ep, hdt, hsz, _⟩ := frz_nk I1 hd
  refine iter_keys h0 hgd hx hdt (pi_one (tk := s1.toks) I1 _ (turn_nk _ hdt) ⟨_, Heap.get?_push_size _ rfl, rfl, ?_⟩ q)
  rw [hsz] <;> rfl
theorem walk_nk {P : Program} {w : World} {d : Addr} {o : Obj} {es : List OE} : Walk (Itnk P w d o es) es.length (fun H => H d = some (.frz o (nkO P w d es))) (fun i H x H' => H' = H ∧ ∃ e, es[i]? = some e ∧ x = .ref e.2.1) :=
  ⟨fun _ _ a b => ⟨b, a⟩, fun _ b => ⟨b, Nat.le_refl _⟩, fun _ _ _ _ _ _ y => y⟩
/-! isinstance, len, repr -/
def rIsiO (P : Program) (w : World) : List V → Hp → VK → Prop := fun xs H Q => ∃ (a : Addr) (es : List OE), xs = [.ref a, .ty "dict"] ∧ H a = some (nkO P w a es) ∧ Q (.bl true) H
theorem call_isiO {X : Cx} : CallR X (.builtin "isinstance") (rIsiO X.prog X.w) := by
  intro pins s σ H xs us Q I r h
  obtain ⟨a, es, rfl, ha, q⟩ := h
  obtain ⟨u1, u2, rfl, r1, r2⟩ := vals2 r
  cases (show u1 = Value.ref a from r1)
  cases (show u2 = Value.type "dict" from r2)
  obtain ⟨h0, xs, _, o, en, ep, g1, g2, _⟩ := nk_obj I.hok (Or.inl ha)
  exact PySem.W.kia_one (t := .type "dict") PySem.W.kitx_dict I.kIn ⟨o, g1, g2.1⟩ (kit_ty (a := "dict") (by decide +kernel)) (fun z => nomatch z) fun tk => ⟨.bl true, H, I.tok tk, rfl, q⟩
def rLenO (P : Program) (w : World) : List V → Hp → VK → Prop := fun xs H Q => ∃ (a : Addr) (es : List OE), xs = [.ref a] ∧ NkW P w H a es ∧ es.length ≤ 100000 ∧ Q (.int ((es.length : Nat) : Int)) H
theorem call_lenO {X : Cx} : CallR X (.builtin "len") (rLenO X.prog X.w) := by
  intro pins s σ H xs us Q I r h
  obtain ⟨p, es, rfl, hp, hl, q⟩ := h
  obtain ⟨u, rfl, rx⟩ := vals1 r
  obtain rfl : u = .ref p := rx
  obtain ⟨h0, ys, rel, dd⟩ := hp.dict I.hok
  have hy : es.length = ys.length := Paired.length rel
  refine call_len_dictH h0 dd (by rw [← hy]; omega) ?_
  rw [← hy]
  exact ⟨.int ((es.length : Nat) : Int), H, I.tok _, ⟨_, rfl⟩, q⟩
def OrD (K : PySem.W.Frag) (H : Hp) (p : OKey × PyData) (e : OE) : Prop := e.1 = p.1 ∧ p.1.At H e.2.1 ∧ Rp K H p.2 e.2.2
def dctO (kos : List (OKey × PyData)) : PyData := .dict (kos.map fun e => (e.1.data, e.2))
theorem rdO {X : Cx} {pins : List (Addr × Obj)} {σ : L2.St} {H : Hp} {s : Shared} (I : Inv X pins σ H s) (hs : SysAt X.base) : ∀ {kos : List (OKey × PyData)} {es : List OE} {xs : List (NestedKey × Addr × Value)}, Paired (OrD X.K H) kos es → Paired NkR es xs →
    ∃ as bs, ReadsAll s.heap (xs.map fun x => Value.ref x.2.1) (kos.map fun e => e.1.data) as ∧ ReadsAll s.heap (xs.map fun x => x.2.2) (kos.map (·.2)) bs ∧ sysModules ∉ as ∧ sysModules ∉ bs
  | [], es, xs, r, r2 => by
    cases r
    cases r2
    exact ⟨[], [], ReadsAll.nil, ReadsAll.nil, (fun z => nomatch z), (fun z => nomatch z)⟩
  | k :: kos, es, xs, r, r2 => by
    cases r with
    | cons h t =>
      cases r2 with
      | cons h' t' =>
        obtain ⟨as, bs, q1, q2, q3, q4⟩ := rdO I hs t t'
        obtain ⟨e1, e2, e3⟩ := h
        obtain ⟨f1, f2, f3⟩ := h'
        obtain ⟨cs, q5, q6⟩ := rdA I hs _ _ _ e2.rp (rfl : RelV (V.ref _) (Value.ref _))
        obtain ⟨ds, q7, q8⟩ := rdA I hs _ _ _ e3 f3
        rw [← f2] at q5
        exact ⟨cs ++ as, ds ++ bs, ReadsAll.cons q5 q1, ReadsAll.cons q7 q2, fun z => (List.mem_append.mp z).elim q6 q3, fun z => (List.mem_append.mp z).elim q8 q4⟩
def rReprO (K : PySem.W.Frag) (P : Program) (w : World) : List V → Hp → VK → Prop := fun xs H Q => ∃ (a : Addr) (es : List OE) (kos : List (OKey × PyData)), xs = [.ref a] ∧ NkW P w H a es ∧ Paired (OrD K H) kos es ∧ (dctO kos).depth ≤ 64 ∧ (dctO kos).showable = true ∧ (dctO kos).shown.length ≤ sizeLine ∧ Q (.str (dctO kos).shown) H
theorem cReprO {X : Cx} {k : Nat} (hr : Room k X.A) (hg : X.A.guards = some []) (hs : SysAt X.base) : CallR X (.builtin "repr") (rReprO X.K X.prog X.w) := by
  intro pins s σ H xs us Q I r h
  obtain ⟨a, es, kos, rfl, hd, hp, h1, h2, h3, q⟩ := h
  obtain ⟨u, rfl, rx⟩ := vals1 r
  cases rx
  obtain ⟨h0, xs, rel, o, en, ep, g1, g2, g3, g4, _⟩ := nk_obj I.hok hd.obj
  obtain ⟨as, bs, q1, q2, q3, q4⟩ := rdO I hs hp rel
  have := hr.un
  have rd : Reads s.heap (.ref a) (dctO kos) (a :: as ++ bs) := by
    refine Reads.dict g1 g2.1 g3 ?_ ?_
    · rw [g4, List.map_map, List.map_map]; exact q1
    · rw [g4, List.map_map, List.map_map]; exact q2
  have ns : sysModules ∉ a :: as ++ bs := fun z => by
    rcases List.mem_append.mp z with z | z
    · rcases List.mem_cons.mp z with z | z
      · rw [z] at h0; simp at h0
      · exact q3 z
    · exact q4 z
  exact repr_of_reads' rd h2 (fun _ => ns) hg (by omega) (fun _ _ e => e) (fun h' u tk hk => ⟨.str _, H, I.kept hk, ⟨_, rfl⟩, q⟩) h3
section
variable {X : Cx} {o i value e : Expr} {pos pos' : Pos} {td ty tv : TE} {j : Nat} (K : PySem.W.Frag) (P : Program) (w : World)
theorem kOGet (hr : Room j X.A) (ho : PE X o td) (hi : PE X i ty) (hs : NoSl i) (hP : X.prog = P := by rfl) (hw : X.w = w := by rfl) : PE X (.Subscript o i pos) (tOGet P w td ty) := hP ▸ hw ▸ pe_oget hr ho hi hs
theorem kOPut (hr : Room j X.A) (ho : PE X o td) (hi : PE X i ty) (hv : PE X value tv) (hs : swapsWith value (some (.Subscript o i pos')) pos.line X.env = pure false) (hP : X.prog = P := by rfl) (hw : X.w = w := by rfl) :
    PS X (.Assign [.Subscript o i pos'] value pos) (sOPut P w td ty tv) := hP ▸ hw ▸ ps_oput hr ho hi hv hs
theorem kKeysO {tg : Expr} (he : PE X e td) (hP : X.prog = P := by rfl) (hw : X.w = w := by rfl) : PI X tg e (iKeysO P w td) := hP ▸ hw ▸ pi_keysO he
theorem kIsiO (hP : X.prog = P := by rfl) (hw : X.w = w := by rfl) (hK : X.K = K := by rfl) : CallR X (.builtin "isinstance") (rOr (rIsi K) (rIsiO P w)) := by
  subst hP hw
  exact call_rOr (kIsi K hK) call_isiO
theorem kLenO (hP : X.prog = P := by rfl) (hw : X.w = w := by rfl) (hK : X.K = K := by rfl) : CallR X (.builtin "len") (rOr (rLenA K) (rLenO P w)) := by
  subst hP hw
  exact call_rOr (kLenA K hK) call_lenO
theorem kReprO (hr : Room j X.A) (hg : X.A.guards = some []) (hs : SysAt X.base) (hP : X.prog = P := by rfl) (hw : X.w = w := by rfl) (hK : X.K = K := by rfl) : CallR X (.builtin "repr") (rOr (rReprA K) (rReprO K P w)) := by
  subst hP hw hK
  exact call_rOr (cReprA hr hg hs) (cReprO hr hg hs)
end
/-! at the level of data -/
def okP (z : OKey) : Hp → V → Prop := fun G v => ∃ b, v = .ref b ∧ z.At G b
theorem okP.mono {z : OKey} {v : V} (G G' : Hp) (e : Le G G') (h : okP z G v) : okP z G' v := by
  obtain ⟨b, h1, h2⟩ := h
  exact ⟨b, h1, h2.mono e⟩
/-- a key that is a tuple of truths -/
def vok (z : OKey) : Val := .g (okP z)
def OrG (K : PySem.W.Frag) (G : Hp) (p : OKey × PyData) (e : OE) : Prop := e.1 = p.1 ∧ p.1.At G e.2.1 ∧ VR K G (.d p.2) e.2.2
theorem org_mono {K : PySem.W.Frag} {G G' : Hp} (e : Le G G') : ∀ {kos : List (OKey × PyData)} {es : List OE}, Paired (OrG K G) kos es → Paired (OrG K G') kos es
  | _, _, .nil => .nil
  | _, _, .cons h t => .cons ⟨h.1, h.2.1.mono e, h.2.2.mono e⟩ (org_mono e t)
theorem org_d {K : PySem.W.Frag} {G H : Hp} (e : Le G H) : ∀ {kos : List (OKey × PyData)} {es : List OE}, Paired (OrG K G) kos es → Paired (OrD K H) kos es
  | _, _, .nil => .nil
  | _, _, .cons h t => .cons ⟨h.1, h.2.1.mono e, Rp.mono e _ _ h.2.2.rp⟩ (org_d e t)
theorem org_keys {K : PySem.W.Frag} {G H : Hp} (e : Le G H) {kos : List (OKey × PyData)} {es : List OE} (r : Paired (OrG K G) kos es) : ∀ x ∈ es, x.1.At H x.2.1 := by
  induction r with
  | nil => exact fun _ h => nomatch h
  | cons h _ ih =>
    intro x hx
    rcases List.mem_cons.mp hx with rfl | hx
    · rw [h.1]; exact h.2.1.mono e
    · exact ih x hx
def oddQ (K : PySem.W.Frag) (P : Program) (w : World) (kos : List (OKey × PyData)) : Hp → Hp → Addr → Prop := fun G H a => ∃ es : List OE, H a = some (nkO P w a es) ∧ Paired (OrG K G) kos es
def oddM (K : PySem.W.Frag) (P : Program) (w : World) (kos : List (OKey × PyData)) : MO := .g (oddQ K P w kos)
def oddWQ (K : PySem.W.Frag) (P : Program) (w : World) (o : Obj) (es : List OE) (kos : List (OKey × PyData)) : Hp → Hp → Addr → Prop := fun G H a => H a = some (.frz o (nkO P w a es)) ∧ Paired (OrG K G) kos es
/-- one that is being walked -/
def oddW (K : PySem.W.Frag) (P : Program) (w : World) (o : Obj) (es : List OE) (kos : List (OKey × PyData)) : MO := .g (oddWQ K P w o es kos)
section
variable {K : PySem.W.Frag} {P : Program} {w : World} {G H : Hp} {a p : Addr} {kos : List (OKey × PyData)} {o : Obj} {es : List OE}
theorem mr_odd (h : oddQ K P w kos G H a) : MR K G H a (oddM K P w kos) := by
  refine ⟨h, fun G G' H H' e hh ⟨es, h1, h2⟩ => ⟨es, hh.trans h1, org_mono e h2⟩, ?_, ?_⟩
  · obtain ⟨es, h1, _⟩ := h
    exact ⟨_, h1⟩
  · obtain ⟨es, h1, _⟩ := h
    intro xs z
    rw [z] at h1; cases h1
theorem mr_oddW (h : oddWQ K P w o es kos G H a) : MR K G H a (oddW K P w o es kos) := by
  refine ⟨h, fun G G' H H' e hh ⟨h1, h2⟩ => ⟨hh.trans h1, org_mono e h2⟩, ⟨_, h.1⟩, ?_⟩
  intro xs z
  rw [h.1] at z
  cases z
theorem Sta.odd {m : Mm} (S : Sta K m H G) (hm : m p = some (oddM K P w kos)) : ∃ es, H p = some (nkO P w p es) ∧ Paired (OrG K G) kos es := by
  obtain ⟨⟨es, h1, h2⟩, _⟩ := S.mem p _ hm
  exact ⟨es, h1, h2⟩
def OdDat (K : PySem.W.Frag) (P : Program) (w : World) (m : Mm) (p : Addr) (kos : List (OKey × PyData)) : Prop := m p = some (oddM K P w kos) ∨ ∃ o es, m p = some (oddW K P w o es kos)
theorem OdDat.rd {m : Mm} (h : OdDat K P w m p kos) (S : Sta K m H G) : ∃ es, NkW P w H p es ∧ Paired (OrG K G) kos es := by
  rcases h with h | ⟨o, es, h⟩
  · obtain ⟨es, h1, h2⟩ := S.odd h
    exact ⟨es, ⟨Or.inl h1, org_keys S.sub h2⟩, h2⟩
  · obtain ⟨⟨h1, h2⟩, _⟩ := S.mem p _ h
    exact ⟨es, ⟨Or.inr ⟨o, h1⟩, org_keys S.sub h2⟩, h2⟩
theorem org_val (k : List Int) : ∀ {kos : List (OKey × PyData)} {es : List OE} {i : Nat} {z : OKey} {d : PyData}, Paired (OrG K G) kos es → (kos.map fun e => e.1.num).Nodup → kos[i]? = some (z, d) → ∃ v, valN es z.num = some v ∧ VR K G (.d d) v
  | [], _, i, z, d, _, _, h => by simp at h
  | e :: kos, es, i, z, d, r, hn, h => by
    cases r with
    | @cons _ x _ xs h1 t =>
      rw [List.map_cons, List.nodup_cons] at hn
      cases i with
      | zero =>
        have he : e = (z, d) := by simpa using h
        subst he
        refine ⟨x.2.2, ?_, h1.2.2⟩
        unfold valN
        rw [List.find?_cons, decide_eq_true (by rw [h1.1])]
        rfl
      | succ i =>
        have h' : kos[i]? = some (z, d) := by simpa using h
        obtain ⟨v, hv, rv⟩ := org_val k t hn.2 h'
        refine ⟨v, ?_, rv⟩
        have hne : ¬ x.1.num = z.num := fun e2 => hn.1 (by
          rw [h1.1] at e2
          rw [e2]
          exact List.mem_map.mpr ⟨_, List.mem_of_getElem? h', rfl⟩)
        unfold valN at hv ⊢
        rw [List.find?_cons, decide_eq_false hne]
        exact hv
end
section
variable {K : PySem.W.Frag} {r : List Val} {m : Mm} {Q : Val → Mm → Prop} {te td ty tv tk t1 t2 : TE} {P : Program} {w : World} {N : List Val → Mm → Prop} {E : Val → Mm → Prop} {p : Addr} {kos : List (OKey × PyData)}
theorem ev_orL (h : Ev K t1 r m Q) : Ev K (tOr t1 t2) r m Q := fun σ H G S L R k => Or.inl (h σ H G S L R k)
theorem ev_orR (h : Ev K t2 r m Q) : Ev K (tOr t1 t2) r m Q := fun σ H G S L R k => Or.inr (h σ H G S L R k)
theorem on_orL {r1 r2 : List V → Hp → VK → Prop} {xs : List Val} (h : OpN K r1 xs m Q) : OpN K (rOr r1 r2) xs m Q := fun H G vs S a R k => Or.inl (h H G vs S a R k)
theorem on_orR {r1 r2 : List V → Hp → VK → Prop} {xs : List Val} (h : OpN K r2 xs m Q) : OpN K (rOr r1 r2) xs m Q := fun H G vs S a R k => Or.inr (h H G vs S a R k)
theorem w_forOrL {i1 i2 : TI} {g : TG} {t : TS} (h : Wp K (tLock (tFor i1 g t)) r m N E) : Wp K (tLock (tFor (iOr i1 i2) g t)) r m N E := fun σ H G D S L a b => by
  obtain ⟨d, u, h1, h2, h3⟩ := h σ H G D S L a b
  exact ⟨d, u, h1, h2, fun od => Or.inl (h3 od)⟩
theorem w_forOrR {i1 i2 : TI} {g : TG} {t : TS} (h : Wp K (tLock (tFor i2 g t)) r m N E) : Wp K (tLock (tFor (iOr i1 i2) g t)) r m N E := fun σ H G D S L a b => by
  obtain ⟨d, u, h1, h2, h3⟩ := h σ H G D S L a b
  exact ⟨d, u, h1, h2, fun od => Or.inr (h3 od)⟩
theorem on_isiO (hm : m p = some (oddM K P w kos)) (q : Q (.d (.bool true)) m) : OpN K (rIsiO P w) [.v (.ref p), .v (.ty "dict")] m Q := fun H G vs S a R k => by
  obtain ⟨v, u, rfl, h1, h2⟩ := vrs2 a
  rw [h2.eq, h1.eq]
  obtain ⟨es, g1, g2⟩ := S.odd hm
  exact ⟨p, es, rfl, g1, k _ H G _ m q S (Le.refl G) vr_bool⟩
theorem on_lenO (hm : m p = some (oddM K P w kos)) (hl : kos.length ≤ 100000) (q : Q (.d (.int ((kos.length : Nat) : Int))) m) : OpN K (rLenO P w) [.v (.ref p)] m Q := fun H G vs S a R k => by
  obtain ⟨v, rfl, h1⟩ := vrs1 a
  rw [h1.eq]
  obtain ⟨es, g1, g2⟩ := S.odd hm
  have hlen := Paired.length g2
  exact ⟨p, es, rfl, ⟨Or.inl g1, org_keys S.sub g2⟩, by omega, by rw [← hlen]; exact k _ H G _ m q S (Le.refl G) vr_int⟩
theorem on_showO (hm : m p = some (oddM K P w kos)) (h : ShA (dctO kos)) (q : Q (.d (.str (dctO kos).shown)) m) : OpN K (rReprO K P w) [.v (.ref p)] m Q := fun H G vs S a R k => by
  obtain ⟨v, rfl, h1⟩ := vrs1 a
  rw [h1.eq]
  obtain ⟨es, g1, g2⟩ := S.odd hm
  exact ⟨p, es, kos, rfl, ⟨Or.inl g1, org_keys S.sub g2⟩, org_d S.sub g2, h.dp, h.sh, by rw [sizeLine_eq]; exact h.ln, k _ H G _ m q S (Le.refl G) vr_str⟩
theorem on_tupBl {bs : List Bool} (q : Q (vok (.okB bs)) m) : OpN K (rTupO K) [.d (.list (bs.map PyData.bool))] m Q := fun H G vs S a R k => by
  obtain ⟨v, rfl, h⟩ := vrs1 a
  obtain ⟨p, xs, hv, h2, h3⟩ := rp_list.mp h.rp
  have bls : ∀ {bs : List Bool} {xs : List V}, RpAll K G (bs.map PyData.bool) xs → xs = bs.map V.bl := fun {bs} => by
    induction bs with
    | nil => exact fun {xs} h => rpa_nil.mp h
    | cons b bs ih =>
      intro xs h
      obtain ⟨x, r, rfl, h1, h2⟩ := rpa_cons.mp h
      rw [rp_bool.mp h1, ih h2]
      rfl
  have hx := bls h3
  subst hx
  refine ⟨p, _, by rw [hv], Or.inl ⟨Or.inl (Le.rd S.sub h2), fun l hl => ?_⟩⟩
  have hg := S.free hl
  exact k _ _ (upd G l _) _ m q (S.fix hl) (Le.new hg) (.g ⟨l, rfl, upd_same⟩ okP.mono)
/-- d[key], an int key of it -/
theorem ev_oget (h : Ev K td r m fun x m1 => ∃ p, x = .v (.ref p) ∧ Ev K ty r m1 fun y m2 => ∃ (ns : List Int) (kos : List (OKey × PyData)) (i : Nat) (d : PyData), y = .t ns ∧ OdDat K P w m2 p kos ∧ (kos.map fun e => e.1.num).Nodup ∧ kos[i]? = some (OKey.okI ns, d) ∧ Q (.d d) m2) : Ev K (tOGet P w td ty) r m Q := fun σ H G S L R kk =>
  h σ H G S L _ fun v1 H1 G1 x m1 ⟨p, hx, h1⟩ S1 e1 r1 => h1 σ H1 G1 S1 (L.mono e1) _ fun v2 H2 G2 y m2 ⟨ns, kos, i, d, hy, hm, hn, hi, q⟩ S2 e2 r2 => by
    subst hy hx
    obtain rfl := r1.eq
    cases r2 with
    | @t _ b hb =>
      obtain ⟨es, hd, hp⟩ := hm.rd S2
      obtain ⟨v, hv, hv2⟩ := org_val ns hp hn hi
      exact ⟨p, b, es, .okI ns, v, rfl, rfl, S2.sub _ _ hb, hd, hv, kk _ H2 G2 _ m2 q S2 (e1.trans e2) hv2⟩
/-- what a walk hands out -/
def okV : OKey → Val
  | .okI ns => .t ns
  | .okB bs => .d (.tuple (bs.map PyData.bool))
theorem vr_okV {G : Hp} {z : OKey} {b : Addr} (h : z.At G b) : VR K G (okV z) (.ref b) := by
  cases z with
  | okI ns => exact .t h
  | okB bs => exact .d (OKey.At.rp h)
/-- for k in the dict -/
theorem w_forO {j : Nat} {t : TS} (hm : m p = some (oddM K P w kos))
    (h : ∀ o es, Ev K td r (put m p (oddW K P w o es kos)) fun x m1 => x = .v (.ref p) ∧ m1 = put m p (oddW K P w o es kos))
    (W : Nat → List Val → Mm → Prop) (h0 : W 0 r m)
    (hs : ∀ (i : Nat) (z : OKey) (d : PyData) r' m' o es, kos[i]? = some (z, d) → W i r' m' → m' p = some (oddM K P w kos) →
      Wp K t (r'.set j (okV z)) (put m' p (oddW K P w o es kos)) (fun r2 m2 => m2 p = some (oddW K P w o es kos) ∧ W (i + 1) r2 (put m2 p (oddM K P w kos))) (fun x m2 => m2 p = some (oddW K P w o es kos) ∧ E x (put m2 p (oddM K P w kos))))
    (hd : ∀ r' m', W kos.length r' m' → N r' m') : Wp K (tLock (tFor (iKeysO P w td) (gName j) t)) r m N E := fun σ H G D S L a b => by
  obtain ⟨es, g1, g2⟩ := S.odd hm
  have hlen : es.length = kos.length := (Paired.length g2).symm
  have keyAt : ∀ (i : Nat) (e : OE), es[i]? = some e → ∃ d, kos[i]? = some (e.1, d) := by
    have aux : ∀ {kos : List (OKey × PyData)} {es : List OE}, Paired (OrG K G) kos es → ∀ (i : Nat) (e : OE), es[i]? = some e → ∃ d, kos[i]? = some (e.1, d) := by
      intro kos es r
      induction r with
      | nil => intro i e h; simp at h
      | @cons x y xs ys h t ih =>
        intro i e he
        cases i with
        | zero =>
          have he : y = e := by simpa using he
          subst he
          exact ⟨x.2, by rw [h.1]; rfl⟩
        | succ i => simpa using ih i e (by simpa using he)
    exact aux g2
  refine ⟨p, nkO P w p es, g1, trivial, fun od => ?_⟩
  have S1 : Sta K (put m p (oddW K P w od es kos)) (upd H p (.frz od (nkO P w p es))) G := S.chg hm (mr_oddW ⟨upd_same, g2⟩)
  refine h od es σ _ G S1 L _ fun v H1 G1 x m1 ⟨hx, hm1⟩ S2 e1 r1 => ?_
  subst hx hm1
  obtain rfl := r1.eq
  obtain ⟨⟨q1, q2⟩, _⟩ := S2.mem p _ put_same
  have back : ∀ {m' : Mm} {H' G' : Hp}, Sta K m' H' G' → m' p = some (oddW K P w od es kos) → Sta K (put m' p (oddM K P w kos)) (upd H' p (nkO P w p es)) G' := fun {m' H' G'} S' hm' => by
    obtain ⟨⟨x1, x2⟩, _⟩ := S'.mem p _ hm'
    exact S'.chg hm' (mr_odd ⟨es, upd_same, x2⟩)
  refine ⟨p, od, es, rfl, q1, for_it walk_nk (fun i σ' H' => ∃ G' r' m', W i r' (put m' p (oddM K P w kos)) ∧ m' p = some (oddW K P w od es kos) ∧ Sta K m' H' G' ∧ Le G G' ∧ Sl K G' r' σ') ⟨G1, r, _, ?_, put_same, S2, e1, L.mono e1⟩ ?_ ?_ ?_⟩
  · rw [put_put, put_self hm]
    exact h0
  · rintro i σ' H' hi ⟨G', r', m', _, hm', S', _, _⟩
    obtain ⟨⟨x1, _⟩, _⟩ := S'.mem p _ hm'
    exact x1
  · rintro i y σ' H' H2 hi ⟨G', r', m', hw, hm', S', e', L'⟩ ⟨rfl, e, he, rfl⟩
    obtain ⟨d, hd'⟩ := keyAt i e he
    obtain ⟨⟨_, x2⟩, _⟩ := S'.mem p _ hm'
    have hk := org_keys (Le.refl G') x2 e (List.mem_of_getElem? he)
    have hW := hs i e.1 d r' (put m' p (oddM K P w kos)) od es hd' hw put_same
    rw [put_put, put_self hm'] at hW
    refine hW _ _ G' _ S' (L'.set (r := okV e.1) (vr_okV hk) j) (fun σ3 H3 G3 r3 m3 ⟨h3, hw3⟩ S3 e4 L3 => ⟨G3, r3, m3, hw3, h3, S3, e'.trans e4, L3⟩) (fun v H3 G3 x m3 ⟨h3, hE⟩ S3 e4 L3 => ?_)
    obtain ⟨⟨x1, _⟩, _⟩ := S3.mem p _ h3
    exact ⟨x1, b v _ G3 x _ hE (back S3 h3) (e'.trans e4) L3⟩
  · rintro σ' H' ⟨G', r', m', hw, hm', S', e', L'⟩
    rw [hlen] at hw
    obtain ⟨⟨x1, _⟩, _⟩ := S'.mem p _ hm'
    exact ⟨x1, a σ' _ G' r' _ (hd r' _ hw) (back S' hm') e' L'⟩
/-- d[key] = data: the key is a tuple of truths -/
theorem w_oput (h : Ev K tv r m fun x m1 => ∃ d, x = .d d ∧ Ev K td r m1 fun y m2 => ∃ p, y = .v (.ref p) ∧ Ev K ty r m2 fun zz m3 => ∃ (z : OKey) (kds : List (List Int × PyData)), zz = vok z ∧ m3 p = some (.dT (dI (dV kds))) ∧ kds.length < 100000 ∧
    ((lkD kds z.num).isSome = true → N r (put m3 p (.dT (putV (dI (dV kds)) (kI z.num) (.d d))))) ∧
    (lkD kds z.num = none → N r (put m3 p (oddM K P w (kds.map (fun e => (OKey.okI e.1, e.2)) ++ [(z, d)]))))) : Wp K (sOPut P w td ty tv) r m N E := fun σ H G D S L a b =>
  h σ H G S L _ fun v1 H1 G1 x m1 ⟨d, hx, h1⟩ S1 e1 r1 => h1 σ H1 G1 S1 (L.mono e1) _ fun v2 H2 G2 y m2 ⟨p, hy, h2⟩ S2 e2 r2 => h2 σ H2 G2 S2 (L.mono (e1.trans e2)) _ fun v3 H3 G3 zz m3 ⟨z, kds, hz, hm, hl, qA, qB⟩ S3 e3 r3 => by
    subst hx hy hz
    obtain rfl := r2.eq
    obtain ⟨bk, rfl, hb⟩ : okP z G3 v3 := by
      cases r3 with
      | g h _ => exact h
    obtain ⟨es, g1, g2⟩ := S3.mem p _ hm
    have hlen := g2.len
    have hdl := dV_len kds
    have hkv : ∃ kvs : List (List Int × V), es = kvI kvs ∧ Paired (fun (e : List Int × PyData) (x : List Int × V) => x.1 = e.1 ∧ VR K G3 (.d e.2) x.2) kds kvs := by
      have aux : ∀ {kds : List (List Int × PyData)} {es : List (List Key × V)}, KVs K G3 (dI (dV kds)) es → ∃ kvs : List (List Int × V), es = kvI kvs ∧ Paired (fun (e : List Int × PyData) (x : List Int × V) => x.1 = e.1 ∧ VR K G3 (.d e.2) x.2) kds kvs := fun {kds} => by
        induction kds with
        | nil => exact fun {es} h => ⟨[], h, .nil⟩
        | cons e kds ih =>
          intro es h
          obtain ⟨v, u, rfl, h2, h3⟩ := h
          obtain ⟨kvs, rfl, h4⟩ := ih h3
          exact ⟨(e.1, v) :: kvs, rfl, .cons ⟨rfl, h2⟩ h4⟩
      exact aux g2
    obtain ⟨kvs, rfl, hp⟩ := hkv
    have hpl := Paired.length hp
    have hval := g2.get (kI z.num)
    rw [getV_dV] at hval
    refine ⟨p, bk, kvs, z, rfl, rfl, hb.mono S3.sub, g1, by omega, fun hs => ?_, fun hs bs hik => ?_⟩
    · refine a σ _ G3 r _ (qA ?_) (S3.chg hm ⟨_, upd_same, g2.put (kI z.num) (r1.mono (e2.trans e3))⟩) (e1.trans (e2.trans e3)) (L.mono (e1.trans (e2.trans e3)))
      cases hk : lkD kds z.num with
      | some d => rfl
      | none =>
        rw [hk] at hval
        rw [hval.2 rfl] at hs
        cases hs
    · have hnone : lkD kds z.num = none := by
        cases hk : lkD kds z.num with
        | none => rfl
        | some d =>
          rw [hk] at hval
          obtain ⟨v, hv, _⟩ := hval.1 _ rfl
          rw [hv] at hs; cases hs
      obtain ⟨S4, e4⟩ := S3.all
      have hG4 : ∀ b xs, H3 b = some (.tup xs) → (fun a => if m3 a = none then H3 a else none) b = some (.tup xs) := fun b xs hbx => by
        have hmb : m3 b = none := by
          cases e : m3 b with
          | none => rfl
          | some o =>
            have hM := S3.mem b o e
            cases o with
            | lst rs => obtain ⟨_, g, _⟩ := hM; rw [hbx] at g; cases g
            | dT rs => obtain ⟨_, g, _⟩ := hM; rw [hbx] at g; cases g
            | dK rs => obtain ⟨_, g, _⟩ := hM; rw [hbx] at g; cases g
            | lk a b c => obtain ⟨g, _⟩ := hM; rw [hbx] at g; cases g
            | box => obtain ⟨_, g⟩ := hM; rw [hbx] at g; cases g
            | g P => exact absurd hbx (hM.2.2.2 xs)
        show (if m3 b = none then H3 b else none) = _
        rw [if_pos hmb]; exact hbx
      refine a σ _ _ r _ (qB hnone) (S4.chg hm (mr_odd ⟨_, upd_same, ?_⟩)) (e1.trans (e2.trans (e3.trans e4))) (L.mono (e1.trans (e2.trans (e3.trans e4))))
      refine Paired.snoc ?_ ⟨rfl, hb.mono e4, r1.mono (e2.trans (e3.trans e4))⟩
      have aux : ∀ {kds : List (List Int × PyData)} {kvs : List (List Int × V)} {bs : List Addr}, Paired (fun (e : List Int × PyData) (x : List Int × V) => x.1 = e.1 ∧ VR K G3 (.d e.2) x.2) kds kvs → IsKeys H3 (kvI kvs) bs → Paired (OrG K (fun a => if m3 a = none then H3 a else none)) (kds.map fun e => (OKey.okI e.1, e.2)) (zipO kvs bs) := fun {kds kvs bs} r => by
        induction r generalizing bs with
        | nil => exact fun _ => .nil
        | @cons e x kds kvs h1 t ih =>
          intro hik
          cases hik with
          | @cons _ b _ bs hb1 hik =>
            have hb1 : H3 b = some (.tup ((kI x.1).map kV)) := hb1
            rw [kI_kV] at hb1
            refine .cons ⟨congrArg OKey.okI h1.1, ?_, h1.2.mono e4⟩ (ih hik)
            have := hG4 b _ hb1
            rw [h1.1] at this
            exact this
      exact aux hp hik
end
end DL
/-! t[::-1] of a tuple -/
namespace DL
open PySem L2 PySem.Spec PyProof.Rows HT
end DL
set_option exponentiation.threshold 9000
/-! k15: time papers looked at: plain mathematics, words -/
namespace DL
open PySem L2
/-- an odd dict: one key is a tuple of truths -/
structure OdAt (K : PySem.W.Frag) (P : Program) (w : World) (m : Mm) (p : Addr) (kos : List (OKey × PyData)) : Prop where
  mem : m p = some (oddM K P w kos)
  nd : (kos.map fun e => e.1.num).Nodup
  few : kos.length ≤ 100
  ok : ∀ e ∈ kos, szFrac e.2 ∧ e.1.num.length ≤ 100
  okb : ∀ e ∈ kos, ∀ bs, e.1 = .okB bs → bs ≠ []
  odd : ∃ e ∈ kos, ∃ bs, e.1 = .okB bs
theorem bls_kinds {bs : List Bool} (h : bs ≠ []) (n : Int) : areKinds (.tuple (bs.map PyData.bool)) n = false := by
  cases bs with
  | nil => exact absurd rfl h
  | cons b bs => rfl
theorem Tg.At.nd {m : Mm} {y : Val} {t : Tg} (h : t.At m y) : ∀ kds, t = .dct kds → (kds.map (·.1)).Nodup := fun kds e => by
  subst e
  obtain ⟨p, _, _, h, _⟩ := h
  exact h
/-! words -/
/-! bounds -/
theorem sh_boolB (b : Bool) : ShB (.bool b) 0 10 := by
  cases b <;> exact ⟨by decide, by decide, by decide +kernel⟩
/-- how long an odd dict is shown -/
theorem shA_odd {kos : List (OKey × PyData)} (hl : kos.length ≤ 64) (h : ∀ e ∈ kos, ShB e.1.data 4 9000 ∧ ShB e.2 4 9000) : ShA (dctO kos) := by
  unfold dctO
  refine (shb_dict (k := 4) (n := 9000) (c := 64) (fun e he => ?_) (by rw [List.length_map]; exact hl)).toA (by decide) (by decide)
  obtain ⟨s, hs, rfl⟩ := List.mem_map.mp he
  exact h s hs
theorem w_sOrR {K : PySem.W.Frag} {r : List Val} {m : Mm} {N : List Val → Mm → Prop} {E : Val → Mm → Prop} {s1 s2 : TS} (h : Wp K s2 r m N E) : Wp K (sOr s1 s2) r m N E := fun σ H G D S L a b => Or.inr (h σ H G D S L a b)
/-- which one is 1 -/
def ones (s : List Nat) : List Nat := s.map fun k => if k = 1 then 1 else 0
def oneB (s : List Nat) : List Bool := s.map fun k => decide (k = 1)
theorem oneB_num (s : List Nat) : (OKey.okB (oneB s)).num = kn (ones s) := by
  show (oneB s).map b01 = kn (ones s)
  unfold oneB ones kn
  rw [List.map_map, List.map_map]
  refine List.map_congr_left fun k _ => ?_
  show b01 (decide (k = 1)) = (((if k = 1 then 1 else 0 : Nat)) : Int)
  by_cases h : k = 1
  · rw [if_pos h, decide_eq_true h]; rfl
  · rw [if_neg h, decide_eq_false h]; rfl
theorem oneB_data (s : List Nat) : ((kn s).map fun x : Int => PyData.bool (decide (x = 1))) = (oneB s).map PyData.bool := by
  unfold oneB kn
  rw [List.map_map, List.map_map]
  refine List.map_congr_left fun k _ => ?_
  show PyData.bool (decide ((k : Int) = 1)) = PyData.bool (decide (k = 1))
  rw [show decide ((k : Int) = 1) = decide (k = 1) from decide_eq_decide.mpr ⟨fun h => by omega, fun h => by omega⟩]
theorem sh_bls {bs : List Bool} (h : bs.length ≤ 20) : ShB (.tuple (bs.map PyData.bool)) 4 9000 := by
  refine (shb_tuple (ds := bs.map PyData.bool) (k := 0) (n := 10) (c := 20) (fun d hd => ?_) (by rw [List.length_map]; exact h)).mono (by decide) (by decide)
  obtain ⟨b, hb, rfl⟩ := List.mem_map.mp hd
  exact sh_boolB b
/-! the things of k15 -/
def ThG (K : PySem.W.Frag) (P : Program) (w : World) (ss : List Int) (m : Mm) (y : Val) : Prop := (∃ t : Tg, t.At m y ∧ Gd ss t) ∨ ∃ (p : Addr) (kos : List (OKey × PyData)), y = .v (.ref p) ∧ OdAt K P w m p kos ∧ ShA (dctO kos)
section
variable {K : PySem.W.Frag} {P : Program} {w : World} {ss : List Int} {m m' : Mm} {y : Val}
theorem ThG.agree (h : ThG K P w ss m y) (e : ∀ p, y = .v (.ref p) → m' p = m p) : ThG K P w ss m' y := by
  rcases h with ⟨t, h, g⟩ | ⟨p, kos, rfl, ho, g⟩
  · refine Or.inl ⟨t, ?_, g⟩
    cases t with
    | dat x => exact h
    | dct kds =>
      obtain ⟨p, rfl, h1, h2⟩ := h
      exact ⟨p, rfl, (e p rfl).trans h1, h2⟩
  · exact Or.inr ⟨p, kos, rfl, ⟨(e p rfl).trans ho.mem, ho.nd, ho.few, ho.ok, ho.okb, ho.odd⟩, g⟩
theorem ThG.at (h : ThG K P w ss m y) {p : Addr} (e : y = .v (.ref p)) : ∃ o, m p = some o ∧ ∀ xs, o ≠ .lst xs := by
  rcases h with ⟨t, h, g⟩ | ⟨p', kos, h, ho, g⟩
  · cases t with
    | dat x => rw [e] at h; exact nomatch h.1
    | dct kds =>
      obtain ⟨p', h, h1, h2⟩ := h
      rw [e] at h
      cases h
      exact ⟨_, h1, fun xs z => nomatch z⟩
  · rw [e] at h
    cases h
    exact ⟨_, ho.mem, fun xs z => nomatch z⟩
theorem ThG.less (h : ThG K P w ss m y) (hx : Ext m m') : ThG K P w ss m' y := h.agree fun p e => by
  obtain ⟨o, h1, _⟩ := h.at e
  rw [h1, hx p o h1]
theorem ThG.ne (h : ThG K P w ss m y) : y ≠ .any := by
  rcases h with ⟨t, h, g⟩ | ⟨p', kos, rfl, ho, g⟩
  · exact h.ne
  · exact fun z => nomatch z
end
theorem w_forVm {K : PySem.W.Frag} {r : List Val} {m : Mm} {N : List Val → Mm → Prop} {E : Val → Mm → Prop} {tl : TE} {t : TS} {j : Nat} (h : Ev K tl r m fun x m1 => ∃ (rs : List Val) (W : Nat → List Val → Mm → Prop), x = vL K rs ∧ W 0 r m1 ∧
    (∀ (i : Nat) (x : Val) r' m', rs[i]? = some x → W i r' m' → Wp K t (r'.set j x) m' (W (i + 1)) E) ∧ ∀ r' m', W rs.length r' m' → N r' m') : Wp K (tFor (iList K tl) (gName j) t) r m N E := fun σ H G D S L a b =>
  h σ H G S L _ fun v H1 G1 x m1 ⟨rs, W, hx, h0, hs, hd⟩ S1 e1 r1 => by
    subst hx
    obtain ⟨p, xs, rfl, hs1, hA⟩ := vL_of r1
    have hs1 : SqL K G1 p xs := Or.inl hs1
    refine ⟨p, rfl, ⟨xs, S1.sqL hs1⟩, for_list (xs := xs) (fun i σ' H' => ∃ G' r' m', W i r' m' ∧ Sta K m' H' G' ∧ Le G1 G' ∧ Sl K G' r' σ') ⟨G1, r, _, h0, S1, Le.refl G1, L.mono e1⟩ ?_ ?_ ?_⟩
    · rintro i σ' H' hi ⟨G', r', m', _, S', e', _⟩
      exact S'.sqL (e'.sqL hs1)
    · rintro i y σ' H' hy ⟨G', r', m', hw, S', e', L'⟩
      have hil : i < rs.length := by rw [← hA.length]; exact (List.getElem?_eq_some_iff.mp hy).1
      obtain ⟨y', hy', ry⟩ := VRs.atI hA (List.getElem?_eq_getElem hil)
      rw [hy] at hy'
      cases hy'
      refine hs i _ r' m' (List.getElem?_eq_getElem hil) hw (σ'.set j (some y)) H' G' _ S' (L'.set (ry.mono e') j) (fun σ3 H3 G3 r3 m3 h3 S3 e3 L3 => ⟨G3, r3, m3, h3, S3, e'.trans e3, L3⟩) (fun v H3 G3 x m3 n3 S3 e3 L3 => b v H3 G3 x m3 n3 S3 (e1.trans (e'.trans e3)) L3)
    · rintro σ' H' ⟨G', r', m', hw, S', e', L'⟩
      rw [hA.length] at hw
      exact a σ' H' G' r' m' (hd r' m' hw) S' (e1.trans e') L'
end DL
/-! k54: what the gatherers' stage refuses -/
namespace DL
open PySem L2
end DL
/-! k64: what the buying stage refuses -/
namespace DL
open PySem L2
/-- a thing that is no plan -/
def NoPl (m : Mm) (y : Val) : Prop := (∃ x, y = .d x ∧ isDct x = false) ∨ ∃ (p : Addr) (kvs : List (List Int × Val)), y = .v (.ref p) ∧ m p = some (.dT (dI kvs)) ∧ (kvs = [] ∨ kvs = [([], .d (.str "draw"))] ∨ kvs = [([0], .d (.str "Buy"))] ∨ kvs = [([0], .d .none)])
theorem NoPl.less {m m' : Mm} {y : Val} (h : NoPl m y) (hl : ∀ a o, m a = some o → m' a = some o) : NoPl m' y := by
  rcases h with h | ⟨p, kvs, h1, h2, h3⟩
  · exact Or.inl h
  · exact Or.inr ⟨p, kvs, h1, hl _ _ h2, h3⟩
theorem NoPl.ne {m : Mm} {y : Val} (h : NoPl m y) : y ≠ .any := by
  rcases h with ⟨x, rfl, _⟩ | ⟨p, kvs, rfl, _⟩ <;> exact fun h => nomatch h
end DL
/-! defs that want to know that nothing is being shown around them, called -/
namespace DL
open PySem L2 PySem.Spec PyProof.Rows
structure ClG (P : Program) (w : World) (K : PySem.W.Frag) (mg : Str → Option Value) (base : Heap) (k : Nat) (x : Str) (sp : FSp) : Prop where
  ex : ∃ f fd ps, FnG P w K mg base k f fd ps (spD K sp) ∧ mg x = some (.ref f) ∧ PySem.W.keepIn K (.ref f) = true ∧ Binds K fd ps []
section
variable {X : Cx} {k j : Nat} {x : Str} {sp : FSp} {e : Expr} {es : List Expr} {t : TA} {p pos : Pos} {P : Program} {w : World} {K : PySem.W.Frag} {mg : Str → Option Value} {base : Heap}
theorem run_fnG {pins : List (Addr × Obj)} {σ : L2.St} {H : Hp} {s : Shared} {Q : VK} {us : List Value} {vs : List V} {f : Addr} {fd : FuncData} {ps : List Str} {sp : Sp} {E : XK} (F : FnG X.prog X.w X.K X.mg X.base k f fd ps sp) (hgd : X.A.guards = some []) (hr : Room k X.A) (hb : Binds X.K fd ps []) (hx : Passes CX0 X E)
    (I : Inv X pins σ H s) (r : Vals vs us) (h : sp (vs ++ []) H Q E) : wpAny (model X.prog X.w) X.A (call (.ref f) us) (EP X pins σ Q) X.xe s := by
  have r2 : Vals (vs ++ []) (us ++ []) := r.append .nil
  have hl : (us ++ []).length = ps.length := by rw [← r2.length]; exact F.len _ _ _ _ h
  refine wpAny_call (codeAny_mono (F.run X.A X.stack s H ⟨us, []⟩ (us ++ []) (vs ++ []) Q E hgd hr I.env0 (hb s us I.kIn hl) r2 h) fun r s' hq => ?_)
  match r, hq with
  | .error er, hq => exact hx pins σ H s er s' I hq
  | .ok (.ret _), hq => exact I.after hq
theorem pe_clG (c : ClG P w K mg base k x sp) (hr : Room j X.A) (hgd : X.A.guards = some []) (hk : k ≤ j) (hg : Gl X x) (ha : PA X (e :: es) t) (hP : X.prog = P := by rfl) (hw : X.w = w := by rfl) (hK : X.K = K := by rfl) (hmg : X.mg = mg := by rfl) (hbs : X.base = base := by rfl)
    (hdb : (x == ("__debug__" : Str)) = false := by decide)
    (he : starEach (e :: es) X.env = (false, eval e X.env) :: starEach es X.env := by rfl) (hpl : (backTo pos (starEach es X.env)).any (·.1) = false := by rfl) :
    PE X (.Call (.Name x p) (e :: es) [] pos) (tCall (spD K sp) [] E0 t) := by
  subst hP hw hK hmg hbs
  obtain ⟨f, fd, ps, F, hm, hkp, hb⟩ := c.ex
  refine ⟨fun pins s σ H Q I h => ?_⟩
  refine wpAny_Call_Name_kw (ld_glob I hg hm ?_ hdb)
  refine PySem.W.callWith_K (h₀ := X.base) I.ok.mod.kin hkp (thn (ha.run pos pins s σ H _ I h) fun us s1 ⟨vs, H1, I1, r, q⟩ => ⟨I1.kIn, ?_⟩) he hpl
  exact run_fnG F hgd (hr.mono hk) hb pass0 I1 r q
end
end DL
/-! sorted(d) of a dict whose keys are tuples with an item at least -/
namespace DLS
open PySem PySem.Spec PyProof.Rows PySem.W Sem
section
variable {prog : Program} {w : World} {A : Around} {E : Value → Shared → Prop} {s : Shared}
theorem sort_n {β : Type} {enc : β → PyData} {R : Value → β → Prop} {a : Addr} {n : Nat} {vs : List Value} {bs : List β} {Q : Value → Shared → Prop} (ho : s.heap.get? a = some (seqObj "list" vs.toArray n)) (e : EachIs R vs bs)
    (er : EachIs (fun v b => ∃ as, Reads s.heap v (enc b) as ∧ a ∉ as) vs bs) (hal : AllAlike (bs.map enc)) (hk : Sortable (bs.map enc)) (hL : bs.length ≤ sizeLine)
    (hu : ∀ b, b ∈ bs → A.units + 1 + (enc b).depth < cLine) (h : ∀ out, out.length = bs.length → EachIs R out (bs.mergeSort (dataLe false enc)) → Q .none { s with heap := sortedHeap s.heap a vs (List.toArray out) }) :
    wpAny (model prog w) A (call (.builtin "list.sort") [.ref a]) Q E s := by
  have er' : EachIs (fun v b => ∃ as, Reads (sortingHeap s.heap a vs) v (enc b) as) vs bs := each_keepBut (h' := sortingHeap s.heap a vs) (fun _ _ hb q => sortingHeap_old hb q) (fun o q => by rw [ho] at q; rw [← Option.some.inj q]) hal er
  have em := each_map (R := fun v d => ∃ as, Reads (sortingHeap s.heap a vs) v d as) enc er'
  refine wpAny_call_entry slot_list_sort ⟨_, ho, rfl⟩ entry_list_sort (list_sort_vals (κ := dataKind (sortingHeap s.heap a vs) (bs.map enc)) ho (SortsAt.data (s := { s with heap := sortingHeap s.heap a vs }) em hal hk (bound_map (A := A.in1) (enc := enc) hu)) (by rw [e.length]; exact hL) ⟨.none, rfl, ?_⟩) (args_list_sort _)
  exact h _ (by rw [sortVals_length false rfl]; exact e.length) (sortVals_data false e er' hal)
end
end DLS
namespace DL
open PySem L2 PySem.Spec PyProof.Rows
def rSortN : List V → Hp → VK → Prop := fun vs H Q => ∃ (a : Addr) (kvs : List (List Int × V)), vs = [.ref a] ∧ H a = some (.dT (kvs.map fun e => (kI e.1, e.2))) ∧ kvs.length ≤ 1000 ∧ (∀ e ∈ kvs, e.1 ≠ []) ∧
  ∀ p (zs : List (Addr × List Int)), H p = none → (zs.map (·.2)).Perm (kvs.map (·.1)) → (∀ z ∈ zs, H z.1 = some (.tup (z.2.map V.int))) → Q (.ref p) (upd H p (.lst (zs.map fun z => V.ref z.1)))
theorem cr_sortN {X : Cx} (hc : X.calm = true) (hu : X.A.units + 64 < cLine) : CallR X (.builtin "sorted") rSortN := by
  rintro pins s σ H vs us Q I r ⟨a, kvs, rfl, ha, hsz, hne, q⟩
  obtain rfl := Vals.ref1 r
  obtain ⟨z, lo, xs, rel, o, en, ep, ho, hx, hdat, hes, his, hn⟩ := dt_of I.hok ha
  obtain ⟨k1, k2⟩ := kt_keys rel
  have l1 : xs.length = kvs.length := by
    have := congrArg List.length k1
    rw [List.length_map, List.length_map, List.length_map] at this
    exact this
  have l2 : en.size = xs.length := size_of_entries hes
  have hh : X.A.handled = none := I.ok.hd hc
  -- the keys as ints
  have k3 : xs.map (·.1) = (kvs.map (·.1)).map kI := by rw [k1, List.map_map, List.map_map]; rfl
  generalize hz0 : xs.zip (kvs.map (·.1)) = zp
  have hks : ∃ zs : List (Addr × List Int), xs.map (·.2.1) = zs.map (·.1) ∧ zs.map (·.2) = kvs.map (·.1) ∧ ∀ z ∈ zs, H z.1 = some (.tup (z.2.map V.int)) := by
    generalize kvs.map (·.1) = ks at k3
    clear hz0 hes his hn rel k1 l1 l2
    induction xs generalizing ks with
    | nil =>
      cases ks with
      | nil => exact ⟨[], rfl, rfl, fun _ z => nomatch z⟩
      | cons _ _ => cases k3
    | cons x xs ih =>
      cases ks with
      | nil => cases k3
      | cons k ks =>
        rw [List.map_cons, List.map_cons] at k3
        injection k3 with e1 e2
        obtain ⟨zs, g1, g2, g3⟩ := ih (fun y hy => k2 y (List.mem_cons_of_mem _ hy)) ks e2
        refine ⟨(x.2.1, k) :: zs, by rw [List.map_cons, g1]; rfl, by rw [List.map_cons, g2], fun z hz => ?_⟩
        rcases List.mem_cons.mp hz with rfl | hz
        · have := k2 x List.mem_cons_self
          rw [e1] at this
          unfold kI at this
          rw [List.map_map] at this
          exact this
        · exact g3 z hz
  obtain ⟨zs, g1, g2, g3⟩ := hks
  have lz : zs.length = kvs.length := by
    have := congrArg List.length g2
    rw [List.length_map, List.length_map] at this
    exact this
  have hzn : ∀ z ∈ zs, z.2 ≠ [] := fun z hz e => by
    have : z.2 ∈ kvs.map (·.1) := by rw [← g2]; exact List.mem_map.mpr ⟨z, hz, rfl⟩
    obtain ⟨y, hy, e2⟩ := List.mem_map.mp this
    exact hne y hy (e2.trans e)
  refine Calls.call_function_entry kind_sorted plain_sorted entry_sorted (args_sorted1 _) ?_
  unfold Builtin.«sorted»
  refine wpAny_bind (m := checkCount "sorted" 1 1 _) (wpAny_pure ?_)
  refine wpAny_bind (PySem.W.kdu_collect (A := X.A.in1) (PySem.KdlSrc.rawDict (ep := ep) lo) hh ⟨o, ho, hx, hdat⟩ (by rw [sizeLine_eq]; omega) fun h' tk acc hk hacc => ?_)
  have e := raw_keys hes hacc
  have e2 : acc.toList = zs.map fun z => Value.ref z.1 := by
    rw [e, show (xs.map fun x => Value.ref x.2.1) = (xs.map (·.2.1)).map Value.ref by rw [List.map_map]; rfl, g1, List.map_map]
    rfl
  rw [e2]
  refine wpAny_bind (wpAny_newList ?_ (by rw [List.length_map, sizeLine_eq]; omega))
  have hob : (h'.push { cls := .type "list", data := .seq (zs.map fun z => Value.ref z.1).toArray }).get? h'.objs.size = some (seqObj "list" (zs.map fun z => Value.ref z.1).toArray 0) := Heap.get?_push_size _ rfl
  have kb : ∀ b o, s.heap.get? b = some o → (h'.push { cls := .type "list", data := .seq (zs.map fun z => Value.ref z.1).toArray }).get? b = some o := fun b o e => Heap.get?_push_of_some _ (hk b o e)
  have ne0 : ∀ b o, s.heap.get? b = some o → b ≠ h'.objs.size := fun b o e => Nat.ne_of_lt (Heap.lt_size (hk b o e))
  have I0 : Inv X pins σ H { s with heap := h', toks := tk } := I.kept hk
  have hn0 : H h'.objs.size = none := I0.hok.fresh (Nat.le_refl _)
  show wpAny _ _ _ _ _ { s with heap := h'.push { cls := .type "list", data := .seq (zs.map fun z => Value.ref z.1).toArray }, toks := tk }
  generalize h'.push { cls := .type "list", data := .seq (zs.map fun z => Value.ref z.1).toArray } = h2 at hob kb ⊢
  have al : PySem.W.AllAlike (zs.map fun b => tupI b.2) := PySem.W.AllAlike.of fun b b' => alike_keys _ _
  have ea := each_refs zs
  have hlz : zs.length ≤ sizeLine := by rw [sizeLine_eq]; omega
  have er : PySem.W.EachIs (fun v b => ∃ as, Reads h2 v (tupI b.2) as ∧ h'.objs.size ∉ as) (zs.map fun z => Value.ref z.1) zs := ?er
  have hdp : ∀ b, b ∈ zs → X.A.in1.units + 1 + (tupI b.2).depth < cLine := fun b hb => ?hdp
  have fin : ∀ out : List Value, out.length = zs.length → PySem.W.EachIs (fun (v : Value) (b : Addr × List Int) => v = .ref b.1) out (zs.mergeSort (PySem.W.dataLe false fun b => tupI b.2)) → EP X pins σ Q (.ref h'.objs.size) { s with heap := sortedHeap h2 h'.objs.size (zs.map fun z => Value.ref z.1) out.toArray, toks := tk } := fun out hlen hE => ?fin
  · refine wpAny_bind (wpAny_holding ?_)
    refine DLS.sort_n (A := X.A.in1) (s := { s with heap := h2, toks := tk }) (enc := fun b : Addr × List Int => tupI b.2) hob ea er al (Or.inl fun d hd => ?_) hlz hdp fun out hlen hE => ?_
    · obtain ⟨b, hb, rfl⟩ := List.mem_map.mp hd
      have := hzn b hb
      cases hb2 : b.2 with
      | nil => exact absurd hb2 this
      | cons x r => exact ⟨.int x, r.map PyData.int, by unfold tupI; rw [List.map_cons]⟩
    exact wpAny_pure ⟨_, rfl, fin out hlen hE⟩
  case er =>
    exact (PySem.W.each_mem (each_refs zs)).mono fun v b ⟨hvb, hb⟩ => by
      subst hvb
      have k1 := tup_reads (ks := kI b.2) I (by unfold kI; rw [List.map_map]; exact g3 b hb)
      have e1 : (kI b.2).map keyD = b.2.map PyData.int := by unfold kI; rw [List.map_map]; rfl
      rw [e1] at k1
      exact ⟨[], PyProof.Rows.Reads.keeps (fun b o e => kb b o e) k1, fun z => nomatch z⟩
  case hdp =>
    have : (tupI b.2).depth ≤ 12 := by
      unfold tupI
      simp only [PyData.depth, PySem.W.depth_ints]
      omega
    show X.A.units + 1 + 1 + (tupI b.2).depth < cLine
    omega
  case fin =>
    generalize hzs : zs.mergeSort (PySem.W.dataLe false fun b => tupI b.2) = ys at hE
    have pz : ys.Perm zs := by rw [← hzs]; exact List.mergeSort_perm _ _
    have hout : out = ys.map fun z => Value.ref z.1 := by
      clear hlen pz hzs
      induction hE with
      | nil => rfl
      | cons h1 h2 ih => rw [h1, ih]; rfl
    have kF : ∀ b o, b ≠ h'.objs.size → h2.get? b = some o → (sortedHeap h2 h'.objs.size (zs.map fun z => Value.ref z.1) out.toArray).get? b = some o := fun b o hb e => (PyProof.Rows.sortedHeap_old hb (Heap.lt_size e)).trans e
    have kS : ∀ b o, s.heap.get? b = some o → (sortedHeap h2 h'.objs.size (zs.map fun z => Value.ref z.1) out.toArray).get? b = some o := fun b o e => kF b o (ne0 _ _ e) (kb b o e)
    obtain ⟨eF, heF⟩ := PyProof.Rows.sortedHeap_at (vs := zs.map fun z => Value.ref z.1) (out := out.toArray) hob
    revert kS eF heF
    generalize sortedHeap h2 h'.objs.size (zs.map fun z => Value.ref z.1) out.toArray = h3
    intro kS eF heF
    have I1 : Inv X pins σ H { s with heap := h3, toks := tk } := I.kept (t' := tk) kS
    have rv : Vals (ys.map fun z => V.ref z.1) out := by
      rw [hout]
      exact vals_maps (fun z : Addr × List Int => V.ref z.1) (fun z => Value.ref z.1) ys fun _ _ => rfl
    have hyl := pz.length_eq
    have fp : FpOk X pins H h'.objs.size := I0.fpOk (b := h'.objs.size) (Nat.le_refl h'.objs.size) hn0
    have hyl2 : (ys.map fun z => V.ref z.1).length ≤ sizeLine := by rw [List.length_map, sizeLine_eq]; omega
    have nw : ObjOk X.prog X.w (upd H h'.objs.size (.lst (ys.map fun z => V.ref z.1))) h3 h'.objs.size (.lst (ys.map fun z => V.ref z.1)) := ⟨hyl2, out, eF, rv, heF⟩
    have I2 : Inv X pins σ (upd H h'.objs.size (.lst (ys.map fun z => V.ref z.1))) { s with heap := h3, toks := tk } :=
      I1.take (it := h'.objs.size) (o := .lst (ys.map fun z => V.ref z.1)) (h' := h3) (t' := tk) (fun b ob _ e => e) fp nw
    have hp2 : (ys.map fun z => z.2).Perm (kvs.map fun e => e.1) := g2 ▸ pz.map fun z => z.2
    have hk2 : ∀ z ∈ ys, H z.1 = some (.tup (z.2.map V.int)) := fun z hz => g3 z (pz.mem_iff.mp hz)
    have hq : Q (.ref h'.objs.size) (upd H h'.objs.size (.lst (ys.map fun z => V.ref z.1))) := q h'.objs.size ys hn0 hp2 hk2
    exact ⟨V.ref h'.objs.size, upd H h'.objs.size (.lst (ys.map fun z => V.ref z.1)), I2, rfl, hq⟩
theorem kSortN {X : Cx} {j : Nat} (hr : Room j X.A) (hc : X.calm = true := by rfl) : CallR X (.builtin "sorted") rSortN := cr_sortN hc (by have := hr.un; omega)
section
variable {K : PySem.W.Frag} {r : List Val} {m : Mm} {Q : Val → Mm → Prop}
theorem on_sortN {p : Addr} {kvs : List (List Int × Val)} (hm : m p = some (.dT (dI kvs))) (hn : kvs.length ≤ 1000) (h0 : ∀ e ∈ kvs, e.1 ≠ []) (q : ∀ nss, nss.Perm (kvs.map (·.1)) → Q (.lt nss) m) : OpN K rSortN [.v (.ref p)] m Q := fun H G vs S a R k => by
  obtain ⟨v, rfl, hv⟩ := vrs1 a
  obtain rfl := hv.eq
  obtain ⟨es, g1, g2⟩ := S.mem p _ hm
  obtain ⟨ks, rfl, e⟩ := KVs.keyI g2
  have hl := congrArg List.length e
  rw [List.length_map, List.length_map] at hl
  refine ⟨p, ks, rfl, g1, by omega, ?_, fun l zs hl hz hk => ?_⟩
  · intro y hy e2
    have hm2 : y.1 ∈ kvs.map (·.1) := by rw [← e]; exact List.mem_map.mpr ⟨y, hy, rfl⟩
    obtain ⟨z, hz, e3⟩ := List.mem_map.mp hm2
    exact h0 z hz (e3.trans e2)
  obtain ⟨G', S', hle, hG⟩ := keys_in S hk
  have hg := S'.free hl
  refine k _ _ (upd G' l (.lst (zs.map fun y => V.ref y.1))) (.lt (zs.map (·.2))) m (q _ (by rw [← e]; exact hz)) (S'.fix hl) (hle.trans (Le.new hg)) (.lt (Rd.of upd_same) ?_)
  exact tall_zs fun y hy => Le.new hg _ _ (hG y hy)
end
end DL
set_option exponentiation.threshold 9000
/-! k61: plans looked at: a walk over a dict that is data, plain mathematics, words -/
namespace DL
open PySem L2
/-- what hangs on no dict -/
def FlatV (a : Val) : Prop := (∃ ns, a = .d (tupI ns)) ∨ ∃ z : Int, a = .d (.int z)
def Fl : List Val → List Val → Prop
  | [], [] => True
  | a :: r, b :: r1 => (b = .any ∨ (b = a ∧ FlatV a)) ∧ Fl r r1
  | _, _ => False
theorem rpa_tup {K : PySem.W.Frag} {G : Hp} {ns : List Int} {xs : List V} (h : RpAll K G (ns.map PyData.int) xs) : xs = ns.map V.int := by
  induction ns generalizing xs with
  | nil => exact rpa_nil.mp h
  | cons n ns ih =>
    obtain ⟨x, r, rfl, h1, h2⟩ := rpa_cons.mp h
    rw [rp_int.mp h1, ih h2]
    rfl
theorem sl_flat {K : PySem.W.Frag} {G H H1 : Hp} {p : Addr} {es : List (Key × V)} (hsub : ∀ a o, G a = some o → H a = some o) (hp : H p = some (.dK es)) (hne : ∀ a, a ≠ p → H1 a = H a) : ∀ {r r1 : List Val} {σ : L2.St}, Fl r r1 → Sl K G r σ → Sl K H1 r1 σ
  | [], [], σ, _, h => h
  | a :: r, b :: r1, σ, hf, h => by
    obtain ⟨h1, h2⟩ := hf
    obtain ⟨x, t, rfl, h3, h4⟩ := h
    refine ⟨x, t, rfl, ?_, sl_flat hsub hp hne h2 h4⟩
    rcases h1 with rfl | ⟨rfl, hfl⟩
    · exact Or.inl rfl
    · rcases h3 with rfl | ⟨v, rfl, hv⟩
      · exact Or.inl rfl
      · refine Or.inr ⟨v, rfl, ?_⟩
        rcases hfl with ⟨ns, rfl⟩ | ⟨z, rfl⟩
        · obtain ⟨c, xs, rfl, hs, hA⟩ := rp_tuple.mp hv.rp
          rw [rpa_tup hA] at hs
          refine .d (rp_tuple.mpr ⟨c, _, rfl, ?_, rpa_ints _⟩)
          rcases hs with hs | hs
          · refine Or.inl ?_
            have ne : c ≠ p := fun e => by
              rw [e] at hs
              rcases hs with hs | ⟨o, hs⟩
              · have := hsub _ _ hs; rw [hp] at this; cases this
              · have := hsub _ _ hs; rw [hp] at this; cases this
            rcases hs with hs | ⟨o, hs⟩
            · exact Or.inl ((hne c ne).trans (hsub _ _ hs))
            · exact Or.inr ⟨o, (hne c ne).trans (hsub _ _ hs)⟩
          · exact Or.inr hs
        · rw [int_of hv]
          exact vr_int
  | [], _ :: _, _, hf, _ => hf.elim
  | _ :: _, [], _, hf, _ => hf.elim
/-- for k in a dict of data with one text key; the turn says False -/
theorem w_forG1 {K : PySem.W.Frag} {i j : Nat} {x : Str} {d : PyData} {t : TS} {r r1 : List Val} {m : Mm} {N : List Val → Mm → Prop} {E : Val → Mm → Prop} (hi : r[i]? = some (.d (.dict [(.str x, d)]))) (hf : Fl r r1)
    (hs : Wp K t (r1.set j (.d (.str x))) (fun _ => none) (fun _ _ => False) (fun y _ => y = .d (.bool false))) (q : E (.d (.bool false)) m) : Wp K (tLock (tFor (iKeys (tVar i)) (gName j) t)) r m N E := fun σ H G D S L a b => by
  obtain ⟨v, h1, h2⟩ := L.get hi (fun z => nomatch z)
  have h2 := h2.rp
  rw [Rp] at h2
  obtain ⟨p, rfl, ⟨es, g1, g2⟩ | ⟨es, g1, g2⟩⟩ := h2
  · rw [RpT] at g2
    obtain ⟨ks, v, u, _, e, _⟩ := g2
    cases e
  rw [RpK] at g2
  obtain ⟨ks, v, u, rfl, e, _, e2⟩ := g2
  rw [RpK] at e2
  subst e2
  have hk : kV ks = V.str x := by
    cases ks with
    | inl n => cases e
    | inr y => cases e; rfl
  have hp := S.sub _ _ g1
  refine ⟨p, .dK [(ks, v)], hp, trivial, fun od => ?_⟩
  have hne : ∀ a, a ≠ p → upd H p (.frz od (.dK [(ks, v)])) a = H a := fun a ha => upd_ne ha
  refine ⟨.ref p, h1, p, od, rfl, Or.inl ⟨_, upd_same, for_it L2.walk_keys (fun i' σ' H' => i' = 0 ∧ σ' = σ ∧ H' = upd H p (.frz od (.dK [(ks, v)]))) ⟨rfl, rfl, rfl⟩ ?_ ?_ ?_⟩⟩
  · rintro i' σ' H' _ ⟨_, _, rfl⟩
    exact upd_same
  · rintro i' y σ' H' H2 hi' ⟨rfl, rfl, rfl⟩ ⟨rfl, k', v', hk', rfl⟩
    have hk' : (ks, v) = (k', v') := by simpa using hk'
    cases hk'
    rw [hk]
    have S1 : Sta K (fun _ => none) (upd H p (.frz od (.dK [(ks, v)]))) (upd H p (.frz od (.dK [(ks, v)]))) := ⟨fun _ _ h => h, (fun _ _ h => nomatch h), (fun _ _ h => nomatch h)⟩
    refine hs _ _ _ _ S1 ((sl_flat S.sub hp hne hf L).set (r := .d (.str x)) vr_str j) (fun _ _ _ _ _ h => h.elim) (fun w H3 G3 y m3 e3 S3 l3 r3 => ?_)
    subst e3
    have hH3 : ∀ c o, upd H p (.frz od (.dK [(ks, v)])) c = some o → H3 c = some o := fun c o h => S3.sub _ _ (l3 _ _ h)
    refine ⟨hH3 _ _ upd_same, b w _ G _ m q ⟨fun c o h => ?_, fun c o h => ?_, S.dis⟩ (Le.refl G) ?_⟩
    · by_cases hc : c = p
      · subst hc
        have h := S.sub _ _ h
        rw [hp] at h
        cases h
        exact upd_same
      · rw [upd_ne hc]
        exact hH3 _ _ (by rw [upd_ne hc]; exact S.sub _ _ h)
    · have hM := S.mem c o h
      obtain ⟨u, hu⟩ := hM.some
      have hc : c ≠ p := fun e => by
        rw [e] at h
        have := S.dis _ _ h
        rw [g1] at this
        cases this
      exact hM.mono (Le.refl G) (by rw [upd_ne hc, hH3 _ _ (by rw [upd_ne hc]; exact hu), hu])
    · rw [bool_of r3]
      exact vr_bool
  · rintro σ' H' ⟨h, _⟩
    cases h
/-! plans -/
def isWd : PyData → Bool
  | .str x => decide (x ∈ (["draw", "buy"] : List Str))
  | _ => false
def okPl (n : Nat) (e : List Int × PyData) : Bool := areKinds (tupI e.1) (n : Int) && (!decide (e.1 = []) && isWd e.2)
def Tg.plan (n : Nat) : Tg → Bool
  | .dat _ => false
  | .dct kds => decide (kds.length = (rsX n).length) && kds.all (okPl n)
def wordB (kds : List (List Int × PyData)) (s : List Nat) : Bool := match lkD kds (kn s) with
  | some (.str x) => decide (x = "buy")
  | _ => false
theorem wd_told {d : PyData} (h : isWd d = true) : ∃ b, d = .str (told b) := by
  cases d with
  | str x =>
    have h : decide (x ∈ (["draw", "buy"] : List Str)) = true := h
    have h := of_decide_eq_true h
    rcases List.mem_cons.mp h with e | h
    · exact ⟨false, by rw [e]; rfl⟩
    · exact ⟨true, by rw [List.mem_singleton.mp h]; rfl⟩
  | _ => cases h
theorem okPl_of {n : Nat} (h5 : n ≤ 5) {e : List Int × PyData} (h : okPl n e = true) : ∃ s b, s ∈ rsX n ∧ e = (kn s, .str (told b)) := by
  unfold okPl at h
  rw [Bool.and_eq_true, Bool.and_eq_true] at h
  obtain ⟨h1, h2, h3⟩ := h
  obtain ⟨s, hs, e1⟩ := kinds_are h1
  obtain ⟨b, e2⟩ := wd_told h3
  refine ⟨s, b, ?_, by rw [← e1, ← e2]⟩
  rcases List.mem_cons.mp (rs_all ⟨n, by omega⟩ s (kinds_allS hs)) with rfl | h
  · rw [e1] at h2
    cases h2
  · exact h
theorem plan_split {n : Nat} {kds : List (List Int × PyData)} (h : Tg.plan n (.dct kds) = true) : kds.length = (rsX n).length ∧ kds.all (okPl n) = true := by
  have h : (decide (kds.length = (rsX n).length) && kds.all (okPl n)) = true := h
  rw [Bool.and_eq_true] at h
  exact ⟨of_decide_eq_true h.1, h.2⟩
/-- a plan tells of each -/
theorem plan_all {n : Nat} (h5 : n ≤ 5) {kds : List (List Int × PyData)} (hn : (kds.map (·.1)).Nodup) (h : Tg.plan n (.dct kds) = true) {s : List Nat} (hs : s ∈ rsX n) : lkD kds (kn s) = some (.str (told (wordB kds s))) := by
  obtain ⟨hl, ha⟩ := plan_split h
  rw [List.all_eq_true] at ha
  cases hk : lkD kds (kn s) with
  | some d =>
    obtain ⟨u, b, hu, e⟩ := okPl_of h5 (ha _ (lkD_in hk))
    injection e with e1 e2
    unfold wordB
    rw [hk, e2]
    show some (PyData.str (told b)) = some (PyData.str (told (decide (told b = "buy"))))
    rw [told_buy]
  | none =>
    exfalso
    have hno : kn s ∉ kds.map (·.1) := fun hm => by
      obtain ⟨e, he, e1⟩ := List.mem_map.mp hm
      rw [← e1, lkD_mem hn he] at hk
      cases hk
    have hsub : ∀ x ∈ kn s :: kds.map (·.1), x ∈ (rsX n).map kn := fun x hx => by
      rcases List.mem_cons.mp hx with rfl | hx
      · exact List.mem_map.mpr ⟨s, hs, rfl⟩
      · obtain ⟨e, he, rfl⟩ := List.mem_map.mp hx
        obtain ⟨u, b, hu, rfl⟩ := okPl_of h5 (ha e he)
        exact List.mem_map.mpr ⟨u, hu, rfl⟩
    have := nd_len (List.nodup_cons.mpr ⟨hno, hn⟩) hsub
    rw [List.length_cons, List.length_map, List.length_map, hl] at this
    omega
/-- data that is a dict has one text key -/
def TgD (t : Tg) : Prop := ∀ kvs, t = .dat (.dict kvs) → ∃ d, kvs = [(.str "a", d)]
def SmS (s : List Nat) : Prop := (∀ k ∈ s, k ≤ 1000) ∧ s.length ≤ 20
def SmK (t : Tg) : Prop := ∀ kds, t = .dct kds → ∀ e ∈ kds, ∃ s, e.1 = kn s ∧ SmS s
def SmO (kos : List (OKey × PyData)) : Prop := ∀ e ∈ kos, (∃ s, e.1 = .okI (kn s) ∧ SmS s) ∨ ∃ bs : List Bool, e.1 = .okB bs ∧ bs.length ≤ 20
/-- a thing, and whether it is a plan -/
def PlTh (K : PySem.W.Frag) (P : Program) (w : World) (n : Nat) (m : Mm) (y : Val) (c : Bool) : Prop := (∃ t : Tg, t.At m y ∧ TgD t ∧ SmK t ∧ c = t.plan n) ∨ ∃ (p : Addr) (kos : List (OKey × PyData)), y = .v (.ref p) ∧ OdAt K P w m p kos ∧ SmO kos ∧ c = false
theorem PlTh.ne {K : PySem.W.Frag} {P : Program} {w : World} {n : Nat} {m : Mm} {y : Val} {c : Bool} (h : PlTh K P w n m y c) : y ≠ .any := by
  rcases h with ⟨t, h, _⟩ | ⟨p, kos, rfl, _⟩
  · exact h.ne
  · exact fun z => nomatch z
def f_arePlansO (K : PySem.W.Frag) (P : Program) (w : World) : FSp := fun args m R => ∃ (y : Val) (ss : List Int) (c : Bool), args = [y, .d (tupI ss)] ∧ Shares ss ∧ PlTh K P w ss.length m y c ∧ R (.d (.bool c)) m
def f_planCostT : FSp := fun args m R => ∃ (y : Val) (ss : List Int) (c : Nat) (kds : List (List Int × PyData)), args = [.d (tupI ss), .d (.int (c : Int)), y] ∧ Shares ss ∧ c ≤ 99 ∧ (Tg.dct kds).At m y ∧ SmK (.dct kds) ∧ Tg.plan ss.length (.dct kds) = true ∧ R (.d (frac (planT ss c (wordB kds) (List.range ss.length)))) m
def fnNoCost (K : PySem.W.Frag) (P : Program) (w : World) (cs : List Addr) : FSpX := fun args m R X => ∃ (y : Val) (ss : List Int) (c : Nat), args = [.d (tupI ss), .d (.int (c : Int)), y] ∧ Shares ss ∧ c ≤ 99 ∧ PlTh K P w ss.length m y false ∧ X (cs.getD 5 0) m
def f_told61 (K : PySem.W.Frag) (P : Program) (w : World) : FSp := fun args m R => ∃ (y : Val) (ss : List Int) (c : Nat), args = [.d (tupI ss), .d (.int (c : Int)), y] ∧ Shares ss ∧ c ≤ 99 ∧ ((∃ kds, (Tg.dct kds).At m y ∧ SmK (.dct kds) ∧ Tg.plan ss.length (.dct kds) = true ∧ R (.d (frac (planT ss c (wordB kds) (List.range ss.length)))) m) ∨ (PlTh K P w ss.length m y false ∧ R (.d (refused 5)) m))
def f_lawPlan61 : FSp := fun args m R => ∃ (ss : List Int) (b : Addr), args = [.v (.ref b), .d (tupI ss)] ∧ m b = some .box ∧ Shares ss ∧ ∀ (f : List Nat → Bool) (p : Addr), m p = none → R (.v (.ref p)) (put m p (.dT (dI (tabS (fun s => told (f s)) (rsX ss.length)))))
/-! how keys are shown -/
theorem itl_tupI (ns : List Int) : itl (tupI ns) = true := by
  unfold tupI
  rw [itl]
  induction ns with
  | nil => rfl
  | cons n ns ih =>
    rw [List.map_cons, itlAll, ih]
    rfl
theorem shown_in (x : PyData) (l : List (List Nat)) : x.shown ∈ l.map (fun s => (tupI (kn s)).shown) ↔ ∃ s ∈ l, x = tupI (kn s) := by
  constructor
  · intro h
    obtain ⟨s, hs, e⟩ := List.mem_map.mp h
    exact ⟨s, hs, shown_inj (itl_tupI _) e.symm⟩
  · rintro ⟨s, hs, rfl⟩
    exact List.mem_map.mpr ⟨s, hs, rfl⟩
theorem o2_inStrL {K : PySem.W.Frag} {m : Mm} {Q : Val → Mm → Prop} {x : Str} {xs : List Str} {neg : Bool} (q : Q (.d (.bool (if neg then !decide (x ∈ xs) else decide (x ∈ xs)))) m) : Op2 K (rIn K neg) (.d (.str x)) (.d (.list (xs.map PyData.str))) m Q := fun H G v w S a b R k => by
  rw [str_of a]
  obtain ⟨p, ys, rfl, g1, g2⟩ := rp_list.mp b.rp
  rw [g2.strs] at g1
  refine ⟨p, _, rfl, Or.inl (Or.inl (Le.rd S.sub g1)), rfl, by rw [List.all_map, List.all_eq_true]; exact fun _ _ => rfl, ?_⟩
  rw [inV_strs]
  exact k _ H G _ m q S (Le.refl G) vr_bool
theorem sh_key61 {s : List Nat} (h : SmS s) : Sh (tupI (kn s)) 4 9000 := by
  refine (sh_tuple (ds := (kn s).map PyData.int) (k := 0) (n := 12) (c := 20) (fun d hd => ?_) (by rw [List.length_map, show (kn s).length = s.length by unfold kn; rw [List.length_map]]; exact h.2)).mono (by decide) (by decide)
  obtain ⟨i, hi, rfl⟩ := List.mem_map.mp hd
  obtain ⟨k, hk, rfl⟩ := List.mem_map.mp hi
  have := h.1 k hk
  exact sh_int (a := 11) (bt_lit (n := 11) (by show _ < 2048; omega) (by decide)) (by decide) (by decide)
theorem sh_bool0 (b : Bool) : Sh (.bool b) 0 10 := by
  cases b <;> exact ⟨rfl, by decide, by decide, by decide +kernel⟩
theorem sh_bls61 {bs : List Bool} (h : bs.length ≤ 20) : Sh (.tuple (bs.map PyData.bool)) 4 9000 := by
  refine (sh_tuple (ds := bs.map PyData.bool) (k := 0) (n := 10) (c := 20) (fun d hd => ?_) (by rw [List.length_map]; exact h)).mono (by decide) (by decide)
  obtain ⟨b, hb, rfl⟩ := List.mem_map.mp hd
  exact sh_bool0 b
theorem bls_not {bs : List Bool} (h : bs ≠ []) (l : List (List Nat)) : ¬ ∃ s ∈ l, PyData.tuple (bs.map PyData.bool) = tupI (kn s) := by
  rintro ⟨s, _, e⟩
  cases bs with
  | nil => exact h rfl
  | cons b bs =>
    cases s with
    | nil => injection e with e; cases e
    | cons k s => injection e with e; injection e with e _; cases e
theorem sh_a : Sh (.str "a") 0 10 := ⟨rfl, by decide, by decide +kernel, by decide +kernel⟩
theorem a_not (l : List (List Nat)) : ¬ ∃ s ∈ l, PyData.str "a" = tupI (kn s) := by
  rintro ⟨s, _, e⟩
  cases e
theorem key_in {l : List (List Nat)} {s : List Nat} : (∃ u ∈ l, tupI (kn s) = tupI (kn u)) ↔ s ∈ l := by
  constructor
  · rintro ⟨u, hu, e⟩
    have e : kn s = kn u := by
      unfold tupI at e
      injection e with e
      exact (List.map_inj_right (fun _ _ z => PyData.int.inj z)).mp e
    rw [kn_inj e]; exact hu
  · intro h
    exact ⟨s, h, rfl⟩
theorem okPl_in {n : Nat} (h5 : n ≤ 5) {s : List Nat} {d : PyData} (h : s ∉ rsX n) : okPl n (kn s, d) = false := by
  cases hk : okPl n (kn s, d) with
  | false => rfl
  | true =>
    obtain ⟨u, b, hu, e⟩ := okPl_of h5 hk
    injection e with e _
    rw [kn_inj e] at h
    exact absurd hu h
theorem okPl_wd {n : Nat} {s : List Nat} {d : PyData} (hk : Kinds n s) (h0 : s ≠ []) : okPl n (kn s, d) = isWd d := by
  unfold okPl
  rw [show areKinds (tupI (kn s, d).1) (n : Int) = true from areKinds_of hk, show decide ((kn s, d).1 = []) = false from decide_eq_false fun e => h0 (List.map_eq_nil_iff.mp e), Bool.true_and, Bool.not_false, Bool.true_and]
/-! the law's odd things -/
def oddN : List PyData := [.none, .bool true, .bool false, .int (-1), .int 0, .str "", .str "a", .str "1", .tuple [.int 0], .list [.int 1], .dict [(.str "a", .int 1)], .tuple [.tuple [.int 0, .int 1]], .tuple [.tuple [.int 1]], .tuple [.int 0, .int 1], .int ((10 : Int) ^ 29)]
def f_oddN : FSp := fun args m R => ∃ b, args = [.v (.ref b)] ∧ m b = some .box ∧ ∀ o ∈ oddN, R (.d o) m
theorem oddN_sh : ∀ o ∈ oddN, ShB o 4 9000 := by
  have h : ∀ o ∈ oddN, (decide (o.depth ≤ 4) && (o.showable && decide (o.shown.length ≤ 9000))) = true := by decide +kernel
  intro o ho
  have := h o ho
  rw [Bool.and_eq_true, Bool.and_eq_true] at this
  exact ⟨of_decide_eq_true this.1, this.2.1, of_decide_eq_true this.2.2⟩
theorem oddN_dict : ∀ o ∈ oddN, ∀ kvs, o = .dict kvs → kvs = [(.str "a", .int 1)] := by
  intro o ho kvs e
  subst e
  simp only [oddN, List.mem_cons, List.not_mem_nil, or_false, reduceCtorEq, false_or] at ho
  injection ho
theorem oddN_sz : ∀ o ∈ oddN, szFrac o := by
  intro o ho
  simp only [oddN, List.mem_cons, List.not_mem_nil, or_false] at ho
  rcases ho with rfl | rfl | rfl | rfl | rfl | rfl | rfl | rfl | rfl | rfl | rfl | rfl | rfl | rfl | rfl <;> first | trivial | exact bt_lit (n := 1) (by decide) (by decide)
theorem tabS_upd {f : List Nat → Bool} {l : List (List Nat)} {s : List Nat} {b : Bool} (h : s ∉ l) : tabS (fun u => told (f u)) l = tabS (fun u => told (if u = s then b else f u)) l := by
  unfold tabS
  refine List.map_congr_left fun u hu => ?_
  have hne : ¬ u = s := fun e => h (e ▸ hu)
  show (kn u, Val.d (.str (told (f u)))) = (kn u, Val.d (.str (told (if u = s then b else f u))))
  rw [if_neg hne]
theorem putV_tabS_new {f : List Nat → Bool} {l : List (List Nat)} {s : List Nat} {b : Bool} (h : s ∉ l) : putV (dI (tabS (fun u => told (f u)) l)) (kI (kn s)) (.d (.str (told b))) = dI (tabS (fun u => told (if u = s then b else f u)) (l ++ [s])) := by
  rw [putV_new _ fun p hp => ?_]
  · rw [tabS_upd (b := b) h]
    have e : (told (if s = s then b else f s)) = told b := by rw [if_pos rfl]
    unfold tabS dI
    rw [List.map_append, List.map_append]
    show _ ++ [(kI (kn s), Val.d (.str (told b)))] = _ ++ [(kI (kn s), Val.d (.str (told (if s = s then b else f s))))]
    rw [e]
  · unfold dI tabS at hp
    rw [List.map_map] at hp
    obtain ⟨t, ht, rfl⟩ := List.mem_map.mp hp
    exact fun z => h (kn_inj (kI_inj z) ▸ ht)
end DL
set_option exponentiation.threshold 9000
/-! k61: the things -/
namespace DL
open PySem L2
def ThP (K : PySem.W.Frag) (P : Program) (w : World) (n : Nat) (m : Mm) (y : Val) (c : Bool) : Prop := (∃ t : Tg, t.At m y ∧ TgD t ∧ SmK t ∧ ShA t.data ∧ c = t.plan n) ∨ ∃ (p : Addr) (kos : List (OKey × PyData)), y = .v (.ref p) ∧ OdAt K P w m p kos ∧ SmO kos ∧ ShA (dctO kos) ∧ c = false
section
variable {K : PySem.W.Frag} {P : Program} {w : World} {n : Nat} {m m' : Mm} {y : Val} {c : Bool}
theorem ThP.agree (h : ThP K P w n m y c) (e : ∀ p, y = .v (.ref p) → m' p = m p) : ThP K P w n m' y c := by
  rcases h with ⟨t, h, g⟩ | ⟨p, kos, rfl, ho, g⟩
  · refine Or.inl ⟨t, ?_, g⟩
    cases t with
    | dat x => exact h
    | dct kds =>
      obtain ⟨p, rfl, h1, h2⟩ := h
      exact ⟨p, rfl, (e p rfl).trans h1, h2⟩
  · exact Or.inr ⟨p, kos, rfl, ⟨(e p rfl).trans ho.mem, ho.nd, ho.few, ho.ok, ho.okb, ho.odd⟩, g⟩
theorem ThP.at (h : ThP K P w n m y c) {p : Addr} (e : y = .v (.ref p)) : ∃ o, m p = some o ∧ ∀ xs, o ≠ .lst xs := by
  rcases h with ⟨t, h, g⟩ | ⟨p', kos, h, ho, g⟩
  · cases t with
    | dat x => rw [e] at h; exact nomatch h.1
    | dct kds =>
      obtain ⟨p', h, h1, h2⟩ := h
      rw [e] at h
      cases h
      exact ⟨_, h1, fun xs z => nomatch z⟩
  · rw [e] at h
    cases h
    exact ⟨_, ho.mem, fun xs z => nomatch z⟩
theorem ThP.less (h : ThP K P w n m y c) (hx : Ext m m') : ThP K P w n m' y c := h.agree fun p e => by
  obtain ⟨o, h1, _⟩ := h.at e
  rw [h1, hx p o h1]
theorem ThP.plth (h : ThP K P w n m y c) : PlTh K P w n m y c := by
  rcases h with ⟨t, h, h1, h2, h3, h4⟩ | ⟨p, kos, rfl, ho, h1, h2, h3⟩
  · exact Or.inl ⟨t, h, h1, h2, h4⟩
  · exact Or.inr ⟨p, kos, rfl, ho, h1, h3⟩
theorem ThP.shows (h : ThP K P w n m y c) : ∃ T : Str, ∀ m', Ext m m' → ∀ Q : Val → Mm → Prop, Q (.d (.str T)) m' → OpN K (rOr (rReprA K) (rReprO K P w)) [y] m' Q := by
  rcases h with ⟨t, h, h1, h2, h3, h4⟩ | ⟨p, kos, rfl, ho, h1, h2, h3⟩
  · exact ⟨_, fun m' hx Q q => on_orL (on_showTh (h.less hx) h3 q)⟩
  · exact ⟨_, fun m' hx Q q => on_orR (on_showO (hx _ _ ho.mem) h2 q)⟩
end
/-- a word or a thing in a plan -/
def ItP (x : PyData) : Prop := ShB x 4 9000 ∧ szFrac x
theorem itp_str {x : Str} (h : (PyData.str x).showable = true) (h2 : (PyData.str x).shown.length ≤ 9000) : ItP (.str x) := ⟨⟨Nat.zero_le _, h, h2⟩, trivial⟩
theorem itp_told (b : Bool) : ItP (.str (told b)) := by cases b <;> exact itp_str (by decide +kernel) (by decide +kernel)
theorem itp_odd {o : PyData} (h : o ∈ oddN) : ItP o := ⟨oddN_sh o h, oddN_sz o h⟩
theorem tabS_X (g : List Nat → Str) (l : List (List Nat)) : tabS g l = dV (tabX (fun s => .str (g s)) l) := by
  unfold tabS dV tabX
  rw [List.map_map]
  rfl
theorem th_tab {K : PySem.W.Frag} {P : Program} {w : World} {n : Nat} {m : Mm} {p : Addr} {f : List Nat → PyData} {l : List (List Nat)} (hm : m p = some (.dT (dI (dV (tabX f l))))) (hn : l.Nodup) (hl : l.length ≤ 64) (hk : ∀ s ∈ l, SmS s) (hf : ∀ s ∈ l, ItP (f s)) : ThP K P w n m (.v (.ref p)) (Tg.plan n (.dct (tabX f l))) := by
  refine Or.inl ⟨_, at_tabX hm hn (by omega) fun u hu => ⟨(hf u hu).2, by have := (hk u hu).2; omega⟩, (fun _ e => nomatch e), fun kds e x hx => ?_, shA_tabX hl hk fun s hs => (hf s hs).1, rfl⟩
  injection e with e
  subst e
  obtain ⟨u, hu, rfl⟩ := List.mem_map.mp hx
  exact ⟨u, rfl, hk u hu⟩
theorem th_dat {K : PySem.W.Frag} {P : Program} {w : World} {n : Nat} {m : Mm} {x : PyData} (h : ShA x) (hd : isDct x = false) : ThP K P w n m (.d x) false := by
  refine Or.inl ⟨.dat x, ⟨rfl, fun kvs e => ?_⟩, fun kvs e => ?_, (fun _ e => nomatch e), h, rfl⟩
  · rw [e] at hd; cases hd
  · injection e with e
    rw [e] at hd; cases hd
theorem th_odd {K : PySem.W.Frag} {P : Program} {w : World} {n : Nat} {m : Mm} {x : PyData} (h : x ∈ oddN) : ThP K P w n m (.d x) false := by
  refine Or.inl ⟨.dat x, ⟨rfl, fun kvs e => ?_⟩, fun kvs e => ?_, (fun _ e => nomatch e), (oddN_sh x h).toA (by decide) (by decide), rfl⟩
  · rw [oddN_dict x h kvs e]; decide
  · injection e with e
    exact ⟨_, oddN_dict x h kvs e⟩
def f_bent61 (K : PySem.W.Frag) (P : Program) (w : World) : FSp := fun args m R => ∃ (ss : List Int) (b p : Addr) (f : List Nat → Bool) (o : PyData), args = [.v (.ref b), .v (.ref p), .d o] ∧ m b = some .box ∧ Shares ss ∧ m p = some (.dT (dI (tabS (fun s => told (f s)) (rsX ss.length)))) ∧ o ∈ oddN ∧
  ∀ y m' c, Ext m m' → ThP K P w ss.length m' y c → R y m'
theorem rsX_zero {n : Nat} (h1 : 1 ≤ n) (h5 : n ≤ 5) : [0] ∈ rsX n := by
  have h := zero_in ⟨n, by omega⟩ h1
  obtain ⟨hk, h0⟩ := someL_k h
  rcases List.mem_cons.mp (rs_all ⟨n, by omega⟩ [0] (kinds_allS hk)) with e | h
  · cases e
  · exact h
theorem no_rsX {n : Nat} (h5 : n ≤ 5) : ([] : List Nat) ∉ rsX n ∧ [1, 0] ∉ rsX n ∧ [5] ∉ rsX n ∧ [4, 4] ∉ rsX n := by
  have h : ∀ n : _root_.Fin 6, ([] : List Nat) ∉ rsX n.val ∧ [1, 0] ∉ rsX n.val ∧ [5] ∉ rsX n.val ∧ [4, 4] ∉ rsX n.val := by decide +kernel
  exact h ⟨n, by omega⟩
theorem told_draw (b : Bool) : decide (told b = "draw") = !b := by cases b <;> decide
theorem shA_refused : ShA (refused 5) := ⟨by decide, by decide +kernel, by decide +kernel⟩
end DL
/-! for a, b in a list of pairs made on the spot; a list that may change + one that stays -/
namespace DL
open PySem L2
section
variable {K : PySem.W.Frag} {r : List Val} {m : Mm} {Q : Val → Mm → Prop} {te tl ta tb : TE} {N : List Val → Mm → Prop} {E : Val → Mm → Prop} {t : TS}
theorem o2_addMV {p : Addr} {a b : List Val} (hm : m p = some (.lst a)) (hz : a.length + b.length ≤ 100000) (q : Q (vL K (a ++ b)) m) : Op2 K (rAdd K) (.v (.ref p)) (vL K b) m Q := fun H G v w S x y R k => by
  have x := x.eq
  subst x
  obtain ⟨xs, g1, g2⟩ := S.mem p _ hm
  obtain ⟨p', ys, rfl, h2, h2'⟩ := vL_of y
  refine Or.inr (Or.inr (Or.inl ⟨p, p', xs, ys, rfl, rfl, Or.inl g1, Le.rd S.sub h2, ?_, fun l hl => ?_⟩))
  · rw [g2.length, h2'.length]; exact Nat.le_trans hz (by decide)
  · have hg := S.free hl
    exact k _ _ (upd G l (.lst (xs ++ ys))) _ m q (S.fix hl) (Le.new hg) (vL_mk (Rd.of upd_same) ((g2.append h2').mono (Le.new hg)))
theorem w_forVP {j1 j2 : Nat} {rs : List (List Int × PyData)} (h : Ev K tl r m fun x m1 => x = vL K (rs.map fun e => .p e.1 e.2) ∧ m1 = m) (W : Nat → List Val → Mm → Prop) (h0 : W 0 r m)
    (hs : ∀ (i : Nat) (k : List Int) (d : PyData) r' m', rs[i]? = some (k, d) → W i r' m' → Wp K t ((r'.set j1 (.t k)).set j2 (.d d)) m' (W (i + 1)) E) (hd : ∀ r' m', W rs.length r' m' → N r' m') :
    Wp K (tFor (iList K tl) (gTup K 2 (gCons (gName j1) (gCons (gName j2) gNil))) t) r m N E := fun σ H G D S L a b =>
  h σ H G S L _ fun v H1 G1 x m1 ⟨hx, hm⟩ S1 e1 r1 => by
    subst hx hm
    obtain ⟨p, xs, rfl, hs1, hA⟩ := vL_of r1
    have hs1 : SqL K G1 p xs := Or.inl hs1
    have hAl := hA.length
    rw [List.length_map] at hAl
    refine ⟨p, rfl, ⟨xs, S1.sqL hs1⟩, for_list (xs := xs) (fun i σ' H' => ∃ G' r' m', W i r' m' ∧ Sta K m' H' G' ∧ Le G1 G' ∧ Sl K G' r' σ') ⟨G1, r, _, h0, S1, Le.refl G1, L.mono e1⟩ ?_ ?_ ?_⟩
    · rintro i σ' H' hi ⟨G', r', m', _, S', e', _⟩
      exact S'.sqL (e'.sqL hs1)
    · rintro i y σ' H' hy ⟨G', r', m', hw, S', e', L'⟩
      have hil : i < rs.length := by rw [← hAl]; exact (List.getElem?_eq_some_iff.mp hy).1
      obtain ⟨y', hy', ry⟩ := VRs.atI hA (i := i) (r := .p rs[i].1 rs[i].2) (by rw [List.getElem?_map, List.getElem?_eq_getElem hil]; rfl)
      rw [hy] at hy'
      cases hy'
      cases ry with
      | @p _ _ c d w q1 q2 q3 =>
        refine ⟨c, [.ref d, w], rfl, S'.sqT (SqT.of (e' _ _ q1)), rfl, .ref d, [w], rfl, w, [], rfl, rfl, ?_⟩
        exact hs i _ _ r' m' (List.getElem?_eq_getElem hil) hw _ H' G' _ S' ((L'.set (r := .t rs[i].1) (.t (e' _ _ q2)) j1).set (r := .d rs[i].2) (.d (Rp.mono e' _ _ q3)) j2) (fun σ3 H3 G3 r3 m3 h3 S3 e3 L3 => ⟨G3, r3, m3, h3, S3, e'.trans e3, L3⟩) (fun v H3 G3 x m3 n3 S3 e3 L3 => b v H3 G3 x m3 n3 S3 (e1.trans (e'.trans e3)) L3)
    · rintro σ' H' ⟨G', r', m', hw, S', e', L'⟩
      rw [hAl] at hw
      exact a σ' H' G' r' m' (hd r' m' hw) S' (e1.trans e') L'
end
end DL
namespace Law
open PySem L2 DL
def topS (i : Nat) : Stmt := PySem.Challenge.pw_kindsgathered_k61_plans_and_costs.main.body.getD i (.Pass ⟨0, 0, 0, 0⟩)
local macro_rules | `(tactic| walk_at "dl1") => `(tactic| first
  | with_reducible refine w_seq ?_
  | with_reducible refine w_asg ?_
  | with_reducible refine w_ret ?_
  | with_reducible refine w_drop ?_
  | with_reducible refine w_if ?_
  | with_reducible refine w_par ?_
  | with_reducible refine evt_B ?_
  | with_reducible refine evt_test ?_
  | with_reducible refine evt_and ?_
  | with_reducible refine evt_or ?_
  | with_reducible refine evt_not ?_
  | with_reducible refine evt_yes ?_
  | with_reducible refine ev_lstMul ?_
  | with_reducible refine ev_op ?_
  | with_reducible refine ev_un ?_
  | with_reducible refine ev_callB ?_
  | with_reducible refine ev_call ?_
  | with_reducible refine eva_cons ?_
  | with_reducible refine eva_nil ?_
  | with_reducible refine evo_none ?_
  | with_reducible refine evo_some ?_
  | with_reducible refine ev_slL ?_
  | with_reducible refine ev_slT ?_
  | with_reducible refine ev_and ?_
  | with_reducible refine ev_or ?_
  | with_reducible refine ev_not ?_
  | with_reducible refine ev_chain ?_
  | with_reducible refine ev_tup ?_
  | with_reducible refine ev_if ?_
  | (refine ev_varTN rfl ?_)
  | (refine ev_varT rfl ?_)
  | (refine ev_var rfl (fun h => nomatch h) ?_)
  | with_reducible refine ev_cI ?_
  | with_reducible refine ev_cB ?_
  | with_reducible refine ev_cS ?_
  | with_reducible refine ev_cN ?_
  | with_reducible refine ev_cTy ?_)
local macro_rules | `(tactic| walk_at "dl2") => `(tactic| first
  | with_reducible refine o2_addI ?_
  | with_reducible refine o2_sub ?_
  | with_reducible refine o2_lt ?_
  | with_reducible refine o2_le ?_
  | with_reducible refine o2_gt ?_
  | with_reducible refine o2_ge ?_
  | with_reducible refine o2_eqI ?_
  | with_reducible refine o2_neI ?_
  | with_reducible refine o2_neS ?_
  | with_reducible refine o2_eqS ?_
  | with_reducible refine o1_neg ?_
  | with_reducible refine o2_isB ?_
  | with_reducible refine o2_isNotB ?_
  | with_reducible refine o2_inN ?_
  | with_reducible refine o2_notInN ?_
  | with_reducible refine on_abs ?_
  | with_reducible refine on_max ?_
  | with_reducible refine on_min ?_
  | with_reducible refine o2_ixF0 ?_
  | with_reducible refine o2_ixF1 ?_
  | with_reducible refine on_lenI ?_
  | with_reducible refine on_lenN ?_
  | with_reducible refine on_sumI ?_
  | with_reducible refine on_lenT ?_
  | with_reducible refine on_lenL ?_
  | with_reducible refine on_lenS ?_
  | with_reducible refine on_tupL ?_
  | with_reducible refine on_tupT ?_
  | with_reducible refine on_lstT ?_
  | with_reducible refine on_isiTup ?_
  | with_reducible refine on_isiInt ?_
  | with_reducible refine on_isiBool ?_
  | with_reducible refine on_isiStr ?_
  | with_reducible refine on_isiList ?_
  | with_reducible refine on_isiDict ?_
  | with_reducible refine on_sumL ?_
  | with_reducible refine on_sumT ?_
  | with_reducible refine on_all ?_
  | with_reducible refine on_any ?_
  | refine ⟨_, rfl, ?_⟩
  | refine ⟨_, _, rfl, ?_⟩
  | refine ⟨[], rfl, Nat.le_of_ble_eq_true rfl, ?_⟩
  | refine ⟨[_], rfl, Nat.le_of_ble_eq_true rfl, ?_⟩
  | refine ⟨[_, _], rfl, Nat.le_of_ble_eq_true rfl, ?_⟩
  | refine ⟨[_, _, _], rfl, Nat.le_of_ble_eq_true rfl, ?_⟩)
local macro_rules | `(tactic| walk_at "dl") => `(tactic| first | walk_at "dl1" | walk_at "dl2")
local macro_rules | `(tactic| walk_at "go") => `(tactic| repeat walk_at "dl")
section
variable {P : Program} {w : World} {K : PySem.W.Frag} {mg : Str → Option Value} {base : Heap}
variable {c_NoShares c_NoKind c_NoNumber c_NoNeeds c_TooMany c_NoPlan c_NoLine c_NoText c_GatherError : Addr}
abbrev s_is_whole : Stmt := topS 12
theorem sc_is_whole : FnScope ["thing"] ["thing"] (defScope s_is_whole) := ⟨rfl, rfl, rfl, by decide +kernel, rfl, by decide +kernel, by decide +kernel⟩
theorem ok_is_whole {a : Addr} {fd : FuncData} (F : Fun K "is_whole" "is_whole" s_is_whole a fd) (hm : mg "is_whole" = some (.ref a)) (z_isinstance : mg "isinstance" = none) (z_bool : mg "bool" = none) (z_int : mg "int" = none) :
    Cl P w K mg base 1 "is_whole" f_isWhole := by
  refine ⟨a, fd, ["thing"], fn_ok F sc_is_whole (fun args m R h => ?_) (fun cdv A outer s H E hr => ⟨_, (pss_one (ps_ret (pe_and (pe_callB (kIsi K) (by rfl) z_isinstance (by decide +kernel) (pa_cons (pv 0) (pa_cons (pe_bltn (v := .ty "int") (by rfl) z_int (by decide +kernel) rfl) pa_nil))) (pe_one (pe_not (pe_callB (kIsi K) (by rfl) z_isinstance (by decide +kernel) (pa_cons (pv 0) (pa_cons (pe_bltn (v := .ty "bool") (by rfl) z_bool (by decide +kernel) rfl) pa_nil)))))))), fun args m R h => ?_⟩), hm, F.kp, F.binds (ps := ["thing"]) fun _ _ _ _ _ _ us hl => match us, hl with | [_], _ => rfl⟩
  ·
    obtain ⟨_, rfl, _⟩ := h; rfl
  ·
    obtain ⟨x, rfl, q⟩ := h
    repeat walk_at "dl"
    refine ⟨fun hc => ?_, fun hc => ?_⟩
    · repeat walk_at "dl"
      have e : (!isBoo x) = isInt x := by cases x <;> simp_all [isBoo, isInt, isIntB]
      rw [e]
      exact q
    · have e : isInt x = false := by cases x <;> simp_all [isInt, isIntB]
      rw [e] at q
      exact q
abbrev s_greatest_common : Stmt := topS 13
theorem sc_greatest_common : FnScope ["one", "other"] ["one", "other"] (defScope s_greatest_common) := ⟨rfl, rfl, rfl, by decide +kernel, rfl, by decide +kernel, by decide +kernel⟩
theorem ok_greatest_common {a : Addr} {fd : FuncData} (F : Fun K "greatest_common" "greatest_common" s_greatest_common a fd) (hm : mg "greatest_common" = some (.ref a)) :
    Cl P w K mg base 1 "greatest_common" f_gcd := by
  refine ⟨a, fd, ["one", "other"], fn_ok F sc_greatest_common (fun args m R h => ?_) (fun cdv A outer s H E hr => ⟨_, (pss_cons (ps_while PassesOwn.never (pt_cmpR (kNe K hr) (pv 1) pe_int (nomark _)) (pss_one (ps_par (i := 0) (j := 1) rfl sc_greatest_common.nd rfl rfl (by decide) rfl rfl (pa_cons (pv 1) (pa_cons (pe_op oMod (pv 0) (pv 1)) pa_nil)) rfl)))
      (pss_one (ps_ret (pv 0)))), fun args m R h => ?_⟩), hm, F.kp, F.binds (ps := ["one", "other"]) fun _ _ _ _ _ _ us hl => match us, hl with | [_, _], _ => rfl⟩
  ·
    obtain ⟨_, _, rfl, _⟩ := h; rfl
  ·
    obtain ⟨a0, b0, rfl, q⟩ := h
    refine w_seq (w_while (fun n r m' => m' = m ∧ ∃ x y : Nat, n = y ∧ r = [.d (.int (x : Int)), .d (.int (y : Int))] ∧ Nat.gcd x y = Nat.gcd a0 b0) b0 ⟨rfl, a0, b0, rfl, rfl, rfl⟩ ?_)
    rintro n r m' ⟨rfl, x, y, rfl, rfl, hg⟩
    repeat walk_at "dl"
    refine ⟨fun hc => ?_, fun hc => ?_⟩
    · have hy : n ≠ 0 := by
        intro e
        rw [e] at hc
        simp at hc
      repeat walk_at "dl"
      refine o2_mod (by omega) ?_
      repeat walk_at "dl"
      refine ⟨x % n, Nat.mod_lt x (by omega), rfl, n, x % n, rfl, rfl, ?_⟩
      rw [← hg, Nat.gcd_comm n (x % n), ← Nat.gcd_rec, Nat.gcd_comm]
    · have hy : n = 0 := by
        have : ((n : Nat) : Int) = 0 := by simpa using hc
        omega
      subst hy
      repeat walk_at "dl"
      rw [Nat.gcd_zero_right] at hg
      rw [hg]
      exact q
abbrev s_sum_part : Stmt := topS 24
theorem sc_sum_part : FnScope ["shares", "some", "kind"] ["shares", "some"] (defScope s_sum_part) := ⟨rfl, rfl, rfl, by decide +kernel, rfl, by decide +kernel, by decide +kernel⟩
theorem ok_sum_part {a : Addr} {fd : FuncData} (F : Fun K "sum_part" "sum_part" s_sum_part a fd) (hm : mg "sum_part" = some (.ref a)) (z_sum : mg "sum" = none) :
    Cl P w K mg base 1 "sum_part" f_sumPart := by
  refine ⟨a, fd, ["shares", "some"], fn_ok F sc_sum_part (fun args m R h => ?_) (fun cdv A outer s H E hr => ⟨_, (pss_one (ps_ret (pe_callB (kSum K) (by rfl) z_sum (by decide +kernel) (pa_cons (pe_lc (own := [("kind", 2)]) rfl sc_sum_part.nd (kiT K (pv 1)) (blkOk_by (own := [("kind", 2)]) (N := ["shares", "some", "kind"]) (sc := defScope s_sum_part) (by decide +kernel)) (fun _ _ _ _ _ => (pg_name (i := 2) sc_sum_part.nd rfl (by first | exact Or.inl rfl | exact Or.inr rfl))) (fun _ _ _ _ _ => pts_nil) (fun _ _ _ _ _ => (pe_ix (kIx K) (pv 0) (pv 2) (fun _ _ => rfl)))) pa_nil)))), fun args m R h => ?_⟩), hm, F.kp, F.binds (ps := ["shares", "some"]) fun _ _ _ _ _ _ us hl => match us, hl with | [_, _], _ => rfl⟩
  ·
    obtain ⟨_, _, rfl, _⟩ := h; rfl
  ·
    obtain ⟨ss, ks, rfl, hz, hk, q⟩ := h
    repeat walk_at "dl"
    refine ev_mapT (ds := (ks.map fun (k : Nat) => (k : Int)).map PyData.int) ?_ (by rw [List.length_map, List.length_map]; omega) (fun d => .int (ss.getD (intOf d).toNat 0)) (fun i d m' hd hx => ?_) ?_
    · repeat walk_at "dl"
      exact ⟨rfl, rfl⟩
    · obtain ⟨k, hk1, rfl⟩ : ∃ k, k ∈ ks ∧ d = .int (k : Int) := by
        have := List.mem_of_getElem? hd
        rw [List.map_map] at this
        obtain ⟨k, h1, h2⟩ := List.mem_map.mp this
        exact ⟨k, h1, h2.symm⟩
      repeat walk_at "dl"
      refine o2_ixT (tupI_at (hk k hk1)) ?_
      exact ⟨rfl, rfl⟩
    · repeat walk_at "dl"
      have e : ((ks.map fun (k : Nat) => (k : Int)).map PyData.int).map (fun d => PyData.int (ss.getD (intOf d).toNat 0)) = (ks.map fun k => ss.getD k 0).map PyData.int := by
        rw [List.map_map, List.map_map, List.map_map]
        exact List.map_congr_left fun k _ => rfl
      rw [e]
      refine on_sumL ?_
      exact q
abbrev s_all_some : Stmt := topS 25
theorem sc_all_some : FnScope ["kinds", "found", "kind", "some"] ["kinds"] (defScope s_all_some) := ⟨rfl, rfl, rfl, by decide +kernel, rfl, by decide +kernel, by decide +kernel⟩
theorem ok_all_some {a : Addr} {fd : FuncData} (F : Fun K "all_some" "all_some" s_all_some a fd) (hm : mg "all_some" = some (.ref a)) :
    Cl P w K mg base 1 "all_some" f_allSome := by
  refine ⟨a, fd, ["kinds"], fn_ok F sc_all_some (fun args m R h => ?_) (fun cdv A outer s H E hr => ⟨_, (pss_cons (ps_set (i := 1) sc_all_some.nd rfl (by first | exact Or.inl rfl | exact Or.inr rfl) (pe_lst (pa_cons (pe_tup pa_nil) pa_nil)))
      (pss_cons (ps_for PassesOwn.never rfl (kiL K (pv 0)) (pg_name (i := 2) sc_all_some.nd rfl (by first | exact Or.inl rfl | exact Or.inr rfl)) (pss_one (ps_set (i := 1) sc_all_some.nd rfl (by first | exact Or.inl rfl | exact Or.inr rfl) (pe_op (kAdd K) (pv 1) (pe_lc (own := [("some", 3)]) rfl sc_all_some.nd (kiL K (pv 1)) (blkOk_by (own := [("some", 3)]) (N := ["kinds", "found", "kind", "some"]) (sc := defScope s_all_some) (by decide +kernel)) (fun _ _ _ _ _ => (pg_name (i := 3) sc_all_some.nd rfl (by first | exact Or.inl rfl | exact Or.inr rfl))) (fun _ _ _ _ _ => pts_nil) (fun _ _ _ _ _ => (pe_op (kAdd K) (pv 3) (pe_tup (pa_cons (pv 2) pa_nil)))))))))
      (pss_one (ps_ret (pv 1))))), fun args m R h => ?_⟩), hm, F.kp, F.binds (ps := ["kinds"]) fun _ _ _ _ _ _ us hl => match us, hl with | [_], _ => rfl⟩
  ·
    obtain ⟨_, rfl, _⟩ := h; rfl
  ·
    obtain ⟨ks, rfl, hn, q⟩ := h
    refine w_seq (w_asg (ev_lstT ?_))
    refine eva_cons (ev_tupT ?_)
    walk_at "dl1"
    refine ⟨[], rfl, by decide, ?_⟩
    walk_at "dl1"
    refine ⟨[[]], rfl, by decide, ?_⟩
    refine w_seq (w_forLf (xs := ks) (f := intN) ?_ (fun i r' m' => m' = m ∧ ∃ y, r' = [.d (.list (ks.map intN)), .lt ((allSL (ks.take i)).map kn), y, .any]) ⟨rfl, _, rfl⟩ ?_ ?_)
    · walk_at "go"
      exact ⟨rfl, rfl⟩
    · rintro i k r' m' hk ⟨rfl, y, rfl⟩
      have hl := allSL_len (ks.take i)
      have hp : (2 : Nat) ^ (ks.take i).length ≤ 2 ^ 8 := Nat.pow_le_pow_right (by decide) (by rw [List.length_take]; omega)
      refine w_asg (ev_op (ev_var (x := .lt ((allSL (ks.take i)).map kn)) rfl (fun h => nomatch h) ?_))
      refine ev_mapLt (nss := (allSL (ks.take i)).map kn) (ev_var rfl (fun h => nomatch h) ⟨rfl, rfl⟩) (by rw [List.length_map]; omega) (fun ns => ns ++ [(k : Int)]) (fun ns m2 hns hx => ?_) ?_
      · refine ev_op (ev_var (x := .t ns) rfl (fun h => nomatch h) (ev_tupT ?_))
        walk_at "go"
        obtain ⟨s, hs, rfl⟩ := List.mem_map.mp hns
        have := allSL_mem_len s hs
        rw [List.length_take] at this
        refine o2_addTt (by rw [List.length_map]; show s.length + 1 ≤ 100000; omega) ⟨rfl, rfl⟩
      · refine o2_addLt (by rw [List.length_map, List.length_map, List.length_map]; omega) ?_
        refine ⟨rfl, .d (.int (k : Int)), ?_⟩
        rw [take_one hk, allSL_snoc, List.map_append, List.map_map, List.map_map]
        have e : (allSL (ks.take i)).map ((fun ns => ns ++ [(k : Int)]) ∘ kn) = (allSL (ks.take i)).map (kn ∘ fun s => s ++ [k]) := List.map_congr_left fun s _ => by
          show kn s ++ [(k : Int)] = kn (s ++ [k])
          unfold kn
          rw [List.map_append]; rfl
        rw [e]
        rfl
    · rintro r' m' ⟨rfl, y, rfl⟩
      rw [List.take_length]
      refine w_ret (ev_var rfl (fun h => nomatch h) q)
abbrev s__law_box : Stmt := topS 36
theorem sc__law_box : FnScope ["_law_script", "_law_k", "_law_here", "_law_number", "_law_j", "_law_piece"] ["_law_script", "_law_k"] (defScope s__law_box) := ⟨rfl, rfl, rfl, by decide +kernel, rfl, by decide +kernel, by decide +kernel⟩
theorem ok__law_box {a : Addr} {fd : FuncData} (F : Fun K "_law_box" "_law_box" s__law_box a fd) (hm : mg "_law_box" = some (.ref a)) (z_len : mg "len" = none) (z_range : mg "range" = none) :
    Cl P w K mg base 1 "_law_box" f_box2 := by
  refine ⟨a, fd, ["_law_script", "_law_k"], fn_ok F sc__law_box (fun args m R h => ?_) (fun cdv A outer s H E hr => ⟨_, (pss_cons (ps_set (i := 2) sc__law_box.nd rfl (by first | exact Or.inl rfl | exact Or.inr rfl) (pe_op (kAdd K) (pe_op (kMul K) pe_int (pv 1)) pe_int))
      (pss_cons (ps_if (pt_cmpR oLt (pv 1) (pe_callB (kLen K) (by rfl) z_len (by decide +kernel) (pa_cons (pv 0) pa_nil)) (nomark _)) (pss_one (ps_set (i := 2) sc__law_box.nd rfl (by first | exact Or.inl rfl | exact Or.inr rfl) (pe_ix (kIx K) (pv 0) (pv 1) (fun _ _ => rfl)))) pss_nil)
      (pss_cons (ps_if (pt_cmpR (kEq K hr) (pe_op oMod (pv 2) pe_int) pe_int (nomark _)) (pss_one (ps_ret (pe_lst (pa_cons (pe_op oFdv (pv 2) pe_int) pa_nil)))) pss_nil)
      (pss_cons (ps_set (i := 3) sc__law_box.nd rfl (by first | exact Or.inl rfl | exact Or.inr rfl) pe_int)
      (pss_cons (ps_for PassesOwn.never rfl (pi_range1 (by rfl) z_range (pa_cons pe_int pa_nil)) (pg_name (i := 4) sc__law_box.nd rfl (by first | exact Or.inl rfl | exact Or.inr rfl)) (pss_cons (ps_set (i := 5) sc__law_box.nd rfl (by first | exact Or.inl rfl | exact Or.inr rfl) (pe_op oMod (pe_op (kAdd K) (pe_op (kAdd K) (pe_op (kMul K) (pe_op oMod (pv 2) pe_int) pe_int) (pe_op (kMul K) pe_int (pv 4))) pe_int) pe_int))
      (pss_cons (ps_set (i := 5) sc__law_box.nd rfl (by first | exact Or.inl rfl | exact Or.inr rfl) (pe_op oMod (pe_op (kMul K) (pv 5) (pv 5)) pe_int))
      (pss_one (ps_set (i := 3) sc__law_box.nd rfl (by first | exact Or.inl rfl | exact Or.inr rfl) (pe_op (kAdd K) (pe_op (kMul K) (pv 3) pe_int) (pe_op oMod (pe_op (kMul K) (pv 5) (pe_op (kAdd K) (pv 5) pe_int)) pe_int)))))))
      (pss_one (ps_ret (pe_lst (pa_cons (pv 3) pa_nil))))))))), fun args m R h => ?_⟩), hm, F.kp, F.binds (ps := ["_law_script", "_law_k"]) fun _ _ _ _ _ _ us hl => match us, hl with | [_, _], _ => rfl⟩
  ·
    obtain ⟨_, _, rfl, _⟩ := h; rfl
  ·
    obtain ⟨ns, k, rfl, hk, q⟩ := h
    refine w_seq (w_asg ?_)
    walk_at "go"
    refine o2_mulI (cmul_small (by decide) (by omega)) ?_
    refine ev_cI (o2_addI ?_)
    refine w_seq (Wp.imp (N := fun r1 m1 => m1 = m ∧ ∃ z : Int, r1 = [.scr ns, .d (.int (k : Int)), .d (.int z), .any, .any, .any]) (E := fun _ _ => False) (w_if ?_) ?_ (fun _ _ h => h.elim))
    · walk_at "go"
      by_cases hkl : (k : Int) < (ns.length : Int)
      · refine br_t (decide_eq_true hkl) ?_
        walk_at "go"
        refine o2_ixS (List.getElem?_eq_getElem (by omega)) ?_
        exact ⟨rfl, _, rfl⟩
      · refine br_f (decide_eq_false hkl) (w_next ?_)
        exact ⟨rfl, _, rfl⟩
    rintro r1 m1 ⟨rfl, z, rfl⟩
    walk_at "go"
    refine o2_mod (by decide) ?_
    walk_at "go"
    by_cases hz : z % 2 = 0
    · refine br_t (decide_eq_true hz) (w_ret (ev_lstB ?_))
      walk_at "go"
      refine o2_fdv (cdiv_small (by decide) (by decide)) ?_
      walk_at "go"
      exact q
    · refine br_f (decide_eq_false hz) (w_next ?_)
      walk_at "go"
      refine w_forR1 (n := 16) ?_ (by decide) (fun i r' m' => m' = m1 ∧ ∃ (n : Int) (y z1 : Val), r' = [.scr ns, .d (.int (k : Int)), .d (.int z), .d (.int n), y, z1] ∧ 0 ≤ n ∧ Bt n (33 * i + 1)) ⟨rfl, 0, _, _, rfl, by decide, bt_lit (n := 1) (by decide) (by omega)⟩ ?_ ?_
      · walk_at "go"
        exact ⟨rfl, rfl⟩
      · rintro i r' m' hi ⟨rfl, n, y, z1, rfl, hn, hb⟩
        have hc := Int.emod_nonneg z (show (2147483647 : Int) ≠ 0 by decide)
        have hc2 := Int.emod_lt_of_pos z (show (0 : Int) < 2147483647 by decide)
        walk_at "go"
        refine o2_mod (by decide) ?_
        walk_at "go"
        refine o2_mulI (cmul_small (by omega) (by decide)) ?_
        walk_at "go"
        refine o2_mulI (cmul_small (by decide) (by omega)) ?_
        walk_at "go"
        refine o2_mod (by decide) ?_
        generalize hP : (z % 2147483647 * 48271 + 7919 * (i : Int) + 1) % 2147483647 = P
        have hp0 : 0 ≤ P := by rw [← hP]; exact Int.emod_nonneg _ (by decide)
        have hp1 : P < 2147483647 := by rw [← hP]; exact Int.emod_lt_of_pos _ (by decide)
        walk_at "go"
        refine o2_mulI (cmul_small (by omega) (by omega)) ?_
        walk_at "go"
        refine o2_mod (by decide) ?_
        generalize hP2 : P * P % 2147483629 = P2
        have hp2 : 0 ≤ P2 := by rw [← hP2]; exact Int.emod_nonneg _ (by decide)
        have hp3 : P2 < 2147483629 := by rw [← hP2]; exact Int.emod_lt_of_pos _ (by decide)
        walk_at "go"
        refine o2_mulI (hb.cmul (b := 31) (bt_lit (n := 31) (by decide) (by decide)) (by omega)) ?_
        walk_at "go"
        refine o2_mulI (cmul_small (by omega) (by omega)) ?_
        walk_at "go"
        refine o2_mod (by decide) ?_
        walk_at "go"
        have hw := Int.emod_nonneg (P2 * (P2 + 13)) (show (2147483647 : Int) ≠ 0 by decide)
        have hw1 := Int.emod_lt_of_pos (P2 * (P2 + 13)) (show (0 : Int) < 2147483647 by decide)
        generalize P2 * (P2 + 13) % 2147483647 = w at *
        refine ⟨rfl, n * 2147483647 + w, _, _, rfl, by omega, ?_⟩
        have h1 : Bt (n * 2147483647) (33 * i + 1 + 31) := hb.mul (bt_lit (n := 31) (by decide) (Nat.le_refl _))
        exact (h1.add (bt_lit (i := w) (n := 31) (a := 33 * i + 32) (by show _ < 2147483648; omega) (by omega)) (c := 33 * i + 32) (by omega) (Nat.le_refl _)).mono (by omega)
      · rintro r' m' ⟨rfl, n, y, z1, rfl, hn, hb⟩
        refine w_ret (ev_lstB ?_)
        walk_at "go"
        exact q
abbrev s__law_take : Stmt := topS 37
theorem sc__law_take : FnScope ["_law_box_here", "_law_many", "_law_left", "_law_digit"] ["_law_box_here", "_law_many"] (defScope s__law_take) := ⟨rfl, rfl, rfl, by decide +kernel, rfl, by decide +kernel, by decide +kernel⟩
theorem ok__law_take {a : Addr} {fd : FuncData} (F : Fun K "_law_take" "_law_take" s__law_take a fd) (hm : mg "_law_take" = some (.ref a)) (z_divmod : mg "divmod" = none) :
    Cl P w K mg base 1 "_law_take" f_take := by
  refine ⟨a, fd, ["_law_box_here", "_law_many"], fn_ok F sc__law_take (fun args m R h => ?_) (fun cdv A outer s H E hr => ⟨_, (pss_cons (ps_asg (pe_callB cDivmod (by rfl) z_divmod (by decide +kernel) (pa_cons (pe_ix (kIx K) (pv 0) pe_int (fun _ _ => rfl)) (pa_cons (pv 1) pa_nil))) (kgT K (pg_tup (n := 2) rfl (pgs_cons (pg_name (i := 2) sc__law_take.nd rfl (by first | exact Or.inl rfl | exact Or.inr rfl)) (pgs_cons (pg_name (i := 3) sc__law_take.nd rfl (by first | exact Or.inl rfl | exact Or.inr rfl)) pgs_nil)))))
      (pss_cons (ps_asg (pv 2) (pg_sub (pv 0) pe_int set_list))
      (pss_one (ps_ret (pv 3))))), fun args m R h => ?_⟩), hm, F.kp, F.binds (ps := ["_law_box_here", "_law_many"]) fun _ _ _ _ _ _ us hl => match us, hl with | [_, _], _ => rfl⟩
  ·
    obtain ⟨_, _, rfl, _⟩ := h; rfl
  ·
    obtain ⟨p, k, rfl, hp, hk, hb, q⟩ := h
    refine w_seq (w_asg2 ?_)
    repeat walk_at "dl"
    refine o2_ixB hp fun n => ?_
    repeat walk_at "dl"
    refine on_divmod (hb.cdiv hk (by decide)) ?_
    repeat walk_at "dl"
    refine w_setB (p := p) ?_
    repeat walk_at "dl"
    refine ⟨rfl, ?_⟩
    repeat walk_at "dl"
    refine ⟨rfl, hp, ?_⟩
    repeat walk_at "dl"
    exact q _ (Int.emod_nonneg n (by omega)) (Int.emod_lt_of_pos n hk)
abbrev s__law_made : Stmt := topS 40
theorem sc__law_made : FnScope ["_law_top", "_law_bottom", "_law_one", "_law_other"] ["_law_top", "_law_bottom"] (defScope s__law_made) := ⟨rfl, rfl, rfl, by decide +kernel, rfl, by decide +kernel, by decide +kernel⟩
theorem ok__law_made {a : Addr} {fd : FuncData} (F : Fun K "_law_made" "_law_made" s__law_made a fd) (hm : mg "_law_made" = some (.ref a)) (z_abs : mg "abs" = none) :
    Cl P w K mg base 1 "_law_made" f_made := by
  refine ⟨a, fd, ["_law_top", "_law_bottom"], fn_ok F sc__law_made (fun args m R h => ?_) (fun cdv A outer s H E hr => ⟨_, (pss_cons (ps_par (i := 2) (j := 3) rfl sc__law_made.nd rfl rfl (by decide) rfl rfl (pa_cons (pe_callB cAbs (by rfl) z_abs (by decide +kernel) (pa_cons (pv 0) pa_nil)) (pa_cons (pv 1) pa_nil)) rfl)
      (pss_cons (ps_while PassesOwn.never (pt_cmpR (kNe K hr) (pv 2) pe_int (nomark _)) (pss_one (ps_par (i := 2) (j := 3) rfl sc__law_made.nd rfl rfl (by decide) rfl rfl (pa_cons (pe_op oMod (pv 3) (pv 2)) (pa_cons (pv 2) pa_nil)) rfl)))
      (pss_one (ps_ret (pe_tup (pa_cons (pe_op oFdv (pv 0) (pv 3)) (pa_cons (pe_op oFdv (pv 1) (pv 3)) pa_nil))))))), fun args m R h => ?_⟩), hm, F.kp, F.binds (ps := ["_law_top", "_law_bottom"]) fun _ _ _ _ _ _ us hl => match us, hl with | [_, _], _ => rfl⟩
  ·
    obtain ⟨_, _, rfl, _⟩ := h; rfl
  ·
    obtain ⟨t, b, rfl, hb, hz, q⟩ := h
    have hp : 0 < Nat.gcd b t.natAbs := Nat.gcd_pos_of_pos_left _ hb
    have hB : Bt ((Nat.gcd b t.natAbs : Nat) : Int) 8000 := hz.le (by
      have := Nat.le_of_dvd hb (Nat.gcd_dvd_left b t.natAbs)
      omega)
    walk_at "go"
    refine w_while (fun n r m' => m' = m ∧ ∃ x y : Nat, n = x ∧ r = [.d (.int t), .d (.int (b : Int)), .d (.int (x : Int)), .d (.int (y : Int))] ∧ Nat.gcd x y = Nat.gcd b t.natAbs) t.natAbs ⟨rfl, t.natAbs, b, rfl, rfl, Nat.gcd_comm _ _⟩ ?_
    rintro n r m' ⟨rfl, x, y, rfl, rfl, hg⟩
    walk_at "go"
    refine ⟨fun hc => ?_, fun hc => ?_⟩
    · have hy : n ≠ 0 := by
        intro e
        rw [e] at hc
        simp at hc
      walk_at "go"
      refine o2_mod (by omega) ?_
      walk_at "go"
      refine ⟨y % n, Nat.mod_lt y (by omega), rfl, y % n, n, rfl, rfl, ?_⟩
      rw [← hg, ← Nat.gcd_rec]
    · have hy : n = 0 := by
        have : ((n : Nat) : Int) = 0 := by simpa using hc
        omega
      subst hy
      rw [Nat.gcd_zero_left] at hg
      subst hg
      walk_at "go"
      refine o2_fdv (hB.cdiv (by omega) (by decide)) ?_
      walk_at "go"
      refine o2_fdv (hB.cdiv (by omega) (by decide)) ?_
      walk_at "go"
      rw [frac_mk t b (by omega)] at q
      exact q
abbrev s__law_sets : Stmt := topS 44
theorem sc__law_sets : FnScope ["_law_many", "_law_found", "_law_kind", "_law_row", "_law_size", "_law_some"] ["_law_many"] (defScope s__law_sets) := ⟨rfl, rfl, rfl, by decide +kernel, rfl, by decide +kernel, by decide +kernel⟩
theorem ok__law_sets {a : Addr} {fd : FuncData} (F : Fun K "_law_sets" "_law_sets" s__law_sets a fd) (hm : mg "_law_sets" = some (.ref a)) (z_range : mg "range" = none) (z_len : mg "len" = none) :
    Cl P w K mg base 1 "_law_sets" f_lawSetsX := by
  refine ⟨a, fd, ["_law_many"], fn_ok F sc__law_sets (fun args m R h => ?_) (fun cdv A outer s H E hr => ⟨_, (pss_cons (ps_set (i := 1) sc__law_sets.nd rfl (by first | exact Or.inl rfl | exact Or.inr rfl) (pe_lst (pa_cons (pe_tup pa_nil) pa_nil)))
      (pss_cons (ps_for PassesOwn.never rfl (pi_range1 (by rfl) z_range (pa_cons (pv 0) pa_nil)) (pg_name (i := 2) sc__law_sets.nd rfl (by first | exact Or.inl rfl | exact Or.inr rfl)) (pss_one (ps_set (i := 1) sc__law_sets.nd rfl (by first | exact Or.inl rfl | exact Or.inr rfl) (pe_op (kAdd K) (pv 1) (pe_lc (own := [("_law_some", 5)]) rfl sc__law_sets.nd (kiL K (pv 1)) (blkOk_by (own := [("_law_some", 5)]) (N := ["_law_many", "_law_found", "_law_kind", "_law_row", "_law_size", "_law_some"]) (sc := defScope s__law_sets) (by decide +kernel)) (fun _ _ _ _ _ => (pg_name (i := 5) sc__law_sets.nd rfl (by first | exact Or.inl rfl | exact Or.inr rfl))) (fun _ _ _ _ _ => pts_nil) (fun _ _ _ _ _ => (pe_op (kAdd K) (pv 5) (pe_tup (pa_cons (pv 2) pa_nil)))))))))
      (pss_cons (ps_set (i := 3) sc__law_sets.nd rfl (by first | exact Or.inl rfl | exact Or.inr rfl) (pe_lst pa_nil))
      (pss_cons (ps_for PassesOwn.never rfl (pi_range1 (by rfl) z_range (pa_cons (pe_op (kAdd K) (pv 0) pe_int) pa_nil)) (pg_name (i := 4) sc__law_sets.nd rfl (by first | exact Or.inl rfl | exact Or.inr rfl)) (pss_one (ps_set (i := 3) sc__law_sets.nd rfl (by first | exact Or.inl rfl | exact Or.inr rfl) (pe_op (kAdd K) (pv 3) (pe_lc (own := [("_law_some", 5)]) rfl sc__law_sets.nd (kiL K (pv 1)) (blkOk_by (own := [("_law_some", 5)]) (N := ["_law_many", "_law_found", "_law_kind", "_law_row", "_law_size", "_law_some"]) (sc := defScope s__law_sets) (by decide +kernel)) (fun _ _ _ _ _ => (pg_name (i := 5) sc__law_sets.nd rfl (by first | exact Or.inl rfl | exact Or.inr rfl))) (fun _ _ _ _ _ => (pts_one (pt_cmpR (kEq K hr) (pe_callB (kLen K) (by rfl) z_len (by decide +kernel) (pa_cons (pv 5) pa_nil)) (pv 4) (nomark _)))) (fun _ _ _ _ _ => (pv 5)))))))
      (pss_one (ps_ret (pv 3))))))), fun args m R h => ?_⟩), hm, F.kp, F.binds (ps := ["_law_many"]) fun _ _ _ _ _ _ us hl => match us, hl with | [_], _ => rfl⟩
  ·
    obtain ⟨_, rfl, _⟩ := h; rfl
  ·
    obtain ⟨n, rfl, hn, q⟩ := h
    have hlen : ∀ i, i ≤ 5 → (allS i).length ≤ 32 := fun i hi => by rw [allS_len]; exact Nat.le_trans (Nat.pow_le_pow_right (by decide) hi) (by decide)
    refine w_seq (w_asg (ev_lstT ?_))
    refine eva_cons (ev_tupT ?_)
    walk_at "dl1"
    refine ⟨[], rfl, by decide, ?_⟩
    walk_at "dl1"
    refine ⟨[[]], rfl, by decide, ?_⟩
    refine w_seq (w_forR1 (n := n) ?_ (by omega) (fun i r' m' => m' = m ∧ ∃ y, r' = [.d (.int (n : Int)), .lt ((allS i).map kn), y, .any, .any, .any]) ⟨rfl, _, rfl⟩ ?_ ?_)
    · walk_at "go"
      exact ⟨rfl, rfl⟩
    · rintro i r' m' hi ⟨rfl, y, rfl⟩
      have hl := hlen i (by omega)
      refine w_asg (ev_op (ev_var (x := .lt ((allS i).map kn)) rfl (fun h => nomatch h) ?_))
      refine ev_mapLt (nss := (allS i).map kn) (ev_var rfl (fun h => nomatch h) ⟨rfl, rfl⟩) (by rw [List.length_map]; omega) (fun ns => ns ++ [(i : Int)]) (fun ns m2 hns hx => ?_) ?_
      · refine ev_op (ev_var (x := .t ns) rfl (fun h => nomatch h) (ev_tupT ?_))
        walk_at "go"
        obtain ⟨s, hs, rfl⟩ := List.mem_map.mp hns
        have := (allS_mem i s hs).1
        refine o2_addTt (by rw [List.length_map]; show s.length + 1 ≤ 100000; omega) ⟨rfl, rfl⟩
      · refine o2_addLt (by rw [List.length_map, List.length_map, List.length_map]; omega) ?_
        refine ⟨rfl, .d (.int (i : Int)), ?_⟩
        rw [allS, List.map_append, List.map_map, List.map_map]
        have e : (allS i).map ((fun ns => ns ++ [(i : Int)]) ∘ kn) = (allS i).map (kn ∘ fun s => s ++ [i]) := List.map_congr_left fun s _ => by
          show kn s ++ [(i : Int)] = kn (s ++ [i])
          unfold kn
          rw [List.map_append]; rfl
        rw [e]
        rfl
    · rintro r' m' ⟨rfl, y, rfl⟩
      refine w_seq (w_asg (ev_lstT (eva_nil ⟨[], rfl, by decide, ?_⟩)))
      refine w_seq (w_forR1 (n := n + 1) ?_ (by omega) (fun i r2 m2 => m2 = m' ∧ ∃ y4, r2 = [.d (.int (n : Int)), .lt ((allS n).map kn), y, .lt (((List.range i).flatMap (lvl n)).map kn), y4, .any]) ⟨rfl, _, rfl⟩ ?_ ?_)
      · walk_at "go"
        exact ⟨rfl, rfl⟩
      · rintro i r2 m2 hi ⟨rfl, y4, rfl⟩
        have hl := hlen n hn
        have hfl : ((List.range i).flatMap (lvl n)).length ≤ 32 * 6 := by
          have aux : ∀ j, ((List.range j).flatMap (lvl n)).length ≤ 32 * j := fun j => by
            induction j with
            | zero => simp
            | succ j ih =>
              rw [List.range_succ, List.flatMap_append, List.length_append]
              have : (lvl n j).length ≤ 32 := Nat.le_trans (List.length_filter_le _ _) hl
              simp only [List.flatMap_cons, List.flatMap_nil, List.append_nil]
              omega
          exact Nat.le_trans (aux i) (Nat.mul_le_mul_left 32 (by omega))
        have hll : (lvl n i).length ≤ 32 := Nat.le_trans (List.length_filter_le _ _) hl
        refine w_asg (ev_op (ev_var (x := .lt (((List.range i).flatMap (lvl n)).map kn)) rfl (fun h => nomatch h) ?_))
        refine ev_filLt (nss := (allS n).map kn) (ev_var rfl (fun h => nomatch h) ⟨rfl, rfl⟩) (by rw [List.length_map]; omega) (fun ns => decide (ns.length = i)) (fun ns m2 hns hx => ?_) (fun ns m2 hns hx => ?_) ?_
        · obtain ⟨s, hs, rfl⟩ := List.mem_map.mp hns
          walk_at "go"
          refine ⟨?_, rfl⟩
          unfold kn
          rw [List.length_map, show decide ((s.length : Int) = (i : Int)) = decide (s.length = i) from decide_eq_decide.mpr (by omega)]
        · exact ev_var (x := .t ns) rfl (fun h => nomatch h) ⟨rfl, rfl⟩
        · have e : ((allS n).map kn).filter (fun ns => decide (ns.length = i)) = (lvl n i).map kn := by
            unfold lvl
            rw [List.filter_map]
            refine congrArg (List.map kn) (List.filter_congr fun s _ => ?_)
            show decide ((kn s).length = i) = _
            unfold kn
            rw [List.length_map]
          rw [e]
          refine o2_addLt (by rw [List.length_map, List.length_map]; omega) ⟨rfl, .d (.int (i : Int)), ?_⟩
          rw [List.range_succ, List.flatMap_append, List.map_append]
          simp only [List.flatMap_cons, List.flatMap_nil, List.append_nil]
          rfl
      · rintro r2 m2 ⟨rfl, y4, rfl⟩
        exact w_ret (ev_var rfl (fun h => nomatch h) q)
abbrev s__law_classes : Stmt := topS 46
theorem sc__law_classes : FnScope ["_law_e", "_law_found"] ["_law_e"] (defScope s__law_classes) := ⟨rfl, rfl, rfl, by decide +kernel, rfl, by decide +kernel, by decide +kernel⟩
theorem ok__law_classes {a : Addr} {fd : FuncData} (F : Fun K "_law_classes" "_law_classes" s__law_classes a fd) (hm : mg "_law_classes" = some (.ref a)) (z_isinstance : mg "isinstance" = none) (g_NoNeeds : mg "NoNeeds" = some (.ref c_NoNeeds)) (g_NoNumber : mg "NoNumber" = some (.ref c_NoNumber)) (g_NoKind : mg "NoKind" = some (.ref c_NoKind)) (g_NoShares : mg "NoShares" = some (.ref c_NoShares)) (g_NoText : mg "NoText" = some (.ref c_NoText)) (g_NoLine : mg "NoLine" = some (.ref c_NoLine)) (g_NoPlan : mg "NoPlan" = some (.ref c_NoPlan)) (g_TooMany : mg "TooMany" = some (.ref c_TooMany)) :
    ClP P w K mg base 1 "_law_classes" (okE K [c_NoShares, c_NoKind, c_NoNumber, c_NoNeeds, c_TooMany, c_NoPlan, c_NoLine, c_NoText] c_GatherError) (f_lawClasses K [c_NoShares, c_NoKind, c_NoNumber, c_NoNeeds, c_TooMany, c_NoPlan, c_NoLine, c_NoText] c_GatherError) := by
  refine ⟨a, fd, ["_law_e"], fnP_ok F sc__law_classes (fun a D args m R h => ?_) (fun cdv A outer s H E p D hD hsee hr => ?_), hm, F.kp, F.binds (ps := ["_law_e"]) fun _ _ _ _ _ _ us hl => match us, hl with | [_], _ => rfl⟩
  ·
    obtain ⟨_, _, rfl, _⟩ := h; rfl
  · obtain ⟨i0, hX⟩ := hD
    refine ⟨_, (pss_cons (ps_set (i := 1) sc__law_classes.nd rfl (by first | exact Or.inl rfl | exact Or.inr rfl) (pe_lst (pa_cons (pe_callB (kIsP K hsee hX.exc) (by rfl) z_isinstance (by decide +kernel) (pa_cons (pv 0) (pa_cons (pe_glob (v := V.ref c_NoShares) (by rfl) g_NoShares rfl) pa_nil))) (pa_cons (pe_callB (kIsP K hsee hX.exc) (by rfl) z_isinstance (by decide +kernel) (pa_cons (pv 0) (pa_cons (pe_glob (v := V.ref c_NoKind) (by rfl) g_NoKind rfl) pa_nil))) (pa_cons (pe_callB (kIsP K hsee hX.exc) (by rfl) z_isinstance (by decide +kernel) (pa_cons (pv 0) (pa_cons (pe_glob (v := V.ref c_NoNumber) (by rfl) g_NoNumber rfl) pa_nil))) (pa_cons (pe_callB (kIsP K hsee hX.exc) (by rfl) z_isinstance (by decide +kernel) (pa_cons (pv 0) (pa_cons (pe_glob (v := V.ref c_NoNeeds) (by rfl) g_NoNeeds rfl) pa_nil))) pa_nil))))))
      (pss_one (ps_ret (pe_op (kAdd K) (pv 1) (pe_lst (pa_cons (pe_callB (kIsP K hsee hX.exc) (by rfl) z_isinstance (by decide +kernel) (pa_cons (pv 0) (pa_cons (pe_glob (v := V.ref c_TooMany) (by rfl) g_TooMany rfl) pa_nil))) (pa_cons (pe_callB (kIsP K hsee hX.exc) (by rfl) z_isinstance (by decide +kernel) (pa_cons (pv 0) (pa_cons (pe_glob (v := V.ref c_NoPlan) (by rfl) g_NoPlan rfl) pa_nil))) (pa_cons (pe_callB (kIsP K hsee hX.exc) (by rfl) z_isinstance (by decide +kernel) (pa_cons (pv 0) (pa_cons (pe_glob (v := V.ref c_NoLine) (by rfl) g_NoLine rfl) pa_nil))) (pa_cons (pe_callB (kIsP K hsee hX.exc) (by rfl) z_isinstance (by decide +kernel) (pa_cons (pv 0) (pa_cons (pe_glob (v := V.ref c_NoText) (by rfl) g_NoText rfl) pa_nil))) pa_nil))))))))), fun args m R h => ?_⟩
    obtain ⟨i, hX', rfl, q⟩ := h
    refine w_seq (w_asg (ev_lstD ?_))
    refine eva_cons (ev_callB (eva_cons (ev_var rfl (fun h => nomatch h) (eva_cons (ev_cV (eva_nil (on_isE relV_ref (hX'.one 0 (by decide)) ?_)))))))
    refine eva_cons (ev_callB (eva_cons (ev_var rfl (fun h => nomatch h) (eva_cons (ev_cV (eva_nil (on_isE relV_ref (hX'.one 1 (by decide)) ?_)))))))
    refine eva_cons (ev_callB (eva_cons (ev_var rfl (fun h => nomatch h) (eva_cons (ev_cV (eva_nil (on_isE relV_ref (hX'.one 2 (by decide)) ?_)))))))
    refine eva_cons (ev_callB (eva_cons (ev_var rfl (fun h => nomatch h) (eva_cons (ev_cV (eva_nil (on_isE relV_ref (hX'.one 3 (by decide)) ?_)))))))
    refine eva_nil ⟨[_, _, _, _], rfl, by show 4 ≤ 100000; decide, ?_⟩
    refine w_ret (ev_op (ev_var rfl (fun h => nomatch h) (ev_lstD ?_)))
    refine eva_cons (ev_callB (eva_cons (ev_var rfl (fun h => nomatch h) (eva_cons (ev_cV (eva_nil (on_isE relV_ref (hX'.one 4 (by decide)) ?_)))))))
    refine eva_cons (ev_callB (eva_cons (ev_var rfl (fun h => nomatch h) (eva_cons (ev_cV (eva_nil (on_isE relV_ref (hX'.one 5 (by decide)) ?_)))))))
    refine eva_cons (ev_callB (eva_cons (ev_var rfl (fun h => nomatch h) (eva_cons (ev_cV (eva_nil (on_isE relV_ref (hX'.one 6 (by decide)) ?_)))))))
    refine eva_cons (ev_callB (eva_cons (ev_var rfl (fun h => nomatch h) (eva_cons (ev_cV (eva_nil (on_isE relV_ref (hX'.one 7 (by decide)) ?_)))))))
    refine eva_nil ⟨[_, _, _, _], rfl, by show 4 ≤ 100000; decide, ?_⟩
    exact o2_addL (by show 4 + 4 ≤ 100000; decide) q
abbrev s_made : Stmt := topS 14
theorem sc_made : FnScope ["top", "bottom", "both"] ["top", "bottom"] (defScope s_made) := ⟨rfl, rfl, rfl, by decide +kernel, rfl, by decide +kernel, by decide +kernel⟩
theorem ok_made {a : Addr} {fd : FuncData} (F : Fun K "made" "made" s_made a fd) (hm : mg "made" = some (.ref a)) (z_abs : mg "abs" = none) (k_greatest_common : Cl P w K mg base 1 "greatest_common" f_gcd) :
    Cl P w K mg base 2 "made" f_made := by
  refine ⟨a, fd, ["top", "bottom"], fn_ok F sc_made (fun args m R h => ?_) (fun cdv A outer s H E hr => ⟨_, (pss_cons (ps_set (i := 2) sc_made.nd rfl (by first | exact Or.inl rfl | exact Or.inr rfl) (pe_cl k_greatest_common hr (by decide) (by rfl) (pa_cons (pv 1) (pa_cons (pe_callB cAbs (by rfl) z_abs (by decide +kernel) (pa_cons (pv 0) pa_nil)) pa_nil))))
      (pss_one (ps_ret (pe_tup (pa_cons (pe_op oFdv (pv 0) (pv 2)) (pa_cons (pe_op oFdv (pv 1) (pv 2)) pa_nil)))))), fun args m R h => ?_⟩), hm, F.kp, F.binds (ps := ["top", "bottom"]) fun _ _ _ _ _ _ us hl => match us, hl with | [_, _], _ => rfl⟩
  ·
    obtain ⟨_, _, rfl, _⟩ := h; rfl
  ·
    obtain ⟨t, b, rfl, hb, hz, q⟩ := h
    have hp : 0 < Nat.gcd b t.natAbs := Nat.gcd_pos_of_pos_left _ hb
    have hB : Bt ((Nat.gcd b t.natAbs : Nat) : Int) 8000 := hz.le (by
      have := Nat.le_of_dvd hb (Nat.gcd_dvd_left b t.natAbs)
      omega)
    repeat walk_at "dl"
    refine o2_fdv (hB.cdiv (by omega) (by decide)) ?_
    repeat walk_at "dl"
    refine o2_fdv (hB.cdiv (by omega) (by decide)) ?_
    repeat walk_at "dl"
    rw [frac_mk t b (by omega)] at q
    exact q
abbrev s_need_number : Stmt := topS 15
theorem sc_need_number : FnScope ["number", "least", "most"] ["number", "least", "most"] (defScope s_need_number) := ⟨rfl, rfl, rfl, by decide +kernel, rfl, by decide +kernel, by decide +kernel⟩
theorem ok_need_number {a : Addr} {fd : FuncData} (F : Fun K "need_number" "need_number" s_need_number a fd) (hm : mg "need_number" = some (.ref a)) (k_is_whole : Cl P w K mg base 1 "is_whole" f_isWhole) :
    Cl P w K mg base 2 "need_number" f_needNumber := by
  refine ⟨a, fd, ["number", "least", "most"], fn_ok F sc_need_number (fun args m R h => ?_) (fun cdv A outer s H E hr => ⟨_, (pss_one (ps_if (PW.pt (pw_or (pt_not (pt_val (pe_cl k_is_whole hr (by decide) (by rfl) (pa_cons (pv 0) pa_nil)))) (pw_or1 (pt_not (pt_chain oLe oLe (pv 1) (pv 0) (pv 2)))))) (pss_one ps_never) pss_nil)), fun args m R h => ?_⟩), hm, F.kp, F.binds (ps := ["number", "least", "most"]) fun _ _ _ _ _ _ us hl => match us, hl with | [_, _, _], _ => rfl⟩
  ·
    obtain ⟨_, _, _, rfl, _⟩ := h; rfl
  ·
    obtain ⟨i, lo, hi, rfl, h1, h2, q⟩ := h
    walk_at "go"
    refine br_f rfl ?_
    walk_at "go"
    refine br_t (decide_eq_true h1) ?_
    walk_at "go"
    refine br_f (by rw [decide_eq_true h2]; rfl) ?_
    exact w_next q
abbrev s_is_shares : Stmt := topS 21
theorem sc_is_shares : FnScope ["thing", "one"] ["thing"] (defScope s_is_shares) := ⟨rfl, rfl, rfl, by decide +kernel, rfl, by decide +kernel, by decide +kernel⟩
theorem ok_is_shares {a : Addr} {fd : FuncData} (F : Fun K "is_shares" "is_shares" s_is_shares a fd) (hm : mg "is_shares" = some (.ref a)) (z_len : mg "len" = none) (z_isinstance : mg "isinstance" = none) (z_tuple : mg "tuple" = none) (z_all : mg "all" = none) (c_MOST_KINDS : ∃ t, mg "MOST_KINDS" = some (.int 5 t)) (c_MOST_SHARE : ∃ t, mg "MOST_SHARE" = some (.int 9 t)) (k_is_whole : Cl P w K mg base 1 "is_whole" f_isWhole) :
    Cl P w K mg base 2 "is_shares" f_isShares := by
  refine ⟨a, fd, ["thing"], fn_ok F sc_is_shares (fun args m R h => ?_) (fun cdv A outer s H E hr => ⟨_, (pss_cons (ps_if (PW.pt (pw_or (pt_not (pt_val (pe_callB (kIsi K) (by rfl) z_isinstance (by decide +kernel) (pa_cons (pv 0) (pa_cons (pe_bltn (v := .ty "tuple") (by rfl) z_tuple (by decide +kernel) rfl) pa_nil))))) (pw_or1 (pt_not (pt_chain oLe oLe pe_int (pe_callB (kLen K) (by rfl) z_len (by decide +kernel) (pa_cons (pv 0) pa_nil)) (pe_gi c_MOST_KINDS (by rfl))))))) (pss_one (ps_ret pe_bl)) pss_nil)
      (pss_one (ps_ret (pe_callB (kAll K) (by rfl) z_all (by decide +kernel) (pa_cons (pe_lc (own := [("one", 1)]) rfl sc_is_shares.nd (kiT K (pv 0)) (blkOk_by (own := [("one", 1)]) (N := ["thing", "one"]) (sc := defScope s_is_shares) (by decide +kernel)) (fun _ _ _ _ _ => (pg_name (i := 1) sc_is_shares.nd rfl (by first | exact Or.inl rfl | exact Or.inr rfl))) (fun _ _ _ _ _ => pts_nil) (fun _ _ _ _ _ => (pe_and (pe_cl k_is_whole hr (by decide) (by rfl) (pa_cons (pv 1) pa_nil)) (pe_one (pe_chain oLe oLe pe_int (pv 1) (pe_gi c_MOST_SHARE (by rfl))))))) pa_nil))))), fun args m R h => ?_⟩), hm, F.kp, F.binds (ps := ["thing"]) fun _ _ _ _ _ _ us hl => match us, hl with | [_], _ => rfl⟩
  ·
    obtain ⟨_, rfl, _⟩ := h; rfl
  ·
    obtain ⟨x, rfl, q⟩ := h
    repeat walk_at "dl"
    cases hx : isTup x with
    | false =>
      refine br_t rfl (br_t rfl ?_)
      repeat walk_at "dl"
      have e : isShares x = false := by cases x <;> first | rfl | cases hx
      rw [e] at q
      exact q
    | true =>
      obtain ⟨ds, rfl⟩ := tup_shape hx
      refine br_f rfl ?_
      repeat walk_at "dl"
      by_cases h1 : (1 : Int) ≤ (ds.length : Int)
      · refine br_t (decide_eq_true h1) ?_
        repeat walk_at "dl"
        by_cases h5 : (ds.length : Int) ≤ 5
        · rw [decide_eq_true h5]
          refine br_f rfl ?_
          refine w_next ?_
          repeat walk_at "dl"
          refine ev_mapT (ds := ds) ?_ (by omega) (fun d => .bool (okS d)) (fun i d m' hd hx => ?_) ?_
          · repeat walk_at "dl"
            exact ⟨rfl, rfl⟩
          · repeat walk_at "dl"
            cases hi : isInt d with
            | false =>
              refine br_f rfl ⟨?_, rfl⟩
              cases d <;> first | rfl | cases hi
            | true =>
              obtain ⟨i, rfl⟩ := int_shape hi
              refine br_t rfl ?_
              repeat walk_at "dl"
              by_cases g1 : (1 : Int) ≤ i
              · refine br_t (decide_eq_true g1) ?_
                repeat walk_at "dl"
                refine ⟨?_, rfl⟩
                show Val.d (.bool (decide (i ≤ 9))) = .d (.bool (decide (1 ≤ i) && decide (i ≤ 9)))
                rw [decide_eq_true g1, Bool.true_and]
              · refine br_f (decide_eq_false g1) ⟨?_, rfl⟩
                show Val.d (.bool false) = .d (.bool (decide (1 ≤ i) && decide (i ≤ 9)))
                rw [decide_eq_false g1, Bool.false_and]
          · repeat walk_at "dl"
            have e : (ds.map fun d => PyData.bool (okS d)) = (ds.map okS).map PyData.bool := by rw [List.map_map]; rfl
            rw [e]
            repeat walk_at "dl"
            have e : (ds.map okS).all id = isShares (.tuple ds) := by
              show _ = (decide (1 ≤ ds.length) && (decide (ds.length ≤ 5) && ds.all okS))
              rw [decide_eq_true (show 1 ≤ ds.length by omega), decide_eq_true (show ds.length ≤ 5 by omega), List.all_map]; rfl
            rw [e]
            exact q
        · rw [decide_eq_false h5]
          refine br_t rfl ?_
          repeat walk_at "dl"
          have e : isShares (.tuple ds) = false := by
            show (decide (1 ≤ ds.length) && (decide (ds.length ≤ 5) && ds.all okS)) = false
            rw [decide_eq_false (show ¬ ds.length ≤ 5 by omega), Bool.false_and, Bool.and_false]
          rw [e] at q
          exact q
      · refine br_f (decide_eq_false h1) ⟨_, rfl, br_t rfl ?_⟩
        repeat walk_at "dl"
        have e : isShares (.tuple ds) = false := by
          show (decide (1 ≤ ds.length) && (decide (ds.length ≤ 5) && ds.all okS)) = false
          rw [decide_eq_false (show ¬ 1 ≤ ds.length by omega), Bool.false_and]
        rw [e] at q
        exact q
abbrev s_are_kinds : Stmt := topS 23
theorem sc_are_kinds : FnScope ["thing", "many", "at", "one"] ["thing", "many"] (defScope s_are_kinds) := ⟨rfl, rfl, rfl, by decide +kernel, rfl, by decide +kernel, by decide +kernel⟩
theorem ok_are_kinds {a : Addr} {fd : FuncData} (F : Fun K "are_kinds" "are_kinds" s_are_kinds a fd) (hm : mg "are_kinds" = some (.ref a)) (z_all : mg "all" = none) (z_isinstance : mg "isinstance" = none) (z_tuple : mg "tuple" = none) (z_range : mg "range" = none) (z_len : mg "len" = none) (k_is_whole : Cl P w K mg base 1 "is_whole" f_isWhole) :
    Cl P w K mg base 2 "are_kinds" f_areKinds := by
  refine ⟨a, fd, ["thing", "many"], fn_ok F sc_are_kinds (fun args m R h => ?_) (fun cdv A outer s H E hr => ⟨_, (pss_cons (ps_if (PW.pt (pw_or (pt_not (pt_val (pe_callB (kIsi K) (by rfl) z_isinstance (by decide +kernel) (pa_cons (pv 0) (pa_cons (pe_bltn (v := .ty "tuple") (by rfl) z_tuple (by decide +kernel) rfl) pa_nil))))) (pw_or1 (pt_not (pt_val (pe_callB (kAll K) (by rfl) z_all (by decide +kernel) (pa_cons (pe_lc (own := [("one", 3)]) rfl sc_are_kinds.nd (kiT K (pv 0)) (blkOk_by (own := [("one", 3)]) (N := ["thing", "many", "at", "one"]) (sc := defScope s_are_kinds) (by decide +kernel)) (fun _ _ _ _ _ => (pg_name (i := 3) sc_are_kinds.nd rfl (by first | exact Or.inl rfl | exact Or.inr rfl))) (fun _ _ _ _ _ => pts_nil) (fun _ _ _ _ _ => (pe_and (pe_cl k_is_whole hr (by decide) (by rfl) (pa_cons (pv 3) pa_nil)) (pe_one (pe_chain oLe oLt pe_int (pv 3) (pv 1)))))) pa_nil))))))) (pss_one (ps_ret pe_bl)) pss_nil)
      (pss_one (ps_ret (pe_callB (kAll K) (by rfl) z_all (by decide +kernel) (pa_cons (pe_lc (own := [("at", 2)]) rfl sc_are_kinds.nd (pi_range2 (by rfl) z_range (pa_cons pe_int (pa_cons (pe_callB (kLen K) (by rfl) z_len (by decide +kernel) (pa_cons (pv 0) pa_nil)) pa_nil))) (blkOk_by (own := [("at", 2)]) (N := ["thing", "many", "at", "one"]) (sc := defScope s_are_kinds) (by decide +kernel)) (fun _ _ _ _ _ => (pg_name (i := 2) sc_are_kinds.nd rfl (by first | exact Or.inl rfl | exact Or.inr rfl))) (fun _ _ _ _ _ => pts_nil) (fun _ _ _ _ _ => (pe_cmpR oLt (pe_ix (kIx K) (pv 0) (pe_op oSub (pv 2) pe_int) (fun _ _ => rfl)) (pe_ix (kIx K) (pv 0) (pv 2) (fun _ _ => rfl)) (nomark _)))) pa_nil))))), fun args m R h => ?_⟩), hm, F.kp, F.binds (ps := ["thing", "many"]) fun _ _ _ _ _ _ us hl => match us, hl with | [_, _], _ => rfl⟩
  ·
    obtain ⟨_, _, rfl, _⟩ := h; rfl
  ·
    obtain ⟨x, n, rfl, hz, q⟩ := h
    repeat walk_at "dl"
    cases hx : isTup x with
    | false =>
      refine br_t rfl (br_t rfl ?_)
      repeat walk_at "dl"
      have e : areKinds x n = false := by cases x <;> first | rfl | cases hx
      rw [e] at q
      exact q
    | true =>
      obtain ⟨ds, rfl⟩ := tup_shape hx
      have hz : ds.length ≤ 90000 := hz
      refine br_f rfl ?_
      repeat walk_at "dl"
      refine ev_mapT (ds := ds) ?_ (by omega) (fun d => .bool (okK n d)) (fun i d m' hd hx => ?_) ?_
      · repeat walk_at "dl"
        exact ⟨rfl, rfl⟩
      · repeat walk_at "dl"
        cases hi : isInt d with
        | false =>
          refine br_f rfl ⟨?_, rfl⟩
          cases d <;> first | rfl | cases hi
        | true =>
          obtain ⟨i, rfl⟩ := int_shape hi
          refine br_t rfl ?_
          repeat walk_at "dl"
          by_cases g1 : (0 : Int) ≤ i
          · refine br_t (decide_eq_true g1) ?_
            repeat walk_at "dl"
            refine ⟨?_, rfl⟩
            show Val.d (.bool (decide (i < n))) = .d (.bool (decide (0 ≤ i) && decide (i < n)))
            rw [decide_eq_true g1, Bool.true_and]
          · refine br_f (decide_eq_false g1) ⟨?_, rfl⟩
            show Val.d (.bool false) = .d (.bool (decide (0 ≤ i) && decide (i < n)))
            rw [decide_eq_false g1, Bool.false_and]
      · repeat walk_at "dl"
        have e : (ds.map fun d => PyData.bool (okK n d)) = (ds.map (okK n)).map PyData.bool := by rw [List.map_map]; rfl
        rw [e]
        repeat walk_at "dl"
        have e : (ds.map (okK n)).all id = ds.all (okK n) := by rw [List.all_map]; rfl
        rw [e]
        cases hk : ds.all (okK n) with
        | false =>
          refine br_t rfl ?_
          repeat walk_at "dl"
          have e : areKinds (.tuple ds) n = false := by
            show (ds.all (okK n) && rising ds) = false
            rw [hk]; rfl
          rw [e] at q
          exact q
        | true =>
          refine br_f rfl ?_
          refine w_next ?_
          have hI : ∀ k, k < ds.length → ds[k]? = some (.int (intOf (ds.getD k .none))) := by
            intro k hk1
            have h2 := List.all_eq_true.mp hk ds[k] (List.getElem_mem hk1)
            rw [List.getD_eq_getElem?_getD, List.getElem?_eq_getElem hk1]
            cases hq : ds[k] with
            | int i => rfl
            | _ => rw [hq] at h2; cases h2
          have fin : Ev K (tCB (rAll K) (tCons (tLc (iRng2 (tCons (tC (.int 1)) (tCons (tCB (DL.rLen K) (tCons (tVar 0) tNil)) tNil))) (gName 2) tYes (tOp rLt (tOp (rIx K) (tVar 0) (tOp DL.rSub (tVar 2) (tC (.int 1)))) (tOp (rIx K) (tVar 0) (tVar 2))) [2]) tNil)) [.d (.tuple ds), .d (.int n), .any, .any] m R := by
            repeat walk_at "dl"
            by_cases h0 : ds = []
            · subst h0
              refine ev_lcR2' ?_ ?_
              · repeat walk_at "dl"
                exact ⟨rfl, rfl⟩
              · repeat walk_at "dl"
                refine on_all (bs := []) ?_
                have e : areKinds (.tuple []) n = true := rfl
                rw [e] at q
                exact q
            have h1 : 1 ≤ ds.length := by
              cases ds with
              | nil => exact absurd rfl h0
              | cons a b => simp
            refine ev_mapR2 (lo := 1) (n := ds.length - 1) ?_ (by omega) (fun i => .bool (decide (intOf (ds.getD i .none) < intOf (ds.getD (i + 1) .none)))) (fun i m' hi hx => ?_) ?_
            · repeat walk_at "dl"
              refine ⟨?_, rfl⟩
              rw [show 1 + (ds.length - 1) = ds.length by omega]
              rfl
            · repeat walk_at "dl"
              rw [show ((1 + i : Nat) : Int) - 1 = (i : Int) by omega]
              refine o2_ixT (by rw [atI_nth]; exact hI i (by omega)) ?_
              repeat walk_at "dl"
              refine o2_ixT (by rw [atI_nth]; exact hI (1 + i) (by omega)) ?_
              repeat walk_at "dl"
              refine ⟨?_, rfl⟩
              rw [Nat.add_comm 1 i]
            · repeat walk_at "dl"
              have e : ((List.range (ds.length - 1)).map fun i => PyData.bool (decide (intOf (ds.getD i .none) < intOf (ds.getD (i + 1) .none)))) = ((List.range (ds.length - 1)).map fun i => decide (intOf (ds.getD i .none) < intOf (ds.getD (i + 1) .none))).map PyData.bool := by rw [List.map_map]; rfl
              rw [e]
              repeat walk_at "dl"
              have e : areKinds (.tuple ds) n = (((List.range (ds.length - 1)).map fun i => decide (intOf (ds.getD i .none) < intOf (ds.getD (i + 1) .none))).all id) := by
                show (ds.all (okK n) && rising ds) = _
                rw [hk, List.all_map]; rfl
              rw [← e]
              exact q
          exact w_ret fin
abbrev s_rising_some : Stmt := topS 30
theorem sc_rising_some : FnScope ["shares", "some"] ["shares"] (defScope s_rising_some) := ⟨rfl, rfl, rfl, by decide +kernel, rfl, by decide +kernel, by decide +kernel⟩
theorem ok_rising_some {a : Addr} {fd : FuncData} (F : Fun K "rising_some" "rising_some" s_rising_some a fd) (hm : mg "rising_some" = some (.ref a)) (z_sorted : mg "sorted" = none) (z_len : mg "len" = none) (z_range : mg "range" = none) (z_list : mg "list" = none) (k_all_some : Cl P w K mg base 1 "all_some" f_allSome) :
    Cl P w K mg base 2 "rising_some" f_rising := by
  refine ⟨a, fd, ["shares"], fn_ok F sc_rising_some (fun args m R h => ?_) (fun cdv A outer s H E hr => ⟨_, (pss_one (ps_ret (pe_lc (own := [("some", 1)]) rfl sc_rising_some.nd (kiL K (kSortLen K (pe_sortLen hr (by rfl) z_sorted (by rfl) z_len (pa_cons (pe_cl k_all_some hr (by decide) (by rfl) (pa_cons (pe_listRg rfl (by rfl) z_list (prg_1 (by rfl) z_range (pe_callB (kLen K) (by rfl) z_len (by decide +kernel) (pa_cons (pv 0) pa_nil)))) pa_nil)) pa_nil)))) (blkOk_by (own := [("some", 1)]) (N := ["shares", "some"]) (sc := defScope s_rising_some) (by decide +kernel)) (fun _ _ _ _ _ => (pg_name (i := 1) sc_rising_some.nd rfl (by first | exact Or.inl rfl | exact Or.inr rfl))) (fun _ _ _ _ _ => (pts_one (pt_cmpR (kNe K hr) (pv 1) (pe_tup pa_nil) (nomark _)))) (fun _ _ _ _ _ => (pv 1))))), fun args m R h => ?_⟩), hm, F.kp, F.binds (ps := ["shares"]) fun _ _ _ _ _ _ us hl => match us, hl with | [_], _ => rfl⟩
  ·
    obtain ⟨_, rfl, _⟩ := h; rfl
  ·
    obtain ⟨ss, rfl, hs, q⟩ := h
    have hfew := hs.few
    have hal : (allS ss.length).length ≤ 32 := by rw [allS_len]; exact Nat.le_trans (Nat.pow_le_pow_right (by decide) hfew) (by decide)
    have hol : (ordX ss.length).length ≤ 32 := (ordX_facts ⟨ss.length, by omega⟩).1
    refine w_ret (ev_filLt (nss := (ordX ss.length).map kn) ?_ (by rw [List.length_map]; omega) (fun ks => !decide (ks = [])) (fun ks m' hks hx => ?_) (fun ks m' hks hx => ?_) ?_)
    · refine ev_sortLen ?_
      walk_at "go"
      refine ev_lstR1 (n := ss.length) (by omega) ?_
      walk_at "go"
      refine ⟨rfl, ?_⟩
      rw [rngD_intN]
      walk_at "go"
      refine ⟨by rw [List.length_range]; omega, ?_⟩
      rw [allSL_range]
      walk_at "go"
      refine ⟨by rw [List.length_map]; omega, ?_⟩
      rw [byLen_kn, ordS_eq]
      exact ⟨rfl, rfl⟩
    · walk_at "go"
      refine o2_ne (shaped_tupI ks) (shaped_tupI []) ?_
      rw [eqv_nilT ks]
      exact ⟨_, rfl, rfl, rfl⟩
    · exact ev_var rfl (fun h => nomatch h) ⟨rfl, rfl⟩
    rw [rsX_filter]
    exact q
abbrev s__law_odd : Stmt := topS 38
theorem sc__law_odd : FnScope ["_law_box_here", "_law_some"] ["_law_box_here"] (defScope s__law_odd) := ⟨rfl, rfl, rfl, by decide +kernel, rfl, by decide +kernel, by decide +kernel⟩
theorem ok__law_odd {a : Addr} {fd : FuncData} (F : Fun K "_law_odd" "_law_odd" s__law_odd a fd) (hm : mg "_law_odd" = some (.ref a)) (k__law_take : Cl P w K mg base 1 "_law_take" f_take) :
    Cl P w K mg base 2 "_law_odd" f_oddN := by
  refine ⟨a, fd, ["_law_box_here"], fn_ok F sc__law_odd (fun args m R h => ?_) (fun cdv A outer s H E hr => ⟨_, (pss_cons (ps_set (i := 1) sc__law_odd.nd rfl (by first | exact Or.inl rfl | exact Or.inr rfl) (pe_lst (pa_cons pe_non (pa_cons pe_bl (pa_cons pe_bl (pa_cons (pe_un oNeg pe_int) (pa_cons pe_int (pa_cons pe_str (pa_cons pe_str (pa_cons pe_str (pa_cons (pe_tup (pa_cons pe_int pa_nil)) (pa_cons (pe_lst (pa_cons pe_int pa_nil)) (pa_cons (pe_disp (pps_cons pe_str pe_int pps_nil) rfl rfl (fun h => nomatch h) (by decide)) (pa_cons (pe_tup (pa_cons (pe_tup (pa_cons pe_int (pa_cons pe_int pa_nil))) pa_nil)) (pa_cons (pe_tup (pa_cons (pe_tup (pa_cons pe_int pa_nil)) pa_nil)) (pa_cons (pe_tup (pa_cons pe_int (pa_cons pe_int pa_nil))) (pa_cons (pe_op oPow pe_int pe_int) pa_nil)))))))))))))))))
      (pss_one (ps_ret (pe_ix (kIx K) (pv 1) (pe_cl k__law_take hr (by decide) (by rfl) (pa_cons (pv 0) (pa_cons pe_int pa_nil))) (fun _ _ => rfl))))), fun args m R h => ?_⟩), hm, F.kp, F.binds (ps := ["_law_box_here"]) fun _ _ _ _ _ _ us hl => match us, hl with | [_], _ => rfl⟩
  ·
    obtain ⟨_, rfl, _⟩ := h; rfl
  ·
    obtain ⟨p, rfl, hp, q⟩ := h
    refine w_seq (w_asg (ev_lstD ?_))
    walk_at "go"
    refine ev_lstD (eva_cons (ev_cI (eva_nil ⟨[_], rfl, by decide, ?_⟩)))
    walk_at "go"
    refine ev_dispS ?_
    walk_at "go"
    refine o2_pow ⟨by decide, by decide, by decide⟩ ?_
    walk_at "go"
    refine ⟨oddN, rfl, by decide, ?_⟩
    walk_at "go"
    refine ⟨hp, by decide, bt_lit (n := 5) (by decide) (by decide), fun z hz0 hz1 => ?_⟩
    exact o2_ixLx hz0 (by show z < 15; exact hz1) q
abbrev s__law_shares : Stmt := topS 39
theorem sc__law_shares : FnScope ["_law_box_here", "_law_most", "_law_many", "_law_kind", "_law_first", "_law_other", "_law_found", "_law_at", "_law_drawn"] ["_law_box_here", "_law_most"] (defScope s__law_shares) := ⟨rfl, rfl, rfl, by decide +kernel, rfl, by decide +kernel, by decide +kernel⟩
theorem ok__law_shares {a : Addr} {fd : FuncData} (F : Fun K "_law_shares" "_law_shares" s__law_shares a fd) (hm : mg "_law_shares" = some (.ref a)) (z_range : mg "range" = none) (z_int : mg "int" = none) (z_tuple : mg "tuple" = none) (k__law_take : Cl P w K mg base 1 "_law_take" f_take) :
    Cl P w K mg base 2 "_law_shares" f_shares2 := by
  refine ⟨a, fd, ["_law_box_here", "_law_most"], fn_ok F sc__law_shares (fun args m R h => ?_) (fun cdv A outer s H E hr => ⟨_, (pss_cons (ps_set (i := 2) sc__law_shares.nd rfl (by first | exact Or.inl rfl | exact Or.inr rfl) (pe_op (kAdd K) pe_int (pe_cl k__law_take hr (by decide) (by rfl) (pa_cons (pv 0) (pa_cons (pv 1) pa_nil)))))
      (pss_cons (ps_set (i := 3) sc__law_shares.nd rfl (by first | exact Or.inl rfl | exact Or.inr rfl) (pe_cl k__law_take hr (by decide) (by rfl) (pa_cons (pv 0) (pa_cons pe_int pa_nil))))
      (pss_cons (ps_par (i := 4) (j := 5) rfl sc__law_shares.nd rfl rfl (by decide) rfl rfl (pa_cons (pe_op (kAdd K) pe_int (pe_cl k__law_take hr (by decide) (by rfl) (pa_cons (pv 0) (pa_cons pe_int pa_nil)))) (pa_cons (pe_op (kAdd K) pe_int (pe_cl k__law_take hr (by decide) (by rfl) (pa_cons (pv 0) (pa_cons pe_int pa_nil)))) pa_nil)) rfl)
      (pss_cons (ps_set (i := 6) sc__law_shares.nd rfl (by first | exact Or.inl rfl | exact Or.inr rfl) (pe_lst pa_nil))
      (pss_cons (ps_for PassesOwn.never rfl (pi_range1 (by rfl) z_range (pa_cons (pv 2) pa_nil)) (pg_name (i := 7) sc__law_shares.nd rfl (by first | exact Or.inl rfl | exact Or.inr rfl)) (pss_cons (ps_set (i := 8) sc__law_shares.nd rfl (by first | exact Or.inl rfl | exact Or.inr rfl) (pe_op (kAdd K) pe_int (pe_cl k__law_take hr (by decide) (by rfl) (pa_cons (pv 0) (pa_cons pe_int pa_nil)))))
      (pss_one (ps_expr (kBM K (pe_bm PySem.F.plainAttrs_list PySem.F.slot_list_append PySem.F.type_list_append mt_append (pv 6) (pa_cons (pe_ix (kIx K) (pe_lst (pa_cons (pv 8) (pa_cons (pv 4) (pa_cons (pe_ix (kIx K) (pe_lst (pa_cons pe_int (pa_cons pe_int pa_nil))) (pe_callTy cInt (by rfl) z_int (by decide +kernel) (pa_cons (pe_cmpR (kEq K hr) (pv 7) (pe_op oMod (pv 4) (pv 2)) (nomark _)) pa_nil)) (fun _ _ => rfl)) (pa_cons (pe_ix (kIx K) (pe_lst (pa_cons (pv 4) (pa_cons (pv 5) pa_nil))) (pe_op oMod (pv 8) pe_int) (fun _ _ => rfl)) pa_nil))))) (pv 3) (fun _ _ => rfl)) pa_nil)))))))
      (pss_one (ps_ret (pe_callTy (kTup K) (by rfl) z_tuple (by decide +kernel) (pa_cons (pv 6) pa_nil))))))))), fun args m R h => ?_⟩), hm, F.kp, F.binds (ps := ["_law_box_here", "_law_most"]) fun _ _ _ _ _ _ us hl => match us, hl with | [_, _], _ => rfl⟩
  ·
    obtain ⟨_, _, rfl, _⟩ := h; rfl
  ·
    obtain ⟨p, a, rfl, hp, ha1, ha5, q⟩ := h
    walk_at "go"
    refine ⟨hp, by omega, bt_lit (n := 3) (by show _ < 8; omega) (by decide), fun n0 h0 h1 => ?_⟩
    obtain ⟨n, rfl⟩ : ∃ n : Nat, n0 = (n : Int) := ⟨n0.toNat, by omega⟩
    walk_at "go"
    refine ⟨hp, by decide, bt_lit (n := 3) (by decide) (by decide), fun kd hk0 hk1 => ?_⟩
    walk_at "go"
    refine ⟨hp, by decide, bt_lit (n := 4) (by decide) (by decide), fun f hf0 hf1 => ?_⟩
    walk_at "go"
    refine ⟨hp, by decide, bt_lit (n := 4) (by decide) (by decide), fun o ho0 ho1 => ?_⟩
    walk_at "go"
    refine ev_lstM ?_
    walk_at "go"
    refine ⟨by decide, fun l hl => ?_⟩
    have hpl : p ≠ l := ne_of_get hp hl
    walk_at "go"
    refine w_forR1 (n := n + 1) ?_ (by omega) (fun i r' m' => ∃ (acc : List Int) (y7 y8 : Val), acc.length = i ∧ (∀ s ∈ acc, 1 ≤ s ∧ s ≤ 9) ∧ m' = put m l (.lst ((acc.map PyData.int).map Val.d)) ∧ r' = [.v (.ref p), .d (.int a), .d (.int (1 + (n : Int))), .d (.int kd), .d (.int (1 + f)), .d (.int (1 + o)), .v (.ref l), y7, y8]) ⟨[], _, _, rfl, (fun _ h => nomatch h), rfl, rfl⟩ ?_ ?_
    · walk_at "go"
      refine ⟨?_, rfl⟩
      rw [show (1 : Int) + (n : Int) = ((n + 1 : Nat) : Int) by omega]
    · rintro i r' m' hi ⟨acc, y7, y8, hal, has, rfl, rfl⟩
      have hpm : put m l (.lst ((acc.map PyData.int).map Val.d)) p = some .box := by rw [put_ne hpl]; exact hp
      walk_at "go"
      refine ⟨hpm, by decide, bt_lit (n := 4) (by decide) (by decide), fun d hd0 hd1 => ?_⟩
      refine o2_addI ?_
      refine w_drop (ev_app (p := l) (rs := (acc.map PyData.int).map Val.d) ?_)
      walk_at "go"
      refine ⟨rfl, put_same, ?_⟩
      refine ev_op (ev_lstD ?_)
      walk_at "go"
      refine ev_lstD ?_
      walk_at "go"
      refine o2_mod (by omega) ?_
      walk_at "go"
      refine on_intB ?_
      obtain ⟨v1, hv1, hb1, hb2⟩ : ∃ v : Int, atI ([.int 1, .int 9] : List PyData) (if decide ((i : Int) = (1 + f) % (1 + (n : Int))) = true then 1 else 0) = some (.int v) ∧ 1 ≤ v ∧ v ≤ 9 := by
        by_cases h : (i : Int) = (1 + f) % (1 + (n : Int))
        · rw [decide_eq_true h]; exact ⟨9, rfl, by decide, by decide⟩
        · rw [decide_eq_false h]; exact ⟨1, rfl, by decide, by decide⟩
      refine o2_ixL hv1 ?_
      walk_at "go"
      refine ev_lstD ?_
      walk_at "go"
      refine o2_mod (by decide) ?_
      obtain ⟨v2, hv2, hb3, hb4⟩ : ∃ v : Int, atI ([.int (1 + f), .int (1 + o)] : List PyData) ((1 + d) % 2) = some (.int v) ∧ 1 ≤ v ∧ v ≤ 9 := by
        have h2 : (1 + d) % 2 = 0 ∨ (1 + d) % 2 = 1 := by omega
        rcases h2 with h | h
        · rw [h]; exact ⟨1 + f, rfl, by omega, by omega⟩
        · rw [h]; exact ⟨1 + o, rfl, by omega, by omega⟩
      refine o2_ixL hv2 ?_
      walk_at "go"
      refine ⟨[.int (1 + d), .int (1 + f), .int v1, .int v2], rfl, Nat.le_of_ble_eq_true rfl, ?_⟩
      walk_at "go"
      obtain ⟨v3, hv3, hb5, hb6⟩ : ∃ v : Int, atI ([.int (1 + d), .int (1 + f), .int v1, .int v2] : List PyData) kd = some (.int v) ∧ 1 ≤ v ∧ v ≤ 9 := by
        have h4 : kd = 0 ∨ kd = 1 ∨ kd = 2 ∨ kd = 3 := by omega
        rcases h4 with rfl | rfl | rfl | rfl
        · exact ⟨1 + d, rfl, by omega, by omega⟩
        · exact ⟨1 + f, rfl, by omega, by omega⟩
        · exact ⟨v1, rfl, hb1, hb2⟩
        · exact ⟨v2, rfl, hb3, hb4⟩
      refine o2_ixL hv3 ?_
      refine ⟨put_same, by rw [List.length_map, List.length_map]; omega, acc ++ [v3], _, _, by rw [List.length_append, hal]; rfl, fun s hs => ?_, ?_, rfl⟩
      · rcases List.mem_append.mp hs with h | h
        · exact has s h
        · rw [List.mem_singleton.mp h]; exact ⟨hb5, hb6⟩
      · rw [put_put, List.map_append, List.map_append]; rfl
    · rintro r' m' ⟨acc, y7, y8, hal, has, rfl, rfl⟩
      refine w_freeze (i := 6) rfl put_same ?_
      rw [del_put hl]
      walk_at "go"
      exact q acc ⟨by omega, by omega, has⟩ (by omega)
abbrev s__law_sum : Stmt := topS 41
theorem sc__law_sum : FnScope ["_law_one", "_law_other"] ["_law_one", "_law_other"] (defScope s__law_sum) := ⟨rfl, rfl, rfl, by decide +kernel, rfl, by decide +kernel, by decide +kernel⟩
theorem ok__law_sum {a : Addr} {fd : FuncData} (F : Fun K "_law_sum" "_law_sum" s__law_sum a fd) (hm : mg "_law_sum" = some (.ref a)) (k__law_made : Cl P w K mg base 1 "_law_made" f_made) :
    Cl P w K mg base 2 "_law_sum" f_plusG := by
  refine ⟨a, fd, ["_law_one", "_law_other"], fn_ok F sc__law_sum (fun args m R h => ?_) (fun cdv A outer s H E hr => ⟨_, (pss_one (ps_ret (pe_cl k__law_made hr (by decide) (by rfl) (pa_cons (pe_op (kAdd K) (pe_op (kMul K) (pe_ix (kIx K) (pv 0) pe_int (fun _ _ => rfl)) (pe_ix (kIx K) (pv 1) pe_int (fun _ _ => rfl))) (pe_op (kMul K) (pe_ix (kIx K) (pv 1) pe_int (fun _ _ => rfl)) (pe_ix (kIx K) (pv 0) pe_int (fun _ _ => rfl)))) (pa_cons (pe_op (kMul K) (pe_ix (kIx K) (pv 0) pe_int (fun _ _ => rfl)) (pe_ix (kIx K) (pv 1) pe_int (fun _ _ => rfl))) pa_nil))))), fun args m R h => ?_⟩), hm, F.kp, F.binds (ps := ["_law_one", "_law_other"]) fun _ _ _ _ _ _ us hl => match us, hl with | [_, _], _ => rfl⟩
  ·
    obtain ⟨_, _, _, _, rfl, _⟩ := h; rfl
  ·
    obtain ⟨t1, b1, t2, b2, rfl, h1, h2, c1, c2, c3, c4, q⟩ := h
    walk_at "go"
    refine o2_ixT (d := .int t1) rfl ?_
    walk_at "go"
    refine o2_ixT (d := .int (b2 : Int)) rfl ?_
    refine o2_mulI (c1.cmul c4 (by decide)) ?_
    walk_at "go"
    refine o2_ixT (d := .int t2) rfl ?_
    walk_at "go"
    refine o2_ixT (d := .int (b1 : Int)) rfl ?_
    refine o2_mulI (c3.cmul c2 (by decide)) ?_
    walk_at "go"
    refine o2_ixT (d := .int (b1 : Int)) rfl ?_
    walk_at "go"
    refine o2_ixT (d := .int (b2 : Int)) rfl ?_
    refine o2_mulI (c2.cmul c4 (by decide)) ?_
    walk_at "go"
    refine ⟨Nat.mul_pos h1 h2, ?_, ?_⟩
    · rw [Int.natCast_mul]; exact (c2.mul c4).mono (by decide)
    have e : mkRat (t1 * (b2 : Int) + t2 * (b1 : Int)) (b1 * b2) = mkRat t1 b1 + mkRat t2 b2 := (Rat.mkRat_add_mkRat t1 t2 (by omega) (by omega)).symm
    rw [e]
    exact q
abbrev s__law_times : Stmt := topS 42
theorem sc__law_times : FnScope ["_law_one", "_law_top", "_law_bottom"] ["_law_one", "_law_top", "_law_bottom"] (defScope s__law_times) := ⟨rfl, rfl, rfl, by decide +kernel, rfl, by decide +kernel, by decide +kernel⟩
theorem ok__law_times {a : Addr} {fd : FuncData} (F : Fun K "_law_times" "_law_times" s__law_times a fd) (hm : mg "_law_times" = some (.ref a)) (k__law_made : Cl P w K mg base 1 "_law_made" f_made) :
    Cl P w K mg base 2 "_law_times" f_timesG := by
  refine ⟨a, fd, ["_law_one", "_law_top", "_law_bottom"], fn_ok F sc__law_times (fun args m R h => ?_) (fun cdv A outer s H E hr => ⟨_, (pss_one (ps_ret (pe_cl k__law_made hr (by decide) (by rfl) (pa_cons (pe_op (kMul K) (pe_ix (kIx K) (pv 0) pe_int (fun _ _ => rfl)) (pv 1)) (pa_cons (pe_op (kMul K) (pe_ix (kIx K) (pv 0) pe_int (fun _ _ => rfl)) (pv 2)) pa_nil))))), fun args m R h => ?_⟩), hm, F.kp, F.binds (ps := ["_law_one", "_law_top", "_law_bottom"]) fun _ _ _ _ _ _ us hl => match us, hl with | [_, _, _], _ => rfl⟩
  ·
    obtain ⟨_, _, _, rfl, _⟩ := h; rfl
  ·
    obtain ⟨x, t, b, rfl, hb, hx, ht, hbb, q⟩ := h
    walk_at "go"
    refine o2_mulI (hx.1.cmul ht (by decide)) ?_
    walk_at "go"
    refine o2_mulI (hx.2.cmul hbb (by decide)) ?_
    walk_at "go"
    refine ⟨Nat.mul_pos (den_pos x) hb, ?_, ?_⟩
    · rw [Int.natCast_mul]; exact (hx.2.mul hbb).mono (by decide)
    rw [mk_times x t hb]
    exact q
abbrev s__law_only : Stmt := topS 47
theorem sc__law_only : FnScope ["_law_e", "_law_place", "_law_k"] ["_law_e", "_law_place"] (defScope s__law_only) := ⟨rfl, rfl, rfl, by decide +kernel, rfl, by decide +kernel, by decide +kernel⟩
theorem ok__law_only {a : Addr} {fd : FuncData} (F : Fun K "_law_only" "_law_only" s__law_only a fd) (hm : mg "_law_only" = some (.ref a)) (z_isinstance : mg "isinstance" = none) (z_ValueError : mg "ValueError" = none) (z_range : mg "range" = none) (k__law_classes : ClP P w K mg base 1 "_law_classes" (okE K [c_NoShares, c_NoKind, c_NoNumber, c_NoNeeds, c_TooMany, c_NoPlan, c_NoLine, c_NoText] c_GatherError) (f_lawClasses K [c_NoShares, c_NoKind, c_NoNumber, c_NoNeeds, c_TooMany, c_NoPlan, c_NoLine, c_NoText] c_GatherError)) (g_GatherError : mg "GatherError" = some (.ref c_GatherError)) :
    ClP P w K mg base 2 "_law_only" (okE K [c_NoShares, c_NoKind, c_NoNumber, c_NoNeeds, c_TooMany, c_NoPlan, c_NoLine, c_NoText] c_GatherError) (f_lawOnly K [c_NoShares, c_NoKind, c_NoNumber, c_NoNeeds, c_TooMany, c_NoPlan, c_NoLine, c_NoText] c_GatherError) := by
  refine ⟨a, fd, ["_law_e", "_law_place"], fnP_ok F sc__law_only (fun a D args m R h => ?_) (fun cdv A outer s H E p D hD hsee hr => ?_), hm, F.kp, F.binds (ps := ["_law_e", "_law_place"]) fun _ _ _ _ _ _ us hl => match us, hl with | [_, _], _ => rfl⟩
  ·
    obtain ⟨_, _, _, _, _, rfl, _⟩ := h; rfl
  · obtain ⟨i0, hX⟩ := hD
    refine ⟨_, (pss_cons (ps_if (PW.pt (pw_or (pt_not (pt_val (pe_callB (kIsP K hsee hX.exc) (by rfl) z_isinstance (by decide +kernel) (pa_cons (pv 0) (pa_cons (pe_glob (v := V.ref c_GatherError) (by rfl) g_GatherError rfl) pa_nil))))) (pw_or1 (pt_not (pt_val (pe_callB (kIsP K hsee hX.exc) (by rfl) z_isinstance (by decide +kernel) (pa_cons (pv 0) (pa_cons (pe_bltn (v := .ty "ValueError") (by rfl) z_ValueError (by decide +kernel) rfl) pa_nil)))))))) (pss_one (ps_ret pe_bl)) pss_nil)
      (pss_one (ps_ret (pe_cmpR (kEqH K hr) (pe_clP k__law_classes hr (by decide) hsee (by rfl) (pa_cons (pv 0) pa_nil)) (pe_lcH (own := [("_law_k", 2)]) (Sees.hot hsee) sc__law_only.nd (L2H.pi_range1H (by rfl) z_range (pa_cons pe_int pa_nil)) (blkOk_by (own := [("_law_k", 2)]) (N := ["_law_e", "_law_place", "_law_k"]) (sc := defScope s__law_only) (by decide +kernel)) (fun _ _ _ _ _ => (pg_name (i := 2) sc__law_only.nd rfl (by first | exact Or.inl rfl | exact Or.inr rfl))) (fun _ _ _ _ _ => pts_nil) (fun _ _ _ _ _ => (pe_cmpR (kEqH K hr) (pv 2) (pv 1) (nomark _)))) (nomark _))))), fun args m R h => ?_⟩
    obtain ⟨i, n, hX', hi, hn, rfl, q⟩ := h
    refine w_seq (w_if ?_)
    refine evt_or (evt_not (evt_B (ev_callB (eva_cons (ev_var rfl (fun h => nomatch h) (eva_cons (ev_cV (eva_nil (on_isE relV_ref hX'.gt ⟨_, rfl, ?_⟩)))))))))
    refine br_f rfl ?_
    refine evt_not (evt_B (ev_callB (eva_cons (ev_var rfl (fun h => nomatch h) (eva_cons (ev_cV (eva_nil (on_isE relV_ty hX'.val ⟨_, rfl, ?_⟩))))))))
    refine br_f rfl (w_next ?_)
    refine w_ret (ev_op (ev_callP ⟨i, hX'⟩ (eva_cons (ev_var rfl (fun h => nomatch h) (eva_nil ⟨i, hX', rfl, ?_⟩)))))
    refine ev_mapR1 (n := 8) ?_ (by decide) (fun k => .bool (decide ((k : Int) = (n : Int)))) (fun k m' hk hx => ?_) ?_
    · walk_at "go"
      exact ⟨rfl, rfl⟩
    · walk_at "go"
      exact ⟨rfl, rfl⟩
    refine o2_eq ?_ ?_ ?_
    · have h8 : ∀ i : _root_.Fin 8, SeqAt.shaped (.list ((List.range 8).map fun (j : Nat) => PyData.bool (decide (j = i.val)))) = true := by decide +kernel
      exact h8 ⟨i, hi⟩
    · have h8 : ∀ n : _root_.Fin 8, SeqAt.shaped (.list ((List.range 8).map fun (k : Nat) => PyData.bool (decide ((k : Int) = ((n.val : Nat) : Int))))) = true := by decide +kernel
      exact h8 ⟨n, hn⟩
    rw [eqv_only ⟨i, hi⟩ ⟨n, hn⟩]
    exact q
abbrev s__law_plan : Stmt := topS 48
theorem sc__law_plan : FnScope ["_law_box_here", "_law_shares_here", "_law_found", "_law_sort", "_law_some", "_law_drawn"] ["_law_box_here", "_law_shares_here"] (defScope s__law_plan) := ⟨rfl, rfl, rfl, by decide +kernel, rfl, by decide +kernel, by decide +kernel⟩
theorem ok__law_plan {a : Addr} {fd : FuncData} (F : Fun K "_law_plan" "_law_plan" s__law_plan a fd) (hm : mg "_law_plan" = some (.ref a)) (z_len : mg "len" = none) (z_int : mg "int" = none) (k__law_take : Cl P w K mg base 1 "_law_take" f_take) (k__law_sets : Cl P w K mg base 1 "_law_sets" f_lawSetsX) :
    Cl P w K mg base 2 "_law_plan" f_lawPlan61 := by
  refine ⟨a, fd, ["_law_box_here", "_law_shares_here"], fn_ok F sc__law_plan (fun args m R h => ?_) (fun cdv A outer s H E hr => ⟨_, (pss_cons (ps_set (i := 2) sc__law_plan.nd rfl (by first | exact Or.inl rfl | exact Or.inr rfl) pe_dnewT)
      (pss_cons (ps_set (i := 3) sc__law_plan.nd rfl (by first | exact Or.inl rfl | exact Or.inr rfl) (pe_cl k__law_take hr (by decide) (by rfl) (pa_cons (pv 0) (pa_cons pe_int pa_nil))))
      (pss_cons (ps_for PassesOwn.never rfl (kiL K (pe_slice (kSlL K) (pe_cl k__law_sets hr (by decide) (by rfl) (pa_cons (pe_callB (kLen K) (by rfl) z_len (by decide +kernel) (pa_cons (pv 1) pa_nil)) pa_nil)) (po_some pe_int) po_none)) (pg_name (i := 4) sc__law_plan.nd rfl (by first | exact Or.inl rfl | exact Or.inr rfl)) (pss_cons (ps_set (i := 5) sc__law_plan.nd rfl (by first | exact Or.inl rfl | exact Or.inr rfl) (pe_ix (kIx K) (pe_lst (pa_cons pe_str (pa_cons pe_str pa_nil))) (pe_cl k__law_take hr (by decide) (by rfl) (pa_cons (pv 0) (pa_cons pe_int pa_nil))) (fun _ _ => rfl)))
      (pss_one (ps_dput (hu_of hr) (pv 2) (pv 4) (pe_ix (kIx K) (pe_lst (pa_cons (pv 5) (pa_cons (pv 5) (pa_cons pe_str (pa_cons (pe_ix (kIx K) (pe_lst (pa_cons pe_str (pa_cons pe_str pa_nil))) (pe_callTy cInt (by rfl) z_int (by decide +kernel) (pa_cons (pe_cmpR oGt (pe_callB (kLen K) (by rfl) z_len (by decide +kernel) (pa_cons (pv 4) pa_nil)) pe_int (nomark _)) pa_nil)) (fun _ _ => rfl)) pa_nil))))) (pv 3) (fun _ _ => rfl)) rfl))))
      (pss_one (ps_ret (pv 2)))))), fun args m R h => ?_⟩), hm, F.kp, F.binds (ps := ["_law_box_here", "_law_shares_here"]) fun _ _ _ _ _ _ us hl => match us, hl with | [_, _], _ => rfl⟩
  ·
    obtain ⟨_, _, rfl, _⟩ := h; rfl
  ·
    obtain ⟨ss, b, rfl, hb, hs, q⟩ := h
    have hfew := hs.few
    have h1 := hs.pos
    obtain ⟨o1, o2, o3, o4, o5, o6⟩ := rsX_facts ⟨ss.length, by omega⟩
    have o4 : (rsX ss.length).length ≤ 31 := o4
    have o6 : ∀ s ∈ rsX ss.length, s ∈ allS ss.length ∧ s ≠ [] := o6
    have hah : ∀ i s, (rsX ss.length)[i]? = some s → (∀ k ∈ s, wo s k ∈ [] :: (rsX ss.length).take i) ∧ s ∉ [] :: (rsX ss.length).take i := fun i s hi => rsX_ahead ⟨ss.length, by omega⟩ ⟨i, by have := (List.getElem?_eq_some_iff.mp hi).1; omega⟩ s hi
    have o2' : (ordX ss.length).drop 1 = rsX ss.length := o2
    refine w_seq (w_asg (ev_dnew fun p hp => ?_))
    have hbp : b ≠ p := ne_of_get hb hp
    have hb2 : ∀ o, put m p o b = some .box := fun o => by rw [put_ne hbp]; exact hb
    walk_at "go"
    refine ⟨hb2 _, by decide, bt_lit (n := 3) (by decide) (by decide), fun z hz0 hz1 => ?_⟩
    refine w_seq (w_forLt (nss := (rsX ss.length).map kn) ?_ (fun i r' m' => (∃ y4 y5, r' = [.v (.ref b), .d (tupI ss), .v (.ref p), .d (.int z), y4, y5]) ∧ ∃ f : List Nat → Bool, m' = put m p (.dT (dI (tabS (fun s => told (f s)) ((rsX ss.length).take i))))) ⟨⟨_, _, rfl⟩, fun _ => false, rfl⟩ ?_ ?_)
    · refine ev_slLt ?_
      walk_at "go"
      refine ⟨hfew, _, rfl, ?_⟩
      walk_at "go"
      exact ⟨rfl, by rw [← List.map_drop, o2'], rfl⟩
    · rintro i ks r' m' hi ⟨⟨y4, y5, rfl⟩, f, rfl⟩
      obtain ⟨s, hsi, rfl⟩ : ∃ s, (rsX ss.length)[i]? = some s ∧ ks = kn s := by
        rw [List.getElem?_map] at hi
        cases hx : (rsX ss.length)[i]? with
        | none => rw [hx] at hi; cases hi
        | some s => rw [hx] at hi; cases hi; exact ⟨s, rfl, rfl⟩
      obtain ⟨hsa, h0⟩ := o6 s (List.mem_of_getElem? hsi)
      have hk := allS_kinds hsa
      have hkl := hk.len
      obtain ⟨ha1, ha2⟩ := hah i s hsi
      have hsn : s ∉ (rsX ss.length).take i := fun h => ha2 (List.mem_cons_of_mem _ h)
      refine w_seq (w_asg (ev_op (ev_lstD ?_)))
      walk_at "go"
      refine ⟨hb2 _, by decide, bt_lit (n := 2) (by decide) (by decide), fun z2 h0 h1 => ?_⟩
      refine o2_ixLx h0 (by show z2 < 2; exact h1) fun d hd => ?_
      obtain ⟨g, rfl⟩ : ∃ g, d = .str (told g) := by
        simp only [List.mem_cons, List.not_mem_nil, or_false] at hd
        rcases hd with rfl | rfl
        · exact ⟨false, rfl⟩
        · exact ⟨true, rfl⟩
      refine w_dputV (ns := kn s) rfl ?_
      refine ev_op (ev_lstD ?_)
      walk_at "go"
      refine ev_lstD ?_
      walk_at "go"
      refine on_intB ?_
      walk_at "go"
      refine o2_ixLx (by split <;> decide) (by split <;> (show _ < (2 : Int); decide)) fun d2 hd2 => ?_
      obtain ⟨g2, rfl⟩ : ∃ g2, d2 = .str (told g2) := by
        simp only [List.mem_cons, List.not_mem_nil, or_false] at hd2
        rcases hd2 with rfl | rfl
        · exact ⟨true, rfl⟩
        · exact ⟨false, rfl⟩
      walk_at "go"
      refine ⟨[.str (told g), .str (told g), .str (told false), .str (told g2)], rfl, by show 4 ≤ 100000; decide, ?_⟩
      walk_at "go"
      refine o2_ixLx hz0 (by show z < 4; exact hz1) fun d3 hd3 => ?_
      obtain ⟨g3, rfl⟩ : ∃ g3, d3 = .str (told g3) := by
        simp only [List.mem_cons, List.not_mem_nil, or_false] at hd3
        rcases hd3 with rfl | rfl | rfl | rfl <;> exact ⟨_, rfl⟩
      walk_at "go"
      refine ⟨p, _, rfl, put_same, by unfold dI tabS; rw [List.length_map, List.length_map, List.length_take]; omega, ?_⟩
      rw [put_put, putV_tabS_new hsn, ← take_one hsi]
      exact ⟨⟨_, _, rfl⟩, _, rfl⟩
    · rintro r' m' ⟨⟨y4, y5, rfl⟩, f, rfl⟩
      rw [List.length_map, List.take_length]
      walk_at "go"
      exact q f p hp
abbrev s__law_is : Stmt := topS 49
theorem sc__law_is : FnScope ["_law_thing", "_law_shares_here", "_law_some", "_law_one"] ["_law_thing", "_law_shares_here"] (defScope s__law_is) := ⟨rfl, rfl, rfl, by decide +kernel, rfl, by decide +kernel, by decide +kernel⟩
theorem ok__law_is {a : Addr} {fd : FuncData} (F : Fun K "_law_is" "_law_is" s__law_is a fd) (hm : mg "_law_is" = some (.ref a)) (z_isinstance : mg "isinstance" = none) (z_dict : mg "dict" = none) (z_repr : mg "repr" = none) (z_len : mg "len" = none) (z_str : mg "str" = none) (k__law_sets : Cl P w K mg base 1 "_law_sets" f_lawSetsX) :
    ClG P w K mg base 2 "_law_is" (f_arePlansO K P w) := by
  refine ⟨a, fd, ["_law_thing", "_law_shares_here"], fnG_ok F sc__law_is (fun args m R h => ?_) (fun cdv A outer s H E hg hr => ⟨_, (pss_cons (ps_if (pt_not (pt_val (pe_callB (kIsiO K P w) (by rfl) z_isinstance (by decide +kernel) (pa_cons (pv 0) (pa_cons (pe_bltn (v := .ty "dict") (by rfl) z_dict (by decide +kernel) rfl) pa_nil))))) (pss_one (ps_ret pe_bl)) pss_nil)
      (pss_cons (ps_lock (ps_for PassesOwn.never rfl (pi_or (pi_keys (pv 0)) (kKeysO P w (pv 0))) (pg_name (i := 2) sc__law_is.nd rfl (by first | exact Or.inl rfl | exact Or.inr rfl)) (pss_cons (ps_if (pt_cmpR (oNotInS K) (pe_callB (kRepr K hr hg) (by rfl) z_repr (by decide +kernel) (pa_cons (pv 2) pa_nil)) (pe_lc (own := [("_law_one", 3)]) rfl sc__law_is.nd (kiL K (pe_slice (kSlL K) (pe_cl k__law_sets hr (by decide) (by rfl) (pa_cons (pe_callB (kLen K) (by rfl) z_len (by decide +kernel) (pa_cons (pv 1) pa_nil)) pa_nil)) (po_some pe_int) po_none)) (blkOk_by (own := [("_law_one", 3)]) (N := ["_law_thing", "_law_shares_here", "_law_some", "_law_one"]) (sc := defScope s__law_is) (by decide +kernel)) (fun _ _ _ _ _ => (pg_name (i := 3) sc__law_is.nd rfl (by first | exact Or.inl rfl | exact Or.inr rfl))) (fun _ _ _ _ _ => pts_nil) (fun _ _ _ _ _ => (pe_callB (kRepr K hr hg) (by rfl) z_repr (by decide +kernel) (pa_cons (pv 3) pa_nil)))) rfl) (pss_one (ps_ret pe_bl)) pss_nil)
      (pss_one (ps_if (PW.pt (pw_or (pt_not (pt_val (pe_callB (kIsi K) (by rfl) z_isinstance (by decide +kernel) (pa_cons (pe_or (pe_dget (hu_of hr) (pv 0) (pv 2) (fun _ _ => rfl)) (kOGet P w hr (pv 0) (pv 2) (fun _ _ => rfl))) (pa_cons (pe_bltn (v := .ty "str") (by rfl) z_str (by decide +kernel) rfl) pa_nil))))) (pw_or1 (pt_cmpR (oNotInS K) (pe_or (pe_dget (hu_of hr) (pv 0) (pv 2) (fun _ _ => rfl)) (kOGet P w hr (pv 0) (pv 2) (fun _ _ => rfl))) (pe_lst (pa_cons pe_str (pa_cons pe_str pa_nil))) rfl)))) (pss_one (ps_ret pe_bl)) pss_nil)))))
      (pss_one (ps_ret (pe_cmpR (kEq K hr) (pe_callB (kLenO K P w) (by rfl) z_len (by decide +kernel) (pa_cons (pv 0) pa_nil)) (pe_op oSub (pe_callB (kLen K) (by rfl) z_len (by decide +kernel) (pa_cons (pe_cl k__law_sets hr (by decide) (by rfl) (pa_cons (pe_callB (kLen K) (by rfl) z_len (by decide +kernel) (pa_cons (pv 1) pa_nil)) pa_nil)) pa_nil)) pe_int) (nomark _)))))), fun args m R h => ?_⟩), hm, F.kp, F.binds (ps := ["_law_thing", "_law_shares_here"]) fun _ _ _ _ _ _ us hl => match us, hl with | [_, _], _ => rfl⟩
  ·
    obtain ⟨_, _, _, rfl, _⟩ := h; rfl
  ·
    obtain ⟨y, ss, c, rfl, hs, hd, q⟩ := h
    have hfew := hs.few
    have h1 := hs.pos
    obtain ⟨o1, o2, o3, o4, o5, o6⟩ := rsX_facts ⟨ss.length, by omega⟩
    have o4 : (rsX ss.length).length ≤ 31 := o4
    have o6 : ∀ s ∈ rsX ss.length, s ∈ allS ss.length ∧ s ≠ [] := o6
    have hah : ∀ i s, (rsX ss.length)[i]? = some s → (∀ k ∈ s, wo s k ∈ [] :: (rsX ss.length).take i) ∧ s ∉ [] :: (rsX ss.length).take i := fun i s hi => rsX_ahead ⟨ss.length, by omega⟩ ⟨i, by have := (List.getElem?_eq_some_iff.mp hi).1; omega⟩ s hi
    have o2' : (ordX ss.length).drop 1 = rsX ss.length := o2
    have hol : (ordX ss.length).length = (rsX ss.length).length + 1 := by
      have o1 : ordX ss.length = [] :: rsX ss.length := o1
      rw [o1, List.length_cons]
    have hreps : ∀ (Q : Val → Mm → Prop) (r : List Val) (mm : Mm), r[1]? = some (.d (tupI ss)) → r.length = 4 → Q (.d (.list (((rsX ss.length).map fun s => (tupI (kn s)).shown).map PyData.str))) mm →
        Ev K (tLc (iList K (tSl (rSlL K) (tCall (spD K f_lawSetsX) [] E0 (tCons (tCB (rLen K) (tCons (tVar 1) tNil)) tNil)) (tPart (tC (.int 1))) tNoPart)) (gName 3) tYes (tCB (rRepr K) (tCons (tVar 3) tNil)) [3]) r mm Q := fun Q r mm hr hrl hq => by
      refine ev_lcLtD (nss := (rsX ss.length).map kn) (ev_slLt (ev_call (eva_cons (ev_callB (eva_cons (ev_var hr (fun h => nomatch h) (eva_nil ?_))))))) (by rw [List.length_map]; omega) (fun _ => true) (fun ns => .str (tupI ns).shown) (fun ns m' _ _ => evt_yes ⟨rfl, rfl⟩) (fun ns m' hns _ _ => ?_) ?_
      · walk_at "go"
        refine ⟨hfew, _, rfl, ?_⟩
        walk_at "go"
        exact ⟨rfl, by rw [← List.map_drop, o2'], rfl⟩
      · obtain ⟨s, hs', rfl⟩ := List.mem_map.mp hns
        obtain ⟨hsa, _⟩ := o6 s hs'
        refine ev_callB (eva_cons (ev_varT (by rw [List.getElem?_set_self (by omega)]) (eva_nil ?_)))
        exact on_show (sh_key61 (allS_small hfew hsa)) (by decide) (by decide) ⟨rfl, rfl⟩
      · rw [List.filter_eq_self.mpr (fun _ _ => rfl), List.map_map]
        rw [List.map_map] at hq
        exact hq
    rcases hd with ⟨t, hy, htd, hsm, rfl⟩ | ⟨p, kos, rfl, ho, hso, rfl⟩
    · cases t with
      | dat x =>
        obtain ⟨rfl, hx⟩ := hy
        have q : R (.d (.bool false)) m := q
        walk_at "go"
        refine on_orL ?_
        walk_at "go"
        cases hd : isDct x with
        | false =>
          refine br_t rfl ?_
          walk_at "go"
          exact q
        | true =>
          obtain ⟨kvs, rfl⟩ : ∃ kvs, x = .dict kvs := by cases x <;> first | exact ⟨_, rfl⟩ | (exact absurd hd (by simp [isDct]))
          obtain ⟨d, rfl⟩ := htd _ rfl
          refine br_f rfl (w_next ?_)
          refine w_seq (w_forOrL (w_forG1 (i := 0) (r1 := [.any, .d (tupI ss), .any, .any]) rfl ⟨Or.inl rfl, Or.inr ⟨rfl, Or.inl ⟨ss, rfl⟩⟩, Or.inl rfl, Or.inl rfl, trivial⟩ ?_ q))
          refine w_seq (w_if (evt_test (ev_op (ev_callB (eva_cons (ev_var rfl (fun h => nomatch h) (eva_nil (on_show sh_a (by decide) (by decide) ?_))))))))
          refine hreps _ _ _ rfl rfl ?_
          refine o2_inStrL (neg := true) ?_
          refine ⟨_, rfl, br_t ?_ ?_⟩
          · rw [if_pos rfl, decide_eq_false fun h => a_not _ ((shown_in _ _).mp h)]; rfl
          walk_at "go"
          rfl
      | dct kds =>
        obtain ⟨p, rfl, hm, hnd, hl, hit⟩ := hy
        have q : R (.d (.bool (decide (kds.length = (rsX ss.length).length) && kds.all (okPl ss.length)))) m := q
        walk_at "go"
        refine on_orL (on_isiDT hm ?_)
        walk_at "go"
        refine br_f rfl (w_next ?_)
        refine w_seq (w_forOrL (w_forD (p := p) (kvs := dV kds) hm (fun od es => ev_var rfl (fun h => nomatch h) ⟨rfl, rfl⟩)
          (fun i r' m' => m' = m ∧ (kds.take i).all (okPl ss.length) = true ∧ ∃ y1 y2, r' = [.v (.ref p), .d (tupI ss), y1, y2]) ⟨rfl, rfl, _, _, rfl⟩ ?_ ?_))
        · rintro i k z r' m' od es hk ⟨rfl, hal2, y1, y2, rfl⟩ hm2
          obtain ⟨d, hkd, rfl⟩ : ∃ d, kds[i]? = some (k, d) ∧ z = .d d := by
            unfold dV at hk
            rw [List.getElem?_map] at hk
            cases hx : kds[i]? with
            | none => rw [hx] at hk; cases hk
            | some e => rw [hx] at hk; cases hk; exact ⟨e.2, rfl, rfl⟩
          have hmem := List.mem_of_getElem? hkd
          obtain ⟨hsz, hkl⟩ := hit _ hmem
          obtain ⟨s, hks, hss⟩ := hsm kds rfl _ hmem
          have hks : k = kn s := hks
          subst hks
          have hgv : getV ((dV kds).map fun kv => (kI kv.1, kv.2)) (kI (kn s)) = some (.d d) := by
            show getV (dI (dV kds)) (kI (kn s)) = _
            rw [getV_dV, lkD_mem hnd hmem]; rfl
          have hst : ∀ od es, put (put m' p (.lk od es ((dV kds).map fun kv => (kI kv.1, kv.2)))) p (.dT ((dV kds).map fun kv => (kI kv.1, kv.2))) = m' := fun od es => by rw [put_put, put_self hm2]
          have hno : okPl ss.length (kn s, d) = false → R (.d (.bool false)) m' := fun hf => by
            rw [show kds.all (okPl ss.length) = false from List.all_eq_false.mpr ⟨_, hmem, by rw [hf]; decide⟩, Bool.and_false] at q
            exact q
          refine w_seq (w_if (evt_test (ev_op (ev_callB (eva_cons (ev_varT rfl (eva_nil (on_show (sh_key61 hss) (by decide) (by decide) ?_))))))))
          refine hreps _ _ _ rfl rfl ?_
          refine o2_inStrL (neg := true) ?_
          by_cases hin : s ∈ rsX ss.length
          · refine ⟨_, rfl, br_f ?_ (w_next ?_)⟩
            · rw [if_pos rfl, decide_eq_true ((shown_in _ _).mpr (key_in.mpr hin))]; rfl
            obtain ⟨hsa, h0⟩ := o6 s hin
            have hok := okPl_wd (d := d) (allS_kinds hsa) h0
            refine w_if (evt_or (evt_not (evt_B (ev_callB (eva_cons (ev_orL (ev_dgetV (ns := kn s) rfl (ev_var rfl (fun h => nomatch h) ⟨p, _, _, rfl, Or.inr ⟨od, es, put_same⟩, hgv, ?_⟩))))))))
            walk_at "go"
            cases hst2 : isStrD d with
            | false =>
              refine br_t rfl (br_t rfl ?_)
              walk_at "go"
              exact ⟨put_same, by rw [hst od es]; exact hno (by rw [hok]; cases d <;> first | rfl | cases hst2)⟩
            | true =>
              obtain ⟨x, rfl⟩ : ∃ x, d = .str x := by cases d <;> first | exact ⟨_, rfl⟩ | cases hst2
              refine br_f rfl ?_
              refine evt_test (ev_op (ev_orL (ev_dgetV (ns := kn s) rfl (ev_var rfl (fun h => nomatch h) ⟨p, _, _, rfl, Or.inr ⟨od, es, put_same⟩, hgv, ?_⟩))))
              refine ev_lstD ?_
              walk_at "go"
              refine o2_inStrL (xs := ["draw", "buy"]) (neg := true) ?_
              have hok : okPl ss.length (kn s, .str x) = decide (x ∈ (["draw", "buy"] : List Str)) := hok
              by_cases hin : x ∈ (["draw", "buy"] : List Str)
              · refine ⟨_, rfl, br_f (by show (!decide (x ∈ (["draw", "buy"] : List Str))) = false; rw [decide_eq_true hin]; rfl) (w_next ?_)⟩
                refine ⟨put_same, hst od es, ?_, _, _, rfl⟩
                rw [take_one hkd, List.all_append, hal2, List.all_cons, List.all_nil, Bool.true_and, Bool.and_true, hok]
                exact decide_eq_true hin
              · refine ⟨_, rfl, br_t (by show (!decide (x ∈ (["draw", "buy"] : List Str))) = true; rw [decide_eq_false hin]; rfl) ?_⟩
                walk_at "go"
                exact ⟨put_same, by rw [hst od es]; exact hno (by rw [hok]; exact decide_eq_false hin)⟩
          · refine ⟨_, rfl, br_t ?_ ?_⟩
            · rw [if_pos rfl, decide_eq_false fun h => hin (key_in.mp ((shown_in _ _).mp h))]; rfl
            walk_at "go"
            exact ⟨put_same, by rw [hst od es]; exact hno (okPl_in hfew hin)⟩
        · rintro r' m' ⟨rfl, hal2, y1, y2, rfl⟩
          rw [show (dV kds).length = kds.length by unfold dV; rw [List.length_map], List.take_length] at hal2
          rw [hal2, Bool.and_true] at q
          walk_at "go"
          refine on_orL (on_lenAT (on_lenDT hm ?_))
          walk_at "go"
          refine ⟨hfew, ?_⟩
          walk_at "go"
          refine on_lenLt ?_
          walk_at "go"
          rw [dV_len, List.length_map, hol]
          rw [show decide (((kds.length : Nat) : Int) = (((rsX ss.length).length + 1 : Nat) : Int) - 1) = decide (kds.length = (rsX ss.length).length) from decide_eq_decide.mpr ⟨fun h => by omega, fun h => by omega⟩]
          exact q
    · walk_at "go"
      refine on_orR (on_isiO ho.mem ?_)
      walk_at "go"
      refine br_f rfl (w_next ?_)
      refine w_seq (w_forOrR (w_forO (p := p) (kos := kos) ho.mem (fun od es => ev_var rfl (fun h => nomatch h) ⟨rfl, rfl⟩)
        (fun i r' m' => m' = m ∧ (∀ e ∈ kos.take i, ∃ ns, e.1 = .okI ns) ∧ ∃ y1 y2, r' = [.v (.ref p), .d (tupI ss), y1, y2]) ⟨rfl, (fun _ h => nomatch h), _, _, rfl⟩ ?_ ?_))
      · rintro i z d r' m' od es hk ⟨rfl, hal2, y1, y2, rfl⟩ hm2
        have hst : ∀ od es, put (put m' p (oddW K P w od es kos)) p (oddM K P w kos) = m' := fun od es => by rw [put_put, put_self hm2]
        have hmem := List.mem_of_getElem? hk
        have hso2 := hso _ hmem
        cases z with
        | okB bs =>
          have hbl : bs.length ≤ 20 := by
            rcases hso2 with ⟨s, e, _⟩ | ⟨bs', e, h⟩
            · cases e
            · injection e with e; rw [e]; exact h
          show Wp K _ [.v (.ref p), .d (tupI ss), .d (.tuple (bs.map PyData.bool)), _] _ _ _
          refine w_seq (w_if (evt_test (ev_op (ev_callB (eva_cons (ev_var rfl (fun h => nomatch h) (eva_nil (on_show (sh_bls61 hbl) (by decide) (by decide) ?_))))))))
          refine hreps _ _ _ rfl rfl ?_
          refine o2_inStrL (neg := true) ?_
          refine ⟨_, rfl, br_t ?_ ?_⟩
          · rw [if_pos rfl, decide_eq_false fun h => bls_not (ho.okb _ hmem bs rfl) _ ((shown_in _ _).mp h)]; rfl
          walk_at "go"
          exact ⟨put_same, by rw [hst od es]; exact q⟩
        | okI k =>
          obtain ⟨s, rfl, hss⟩ : ∃ s, k = kn s ∧ SmS s := by
            rcases hso2 with ⟨s, e, h⟩ | ⟨bs', e, h⟩
            · injection e with e; exact ⟨s, e, h⟩
            · cases e
          show Wp K _ [.v (.ref p), .d (tupI ss), .t (kn s), _] _ _ _
          refine w_seq (w_if (evt_test (ev_op (ev_callB (eva_cons (ev_varT rfl (eva_nil (on_show (sh_key61 hss) (by decide) (by decide) ?_))))))))
          refine hreps _ _ _ rfl rfl ?_
          refine o2_inStrL (neg := true) ?_
          by_cases hin : s ∈ rsX ss.length
          · refine ⟨_, rfl, br_f ?_ (w_next ?_)⟩
            · rw [if_pos rfl, decide_eq_true ((shown_in _ _).mpr (key_in.mpr hin))]; rfl
            refine w_if (evt_or (evt_not (evt_B (ev_callB (eva_cons (ev_orR (ev_oget (ev_var rfl (fun h => nomatch h) ⟨p, rfl, ev_var rfl (fun h => nomatch h) ⟨kn s, kos, i, d, rfl, Or.inr ⟨od, es, put_same⟩, ho.nd, hk, ?_⟩⟩))))))))
            walk_at "go"
            cases hst2 : isStrD d with
            | false =>
              refine br_t rfl (br_t rfl ?_)
              walk_at "go"
              exact ⟨put_same, by rw [hst od es]; exact q⟩
            | true =>
              obtain ⟨x, rfl⟩ : ∃ x, d = .str x := by cases d <;> first | exact ⟨_, rfl⟩ | cases hst2
              refine br_f rfl ?_
              refine evt_test (ev_op (ev_orR (ev_oget (ev_var rfl (fun h => nomatch h) ⟨p, rfl, ev_var rfl (fun h => nomatch h) ⟨kn s, kos, i, _, rfl, Or.inr ⟨od, es, put_same⟩, ho.nd, hk, ?_⟩⟩))))
              refine ev_lstD ?_
              walk_at "go"
              refine o2_inStrL (xs := ["draw", "buy"]) (neg := true) ?_
              by_cases hin : x ∈ (["draw", "buy"] : List Str)
              · refine ⟨_, rfl, br_f (by show (!decide (x ∈ (["draw", "buy"] : List Str))) = false; rw [decide_eq_true hin]; rfl) (w_next ?_)⟩
                refine ⟨put_same, hst od es, fun e he => ?_, _, _, rfl⟩
                rw [take_one hk] at he
                rcases List.mem_append.mp he with he | he
                · exact hal2 e he
                · exact ⟨kn s, by rw [List.mem_singleton.mp he]⟩
              · refine ⟨_, rfl, br_t (by show (!decide (x ∈ (["draw", "buy"] : List Str))) = true; rw [decide_eq_false hin]; rfl) ?_⟩
                walk_at "go"
                exact ⟨put_same, by rw [hst od es]; exact q⟩
          · refine ⟨_, rfl, br_t ?_ ?_⟩
            · rw [if_pos rfl, decide_eq_false fun h => hin (key_in.mp ((shown_in _ _).mp h))]; rfl
            walk_at "go"
            exact ⟨put_same, by rw [hst od es]; exact q⟩
      · rintro r' m' ⟨rfl, hal2, y1, y2, rfl⟩
        exfalso
        rw [List.take_length] at hal2
        obtain ⟨e, he, bs, hb⟩ := ho.odd
        obtain ⟨ns, hn⟩ := hal2 e he
        rw [hb] at hn
        cases hn
abbrev s__law_bent : Stmt := topS 50
theorem sc__law_bent : FnScope ["_law_box_here", "_law_plan_here", "_law_odd_here", "_law_keys", "_law_key", "_law_found", "_law_way", "_law_one"] ["_law_box_here", "_law_plan_here", "_law_odd_here"] (defScope s__law_bent) := ⟨rfl, rfl, rfl, by decide +kernel, rfl, by decide +kernel, by decide +kernel⟩
theorem ok__law_bent {a : Addr} {fd : FuncData} (F : Fun K "_law_bent" "_law_bent" s__law_bent a fd) (hm : mg "_law_bent" = some (.ref a)) (z_sorted : mg "sorted" = none) (z_len : mg "len" = none) (z_dict : mg "dict" = none) (z_tuple : mg "tuple" = none) (k__law_take : Cl P w K mg base 1 "_law_take" f_take) :
    Cl P w K mg base 2 "_law_bent" (f_bent61 K P w) := by
  refine ⟨a, fd, ["_law_box_here", "_law_plan_here", "_law_odd_here"], fn_ok F sc__law_bent (fun args m R h => ?_) (fun cdv A outer s H E hr => ⟨_, (pss_cons (ps_set (i := 3) sc__law_bent.nd rfl (by first | exact Or.inl rfl | exact Or.inr rfl) (pe_callB (kSortN hr) (by rfl) z_sorted (by decide +kernel) (pa_cons (pv 1) pa_nil)))
      (pss_cons (ps_set (i := 4) sc__law_bent.nd rfl (by first | exact Or.inl rfl | exact Or.inr rfl) (pe_ix (kIx K) (pv 3) (pe_cl k__law_take hr (by decide) (by rfl) (pa_cons (pv 0) (pa_cons (pe_callB (kLen K) (by rfl) z_len (by decide +kernel) (pa_cons (pv 3) pa_nil)) pa_nil))) (fun _ _ => rfl)))
      (pss_cons (ps_set (i := 5) sc__law_bent.nd rfl (by first | exact Or.inl rfl | exact Or.inr rfl) (pe_callTy (kDictC hr) (by rfl) z_dict (by decide +kernel) (pa_cons (pv 1) pa_nil)))
      (pss_cons (ps_set (i := 6) sc__law_bent.nd rfl (by first | exact Or.inl rfl | exact Or.inr rfl) (pe_cl k__law_take hr (by decide) (by rfl) (pa_cons (pv 0) (pa_cons pe_int pa_nil))))
      (pss_cons (ps_if (pt_cmpR oLt (pv 6) pe_int (nomark _)) (pss_one (ps_dput (hu_of hr) (pv 5) (pv 4) (pe_ix (kIx K) (pe_lst (pa_cons pe_str (pa_cons pe_str (pa_cons (pv 2) (pa_cons pe_str (pa_cons pe_non pa_nil)))))) (pv 6) (fun _ _ => rfl)) rfl)) (pss_one (ps_if (pt_cmpR (kEq K hr) (pv 6) pe_int (nomark _)) (pss_one (ps_expr (kPop1T K (pe_bm PySem.F.plainAttrs_dict PySem.F.slot_dict_pop PySem.F.type_dict_pop (mt_pop1T (hu_of hr)) (pv 5) (pa_cons (pv 4) pa_nil))))) (pss_one (ps_if (pt_cmpR oLt (pv 6) pe_int (nomark _)) (pss_one (ps_dput (hu_of hr) (pv 5) (pe_ix (kIx K) (pe_lst (pa_cons (pe_tup pa_nil) (pa_cons (pe_tup (pa_cons pe_int (pa_cons pe_int pa_nil))) (pa_cons (pe_tup (pa_cons pe_int pa_nil)) pa_nil)))) (pe_op oSub (pv 6) pe_int) (fun _ _ => rfl)) pe_str rfl)) (pss_one (ps_if (pt_cmpR (kEq K hr) (pv 6) pe_int (nomark _)) (pss_cons (ps_expr (kPop1T K (pe_bm PySem.F.plainAttrs_dict PySem.F.slot_dict_pop PySem.F.type_dict_pop (mt_pop1T (hu_of hr)) (pv 5) (pa_cons (pv 4) pa_nil))))
      (pss_one (ps_or (ps_dput (hu_of hr) (pv 5) (pe_callTy (kTup K) (by rfl) z_tuple (by decide +kernel) (pa_cons (pe_lc (own := [("_law_one", 7)]) rfl sc__law_bent.nd (kiT K (pv 4)) (blkOk_by (own := [("_law_one", 7)]) (N := ["_law_box_here", "_law_plan_here", "_law_odd_here", "_law_keys", "_law_key", "_law_found", "_law_way", "_law_one"]) (sc := defScope s__law_bent) (by decide +kernel)) (fun _ _ _ _ _ => (pg_name (i := 7) sc__law_bent.nd rfl (by first | exact Or.inl rfl | exact Or.inr rfl))) (fun _ _ _ _ _ => pts_nil) (fun _ _ _ _ _ => (pe_cmpR (kEq K hr) (pv 7) pe_int (nomark _)))) pa_nil)) pe_str rfl) (kOPut P w hr (pv 5) (pe_callTy (kTup K) (by rfl) z_tuple (by decide +kernel) (pa_cons (pe_lc (own := [("_law_one", 7)]) rfl sc__law_bent.nd (kiT K (pv 4)) (blkOk_by (own := [("_law_one", 7)]) (N := ["_law_box_here", "_law_plan_here", "_law_odd_here", "_law_keys", "_law_key", "_law_found", "_law_way", "_law_one"]) (sc := defScope s__law_bent) (by decide +kernel)) (fun _ _ _ _ _ => (pg_name (i := 7) sc__law_bent.nd rfl (by first | exact Or.inl rfl | exact Or.inr rfl))) (fun _ _ _ _ _ => pts_nil) (fun _ _ _ _ _ => (pe_cmpR (kEq K hr) (pv 7) pe_int (nomark _)))) pa_nil)) pe_str rfl)))) (pss_one (ps_ret (pe_ix (kIx K) (pe_lst (pa_cons (pe_sortItems K hr (by rfl) z_sorted (pv 1)) (pa_cons (pv 3) pa_nil))) (pe_cl k__law_take hr (by decide) (by rfl) (pa_cons (pv 0) (pa_cons pe_int pa_nil))) (fun _ _ => rfl)))))))))))
      (pss_one (ps_ret (pv 5)))))))), fun args m R h => ?_⟩), hm, F.kp, F.binds (ps := ["_law_box_here", "_law_plan_here", "_law_odd_here"]) fun _ _ _ _ _ _ us hl => match us, hl with | [_, _, _], _ => rfl⟩
  ·
    obtain ⟨_, _, _, _, _, rfl, _⟩ := h; rfl
  ·
    obtain ⟨ss, b, p, f, o, rfl, hb, hs, hm, ho, q⟩ := h
    have hfew := hs.few
    have h1 := hs.pos
    obtain ⟨o1, o2, o3, o4, o5, o6⟩ := rsX_facts ⟨ss.length, by omega⟩
    have o4 : (rsX ss.length).length ≤ 31 := o4
    have o6 : ∀ s ∈ rsX ss.length, s ∈ allS ss.length ∧ s ≠ [] := o6
    have hah : ∀ i s, (rsX ss.length)[i]? = some s → (∀ k ∈ s, wo s k ∈ [] :: (rsX ss.length).take i) ∧ s ∉ [] :: (rsX ss.length).take i := fun i s hi => rsX_ahead ⟨ss.length, by omega⟩ ⟨i, by have := (List.getElem?_eq_some_iff.mp hi).1; omega⟩ s hi
    have hnd : (rsX ss.length).Nodup := o3
    have hF : ∀ s, ItP (.str (told (f s))) := fun s => itp_told _
    have hmX : m p = some (.dT (dI (dV (tabX (fun s => .str (told (f s))) (rsX ss.length))))) := by rw [← tabS_X]; exact hm
    have hkeys : (dV (tabX (fun s => .str (told (f s))) (rsX ss.length))).map (·.1) = (rsX ss.length).map kn := by unfold dV tabX; rw [List.map_map, List.map_map]; rfl
    have hhash : ((dV (tabX (fun s => .str (told (f s))) (rsX ss.length))).map fun e => hI e.1).Nodup := by
      unfold dV tabX
      rw [List.map_map, List.map_map]
      have := rs_nodup ⟨ss.length, by omega⟩
      rw [List.map_cons, List.nodup_cons] at this
      exact this.2
    have hlen0 : ∀ (g : List Nat → PyData) (l : List (List Nat)), (dV (tabX g l)).length = l.length := fun g l => by unfold dV tabX; rw [List.length_map, List.length_map]
    have hlenI : ∀ (g : List Nat → PyData) (l : List (List Nat)), (dI (dV (tabX g l))).length = l.length := fun g l => by unfold dI; rw [List.length_map, hlen0]
    have hsm : ∀ s ∈ rsX ss.length, SmS s := fun s h => allS_small hfew (o6 s h).1
    have hin : ∀ u ∈ rsX ss.length, u ∈ rsX ss.length := fun _ h => h
    refine w_seq (w_asg (ev_callB (eva_cons (ev_var rfl (fun h => nomatch h) (eva_nil (on_sortN hmX (by rw [hlen0]; omega) (fun y hy e => ?_) fun nss hperm => ?_))))))
    · have : y.1 ∈ (rsX ss.length).map kn := by rw [← hkeys]; exact List.mem_map.mpr ⟨y, hy, rfl⟩
      obtain ⟨u, hu, e2⟩ := List.mem_map.mp this
      rw [e] at e2
      exact (o6 u hu).2 (List.map_eq_nil_iff.mp e2)
    rw [hkeys] at hperm
    have hpl := hperm.length_eq
    rw [List.length_map] at hpl
    have h0in := rsX_zero h1 hfew
    have hpos : 0 < (rsX ss.length).length := List.length_pos_of_mem h0in
    walk_at "go"
    refine on_lenLt ?_
    walk_at "go"
    refine ⟨hb, by omega, bt_lit (n := 6) (by show _ < 64; omega) (by decide), fun z hz0 hz1 => ?_⟩
    obtain ⟨zi, rfl⟩ : ∃ k : Nat, z = (k : Int) := ⟨z.toNat, by omega⟩
    have hzi : zi < nss.length := by omega
    obtain ⟨s, hsL, hse⟩ := List.mem_map.mp (hperm.mem_iff.mp (List.getElem_mem hzi))
    refine o2_ixLt (ns := kn s) (by rw [List.getElem?_eq_getElem hzi, hse]) ?_
    obtain ⟨hsa, hs0⟩ := o6 s hsL
    have hsk := allS_kinds hsa
    have hss := hsm s hsL
    have hkl : ∀ u : List Nat, (kn u).length = u.length := fun u => by unfold kn; rw [List.length_map]
    refine w_seq (w_asg (ev_callB (eva_cons (ev_var rfl (fun h => nomatch h) (eva_nil (on_dictC hmX hhash fun e he => ?_))))))
    have hpe : p ≠ e := ne_of_get hm he
    have hbe : b ≠ e := ne_of_get hb he
    have hb2 : ∀ o, put m e o b = some .box := fun o => by rw [put_ne hbe]; exact hb
    have hx : ∀ o, Ext m (put m e o) := fun o => put_less he
    walk_at "go"
    refine ⟨hb2 _, by decide, bt_lit (n := 4) (by decide) (by decide), fun c hc0 hc1 => ?_⟩
    obtain ⟨ci, rfl⟩ : ∃ k : Nat, c = (k : Int) := ⟨c.toNat, by omega⟩
    have hret : ∀ {g : List Nat → PyData} {l : List (List Nat)}, l.Nodup → l.length ≤ 64 → (∀ u ∈ l, SmS u) → (∀ u ∈ l, ItP (g u)) → R (.v (.ref e)) (put m e (.dT (dI (dV (tabX g l))))) := fun {g l} h1 h2 h3 h4 => q _ _ _ (hx _) (th_tab put_same h1 h2 h3 h4)
    have hfl : (dI (dV (tabX (fun s => .str (told (f s))) (rsX ss.length)))).filter (fun e => !decide (e.1 = kI (kn s))) = dI (dV (tabX (fun s => .str (told (f s))) ((rsX ss.length).filter fun u => !decide (u = s)))) := by
      unfold dI dV tabX
      rw [List.map_map, List.map_map, List.filter_map, List.map_map, List.map_map]
      refine congrArg _ (List.filter_congr fun u _ => ?_)
      show (!decide (kI (kn u) = kI (kn s))) = !decide (u = s)
      rw [show decide (kI (kn u) = kI (kn s)) = decide (u = s) from decide_eq_decide.mpr ⟨fun h => kn_inj (kI_inj h), fun h => by rw [h]⟩]
    have hnf : ((rsX ss.length).filter (fun u => !decide (u = s))).Nodup := hnd.filter _
    have hlf : ((rsX ss.length).filter fun u => !decide (u = s)).length ≤ (rsX ss.length).length := List.length_filter_le ..
    have hsub : ∀ u ∈ (rsX ss.length).filter (fun u => !decide (u = s)), u ∈ rsX ss.length := fun u hu => (List.mem_filter.mp hu).1
    have hgs : ∀ u ∈ rsX ss.length, getV (dI (dV (tabX (fun s => .str (told (f s))) (rsX ss.length)))) (kI (kn u)) = some (.d (.str (told (f u)))) := fun u hu => by rw [getV_dV, lkD_tabX hu]; rfl
    walk_at "go"
    by_cases h7 : (ci : Int) < 5
    · refine br_t (decide_eq_true h7) ?_
      refine w_dputV (ns := kn s) rfl ?_
      refine ev_op (ev_lstD ?_)
      walk_at "go"
      refine ⟨[.str "Draw", .str "", o, .str "buy ", .none], rfl, by show 5 ≤ 100000; decide, ?_⟩
      walk_at "go"
      refine o2_ixLx (l := [.str "Draw", .str "", o, .str "buy ", .none]) hc0 (by show (ci : Int) < 5; exact h7) fun d hd => ?_
      have hd2 : ItP d := by
        simp only [List.mem_cons, List.not_mem_nil, or_false] at hd
        rcases hd with rfl | rfl | rfl | rfl | rfl
        · exact itp_str (by decide +kernel) (by decide +kernel)
        · exact itp_str (by decide +kernel) (by decide +kernel)
        · exact itp_odd ho
        · exact itp_str (by decide +kernel) (by decide +kernel)
        · exact itp_odd (o := .none) (List.mem_cons_self)
      refine ev_var rfl (fun h => nomatch h) ⟨e, _, rfl, put_same, by rw [hlenI]; omega, ?_⟩
      rw [put_put, putV_tabX hsL]
      walk_at "go"
      refine hret hnd (by omega) hsm fun u hu => ?_
      by_cases e : u = s
      · rw [if_pos e]; exact hd2
      · rw [if_neg e]; exact hF u
    refine br_f (decide_eq_false h7) (w_if ?_)
    walk_at "go"
    by_cases h8 : (ci : Int) = 5
    · refine br_t (decide_eq_true h8) ?_
      refine w_drop (ev_pop1T (ev_var rfl (fun h => nomatch h) ⟨e, rfl, ⟨_, put_same⟩, ev_var rfl (fun h => nomatch h) ⟨_, kn s, _, rfl, put_same, hgs s hsL, ?_⟩⟩))
      rw [put_put, hfl]
      walk_at "go"
      exact hret hnf (by omega) (fun u hu => hsm u (hsub u hu)) fun u _ => hF u
    refine br_f (decide_eq_false h8) (w_if ?_)
    walk_at "go"
    by_cases h9 : (ci : Int) < 9
    · refine br_t (decide_eq_true h9) ?_
      obtain ⟨n1, n2, n3, _⟩ := no_rsX hfew
      have fin : ∀ c : List Nat, c ∉ rsX ss.length → SmS c → R (.v (.ref e)) (put m e (.dT (putV (dI (dV (tabX (fun s => .str (told (f s))) (rsX ss.length)))) (kI (kn c)) (.d (.str "draw"))))) := fun c hc hcs => by
        rw [putV_tabX_new hc]
        have hn2 : (rsX ss.length ++ [c]).Nodup := List.nodup_append.mpr ⟨hnd, by simp, fun a ha b hb e => hc (by rw [List.mem_singleton.mp hb] at e; exact e ▸ ha)⟩
        refine hret hn2 (by rw [List.length_append, List.length_singleton]; omega) (fun u hu => ?_) fun u hu => ?_
        · rcases List.mem_append.mp hu with hu | hu
          · exact hsm u hu
          · rw [List.mem_singleton.mp hu]; exact hcs
        · by_cases e : u = c
          · rw [if_pos e]; exact itp_told false
          · rw [if_neg e]; exact hF u
      refine w_dput (ev_cS (ev_var rfl (fun h => nomatch h) ⟨e, rfl, ev_op (ev_lstT (eva_cons (ev_tupT (eva_nil ⟨[], rfl, by decide, eva_cons (ev_tupT (eva_cons (ev_cI (eva_cons (ev_cI (eva_nil ⟨[1, 0], rfl, by show 2 ≤ 100000; decide, eva_cons (ev_tupT (eva_cons (ev_cI (eva_nil ⟨[5], rfl, by show 1 ≤ 100000; decide, eva_nil ⟨[[], [1, 0], [5]], rfl, by show 3 ≤ 100000; decide, ?_⟩⟩))))⟩))))))⟩))))⟩))
      walk_at "go"
      have h3 : (ci : Int) - 6 = ((ci - 6 : Nat) : Int) := by omega
      rw [h3]
      have : ci = 6 ∨ ci = 7 ∨ ci = 8 := by omega
      rcases this with rfl | rfl | rfl
      · refine o2_ixLt (ns := kn []) (i := 0) rfl ⟨_, _, rfl, put_same, by rw [hlenI]; omega, ?_⟩
        rw [put_put]
        walk_at "go"
        exact fin _ n1 ⟨by decide, by decide⟩
      · refine o2_ixLt (ns := kn [1, 0]) (i := 1) rfl ⟨_, _, rfl, put_same, by rw [hlenI]; omega, ?_⟩
        rw [put_put]
        walk_at "go"
        exact fin _ n2 ⟨by decide, by decide⟩
      · refine o2_ixLt (ns := kn [5]) (i := 2) rfl ⟨_, _, rfl, put_same, by rw [hlenI]; omega, ?_⟩
        rw [put_put]
        walk_at "go"
        exact fin _ n3 ⟨by decide, by decide⟩
    refine br_f (decide_eq_false h9) (w_if ?_)
    walk_at "go"
    by_cases h10 : (ci : Int) = 9
    · refine br_t (decide_eq_true h10) ?_
      refine w_seq (w_drop (ev_pop1T (ev_var rfl (fun h => nomatch h) ⟨e, rfl, ⟨_, put_same⟩, ev_var rfl (fun h => nomatch h) ⟨_, kn s, _, rfl, put_same, hgs s hsL, ?_⟩⟩)))
      rw [put_put, hfl]
      have hol : (ones s).length = s.length := by unfold ones; rw [List.length_map]
      refine w_sOrR (w_oput (ev_cS ⟨_, rfl, ?_⟩))
      refine ev_var rfl (fun h => nomatch h) ⟨e, rfl, ev_callB (eva_cons ?_)⟩
      refine ev_mapTf (xs := kn s) (f := PyData.int) (ev_varT rfl ⟨rfl, rfl⟩) (by rw [hkl]; have := hss.2; omega) (fun x => .bool (decide (x = 1))) (fun x m2 hx hxx => ?_) ?_
      · refine ev_op (ev_var (x := .d (.int x)) rfl (fun h => nomatch h) (ev_cI (o2_eqI ?_)))
        exact ⟨rfl, rfl⟩
      rw [oneB_data]
      refine eva_nil (on_tupBl ?_)
      refine ⟨.okB (oneB s), tabX (fun s => .str (told (f s))) ((rsX ss.length).filter fun u => !decide (u = s)), rfl, put_same, by unfold tabX; rw [List.length_map]; omega, fun hsome => ?_, fun hnone => ?_⟩
      · rw [oneB_num] at hsome ⊢
        have hin2 : ones s ∈ (rsX ss.length).filter fun u => !decide (u = s) := by
          by_cases h : ones s ∈ (rsX ss.length).filter fun u => !decide (u = s)
          · exact h
          · rw [lkD_tabX_none h] at hsome; cases hsome
        rw [put_put, putV_tabX hin2]
        walk_at "go"
        refine hret hnf (by omega) (fun u hu => hsm u (hsub u hu)) fun u hu => ?_
        by_cases e : u = ones s
        · rw [if_pos e]; exact itp_told true
        · rw [if_neg e]; exact hF u
      · rw [oneB_num] at hnone
        rw [put_put]
        walk_at "go"
        have hno2 : ones s ∉ (rsX ss.length).filter fun u => !decide (u = s) := fun h => by
          rw [lkD_tabX h] at hnone; cases hnone
        have hmem : ∀ z ∈ ((tabX (fun s => PyData.str (told (f s))) ((rsX ss.length).filter fun u => !decide (u = s))).map (fun e => (OKey.okI e.1, e.2)) ++ [(OKey.okB (oneB s), PyData.str "buy")]), (∃ u ∈ rsX ss.length, z = (OKey.okI (kn u), PyData.str (told (f u)))) ∨ z = (OKey.okB (oneB s), PyData.str "buy") := fun z hz => by
          rcases List.mem_append.mp hz with hz | hz
          · obtain ⟨y, hy, rfl⟩ := List.mem_map.mp hz
            obtain ⟨u, hu, rfl⟩ := List.mem_map.mp hy
            exact Or.inl ⟨u, hsub u hu, rfl⟩
          · exact Or.inr (List.mem_singleton.mp hz)
        have hlk : ((tabX (fun s => PyData.str (told (f s))) ((rsX ss.length).filter fun u => !decide (u = s))).map (fun e => (OKey.okI e.1, e.2)) ++ [(OKey.okB (oneB s), PyData.str "buy")]).length ≤ 64 := by
          unfold tabX
          rw [List.length_append, List.length_map, List.length_map, List.length_singleton]
          omega
        have hbl : (oneB s).length = s.length := by unfold oneB; rw [List.length_map]
        refine q _ _ false (hx _) (Or.inr ⟨e, _, rfl, ⟨put_same, ?_, by omega, fun z hz => ?_, fun z hz bs hb => ?_, ⟨_, List.mem_append_right _ (List.mem_singleton.mpr rfl), _, rfl⟩⟩, fun z hz => ?_, shA_odd hlk fun z hz => ?_, rfl⟩)
        · rw [List.map_append, List.map_map]
          unfold tabX
          rw [List.map_map]
          refine List.nodup_append.mpr ⟨hnf.map _ fun x y ne e => ne (kn_inj e), by simp, fun a ha b hb e => ?_⟩
          obtain ⟨u, hu, rfl⟩ := List.mem_map.mp ha
          rw [List.map_cons, List.map_nil, List.mem_singleton] at hb
          have e2 : kn u = kn (ones s) := e.trans (hb.trans (oneB_num s))
          exact hno2 (kn_inj e2 ▸ hu)
        · rcases hmem z hz with ⟨u, hu, rfl⟩ | rfl
          · exact ⟨trivial, by show (kn u).length ≤ 100; rw [hkl]; have := (hsm u hu).2; omega⟩
          · refine ⟨trivial, ?_⟩
            show (OKey.okB (oneB s)).num.length ≤ 100
            rw [oneB_num, hkl, hol]
            have := hss.2
            omega
        · rcases hmem z hz with ⟨u, hu, rfl⟩ | rfl
          · cases hb
          · injection hb with hb
            rw [← hb]
            unfold oneB
            intro e
            exact hs0 (List.map_eq_nil_iff.mp e)
        · rcases hmem z hz with ⟨u, hu, rfl⟩ | rfl
          · exact Or.inl ⟨u, rfl, hsm u hu⟩
          · exact Or.inr ⟨_, rfl, by rw [hbl]; exact hss.2⟩
        · rcases hmem z hz with ⟨u, hu, rfl⟩ | rfl
          · exact ⟨shb_key (hsm u hu).1 (hsm u hu).2, (itp_told _).1⟩
          · exact ⟨sh_bls (by rw [hbl]; exact hss.2), (itp_told true).1⟩
    refine br_f (decide_eq_false h10) ?_
    have hk32 : ∀ s ∈ rsX ss.length, s.length ≤ 5 ∧ ∀ k ∈ s, k ≤ 10 := fun s h => by
      obtain ⟨a1, a2⟩ := allS_mem _ _ (o6 s h).1
      exact ⟨by omega, fun k hk => by have := a2 k hk; omega⟩
    have hs1 : ShA (.list (((prsS (fun s => told (f s)) (rsX ss.length)).mergeSort (PySem.W.dataLe false encI)).map encI)) := (sh_prsS (by omega) hk32).toA (by decide) (by decide)
    have hs2 : ShA (.list (nss.map tupI)) := by
      refine (shb_list (k := 4) (n := 9000) (c := 32) (fun d hd => ?_) (by rw [List.length_map]; omega)).toA (by decide) (by decide)
      obtain ⟨k, hk, rfl⟩ := List.mem_map.mp hd
      obtain ⟨u, hu, rfl⟩ := List.mem_map.mp (hperm.mem_iff.mp hk)
      exact shb_key (hsm u hu).1 (hsm u hu).2
    refine w_ret (ev_op (ev_lstD (eva_cons (ev_sortItems (ev_var rfl (fun h => nomatch h) ⟨p, prsS (fun s => told (f s)) (rsX ss.length), rfl, by rw [put_ne hpe, hm, tabS_prs], by unfold prsS; rw [List.length_map]; omega, prsS_flat _ _, prsS_alike _ _, eva_cons (ev_varL rfl (eva_nil ⟨[_, _], rfl, by show 2 ≤ 100000; decide, ?_⟩))⟩)))))
    walk_at "go"
    refine ⟨hb2 _, by decide, bt_lit (n := 2) (by decide) (by decide), fun z2 h0 h2 => ?_⟩
    refine o2_ixLx h0 (by show z2 < 2; exact h2) fun d hd => ?_
    simp only [List.mem_cons, List.not_mem_nil, or_false] at hd
    rcases hd with rfl | rfl
    · exact q _ _ _ (hx _) (th_dat hs1 rfl)
    · exact q _ _ _ (hx _) (th_dat hs2 rfl)
abbrev s_sum_of : Stmt := topS 16
theorem sc_sum_of : FnScope ["one", "other"] ["one", "other"] (defScope s_sum_of) := ⟨rfl, rfl, rfl, by decide +kernel, rfl, by decide +kernel, by decide +kernel⟩
theorem ok_sum_of {a : Addr} {fd : FuncData} (F : Fun K "sum_of" "sum_of" s_sum_of a fd) (hm : mg "sum_of" = some (.ref a)) (k_made : Cl P w K mg base 2 "made" f_made) :
    Cl P w K mg base 3 "sum_of" f_sumOf := by
  refine ⟨a, fd, ["one", "other"], fn_ok F sc_sum_of (fun args m R h => ?_) (fun cdv A outer s H E hr => ⟨_, (pss_one (ps_ret (pe_cl k_made hr (by decide) (by rfl) (pa_cons (pe_op (kAdd K) (pe_op (kMul K) (pe_ix (kIx K) (pv 0) pe_int (fun _ _ => rfl)) (pe_ix (kIx K) (pv 1) pe_int (fun _ _ => rfl))) (pe_op (kMul K) (pe_ix (kIx K) (pv 1) pe_int (fun _ _ => rfl)) (pe_ix (kIx K) (pv 0) pe_int (fun _ _ => rfl)))) (pa_cons (pe_op (kMul K) (pe_ix (kIx K) (pv 0) pe_int (fun _ _ => rfl)) (pe_ix (kIx K) (pv 1) pe_int (fun _ _ => rfl))) pa_nil))))), fun args m R h => ?_⟩), hm, F.kp, F.binds (ps := ["one", "other"]) fun _ _ _ _ _ _ us hl => match us, hl with | [_, _], _ => rfl⟩
  ·
    obtain ⟨_, _, rfl, _⟩ := h; rfl
  ·
    obtain ⟨p, r, rfl, hp, hr, q⟩ := h
    walk_at "go"
    refine o2_mulI (hp.1.cmul hr.2 (by decide)) ?_
    walk_at "go"
    refine o2_mulI (hr.1.cmul hp.2 (by decide)) ?_
    walk_at "go"
    refine o2_mulI (hp.2.cmul hr.2 (by decide)) ?_
    walk_at "go"
    refine ⟨Nat.mul_pos (den_pos p) (den_pos r), ?_, ?_⟩
    · rw [Int.natCast_mul]; exact (hp.2.mul hr.2).mono (by decide)
    · rw [← Rat.add_def']; exact q
abbrev s_times_of : Stmt := topS 17
theorem sc_times_of : FnScope ["one", "other"] ["one", "other"] (defScope s_times_of) := ⟨rfl, rfl, rfl, by decide +kernel, rfl, by decide +kernel, by decide +kernel⟩
theorem ok_times_of {a : Addr} {fd : FuncData} (F : Fun K "times_of" "times_of" s_times_of a fd) (hm : mg "times_of" = some (.ref a)) (k_made : Cl P w K mg base 2 "made" f_made) :
    Cl P w K mg base 3 "times_of" f_timesOf := by
  refine ⟨a, fd, ["one", "other"], fn_ok F sc_times_of (fun args m R h => ?_) (fun cdv A outer s H E hr => ⟨_, (pss_one (ps_ret (pe_cl k_made hr (by decide) (by rfl) (pa_cons (pe_op (kMul K) (pe_ix (kIx K) (pv 0) pe_int (fun _ _ => rfl)) (pe_ix (kIx K) (pv 1) pe_int (fun _ _ => rfl))) (pa_cons (pe_op (kMul K) (pe_ix (kIx K) (pv 0) pe_int (fun _ _ => rfl)) (pe_ix (kIx K) (pv 1) pe_int (fun _ _ => rfl))) pa_nil))))), fun args m R h => ?_⟩), hm, F.kp, F.binds (ps := ["one", "other"]) fun _ _ _ _ _ _ us hl => match us, hl with | [_, _], _ => rfl⟩
  ·
    obtain ⟨_, _, rfl, _⟩ := h; rfl
  ·
    obtain ⟨p, r, rfl, hp, hr, q⟩ := h
    walk_at "go"
    refine o2_mulI (hp.1.cmul hr.1 (by decide)) ?_
    walk_at "go"
    refine o2_mulI (hp.2.cmul hr.2 (by decide)) ?_
    walk_at "go"
    refine ⟨Nat.mul_pos (den_pos p) (den_pos r), ?_, ?_⟩
    · rw [Int.natCast_mul]; exact (hp.2.mul hr.2).mono (by decide)
    · rw [← Rat.mul_def']; exact q
abbrev s_need_shares : Stmt := topS 22
theorem sc_need_shares : FnScope ["shares"] ["shares"] (defScope s_need_shares) := ⟨rfl, rfl, rfl, by decide +kernel, rfl, by decide +kernel, by decide +kernel⟩
theorem ok_need_shares {a : Addr} {fd : FuncData} (F : Fun K "need_shares" "need_shares" s_need_shares a fd) (hm : mg "need_shares" = some (.ref a)) (k_is_shares : Cl P w K mg base 2 "is_shares" f_isShares) :
    Cl P w K mg base 3 "need_shares" f_needShares := by
  refine ⟨a, fd, ["shares"], fn_ok F sc_need_shares (fun args m R h => ?_) (fun cdv A outer s H E hr => ⟨_, (pss_one (ps_if (pt_not (pt_val (pe_cl k_is_shares hr (by decide) (by rfl) (pa_cons (pv 0) pa_nil)))) (pss_one ps_never) pss_nil)), fun args m R h => ?_⟩), hm, F.kp, F.binds (ps := ["shares"]) fun _ _ _ _ _ _ us hl => match us, hl with | [_], _ => rfl⟩
  ·
    obtain ⟨_, rfl, _⟩ := h; rfl
  ·
    obtain ⟨x, rfl, hx, q⟩ := h
    repeat walk_at "dl"
    rw [hx]
    refine br_f rfl ?_
    exact w_next q
abbrev s_are_plans : Stmt := topS 31
theorem sc_are_plans : FnScope ["thing", "shares", "some"] ["thing", "shares"] (defScope s_are_plans) := ⟨rfl, rfl, rfl, by decide +kernel, rfl, by decide +kernel, by decide +kernel⟩
theorem ok_are_plans {a : Addr} {fd : FuncData} (F : Fun K "are_plans" "are_plans" s_are_plans a fd) (hm : mg "are_plans" = some (.ref a)) (z_len : mg "len" = none) (z_isinstance : mg "isinstance" = none) (z_dict : mg "dict" = none) (z_str : mg "str" = none) (k_rising_some : Cl P w K mg base 2 "rising_some" f_rising) (k_are_kinds : Cl P w K mg base 2 "are_kinds" f_areKinds) :
    Cl P w K mg base 3 "are_plans" (f_arePlansO K P w) := by
  refine ⟨a, fd, ["thing", "shares"], fn_ok F sc_are_plans (fun args m R h => ?_) (fun cdv A outer s H E hr => ⟨_, (pss_cons (ps_if (PW.pt (pw_or (pt_not (pt_val (pe_callB (kIsiO K P w) (by rfl) z_isinstance (by decide +kernel) (pa_cons (pv 0) (pa_cons (pe_bltn (v := .ty "dict") (by rfl) z_dict (by decide +kernel) rfl) pa_nil))))) (pw_or1 (pt_cmpR (kNe K hr) (pe_callB (kLenO K P w) (by rfl) z_len (by decide +kernel) (pa_cons (pv 0) pa_nil)) (pe_callB (kLen K) (by rfl) z_len (by decide +kernel) (pa_cons (pe_cl k_rising_some hr (by decide) (by rfl) (pa_cons (pv 1) pa_nil)) pa_nil)) (nomark _))))) (pss_one (ps_ret pe_bl)) pss_nil)
      (pss_cons (ps_lock (ps_for PassesOwn.never rfl (pi_or (pi_keys (pv 0)) (kKeysO P w (pv 0))) (pg_name (i := 2) sc_are_plans.nd rfl (by first | exact Or.inl rfl | exact Or.inr rfl)) (pss_cons (ps_if (PW.pt (pw_or (pt_not (pt_val (pe_cl k_are_kinds hr (by decide) (by rfl) (pa_cons (pv 2) (pa_cons (pe_callB (kLen K) (by rfl) z_len (by decide +kernel) (pa_cons (pv 1) pa_nil)) pa_nil))))) (pw_or1 (pt_cmpR (kEq K hr) (pv 2) (pe_tup pa_nil) (nomark _))))) (pss_one (ps_ret pe_bl)) pss_nil)
      (pss_one (ps_if (PW.pt (pw_or (pt_not (pt_val (pe_callB (kIsi K) (by rfl) z_isinstance (by decide +kernel) (pa_cons (pe_or (pe_dget (hu_of hr) (pv 0) (pv 2) (fun _ _ => rfl)) (kOGet P w hr (pv 0) (pv 2) (fun _ _ => rfl))) (pa_cons (pe_bltn (v := .ty "str") (by rfl) z_str (by decide +kernel) rfl) pa_nil))))) (pw_or1 (pt_cmpR (oNotInS K) (pe_or (pe_dget (hu_of hr) (pv 0) (pv 2) (fun _ _ => rfl)) (kOGet P w hr (pv 0) (pv 2) (fun _ _ => rfl))) (pe_tup (pa_cons pe_str (pa_cons pe_str pa_nil))) rfl)))) (pss_one (ps_ret pe_bl)) pss_nil)))))
      (pss_one (ps_ret pe_bl)))), fun args m R h => ?_⟩), hm, F.kp, F.binds (ps := ["thing", "shares"]) fun _ _ _ _ _ _ us hl => match us, hl with | [_, _], _ => rfl⟩
  ·
    obtain ⟨_, _, _, rfl, _⟩ := h; rfl
  ·
    obtain ⟨y, ss, c, rfl, hs, hd, q⟩ := h
    have hfew := hs.few
    have h1 := hs.pos
    obtain ⟨o1, o2, o3, o4, o5, o6⟩ := rsX_facts ⟨ss.length, by omega⟩
    have o4 : (rsX ss.length).length ≤ 31 := o4
    have o6 : ∀ s ∈ rsX ss.length, s ∈ allS ss.length ∧ s ≠ [] := o6
    have hah : ∀ i s, (rsX ss.length)[i]? = some s → (∀ k ∈ s, wo s k ∈ [] :: (rsX ss.length).take i) ∧ s ∉ [] :: (rsX ss.length).take i := fun i s hi => rsX_ahead ⟨ss.length, by omega⟩ ⟨i, by have := (List.getElem?_eq_some_iff.mp hi).1; omega⟩ s hi
    rcases hd with ⟨t, hy, htd, hsm, rfl⟩ | ⟨p, kos, rfl, ho, hso, rfl⟩
    · cases t with
      | dat x =>
        obtain ⟨rfl, hx⟩ := hy
        have q : R (.d (.bool false)) m := q
        walk_at "go"
        refine on_orL ?_
        walk_at "go"
        cases hd : isDct x with
        | false =>
          refine br_t rfl (br_t rfl ?_)
          walk_at "go"
          exact q
        | true =>
          obtain ⟨kvs, rfl⟩ : ∃ kvs, x = .dict kvs := by cases x <;> first | exact ⟨_, rfl⟩ | (exact absurd hd (by simp [isDct]))
          obtain ⟨d, rfl⟩ := htd _ rfl
          refine br_f rfl ?_
          walk_at "go"
          refine on_orL (on_lenDD ?_)
          walk_at "go"
          refine ⟨hs, ?_⟩
          walk_at "go"
          refine on_lenLt ?_
          walk_at "go"
          rw [List.length_map]
          by_cases hlen : (rsX ss.length).length = 1
          · refine br_f (by rw [hlen]; rfl) (w_next ?_)
            refine w_seq (w_forOrL (w_forG1 (i := 0) (r1 := [.any, .d (tupI ss), .any]) rfl ⟨Or.inl rfl, Or.inr ⟨rfl, Or.inl ⟨ss, rfl⟩⟩, Or.inl rfl, trivial⟩ ?_ q))
            walk_at "go"
            refine ⟨by simp [shortD], ?_⟩
            walk_at "go"
            refine br_t rfl (br_t rfl ?_)
            walk_at "go"
            rfl
          · refine br_t (by simp only [List.length_cons, List.length_nil, Bool.not_eq_true', decide_eq_false_iff_not]; omega) ?_
            walk_at "go"
            exact q
      | dct kds =>
        obtain ⟨p, rfl, hm, hnd, hl, hit⟩ := hy
        have q : R (.d (.bool (decide (kds.length = (rsX ss.length).length) && kds.all (okPl ss.length)))) m := q
        walk_at "go"
        refine on_orL (on_isiDT hm ?_)
        walk_at "go"
        refine br_f rfl ?_
        walk_at "go"
        refine on_orL (on_lenAT (on_lenDT hm ?_))
        walk_at "go"
        refine ⟨hs, ?_⟩
        walk_at "go"
        refine on_lenLt ?_
        walk_at "go"
        rw [dV_len, List.length_map]
        by_cases hlen : kds.length = (rsX ss.length).length
        · refine br_f (by rw [hlen]; simp) (w_next ?_)
          refine w_seq (w_forOrL (w_forD (p := p) (kvs := dV kds) hm (fun od es => ev_var rfl (fun h => nomatch h) ⟨rfl, rfl⟩)
            (fun i r' m' => m' = m ∧ (kds.take i).all (okPl ss.length) = true ∧ ∃ y, r' = [.v (.ref p), .d (tupI ss), y]) ⟨rfl, rfl, _, rfl⟩ ?_ ?_))
          · rintro i k z r' m' od es hk ⟨rfl, hal2, y, rfl⟩ hm2
            obtain ⟨d, hkd, rfl⟩ : ∃ d, kds[i]? = some (k, d) ∧ z = .d d := by
              unfold dV at hk
              rw [List.getElem?_map] at hk
              cases hx : kds[i]? with
              | none => rw [hx] at hk; cases hk
              | some e => rw [hx] at hk; cases hk; exact ⟨e.2, rfl, rfl⟩
            have hmem := List.mem_of_getElem? hkd
            obtain ⟨hsz, hkl⟩ := hit _ hmem
            have hgv : getV ((dV kds).map fun kv => (kI kv.1, kv.2)) (kI k) = some (.d d) := by
              show getV (dI (dV kds)) (kI k) = _
              rw [getV_dV, lkD_mem hnd hmem]; rfl
            have hst : ∀ od es, put (put m' p (.lk od es ((dV kds).map fun kv => (kI kv.1, kv.2)))) p (.dT ((dV kds).map fun kv => (kI kv.1, kv.2))) = m' := fun od es => by rw [put_put, put_self hm2]
            have hno : okPl ss.length (k, d) = false → R (.d (.bool false)) m' := fun hf => by
              rw [show kds.all (okPl ss.length) = false from List.all_eq_false.mpr ⟨_, hmem, by rw [hf]; decide⟩, Bool.and_false] at q
              exact q
            walk_at "go"
            refine ⟨by show shortD (tupI k); unfold tupI; simp [shortD]; have : k.length ≤ 100 := hkl; omega, ?_⟩
            cases ha : areKinds (tupI k) (ss.length : Int) with
            | false =>
              walk_at "go"
              refine br_t rfl (br_t rfl ?_)
              walk_at "go"
              exact ⟨put_same, by rw [hst od es]; exact hno (by unfold okPl; rw [show areKinds (tupI (k, d).1) (ss.length : Int) = false from ha, Bool.false_and])⟩
            | true =>
              walk_at "go"
              refine br_f rfl ?_
              walk_at "go"
              refine o2_eq (shaped_tupI k) (shaped_tupI []) ?_
              rw [show PyData.eqv (tupI k) (.tuple []) = decide (k = []) from eqv_nilT k]
              walk_at "go"
              by_cases h0 : k = []
              · refine br_t (decide_eq_true h0) ?_
                walk_at "go"
                exact ⟨put_same, by rw [hst od es]; exact hno (by unfold okPl; rw [show decide ((k, d).1 = []) = true from decide_eq_true h0, Bool.not_true, Bool.false_and, Bool.and_false])⟩
              refine br_f (decide_eq_false h0) (w_next ?_)
              refine w_if (evt_or (evt_not (evt_B (ev_callB (eva_cons (ev_orL (ev_dgetV (ns := k) rfl (ev_var rfl (fun h => nomatch h) ⟨p, _, _, rfl, Or.inr ⟨od, es, put_same⟩, hgv, ?_⟩))))))))
              walk_at "go"
              have hok : okPl ss.length (k, d) = isWd d := by
                unfold okPl
                rw [show areKinds (tupI (k, d).1) (ss.length : Int) = true from ha, show decide ((k, d).1 = []) = false from decide_eq_false h0, Bool.true_and, Bool.not_false, Bool.true_and]
              cases hst2 : isStrD d with
              | false =>
                refine br_t rfl (br_t rfl ?_)
                walk_at "go"
                exact ⟨put_same, by rw [hst od es]; exact hno (by rw [hok]; cases d <;> first | rfl | cases hst2)⟩
              | true =>
                obtain ⟨x, rfl⟩ : ∃ x, d = .str x := by cases d <;> first | exact ⟨_, rfl⟩ | cases hst2
                refine br_f rfl ?_
                refine evt_test (ev_op (ev_orL (ev_dgetV (ns := k) rfl (ev_var rfl (fun h => nomatch h) ⟨p, _, _, rfl, Or.inr ⟨od, es, put_same⟩, hgv, ?_⟩))))
                walk_at "go"
                refine o2_inStrs (xs := ["draw", "buy"]) (neg := true) ?_
                walk_at "go"
                have hok : okPl ss.length (k, .str x) = decide (x ∈ (["draw", "buy"] : List Str)) := hok
                by_cases hin : x ∈ (["draw", "buy"] : List Str)
                · refine br_f (by show (!decide (x ∈ (["draw", "buy"] : List Str))) = false; rw [decide_eq_true hin]; rfl) (w_next ?_)
                  refine ⟨put_same, hst od es, ?_, _, rfl⟩
                  rw [take_one hkd, List.all_append, hal2, List.all_cons, List.all_nil, Bool.true_and, Bool.and_true, hok]
                  exact decide_eq_true hin
                · refine br_t (by show (!decide (x ∈ (["draw", "buy"] : List Str))) = true; rw [decide_eq_false hin]; rfl) ?_
                  walk_at "go"
                  exact ⟨put_same, by rw [hst od es]; exact hno (by rw [hok]; exact decide_eq_false hin)⟩
          · rintro r' m' ⟨rfl, hal2, y, rfl⟩
            rw [show (dV kds).length = kds.length by unfold dV; rw [List.length_map], List.take_length] at hal2
            rw [decide_eq_true hlen, hal2] at q
            walk_at "go"
            exact q
        · rw [decide_eq_false hlen, Bool.false_and] at q
          refine br_t (by simp only [Bool.not_eq_true', decide_eq_false_iff_not]; omega) ?_
          walk_at "go"
          exact q
    · have hfew2 := ho.few
      walk_at "go"
      refine on_orR (on_isiO ho.mem ?_)
      walk_at "go"
      refine br_f rfl ?_
      walk_at "go"
      refine on_orR (on_lenO ho.mem (by omega) ?_)
      walk_at "go"
      refine ⟨hs, ?_⟩
      walk_at "go"
      refine on_lenLt ?_
      walk_at "go"
      rw [List.length_map]
      by_cases hlen : kos.length = (rsX ss.length).length
      · refine br_f (by rw [hlen]; simp) (w_next ?_)
        refine w_seq (w_forOrR (w_forO (p := p) (kos := kos) ho.mem (fun od es => ev_var rfl (fun h => nomatch h) ⟨rfl, rfl⟩)
          (fun i r' m' => m' = m ∧ (∀ e ∈ kos.take i, ∃ ns, e.1 = .okI ns) ∧ ∃ y, r' = [.v (.ref p), .d (tupI ss), y]) ⟨rfl, (fun _ h => nomatch h), _, rfl⟩ ?_ ?_))
        · rintro i z d r' m' od es hk ⟨rfl, hal2, y, rfl⟩ hm2
          have hst : ∀ od es, put (put m' p (oddW K P w od es kos)) p (oddM K P w kos) = m' := fun od es => by rw [put_put, put_self hm2]
          have hmem := List.mem_of_getElem? hk
          obtain ⟨hsz, hkl⟩ := ho.ok _ hmem
          cases z with
          | okB bs =>
            have hbl : bs.length ≤ 100 := by
              have h : (bs.map b01).length ≤ 100 := hkl
              rwa [List.length_map] at h
            have hav := bls_kinds (ho.okb _ hmem bs rfl) (ss.length : Int)
            show Wp K _ [.v (.ref p), .d (tupI ss), .d (.tuple (bs.map PyData.bool))] _ _ _
            walk_at "go"
            refine ⟨by simp [shortD]; omega, ?_⟩
            rw [hav]
            walk_at "go"
            refine br_t rfl (br_t rfl ?_)
            walk_at "go"
            exact ⟨put_same, by rw [hst od es]; exact q⟩
          | okI k =>
            have hkl : k.length ≤ 100 := hkl
            show Wp K _ [.v (.ref p), .d (tupI ss), .t k] _ _ _
            walk_at "go"
            refine ⟨by show shortD (tupI k); unfold tupI; simp [shortD]; omega, ?_⟩
            cases ha : areKinds (tupI k) (ss.length : Int) with
            | false =>
              walk_at "go"
              refine br_t rfl (br_t rfl ?_)
              walk_at "go"
              exact ⟨put_same, by rw [hst od es]; exact q⟩
            | true =>
              walk_at "go"
              refine br_f rfl ?_
              walk_at "go"
              refine o2_eq (shaped_tupI k) (shaped_tupI []) ?_
              rw [show PyData.eqv (tupI k) (.tuple []) = decide (k = []) from eqv_nilT k]
              walk_at "go"
              by_cases h0 : k = []
              · refine br_t (decide_eq_true h0) ?_
                walk_at "go"
                exact ⟨put_same, by rw [hst od es]; exact q⟩
              refine br_f (decide_eq_false h0) (w_next ?_)
              refine w_if (evt_or (evt_not (evt_B (ev_callB (eva_cons (ev_orR (ev_oget (ev_var rfl (fun h => nomatch h) ⟨p, rfl, ev_var rfl (fun h => nomatch h) ⟨k, kos, i, d, rfl, Or.inr ⟨od, es, put_same⟩, ho.nd, hk, ?_⟩⟩))))))))
              walk_at "go"
              cases hst2 : isStrD d with
              | false =>
                refine br_t rfl (br_t rfl ?_)
                walk_at "go"
                exact ⟨put_same, by rw [hst od es]; exact q⟩
              | true =>
                obtain ⟨x, rfl⟩ : ∃ x, d = .str x := by cases d <;> first | exact ⟨_, rfl⟩ | cases hst2
                refine br_f rfl ?_
                refine evt_test (ev_op (ev_orR (ev_oget (ev_var rfl (fun h => nomatch h) ⟨p, rfl, ev_var rfl (fun h => nomatch h) ⟨k, kos, i, _, rfl, Or.inr ⟨od, es, put_same⟩, ho.nd, hk, ?_⟩⟩))))
                walk_at "go"
                refine o2_inStrs (xs := ["draw", "buy"]) (neg := true) ?_
                walk_at "go"
                by_cases hin : x ∈ (["draw", "buy"] : List Str)
                · refine br_f (by show (!decide (x ∈ (["draw", "buy"] : List Str))) = false; rw [decide_eq_true hin]; rfl) (w_next ?_)
                  refine ⟨put_same, hst od es, fun e he => ?_, _, rfl⟩
                  rw [take_one hk] at he
                  rcases List.mem_append.mp he with he | he
                  · exact hal2 e he
                  · exact ⟨k, by rw [List.mem_singleton.mp he]⟩
                · refine br_t (by show (!decide (x ∈ (["draw", "buy"] : List Str))) = true; rw [decide_eq_false hin]; rfl) ?_
                  walk_at "go"
                  exact ⟨put_same, by rw [hst od es]; exact q⟩
        · rintro r' m' ⟨rfl, hal2, y, rfl⟩
          exfalso
          rw [List.take_length] at hal2
          obtain ⟨e, he, bs, hb⟩ := ho.odd
          obtain ⟨ns, hn⟩ := hal2 e he
          rw [hb] at hn
          cases hn
      · refine br_t (by simp only [Bool.not_eq_true', decide_eq_false_iff_not]; omega) ?_
        walk_at "go"
        exact q
abbrev s__law_due : Stmt := topS 45
theorem sc__law_due : FnScope ["_law_shares_here", "_law_paper", "_law_some", "_law_found", "_law_kind", "_law_others", "_law_one"] ["_law_shares_here", "_law_paper", "_law_some"] (defScope s__law_due) := ⟨rfl, rfl, rfl, by decide +kernel, rfl, by decide +kernel, by decide +kernel⟩
theorem ok__law_due {a : Addr} {fd : FuncData} (F : Fun K "_law_due" "_law_due" s__law_due a fd) (hm : mg "_law_due" = some (.ref a)) (z_sum : mg "sum" = none) (z_tuple : mg "tuple" = none) (k__law_sum : Cl P w K mg base 2 "_law_sum" f_plusG) (k__law_times : Cl P w K mg base 2 "_law_times" f_timesG) :
    Cl P w K mg base 3 "_law_due" f_dueG := by
  refine ⟨a, fd, ["_law_shares_here", "_law_paper", "_law_some"], fn_ok F sc__law_due (fun args m R h => ?_) (fun cdv A outer s H E hr => ⟨_, (pss_cons (ps_set (i := 3) sc__law_due.nd rfl (by first | exact Or.inl rfl | exact Or.inr rfl) (pe_tup (pa_cons (pe_callB (kSum K) (by rfl) z_sum (by decide +kernel) (pa_cons (pv 0) pa_nil)) (pa_cons pe_int pa_nil))))
      (pss_cons (ps_for PassesOwn.never rfl (kiT K (pv 2)) (pg_name (i := 4) sc__law_due.nd rfl (by first | exact Or.inl rfl | exact Or.inr rfl)) (pss_cons (ps_set (i := 5) sc__law_due.nd rfl (by first | exact Or.inl rfl | exact Or.inr rfl) (pe_callTy (kTup K) (by rfl) z_tuple (by decide +kernel) (pa_cons (pe_lc (own := [("_law_one", 6)]) rfl sc__law_due.nd (kiT K (pv 2)) (blkOk_by (own := [("_law_one", 6)]) (N := ["_law_shares_here", "_law_paper", "_law_some", "_law_found", "_law_kind", "_law_others", "_law_one"]) (sc := defScope s__law_due) (by decide +kernel)) (fun _ _ _ _ _ => (pg_name (i := 6) sc__law_due.nd rfl (by first | exact Or.inl rfl | exact Or.inr rfl))) (fun _ _ _ _ _ => (pts_one (pt_cmpR (kNe K hr) (pv 6) (pv 4) (nomark _)))) (fun _ _ _ _ _ => (pv 6))) pa_nil)))
      (pss_one (ps_set (i := 3) sc__law_due.nd rfl (by first | exact Or.inl rfl | exact Or.inr rfl) (pe_cl k__law_sum hr (by decide) (by rfl) (pa_cons (pv 3) (pa_cons (pe_cl k__law_times hr (by decide) (by rfl) (pa_cons (pe_dget (hu_of hr) (pv 1) (pv 5) (fun _ _ => rfl)) (pa_cons (pe_ix (kIx K) (pv 0) (pv 4) (fun _ _ => rfl)) (pa_cons pe_int pa_nil)))) pa_nil)))))))
      (pss_one (ps_ret (pe_cl k__law_times hr (by decide) (by rfl) (pa_cons (pv 3) (pa_cons pe_int (pa_cons (pe_callB (kSum K) (by rfl) z_sum (by decide +kernel) (pa_cons (pe_lc (own := [("_law_kind", 4)]) rfl sc__law_due.nd (kiT K (pv 2)) (blkOk_by (own := [("_law_kind", 4)]) (N := ["_law_shares_here", "_law_paper", "_law_some", "_law_found", "_law_kind", "_law_others", "_law_one"]) (sc := defScope s__law_due) (by decide +kernel)) (fun _ _ _ _ _ => (pg_name (i := 4) sc__law_due.nd rfl (by first | exact Or.inl rfl | exact Or.inr rfl))) (fun _ _ _ _ _ => pts_nil) (fun _ _ _ _ _ => (pe_ix (kIx K) (pv 0) (pv 4) (fun _ _ => rfl)))) pa_nil)) pa_nil)))))))), fun args m R h => ?_⟩), hm, F.kp, F.binds (ps := ["_law_shares_here", "_law_paper", "_law_some"]) fun _ _ _ _ _ _ us hl => match us, hl with | [_, _, _], _ => rfl⟩
  ·
    obtain ⟨_, _, _, _, _, rfl, _⟩ := h; rfl
  ·
    obtain ⟨ss, s, p, kvs, P, rfl, hs, hk, h0, hd, hB, hg, q⟩ := h
    have hsl := hk.len
    have hfew := hs.few
    have hsum := shares_sum hs
    walk_at "go"
    refine w_forTf (xs := s) (f := intN) ?_ (fun i r' m' => m' = m ∧ ∃ y4 y5, r' = [.d (tupI ss), .v (.ref p), .d (tupN s), .d (frac (dueAcc ss (P) s (s.take i))), y4, y5, .any]) ⟨rfl, _, _, rfl⟩ ?_ ?_
    · walk_at "go"
      exact ⟨by rw [tupN_eq], rfl⟩
    · rintro i k r' m' hi ⟨rfl, y4, y5, rfl⟩
      have hks := List.mem_of_getElem? hi
      have hkl := hk.lt k hks
      have hf := hB.fr hs (kinds_without hk k)
      have ha := hB.accFr hs hk i
      have hb9 := getD_bounds hs k
      have hbk : Bt (ss.getD k 0) 8 := bt_lit (n := 8) (by show _ < 256; omega) (by decide)
      walk_at "go"
      refine ev_filTf (xs := s) (f := intN) ?_ (by omega) (fun x => !decide (x = k)) intN (fun x m2 hx hxx => ?_) (fun x m2 hx hxx hq => ?_) ?_
      · walk_at "go"
        exact ⟨by rw [tupN_eq], rfl⟩
      · walk_at "go"
        refine ⟨?_, rfl⟩
        rw [show decide ((x : Int) = (k : Int)) = decide (x = k) from decide_eq_decide.mpr (by omega)]
      · walk_at "go"
        exact ⟨rfl, rfl⟩
      walk_at "dl1"
      refine on_tupLtN ?_
      walk_at "go"
      refine ev_dgetV (ns := kn (s.filter fun x => !decide (x = k))) rfl ?_
      refine ev_var rfl (fun h => nomatch h) ⟨p, kvs, _, rfl, hd, hg k hks, ?_⟩
      walk_at "go"
      refine o2_ixT (tupI_at hkl) ?_
      walk_at "go"
      refine ⟨_, _, 1, rfl, by decide, hf.mono (by decide), hbk.mono (by decide), bt_lit (n := 1) (by decide) (by decide), ?_⟩
      have hmul : FrB (P (s.filter fun x => !decide (x = k)) * mkRat (ss.getD k 0) 1) 1400 := hf.mul (frB_mk (hbk.mono (show 8 ≤ 60 by decide)) (bt_lit (n := 1) (by decide) (by decide)) (by decide)) (by decide)
      refine eva_nil ⟨_, _, _, _, rfl, den_pos _, den_pos _, ha.1.mono (by decide), ha.2.mono (by decide), hmul.1.mono (by decide), hmul.2.mono (by decide), ?_⟩
      rw [Rat.mkRat_self, Rat.mkRat_self]
      refine ⟨rfl, .d (.int (k : Int)), .t (kn (s.filter fun x => !decide (x = k))), ?_⟩
      have e : dueAcc ss (P) s (s.take i) + P (s.filter fun x => !decide (x = k)) * mkRat (ss.getD k 0) 1 = dueAcc ss (P) s (s.take (i + 1)) := by
        unfold dueAcc
        rw [take_one hi, List.foldl_append, Rat.mul_comm, mk_int]; rfl
      rw [e]
      rfl
    · rintro r' m' ⟨rfl, y4, y5, rfl⟩
      have ha := hB.accFr hs hk s.length
      have hp := sumP_pos hs h0 hk.lt
      have hle := sumP_le hs hk
      rw [List.take_length] at ha ⊢
      walk_at "go"
      refine ev_mapTf (xs := s) (f := intN) ?_ (by omega) (fun k => .int (ss.getD k 0)) (fun k m2 hk1 hx => ?_) ?_
      · walk_at "go"
        exact ⟨by rw [tupN_eq], rfl⟩
      · walk_at "go"
        refine o2_ixT (tupI_at (hk.lt k hk1)) ?_
        exact ⟨rfl, rfl⟩
      walk_at "go"
      have e : (s.map fun k => PyData.int (ss.getD k 0)) = (s.map fun k => ss.getD k 0).map PyData.int := by rw [List.map_map]; rfl
      rw [e]
      walk_at "go"
      have es : (s.map fun k => ss.getD k 0).sum = ((sumP ss s).toNat : Int) := by
        have : (s.map fun k => ss.getD k 0).sum = sumP ss s := rfl
        omega
      rw [es]
      refine ⟨_, 1, _, rfl, by omega, ha.mono (by decide), bt_lit (n := 1) (by decide) (by decide), bt_lit (n := 8) (by show _ < 256; omega) (by decide), ?_⟩
      exact q
abbrev s_due_number : Stmt := topS 27
theorem sc_due_number : FnScope ["shares", "paper", "some", "found", "kind", "others", "one"] ["shares", "paper", "some"] (defScope s_due_number) := ⟨rfl, rfl, rfl, by decide +kernel, rfl, by decide +kernel, by decide +kernel⟩
theorem ok_due_number {a : Addr} {fd : FuncData} (F : Fun K "due_number" "due_number" s_due_number a fd) (hm : mg "due_number" = some (.ref a)) (z_sum : mg "sum" = none) (z_tuple : mg "tuple" = none) (k_sum_of : Cl P w K mg base 3 "sum_of" f_sumOf) (k_times_of : Cl P w K mg base 3 "times_of" f_timesOf) (k_sum_part : Cl P w K mg base 1 "sum_part" f_sumPart) :
    Cl P w K mg base 4 "due_number" f_dueG := by
  refine ⟨a, fd, ["shares", "paper", "some"], fn_ok F sc_due_number (fun args m R h => ?_) (fun cdv A outer s H E hr => ⟨_, (pss_cons (ps_set (i := 3) sc_due_number.nd rfl (by first | exact Or.inl rfl | exact Or.inr rfl) (pe_tup (pa_cons (pe_callB (kSum K) (by rfl) z_sum (by decide +kernel) (pa_cons (pv 0) pa_nil)) (pa_cons pe_int pa_nil))))
      (pss_cons (ps_for PassesOwn.never rfl (kiT K (pv 2)) (pg_name (i := 4) sc_due_number.nd rfl (by first | exact Or.inl rfl | exact Or.inr rfl)) (pss_cons (ps_set (i := 5) sc_due_number.nd rfl (by first | exact Or.inl rfl | exact Or.inr rfl) (pe_callTy (kTup K) (by rfl) z_tuple (by decide +kernel) (pa_cons (pe_lc (own := [("one", 6)]) rfl sc_due_number.nd (kiT K (pv 2)) (blkOk_by (own := [("one", 6)]) (N := ["shares", "paper", "some", "found", "kind", "others", "one"]) (sc := defScope s_due_number) (by decide +kernel)) (fun _ _ _ _ _ => (pg_name (i := 6) sc_due_number.nd rfl (by first | exact Or.inl rfl | exact Or.inr rfl))) (fun _ _ _ _ _ => (pts_one (pt_cmpR (kNe K hr) (pv 6) (pv 4) (nomark _)))) (fun _ _ _ _ _ => (pv 6))) pa_nil)))
      (pss_one (ps_set (i := 3) sc_due_number.nd rfl (by first | exact Or.inl rfl | exact Or.inr rfl) (pe_cl k_sum_of hr (by decide) (by rfl) (pa_cons (pv 3) (pa_cons (pe_cl k_times_of hr (by decide) (by rfl) (pa_cons (pe_tup (pa_cons (pe_ix (kIx K) (pv 0) (pv 4) (fun _ _ => rfl)) (pa_cons pe_int pa_nil))) (pa_cons (pe_dget (hu_of hr) (pv 1) (pv 5) (fun _ _ => rfl)) pa_nil))) pa_nil)))))))
      (pss_one (ps_ret (pe_cl k_times_of hr (by decide) (by rfl) (pa_cons (pv 3) (pa_cons (pe_tup (pa_cons pe_int (pa_cons (pe_cl k_sum_part hr (by decide) (by rfl) (pa_cons (pv 0) (pa_cons (pv 2) pa_nil))) pa_nil))) pa_nil))))))), fun args m R h => ?_⟩), hm, F.kp, F.binds (ps := ["shares", "paper", "some"]) fun _ _ _ _ _ _ us hl => match us, hl with | [_, _, _], _ => rfl⟩
  ·
    obtain ⟨_, _, _, _, _, rfl, _⟩ := h; rfl
  ·
    obtain ⟨ss, s, p, kvs, P, rfl, hs, hk, h0, hd, hB, hg, q⟩ := h
    have hsl := hk.len
    have hfew := hs.few
    have hsum := shares_sum hs
    walk_at "go"
    refine w_forTf (xs := s) (f := intN) ?_ (fun i r' m' => m' = m ∧ ∃ y4 y5, r' = [.d (tupI ss), .v (.ref p), .d (tupN s), .d (frac (dueAcc ss (P) s (s.take i))), y4, y5, .any]) ⟨rfl, _, _, rfl⟩ ?_ ?_
    · walk_at "go"
      exact ⟨by rw [tupN_eq], rfl⟩
    · rintro i k r' m' hi ⟨rfl, y4, y5, rfl⟩
      have hks := List.mem_of_getElem? hi
      have hkl := hk.lt k hks
      have hf := hB.fr hs (kinds_without hk k)
      have ha := hB.accFr hs hk i
      have hb9 := getD_bounds hs k
      have hw : FrB (((ss.getD k 0 : Int)) : Rat) 8 := ⟨bt_lit (n := 8) (by show (ss.getD k 0).natAbs < 256; omega) (by decide), bt_lit (n := 1) (by show 1 < 2; decide) (by decide)⟩
      walk_at "go"
      refine ev_filTf (xs := s) (f := intN) ?_ (by omega) (fun x => !decide (x = k)) intN (fun x m2 hx hxx => ?_) (fun x m2 hx hxx hq => ?_) ?_
      · walk_at "go"
        exact ⟨by rw [tupN_eq], rfl⟩
      · walk_at "go"
        refine ⟨?_, rfl⟩
        rw [show decide ((x : Int) = (k : Int)) = decide (x = k) from decide_eq_decide.mpr (by omega)]
      · walk_at "go"
        exact ⟨rfl, rfl⟩
      walk_at "dl1"
      refine on_tupLtN ?_
      walk_at "go"
      refine o2_ixT (tupI_at hkl) ?_
      walk_at "go"
      refine ev_dgetV (ns := kn (s.filter fun x => !decide (x = k))) rfl ?_
      refine ev_var rfl (fun h => nomatch h) ⟨p, kvs, _, rfl, hd, hg k hks, ?_⟩
      walk_at "go"
      refine ⟨((ss.getD k 0 : Int) : Rat), _, rfl, hw.mono (by decide), hf.mono (by decide), ?_⟩
      walk_at "go"
      refine ⟨ha.mono (by decide), (hw.mul hf (c := 1400) (by decide)).mono (by decide), ?_⟩
      refine ⟨rfl, .d (.int (k : Int)), .t (kn (s.filter fun x => !decide (x = k))), ?_⟩
      have e : dueAcc ss (P) s (s.take (i + 1)) = dueAcc ss (P) s (s.take i) + ((ss.getD k 0 : Int) : Rat) * P (s.filter fun x => !decide (x = k)) := by
        unfold dueAcc
        rw [take_one hi, List.foldl_append]; rfl
      rw [e]
      rfl
    · rintro r' m' ⟨rfl, y4, y5, rfl⟩
      have ha := hB.accFr hs hk s.length
      have hp := sumP_pos hs h0 hk.lt
      have hle := sumP_le hs hk
      rw [List.take_length] at ha ⊢
      walk_at "go"
      refine ⟨by omega, hk.lt, ?_⟩
      walk_at "go"
      have ho : FrB (mkRat 1 (sumP ss s).toNat) 8 := frB_mk (bt_lit (n := 1) (by decide) (by decide)) (bt_lit (n := 8) (by show _ < 256; omega) (by decide)) (by omega)
      refine ⟨_, mkRat 1 (sumP ss s).toNat, ?_, ha.mono (by decide), ho.mono (by decide), ?_⟩
      · rw [frac_unit (by omega), show (((sumP ss s).toNat : Nat) : Int) = sumP ss s by omega]
      exact q
abbrev s_is_plan : Stmt := topS 32
theorem sc_is_plan : FnScope ["thing", "shares"] ["thing", "shares"] (defScope s_is_plan) := ⟨rfl, rfl, rfl, by decide +kernel, rfl, by decide +kernel, by decide +kernel⟩
theorem ok_is_plan {a : Addr} {fd : FuncData} (F : Fun K "is_plan" "is_plan" s_is_plan a fd) (hm : mg "is_plan" = some (.ref a)) (k_need_shares : Cl P w K mg base 3 "need_shares" f_needShares) (k_are_plans : Cl P w K mg base 3 "are_plans" (f_arePlansO K P w)) :
    Cl P w K mg base 4 "is_plan" (f_arePlansO K P w) := by
  refine ⟨a, fd, ["thing", "shares"], fn_ok F sc_is_plan (fun args m R h => ?_) (fun cdv A outer s H E hr => ⟨_, (pss_cons (ps_expr (pe_cl k_need_shares hr (by decide) (by rfl) (pa_cons (pv 1) pa_nil)))
      (pss_one (ps_ret (pe_cl k_are_plans hr (by decide) (by rfl) (pa_cons (pv 0) (pa_cons (pv 1) pa_nil)))))), fun args m R h => ?_⟩), hm, F.kp, F.binds (ps := ["thing", "shares"]) fun _ _ _ _ _ _ us hl => match us, hl with | [_, _], _ => rfl⟩
  ·
    obtain ⟨_, _, _, rfl, _⟩ := h; rfl
  ·
    obtain ⟨y, ss, c, rfl, hs, hd, q⟩ := h
    walk_at "go"
    refine ⟨isShares_of hs, ?_⟩
    refine w_ret (ev_call (eva_cons (ev_var rfl hd.ne (eva_cons (ev_var rfl (fun h => nomatch h) (eva_nil ?_))))))
    exact ⟨y, ss, c, rfl, hs, hd, q⟩
abbrev s_need_price : Stmt := topS 33
theorem sc_need_price : FnScope ["shares", "price"] ["shares", "price"] (defScope s_need_price) := ⟨rfl, rfl, rfl, by decide +kernel, rfl, by decide +kernel, by decide +kernel⟩
theorem ok_need_price {a : Addr} {fd : FuncData} (F : Fun K "need_price" "need_price" s_need_price a fd) (hm : mg "need_price" = some (.ref a)) (c_MOST_PRICE : ∃ t, mg "MOST_PRICE" = some (.int 99 t)) (k_need_shares : Cl P w K mg base 3 "need_shares" f_needShares) (k_need_number : Cl P w K mg base 2 "need_number" f_needNumber) :
    Cl P w K mg base 4 "need_price" f_needPrice := by
  refine ⟨a, fd, ["shares", "price"], fn_ok F sc_need_price (fun args m R h => ?_) (fun cdv A outer s H E hr => ⟨_, (pss_cons (ps_expr (pe_cl k_need_shares hr (by decide) (by rfl) (pa_cons (pv 0) pa_nil)))
      (pss_one (ps_expr (pe_cl k_need_number hr (by decide) (by rfl) (pa_cons (pv 1) (pa_cons pe_int (pa_cons (pe_gi c_MOST_PRICE (by rfl)) pa_nil))))))), fun args m R h => ?_⟩), hm, F.kp, F.binds (ps := ["shares", "price"]) fun _ _ _ _ _ _ us hl => match us, hl with | [_, _], _ => rfl⟩
  ·
    obtain ⟨_, _, rfl, _⟩ := h; rfl
  ·
    obtain ⟨ss, c, rfl, hs, hc, q⟩ := h
    walk_at "go"
    refine ⟨isShares_of hs, ?_⟩
    walk_at "go"
    refine ⟨_, _, _, rfl, by omega, by omega, ?_⟩
    exact q
abbrev s_plan_cost : Stmt := topS 34
theorem sc_plan_cost : FnScope ["shares", "price", "plan", "found", "some"] ["shares", "price", "plan"] (defScope s_plan_cost) := ⟨rfl, rfl, rfl, by decide +kernel, rfl, by decide +kernel, by decide +kernel⟩
theorem fok_plan_cost {a : Addr} {fd : FuncData} (F : Fun K "plan_cost" "plan_cost" s_plan_cost a fd) (hm : mg "plan_cost" = some (.ref a)) (z_len : mg "len" = none) (z_range : mg "range" = none) (z_tuple : mg "tuple" = none) (c_NOUGHT : ∃ a, mg "NOUGHT" = some (.ref a) ∧ ∀ G, Rp K G (.tuple [.int 0, .int 1]) (.ref a)) (k_need_price : Cl P w K mg base 4 "need_price" f_needPrice) (k_are_plans : Cl P w K mg base 3 "are_plans" (f_arePlansO K P w)) (k_rising_some : Cl P w K mg base 2 "rising_some" f_rising) (k_due_number : Cl P w K mg base 4 "due_number" f_dueG) :
    FnOk P w K mg base CX0 5 a fd ["shares", "price", "plan"] (spD K f_planCostT) := by
  obtain ⟨a_NOUGHT, h_NOUGHT, d_NOUGHT⟩ := c_NOUGHT
  refine fn_ok F sc_plan_cost (fun args m R h => ?_) (fun cdv A outer s H E hr => ⟨_, (pss_cons (ps_expr (pe_cl k_need_price hr (by decide) (by rfl) (pa_cons (pv 0) (pa_cons (pv 1) pa_nil))))
      (pss_cons (ps_if (pt_not (pt_val (pe_cl k_are_plans hr (by decide) (by rfl) (pa_cons (pv 2) (pa_cons (pv 0) pa_nil))))) (pss_one ps_never) pss_nil)
      (pss_cons (ps_set (i := 3) sc_plan_cost.nd rfl (by first | exact Or.inl rfl | exact Or.inr rfl) (pe_disp1 hr (pe_tup pa_nil) (pe_glob (v := V.ref a_NOUGHT) (by rfl) h_NOUGHT rfl)))
      (pss_cons (ps_for PassesOwn.never rfl (kiL K (pe_cl k_rising_some hr (by decide) (by rfl) (pa_cons (pv 0) pa_nil))) (pg_name (i := 4) sc_plan_cost.nd rfl (by first | exact Or.inl rfl | exact Or.inr rfl)) (pss_one (ps_if (pt_cmpR (kEq K hr) (pe_dget (hu_of hr) (pv 2) (pv 4) (fun _ _ => rfl)) pe_str (nomark _)) (pss_one (ps_dput (hu_of hr) (pv 3) (pv 4) (pe_tup (pa_cons (pe_op (kMul K) (pv 1) (pe_callB (kLen K) (by rfl) z_len (by decide +kernel) (pa_cons (pv 4) pa_nil))) (pa_cons pe_int pa_nil))) rfl)) (pss_one (ps_dput (hu_of hr) (pv 3) (pv 4) (pe_cl k_due_number hr (by decide) (by rfl) (pa_cons (pv 0) (pa_cons (pv 3) (pa_cons (pv 4) pa_nil)))) rfl)))))
      (pss_one (ps_ret (pe_dget (hu_of hr) (pv 3) (pe_tupRg rfl (by rfl) z_tuple (prg_1 (by rfl) z_range (pe_callB (kLen K) (by rfl) z_len (by decide +kernel) (pa_cons (pv 0) pa_nil)))) (fun _ _ => rfl)))))))), fun args m R h => ?_⟩)
  ·
    obtain ⟨_, _, _, _, rfl, _⟩ := h; rfl
  ·
    obtain ⟨y, ss, c, kds, rfl, hs, hc, hat, hsm, hpl, q⟩ := h
    obtain ⟨d, rfl, hm, hnd, hl, hit⟩ := id hat
    have hfew := hs.few
    have h1 := hs.pos
    obtain ⟨o1, o2, o3, o4, o5, o6⟩ := rsX_facts ⟨ss.length, by omega⟩
    have o4 : (rsX ss.length).length ≤ 31 := o4
    have o6 : ∀ s ∈ rsX ss.length, s ∈ allS ss.length ∧ s ≠ [] := o6
    have hah : ∀ i s, (rsX ss.length)[i]? = some s → (∀ k ∈ s, wo s k ∈ [] :: (rsX ss.length).take i) ∧ s ∉ [] :: (rsX ss.length).take i := fun i s hi => rsX_ahead ⟨ss.length, by omega⟩ ⟨i, by have := (List.getElem?_eq_some_iff.mp hi).1; omega⟩ s hi
    have hB := plan_PB hs hc (wordB kds)
    have hgw : ∀ s ∈ rsX ss.length, getV (dI (dV kds)) (kI (kn s)) = some (.d (.str (told (wordB kds s)))) := fun s h => by
      rw [getV_dV, plan_all (by omega) hnd hpl h]; rfl
    walk_at "go"
    refine ⟨hs, hc, ?_⟩
    walk_at "go"
    refine ⟨_, ss, _, rfl, hs, Or.inl ⟨.dct kds, hat, (fun _ e => nomatch e), hsm, rfl⟩, ?_⟩
    rw [hpl]
    walk_at "go"
    refine br_f rfl (w_next ?_)
    refine w_seq (w_asg (ev_disp1 fun p hp => ev_tupT ?_))
    walk_at "dl1"
    refine ⟨[], rfl, by decide, _, rfl, ev_cG d_NOUGHT ⟨put_same, ?_⟩⟩
    rw [put_put]
    have hdp : d ≠ p := fun e => by rw [← e, hm] at hp; cases hp
    refine w_seq (w_forLt (nss := (rsX ss.length).map kn) ?_ (fun i r' m' => m' = put m p (.dT (tabT (planT ss c (wordB kds)) ([] :: (rsX ss.length).take i))) ∧ ∃ y, r' = [.d (tupI ss), .d (.int (c : Int)), .v (.ref d), .v (.ref p), y]) ⟨rfl, _, rfl⟩ ?_ ?_)
    · walk_at "go"
      refine ⟨hs, ?_⟩
      exact ⟨rfl, rfl⟩
    · rintro i ks r' m' hi ⟨rfl, y, rfl⟩
      obtain ⟨s, hsi, rfl⟩ : ∃ s, (rsX ss.length)[i]? = some s ∧ ks = kn s := by
        rw [List.getElem?_map] at hi
        cases hx : (rsX ss.length)[i]? with
        | none => rw [hx] at hi; cases hi
        | some s => rw [hx] at hi; cases hi; exact ⟨s, rfl, rfl⟩
      obtain ⟨hsa, h0⟩ := o6 s (List.mem_of_getElem? hsi)
      have hk := allS_kinds hsa
      have hkl := hk.len
      obtain ⟨ha1, ha2⟩ := hah i s hsi
      have hgd : put m p (.dT (tabT (planT ss c (wordB kds)) ([] :: (rsX ss.length).take i))) d = some (.dT (dI (dV kds))) := by rw [put_ne hdp]; exact hm
      refine w_if (evt_test (ev_op (ev_dgetV (ns := kn s) rfl (ev_var rfl (fun h => nomatch h) ⟨d, _, _, rfl, Or.inl hgd, hgw s (List.mem_of_getElem? hsi), ?_⟩))))
      walk_at "go"
      rw [told_buy]
      cases hbs : wordB kds s with
      | true =>
        refine br_t rfl ?_
        refine w_dputV (ns := kn s) rfl ?_
        walk_at "go"
        refine o2_mulI (cmul_small (by omega) (by omega)) ?_
        walk_at "go"
        refine ⟨p, _, rfl, put_same, by rw [tab_len, List.length_cons, List.length_take]; omega, ?_⟩
        have e : (.tuple [.int ((c : Int) * (s.length : Int)), .int 1] : PyData) = frac (planT ss c (wordB kds) s) := by
          rw [plan_step ss c (wordB kds) hk.up h0, hbs, if_pos rfl]
          unfold priceQ
          rw [frac_int, Int.natCast_mul]
        rw [put_put, e, putV_tab ha2, List.cons_append, ← take_one hsi]
        exact ⟨rfl, _, rfl⟩
      | false =>
        refine br_f rfl ?_
        refine w_dputV (ns := kn s) rfl ?_
        walk_at "go"
        refine ⟨ss, s, p, _, planT ss c (wordB kds), rfl, hs, hk, h0, Or.inl put_same, hB, fun k hks => getV_tab (ha1 k hks), ?_⟩
        refine ev_var rfl (fun h => nomatch h) ⟨p, _, rfl, put_same, by rw [tab_len, List.length_cons, List.length_take]; omega, ?_⟩
        have e : dueT ss (planT ss c (wordB kds)) s = planT ss c (wordB kds) s := by
          rw [plan_step ss c (wordB kds) hk.up h0, hbs, if_neg (by decide)]
        rw [put_put, e, putV_tab ha2, List.cons_append, ← take_one hsi]
        exact ⟨rfl, _, rfl⟩
    · rintro r' m' ⟨rfl, y, rfl⟩
      rw [List.length_map, List.take_length]
      refine w_ret (ev_forget (ev_dget (ev_var rfl (fun h => nomatch h) ⟨p, rfl, ?_⟩)))
      refine ev_tupR1t (n := ss.length) (by omega) ?_
      walk_at "go"
      exact ⟨rfl, _, _, _, rfl, Or.inl put_same, getV_tab (s := List.range ss.length) (List.mem_cons_of_mem _ (rsX_range ⟨ss.length, by omega⟩ h1)), m, put_less hp, q⟩
theorem ok_plan_cost {a : Addr} {fd : FuncData} (F : Fun K "plan_cost" "plan_cost" s_plan_cost a fd) (hm : mg "plan_cost" = some (.ref a)) (o : FnOk P w K mg base CX0 5 a fd ["shares", "price", "plan"] (spD K f_planCostT)) : Cl P w K mg base 5 "plan_cost" f_planCostT := ⟨a, fd, ["shares", "price", "plan"], o, hm, F.kp, F.binds (ps := ["shares", "price", "plan"]) fun _ _ _ _ _ _ us hl => match us, hl with | [_, _, _], _ => rfl⟩
theorem okx_plan_cost {a : Addr} {fd : FuncData} (F : Fun K "plan_cost" "plan_cost" s_plan_cost a fd) (hm : mg "plan_cost" = some (.ref a)) (z_len : mg "len" = none) (z_range : mg "range" = none) (z_tuple : mg "tuple" = none) (c_NOUGHT : ∃ a, mg "NOUGHT" = some (.ref a) ∧ ∀ G, Rp K G (.tuple [.int 0, .int 1]) (.ref a)) (k_need_price : Cl P w K mg base 4 "need_price" f_needPrice) (k_are_plans : Cl P w K mg base 3 "are_plans" (f_arePlansO K P w)) (k_rising_some : Cl P w K mg base 2 "rising_some" f_rising) (k_due_number : Cl P w K mg base 4 "due_number" f_dueG) (t_NoPlan : RfT K mg "NoPlan" c_NoPlan) (o : FnOk P w K mg base CX0 5 a fd ["shares", "price", "plan"] (spD K f_planCostT)) :
    ClX P w K mg base 5 "plan_cost" (orX f_planCostT (fnNoCost K P w [c_NoShares, c_NoKind, c_NoNumber, c_NoNeeds, c_TooMany, c_NoPlan, c_NoLine, c_NoText])) := by
  obtain ⟨a_NOUGHT, h_NOUGHT, d_NOUGHT⟩ := c_NOUGHT
  refine ⟨a, fd, ["shares", "price", "plan"], fnOk_or o (fnX_ok F sc_plan_cost (fun args m R X h => ?_) (fun cdv A outer s H E hr => ⟨_, (pss_cons (ps_expr (pe_cl k_need_price hr (by decide) (by rfl) (pa_cons (pv 0) (pa_cons (pv 1) pa_nil))))
      (pss_cons (ps_if (pt_not (pt_val (pe_cl k_are_plans hr (by decide) (by rfl) (pa_cons (pv 2) (pa_cons (pv 0) pa_nil))))) (pss_one (ps_rf t_NoPlan (L2N.takes_of rfl rfl rfl rfl) (by rfl))) pss_nil)
      (PSs.nox (pss_cons (ps_set (i := 3) sc_plan_cost.nd rfl (by first | exact Or.inl rfl | exact Or.inr rfl) (pe_disp1 hr (pe_tup pa_nil) (pe_glob (v := V.ref a_NOUGHT) (by rfl) h_NOUGHT rfl)))
      (pss_cons (ps_for PassesOwn.never rfl (kiL K (pe_cl k_rising_some hr (by decide) (by rfl) (pa_cons (pv 0) pa_nil))) (pg_name (i := 4) sc_plan_cost.nd rfl (by first | exact Or.inl rfl | exact Or.inr rfl)) (pss_one (ps_if (pt_cmpR (kEq K hr) (pe_dget (hu_of hr) (pv 2) (pv 4) (fun _ _ => rfl)) pe_str (nomark _)) (pss_one (ps_dput (hu_of hr) (pv 3) (pv 4) (pe_tup (pa_cons (pe_op (kMul K) (pv 1) (pe_callB (kLen K) (by rfl) z_len (by decide +kernel) (pa_cons (pv 4) pa_nil))) (pa_cons pe_int pa_nil))) rfl)) (pss_one (ps_dput (hu_of hr) (pv 3) (pv 4) (pe_cl k_due_number hr (by decide) (by rfl) (pa_cons (pv 0) (pa_cons (pv 3) (pa_cons (pv 4) pa_nil)))) rfl)))))
      (pss_one (ps_ret (pe_dget (hu_of hr) (pv 3) (pe_tupRg rfl (by rfl) z_tuple (prg_1 (by rfl) z_range (pe_callB (kLen K) (by rfl) z_len (by decide +kernel) (pa_cons (pv 0) pa_nil)))) (fun _ _ => rfl))))))))), fun args m R X h G0 hT => ?_⟩)), hm, F.kp, F.binds (ps := ["shares", "price", "plan"]) fun _ _ _ _ _ _ us hl => match us, hl with | [_, _, _], _ => rfl⟩
  ·
    obtain ⟨_, _, _, rfl, _⟩ := h; rfl
  ·
    obtain ⟨y, ss, c, rfl, hs, hc, hth, hX⟩ := h
    refine wx_seq (.of (w_drop (ev_call ?_)))
    walk_at "go"
    refine ⟨hs, hc, ?_⟩
    refine wx_seq (wx_if (evt_not (evt_B (ev_call (eva_cons ?_)))))
    refine ev_var rfl hth.ne ?_
    refine eva_cons (ev_var rfl (fun h => nomatch h) ?_)
    refine eva_nil ⟨y, ss, false, rfl, hs, hth, ?_⟩
    refine ⟨_, rfl, br_t rfl ?_⟩
    exact wx_raise (hT _) hX
abbrev s__law_told : Stmt := topS 51
theorem sc__law_told : FnScope ["_law_shares_here", "_law_price", "_law_plan_here", "_law_e", "_law_place"] ["_law_shares_here", "_law_price", "_law_plan_here"] (defScope s__law_told) := ⟨rfl, rfl, rfl, by decide +kernel, rfl, by decide +kernel, by decide +kernel⟩
theorem ok__law_told {a : Addr} {fd : FuncData} (F : Fun K "_law_told" "_law_told" s__law_told a fd) (hm : mg "_law_told" = some (.ref a)) (z_range : mg "range" = none) (k__law_only : ClP P w K mg base 2 "_law_only" (okE K [c_NoShares, c_NoKind, c_NoNumber, c_NoNeeds, c_TooMany, c_NoPlan, c_NoLine, c_NoText] c_GatherError) (f_lawOnly K [c_NoShares, c_NoKind, c_NoNumber, c_NoNeeds, c_TooMany, c_NoPlan, c_NoLine, c_NoText] c_GatherError)) (q_plan_cost : ClX P w K mg base 5 "plan_cost" (orX f_planCostT (fnNoCost K P w [c_NoShares, c_NoKind, c_NoNumber, c_NoNeeds, c_TooMany, c_NoPlan, c_NoLine, c_NoText]))) (g_GatherError : mg "GatherError" = some (.ref c_GatherError)) (e_NoPlan : XT K [c_NoShares, c_NoKind, c_NoNumber, c_NoNeeds, c_TooMany, c_NoPlan, c_NoLine, c_NoText] c_GatherError 5 c_NoPlan) :
    Cl P w K mg base 6 "_law_told" (f_told61 K P w) := by
  refine ⟨a, fd, ["_law_shares_here", "_law_price", "_law_plan_here"], fn_ok F sc__law_told (fun args m R h => ?_) (fun cdv A outer s H E hr => ⟨_, (pss_one (ps_tryC (i := 3) rfl rfl sc__law_told.nd rfl rfl rfl ⟨by rfl, by decide, .inl g_GatherError⟩ (fun W pn xe tk _ => (pss_one (ps_ret (pe_clX q_plan_cost hr (by decide) (by rfl) tk (pa_cons (pv 0) (pa_cons (pv 1) (pa_cons (pv 2) pa_nil))))))) (fun a oe cls d pn hz hf => pss_noD fun hd => (pss_one (ps_ret (pe_op (kAdd K) (pe_lst (pa_cons pe_str pa_nil)) (pe_lcH (own := [("_law_place", 4)]) (Sees.hot (sees_suite hz hf hd)) sc__law_told.nd (L2H.pi_range1H (by rfl) z_range (pa_cons pe_int pa_nil)) (blkOk_by (own := [("_law_place", 4)]) (N := ["_law_shares_here", "_law_price", "_law_plan_here", "_law_e", "_law_place"]) (sc := defScope s__law_told) (by decide +kernel)) (fun _ _ _ _ _ => (pg_name (i := 4) sc__law_told.nd rfl (by first | exact Or.inl rfl | exact Or.inr rfl))) (fun _ _ _ _ _ => (pts_one (pt_val (pe_clP k__law_only (roomM hr) (by decide) (sees_suite hz hf hd) (by rfl) (pa_cons (pv 3) (pa_cons (pv 4) pa_nil)))))) (fun _ _ _ _ _ => (pv 4))))))))), fun args m R h => ?_⟩), hm, F.kp, F.binds (ps := ["_law_shares_here", "_law_price", "_law_plan_here"]) fun _ _ _ _ _ _ us hl => match us, hl with | [_, _, _], _ => rfl⟩
  ·
    obtain ⟨_, _, _, rfl, _⟩ := h; rfl
  ·
    obtain ⟨y, ss, c, rfl, hs, hc, q⟩ := h
    have hy : y ≠ .any := by
      rcases q with ⟨kds, hat, _⟩ | ⟨hth, _⟩
      · exact hat.ne
      · exact hth.ne
    refine w_tryC (fun C m' => m' = m ∧ C = c_NoPlan ∧ R (.d (refused 5)) m) (fun W G0 hT => ?_) (fun C m' hC => ?_)
    · refine wx_ret (evx_call hT ?_)
      refine eva_cons (ev_var rfl (fun h => nomatch h) ?_)
      refine eva_cons (ev_var rfl (fun h => nomatch h) ?_)
      refine eva_cons (ev_var rfl hy ?_)
      refine eva_nil ?_
      rcases q with ⟨kds, hat, hsm, hpl, q⟩ | ⟨hth, q⟩
      · exact Or.inl ⟨y, ss, c, kds, rfl, hs, hc, hat, hsm, hpl, q⟩
      · exact Or.inr ⟨y, ss, c, rfl, hs, hc, hth, rfl, rfl, q⟩
    · obtain ⟨rfl, rfl, q⟩ := hC
      refine ⟨e_NoPlan.em, fun a => w_noD (w_ret (ev_op ?_))⟩
      refine ev_lstD ?_
      walk_at "go"
      refine ev_places e_NoPlan (by decide) rfl (by show 4 < 5; decide) (by decide) ?_
      exact o2_addL (by show 1 + 1 ≤ 100000; decide) q
abbrev s_law : Stmt := topS 52
theorem sc_law : FnScope ["_law_script", "_law_k", "_law_box_here", "_law_shares_here", "_law_price", "_law_odd_here", "_law_plan_here", "_law_things", "_law_key", "_law_word", "_law_swapped", "_law_thing", "_law_kept", "_law_found", "_law_due_here", "_law_costs", "_law_some", "_law_lap"] ["_law_script"] (defScope s_law) := ⟨rfl, rfl, rfl, by decide +kernel, rfl, by decide +kernel, by decide +kernel⟩
theorem ok_law {a : Addr} {fd : FuncData} (F : Fun K "law" "law" s_law a fd) (z_range : mg "range" = none) (z_max : mg "max" = none) (z_min : mg "min" = none) (z_len : mg "len" = none) (z_dict : mg "dict" = none) (z_repr : mg "repr" = none) (z_isinstance : mg "isinstance" = none) (z_bool : mg "bool" = none) (z_tuple : mg "tuple" = none) (k__law_box : Cl P w K mg base 1 "_law_box" f_box2) (k__law_shares : Cl P w K mg base 2 "_law_shares" f_shares2) (k__law_take : Cl P w K mg base 1 "_law_take" f_take) (k__law_odd : Cl P w K mg base 2 "_law_odd" f_oddN) (k__law_plan : Cl P w K mg base 2 "_law_plan" f_lawPlan61) (k__law_bent : Cl P w K mg base 2 "_law_bent" (f_bent61 K P w)) (k_is_plan : Cl P w K mg base 4 "is_plan" (f_arePlansO K P w)) (k__law_is : ClG P w K mg base 2 "_law_is" (f_arePlansO K P w)) (k__law_sets : Cl P w K mg base 1 "_law_sets" f_lawSetsX) (k__law_due : Cl P w K mg base 3 "_law_due" f_dueG) (k__law_told : Cl P w K mg base 6 "_law_told" (f_told61 K P w)) (hsy : SysAt base) :
    FnG P w K mg base 7 a fd ["_law_script"] (spD K f_law) := by
  refine fnG_ok F sc_law (fun args m R h => ?_) (fun cdv A outer s H E hg hr => ⟨_, (pss_cons (ps_for PassesOwn.never rfl (pi_range1 (by rfl) z_range (pa_cons (pe_callB (cMax rfl) (by rfl) z_max (by decide +kernel) (pa_cons pe_int (pa_cons (pe_callB (cMin rfl) (by rfl) z_min (by decide +kernel) (pa_cons (pe_callB (kLen K) (by rfl) z_len (by decide +kernel) (pa_cons (pv 0) pa_nil)) (pa_cons pe_int pa_nil))) pa_nil))) pa_nil)) (pg_name (i := 1) sc_law.nd rfl (by first | exact Or.inl rfl | exact Or.inr rfl)) (pss_cons (ps_set (i := 2) sc_law.nd rfl (by first | exact Or.inl rfl | exact Or.inr rfl) (pe_cl k__law_box hr (by decide) (by rfl) (pa_cons (pv 0) (pa_cons (pv 1) pa_nil))))
      (pss_cons (ps_set (i := 3) sc_law.nd rfl (by first | exact Or.inl rfl | exact Or.inr rfl) (pe_cl k__law_shares hr (by decide) (by rfl) (pa_cons (pv 2) (pa_cons pe_int pa_nil))))
      (pss_cons (ps_set (i := 4) sc_law.nd rfl (by first | exact Or.inl rfl | exact Or.inr rfl) (pe_ix (kIx K) (pe_lst (pa_cons (pe_cl k__law_take hr (by decide) (by rfl) (pa_cons (pv 2) (pa_cons pe_int pa_nil))) (pa_cons (pe_cl k__law_take hr (by decide) (by rfl) (pa_cons (pv 2) (pa_cons pe_int pa_nil))) (pa_cons pe_int (pa_cons pe_int pa_nil))))) (pe_cl k__law_take hr (by decide) (by rfl) (pa_cons (pv 2) (pa_cons pe_int pa_nil))) (fun _ _ => rfl)))
      (pss_cons (ps_set (i := 5) sc_law.nd rfl (by first | exact Or.inl rfl | exact Or.inr rfl) (pe_cl k__law_odd hr (by decide) (by rfl) (pa_cons (pv 2) pa_nil)))
      (pss_cons (ps_set (i := 6) sc_law.nd rfl (by first | exact Or.inl rfl | exact Or.inr rfl) (pe_cl k__law_plan hr (by decide) (by rfl) (pa_cons (pv 2) (pa_cons (pv 3) pa_nil))))
      (pss_cons (ps_set (i := 7) sc_law.nd rfl (by first | exact Or.inl rfl | exact Or.inr rfl) (pe_lst (pa_cons (pv 6) (pa_cons (pv 5) (pa_cons pe_dnewT pa_nil)))))
      (pss_cons (ps_for PassesOwn.never rfl (kiL K (pe_lst (pa_cons (pe_tup (pa_cons (pe_tup pa_nil) (pa_cons pe_str pa_nil))) (pa_cons (pe_tup (pa_cons (pe_tup (pa_cons pe_int (pa_cons pe_int pa_nil))) (pa_cons pe_str pa_nil))) (pa_cons (pe_tup (pa_cons (pe_tup (pa_cons pe_int pa_nil)) (pa_cons pe_str pa_nil))) (pa_cons (pe_tup (pa_cons (pe_tup (pa_cons pe_int pa_nil)) (pa_cons pe_str pa_nil))) (pa_cons (pe_tup (pa_cons (pe_tup (pa_cons pe_int pa_nil)) (pa_cons pe_str pa_nil))) pa_nil))))))) (kgT K (pg_tup (n := 2) rfl (pgs_cons (pg_name (i := 8) sc_law.nd rfl (by first | exact Or.inl rfl | exact Or.inr rfl)) (pgs_cons (pg_name (i := 9) sc_law.nd rfl (by first | exact Or.inl rfl | exact Or.inr rfl)) pgs_nil)))) (pss_cons (ps_set (i := 10) sc_law.nd rfl (by first | exact Or.inl rfl | exact Or.inr rfl) (pe_callTy (kDictC hr) (by rfl) z_dict (by decide +kernel) (pa_cons (pv 6) pa_nil)))
      (pss_cons (ps_expr (kPop1T K (pe_bm PySem.F.plainAttrs_dict PySem.F.slot_dict_pop PySem.F.type_dict_pop (mt_pop1T (hu_of hr)) (pv 10) (pa_cons (pe_tup (pa_cons pe_int pa_nil)) pa_nil))))
      (pss_cons (ps_dput (hu_of hr) (pv 10) (pv 8) (pv 9) rfl)
      (pss_one (ps_expr (kBM K (pe_bm PySem.F.plainAttrs_list PySem.F.slot_list_append PySem.F.type_list_append mt_append (pv 7) (pa_cons (pv 10) pa_nil)))))))))
      (pss_one (ps_for PassesOwn.never rfl (kiL K (pe_op (kAdd K) (pv 7) (pe_lc (own := [("_law_lap", 17)]) rfl sc_law.nd (pi_range1 (by rfl) z_range (pa_cons pe_int pa_nil)) (blkOk_by (own := [("_law_lap", 17)]) (N := ["_law_script", "_law_k", "_law_box_here", "_law_shares_here", "_law_price", "_law_odd_here", "_law_plan_here", "_law_things", "_law_key", "_law_word", "_law_swapped", "_law_thing", "_law_kept", "_law_found", "_law_due_here", "_law_costs", "_law_some", "_law_lap"]) (sc := defScope s_law) (by decide +kernel)) (fun _ _ _ _ _ => (pg_name (i := 17) sc_law.nd rfl (by first | exact Or.inl rfl | exact Or.inr rfl))) (fun _ _ _ _ _ => pts_nil) (fun _ _ _ _ _ => (pe_cl k__law_bent hr (by decide) (by rfl) (pa_cons (pv 2) (pa_cons (pv 6) (pa_cons (pv 5) pa_nil)))))))) (pg_name (i := 11) sc_law.nd rfl (by first | exact Or.inl rfl | exact Or.inr rfl)) (pss_cons (ps_set (i := 12) sc_law.nd rfl (by first | exact Or.inl rfl | exact Or.inr rfl) (pe_callB (kReprO K P w hr hg hsy) (by rfl) z_repr (by decide +kernel) (pa_cons (pv 11) pa_nil)))
      (pss_cons (ps_set (i := 13) sc_law.nd rfl (by first | exact Or.inl rfl | exact Or.inr rfl) (pe_cl k_is_plan hr (by decide) (by rfl) (pa_cons (pv 11) (pa_cons (pv 3) pa_nil))))
      (pss_cons (ps_if (PW.pt (pw_or (pt_not (pt_val (pe_callB (kIsi K) (by rfl) z_isinstance (by decide +kernel) (pa_cons (pv 13) (pa_cons (pe_bltn (v := .ty "bool") (by rfl) z_bool (by decide +kernel) rfl) pa_nil))))) (pw_or1 (pt_cmpR (kNe K hr) (pv 13) (pe_clG k__law_is hr hg (by decide) (by rfl) (pa_cons (pv 11) (pa_cons (pv 3) pa_nil))) (nomark _))))) (pss_one (ps_ret pe_bl)) pss_nil)
      (pss_cons (ps_set (i := 14) sc_law.nd rfl (by first | exact Or.inl rfl | exact Or.inr rfl) (pe_lst (pa_cons pe_str (pa_cons pe_int pa_nil))))
      (pss_cons (ps_if (pt_val (pv 13)) (pss_cons (ps_set (i := 15) sc_law.nd rfl (by first | exact Or.inl rfl | exact Or.inr rfl) (pe_disp1 hr (pe_tup pa_nil) (pe_tup (pa_cons pe_int (pa_cons pe_int pa_nil)))))
      (pss_cons (ps_for PassesOwn.never rfl (kiL K (pe_slice (kSlL K) (pe_cl k__law_sets hr (by decide) (by rfl) (pa_cons (pe_callB (kLen K) (by rfl) z_len (by decide +kernel) (pa_cons (pv 3) pa_nil)) pa_nil)) (po_some pe_int) po_none)) (pg_name (i := 16) sc_law.nd rfl (by first | exact Or.inl rfl | exact Or.inr rfl)) (pss_cons (ps_dput (hu_of hr) (pv 15) (pv 16) (pe_tup (pa_cons (pe_op (kMul K) (pv 4) (pe_callB (kLen K) (by rfl) z_len (by decide +kernel) (pa_cons (pv 16) pa_nil))) (pa_cons pe_int pa_nil))) rfl)
      (pss_one (ps_if (pt_cmpR (kEq K hr) (pe_or (pe_dget (hu_of hr) (pv 11) (pv 16) (fun _ _ => rfl)) (kOGet P w hr (pv 11) (pv 16) (fun _ _ => rfl))) pe_str (nomark _)) (pss_one (ps_dput (hu_of hr) (pv 15) (pv 16) (pe_cl k__law_due hr (by decide) (by rfl) (pa_cons (pv 3) (pa_cons (pv 15) (pa_cons (pv 16) pa_nil)))) rfl)) pss_nil))))
      (pss_one (ps_set (i := 14) sc_law.nd rfl (by first | exact Or.inl rfl | exact Or.inr rfl) (pe_dget (hu_of hr) (pv 15) (pe_tupRg rfl (by rfl) z_tuple (prg_1 (by rfl) z_range (pe_callB (kLen K) (by rfl) z_len (by decide +kernel) (pa_cons (pv 3) pa_nil)))) (fun _ _ => rfl)))))) pss_nil)
      (pss_one (ps_if (PW.pt (pw_or (pt_cmpR (kNe K hr) (pe_callB (kReprO K P w hr hg hsy) (by rfl) z_repr (by decide +kernel) (pa_cons (pe_cl k__law_told hr (by decide) (by rfl) (pa_cons (pv 3) (pa_cons (pv 4) (pa_cons (pv 11) pa_nil)))) pa_nil)) (pe_callB (kReprO K P w hr hg hsy) (by rfl) z_repr (by decide +kernel) (pa_cons (pv 14) pa_nil)) (nomark _)) (pw_or1 (pt_cmpR (kNe K hr) (pe_callB (kReprO K P w hr hg hsy) (by rfl) z_repr (by decide +kernel) (pa_cons (pv 11) pa_nil)) (pv 12) (nomark _))))) (pss_one (ps_ret pe_bl)) pss_nil)))))))))))))))))
      (pss_one (ps_ret pe_bl))), fun args m R h => ?_⟩)
  ·
    obtain ⟨_, rfl, _⟩ := h; rfl
  ·
    obtain ⟨ns, rfl, q⟩ := h
    walk_at "go"
    obtain ⟨n, hn, hn6⟩ : ∃ n : Nat, max (1 : Int) (min (ns.length : Int) 3) = (n : Int) ∧ n ≤ 3 := ⟨(max (1 : Int) (min (ns.length : Int) 3)).toNat, by omega, by omega⟩
    
    refine w_forR1 (n := n) ?_ (by omega) (fun i r' m' => ∃ y1 y2 y3 y4 y5 y6 y7 y8 y9 y10 y11 y12 y13 y14 y15 y16 y17, r' = [.scr ns, y1, y2, y3, y4, y5, y6, y7, y8, y9, y10, y11, y12, y13, y14, y15, y16, y17]) ⟨_, _, _, _, _, _, _, _, _, _, _, _, _, _, _, _, _, rfl⟩ ?_ ?_
    · walk_at "go"
      exact ⟨by rw [hn], rfl⟩
    · rintro i r' m' hi ⟨y1, y2, y3, y4, y5, y6, y7, y8, y9, y10, y11, y12, y13, y14, y15, y16, y17, rfl⟩
      walk_at "go"
      refine ⟨by omega, ?_⟩
      intro b hb
      have hpb := put_same (m := m') (a := b) (o := .box)
      generalize put m' b .box = M at *
      walk_at "go"
      refine ⟨hpb, by decide, by decide, fun ss hs hl => ?_⟩
      have hfew := hs.few
      have h1 := hs.pos
      obtain ⟨o1, o2, o3, o4, o5, o6⟩ := rsX_facts ⟨ss.length, by omega⟩
      have o4 : (rsX ss.length).length ≤ 31 := o4
      have o6 : ∀ s ∈ rsX ss.length, s ∈ allS ss.length ∧ s ≠ [] := o6
      have hah : ∀ i s, (rsX ss.length)[i]? = some s → (∀ k ∈ s, wo s k ∈ [] :: (rsX ss.length).take i) ∧ s ∉ [] :: (rsX ss.length).take i := fun i s hi => rsX_ahead ⟨ss.length, by omega⟩ ⟨i, by have := (List.getElem?_eq_some_iff.mp hi).1; omega⟩ s hi
      refine w_seq (w_asg (ev_op (ev_lstD ?_)))
      walk_at "go"
      refine ⟨hpb, by decide, bt_lit (n := 7) (by decide) (by decide), fun u1 hu1 hv1 => ?_⟩
      walk_at "go"
      refine ⟨hpb, by decide, bt_lit (n := 4) (by decide) (by decide), fun u2 hu2 hv2 => ?_⟩
      walk_at "go"
      refine ⟨[.int u1, .int u2, .int 0, .int 99], rfl, by show 4 ≤ 100000; decide, ?_⟩
      walk_at "go"
      refine ⟨hpb, by decide, bt_lit (n := 3) (by decide) (by decide), fun u4 hu4 hv4 => ?_⟩
      obtain ⟨c, hc, hc2⟩ : ∃ c : Nat, atI [PyData.int u1, .int u2, .int 0, .int 99] u4 = some (.int (c : Int)) ∧ c ≤ 99 := by
        have : u4 = 0 ∨ u4 = 1 ∨ u4 = 2 ∨ u4 = 3 := by omega
        rcases this with rfl | rfl | rfl | rfl
        · exact ⟨u1.toNat, by rw [show ((u1.toNat : Nat) : Int) = u1 by omega]; rfl, by omega⟩
        · exact ⟨u2.toNat, by rw [show ((u2.toNat : Nat) : Int) = u2 by omega]; rfl, by omega⟩
        · exact ⟨0, rfl, by omega⟩
        · exact ⟨99, rfl, by omega⟩
      refine o2_ixL hc ?_
      walk_at "go"
      refine ⟨hpb, fun o ho => ?_⟩
      walk_at "go"
      refine ⟨hpb, hs, fun f e1 he1 => ?_⟩
      have hbx1 : put M e1 (.dT (dI (tabS (fun s => told (f s)) (rsX ss.length)))) b = some .box := put_less he1 _ _ hpb
      have hme1 := put_same (m := M) (a := e1) (o := .dT (dI (tabS (fun s => told (f s)) (rsX ss.length))))
      generalize put M e1 (.dT (dI (tabS (fun s => told (f s)) (rsX ss.length)))) = M1 at *
      have hnd : (rsX ss.length).Nodup := o3
      have hsm : ∀ s ∈ rsX ss.length, SmS s := fun s h => allS_small hfew (o6 s h).1
      have hF : ∀ s, ItP (.str (told (f s))) := fun s => itp_told _
      have h0in := rsX_zero h1 hfew
      refine w_seq (w_asg (ev_lstM (eva_cons (ev_var rfl (fun h => nomatch h) (eva_cons (ev_var rfl (fun h => nomatch h) (eva_cons (ev_dnew fun e2 he2 => eva_nil ⟨by show 3 ≤ 100000; decide, fun L hL => ?_⟩))))))))
      have hx12 : Ext M1 (put (put M1 e2 (.dT [])) L (.lst [.v (.ref e1), .d o, .v (.ref e2)])) := fun a u h => put_less hL _ _ (put_less he2 _ _ h)
      have hme2 : put (put M1 e2 (.dT [])) L (.lst [.v (.ref e1), .d o, .v (.ref e2)]) e2 = some (.dT []) := put_less hL _ _ put_same
      have hmL := put_same (m := put M1 e2 (.dT [])) (a := L) (o := .lst [.v (.ref e1), .d o, .v (.ref e2)])
      generalize put (put M1 e2 (.dT [])) L (.lst [.v (.ref e1), .d o, .v (.ref e2)]) = M2 at *
      have hbx2 := hx12 _ _ hbx1
      have hmp2 := hx12 _ _ hme1
      have hfirst : ∀ y ∈ [Val.v (.ref e1), .d o, .v (.ref e2)], ∃ cc, ThP K P w ss.length M2 y cc := fun y hy => by
        simp only [List.mem_cons, List.not_mem_nil, or_false] at hy
        rcases hy with rfl | rfl | rfl
        · exact ⟨_, th_tab (by rw [← tabS_X]; exact hmp2) hnd (by omega) hsm fun s _ => hF s⟩
        · exact ⟨_, th_odd ho⟩
        · exact ⟨_, th_tab (f := fun _ => .none) (l := []) hme2 List.nodup_nil (by decide) (fun _ h => nomatch h) (fun _ h => nomatch h)⟩
      have hbL : b ≠ L := fun e => by rw [e, hmL] at hbx2; cases hbx2
      have heL : e1 ≠ L := fun e => by rw [e, hmL] at hmp2; cases hmp2
      have hhash : ((dV (tabX (fun s => .str (told (f s))) (rsX ss.length))).map fun e => hI e.1).Nodup := by
        unfold dV tabX
        rw [List.map_map, List.map_map]
        have := rs_nodup ⟨ss.length, by omega⟩
        rw [List.map_cons, List.nodup_cons] at this
        exact this.2
      have hlenI : ∀ (g : List Nat → PyData) (l : List (List Nat)), (dI (dV (tabX g l))).length = l.length := fun g l => by unfold dI dV tabX; rw [List.length_map, List.length_map, List.length_map]
      have hfl : (dI (dV (tabX (fun s => .str (told (f s))) (rsX ss.length)))).filter (fun e => !decide (e.1 = kI [0])) = dI (dV (tabX (fun s => .str (told (f s))) ((rsX ss.length).filter fun u => !decide (u = [0])))) := by
        unfold dI dV tabX
        rw [List.map_map, List.map_map, List.filter_map, List.map_map, List.map_map]
        refine congrArg _ (List.filter_congr fun u _ => ?_)
        show (!decide (kI (kn u) = kI (kn [0]))) = !decide (u = [0])
        rw [show decide (kI (kn u) = kI (kn [0])) = decide (u = [0]) from decide_eq_decide.mpr ⟨fun h => kn_inj (kI_inj h), fun h => by rw [h]⟩]
      have hnf : ((rsX ss.length).filter (fun u => !decide (u = [0]))).Nodup := hnd.filter _
      have hlf : ((rsX ss.length).filter fun u => !decide (u = [0])).length ≤ (rsX ss.length).length := List.length_filter_le ..
      have hsub : ∀ u ∈ (rsX ss.length).filter (fun u => !decide (u = [0])), u ∈ rsX ss.length := fun u hu => (List.mem_filter.mp hu).1
      have hgs : getV (dI (dV (tabX (fun s => .str (told (f s))) (rsX ss.length)))) (kI [0]) = some (.d (.str (told (f [0])))) := by rw [show ([0] : List Int) = kn [0] from rfl, getV_dV, lkD_tabX h0in]; rfl
      have hnot : ∀ (j : Nat) (k : List Int) (d : PyData), ([([], .str "draw"), ([1, 0], .str "buy"), ([4], .str "draw"), ([0], .str "none"), ([0], .str " draw")] : List (List Int × PyData))[j]? = some (k, d) → ∃ cn : List Nat, k = kn cn ∧ cn ∉ (rsX ss.length).filter (fun u => !decide (u = [0])) ∧ SmS cn ∧ ItP d := fun j k d hj => by
        have hjl := (List.getElem?_eq_some_iff.mp hj).1
        obtain ⟨n1, n2, _, _⟩ := no_rsX hfew
        have hn4 : [4] ∉ rsX ss.length := fun h => by
          have := (allS_mem _ _ (o6 _ h).1).2 4 (by simp)
          omega
        have hj5 : j = 0 ∨ j = 1 ∨ j = 2 ∨ j = 3 ∨ j = 4 := by
          have : j < 5 := hjl
          omega
        rcases hj5 with rfl | rfl | rfl | rfl | rfl
        · obtain ⟨rfl, rfl⟩ := Prod.mk.inj (Option.some.inj hj)
          exact ⟨[], rfl, fun h => n1 (hsub _ h), ⟨by decide, by decide⟩, itp_told false⟩
        · obtain ⟨rfl, rfl⟩ := Prod.mk.inj (Option.some.inj hj)
          exact ⟨[1, 0], rfl, fun h => n2 (hsub _ h), ⟨by decide, by decide⟩, itp_told true⟩
        · obtain ⟨rfl, rfl⟩ := Prod.mk.inj (Option.some.inj hj)
          exact ⟨[4], rfl, fun h => hn4 (hsub _ h), ⟨by decide, by decide⟩, itp_told false⟩
        · obtain ⟨rfl, rfl⟩ := Prod.mk.inj (Option.some.inj hj)
          exact ⟨[0], rfl, fun h => by have := (List.mem_filter.mp h).2; simp at this, ⟨by decide, by decide⟩, itp_str (by decide +kernel) (by decide +kernel)⟩
        · obtain ⟨rfl, rfl⟩ := Prod.mk.inj (Option.some.inj hj)
          exact ⟨[0], rfl, fun h => by have := (List.mem_filter.mp h).2; simp at this, ⟨by decide, by decide⟩, itp_str (by decide +kernel) (by decide +kernel)⟩
      refine w_seq (w_forVP (rs := [([], .str "draw"), ([1, 0], .str "buy"), ([4], .str "draw"), ([0], .str "none"), ([0], .str " draw")]) ?_ (fun j r2 m2 => ∃ rs, m2 L = some (.lst rs) ∧ rs.length = 3 + j ∧ (∀ y ∈ rs, ∃ cc, ThP K P w ss.length m2 y cc) ∧ m2 b = some .box ∧ m2 e1 = some (.dT (dI (tabS (fun s => told (f s)) (rsX ss.length)))) ∧ ∃ y8 y9 y10, r2 = [.scr ns, .d (.int (i : Int)), .v (.ref b), .d (tupI ss), .d (.int (c : Int)), .d o, .v (.ref e1), .v (.ref L), y8, y9, y10, y11, y12, y13, y14, y15, y16, y17]) ⟨_, hmL, rfl, hfirst, hbx2, hmp2, _, _, _, rfl⟩ ?_ ?_)
      · refine ev_lstV ?_
        refine eva_cons (ev_tupP (ev_tupT ?_))
        refine eva_nil ⟨[], rfl, by show 0 ≤ 100000; decide, _, rfl, ev_cS ⟨_, rfl, ?_⟩⟩
        refine eva_cons (ev_tupP (ev_tupT ?_))
        refine eva_cons (ev_cI ?_)
        refine eva_cons (ev_cI ?_)
        refine eva_nil ⟨[1, 0], rfl, by show 2 ≤ 100000; decide, _, rfl, ev_cS ⟨_, rfl, ?_⟩⟩
        refine eva_cons (ev_tupP (ev_tupT ?_))
        refine eva_cons (ev_cI ?_)
        refine eva_nil ⟨[4], rfl, by show 1 ≤ 100000; decide, _, rfl, ev_cS ⟨_, rfl, ?_⟩⟩
        refine eva_cons (ev_tupP (ev_tupT ?_))
        refine eva_cons (ev_cI ?_)
        refine eva_nil ⟨[0], rfl, by show 1 ≤ 100000; decide, _, rfl, ev_cS ⟨_, rfl, ?_⟩⟩
        refine eva_cons (ev_tupP (ev_tupT ?_))
        refine eva_cons (ev_cI ?_)
        refine eva_nil ⟨[0], rfl, by show 1 ≤ 100000; decide, _, rfl, ev_cS ⟨_, rfl, ?_⟩⟩
        exact eva_nil ⟨by show 5 ≤ 100000; decide, rfl, rfl⟩
      · rintro j k d r2 m2 hj ⟨rs, hL2, hlen, hall, hb2, hp2, y8, y9, y10, rfl⟩
        obtain ⟨cn, rfl, hcn, hcs, hd⟩ := hnot j k d hj
        have hj5 : j < 5 := (List.getElem?_eq_some_iff.mp hj).1
        refine w_seq (w_asg (ev_callB (eva_cons (ev_var rfl (fun h => nomatch h) (eva_nil (on_dictC (by rw [← tabS_X]; exact hp2) hhash fun e3 he3 => ?_))))))
        refine w_seq (w_drop (ev_pop1T (ev_var rfl (fun h => nomatch h) ⟨e3, rfl, ⟨_, put_same⟩, ev_tupT (eva_cons (ev_cI (eva_nil ⟨[0], rfl, by show 1 ≤ 100000; decide, _, [0], _, rfl, put_same, hgs, ?_⟩)))⟩)))
        rw [put_put, hfl]
        refine w_seq (w_dputV (ns := kn cn) rfl (ev_var rfl (fun h => nomatch h) (ev_var rfl (fun h => nomatch h) ⟨e3, _, rfl, put_same, by rw [hlenI]; omega, ?_⟩)))
        rw [put_put, putV_tabX_new hcn]
        have hLe : L ≠ e3 := ne_of_get hL2 he3
        have hbe : b ≠ e3 := ne_of_get hb2 he3
        have hpe : e1 ≠ e3 := ne_of_get hp2 he3
        refine w_drop (ev_app (p := L) (rs := rs) (ev_var rfl (fun h => nomatch h) ⟨rfl, by rw [put_ne hLe]; exact hL2, ev_var rfl (fun h => nomatch h) ⟨by rw [put_ne hLe]; exact hL2, by omega, ?_⟩⟩))
        refine ⟨rs ++ [.v (.ref e3)], put_same, by rw [List.length_append, hlen]; rfl, fun y hy => ?_, by rw [put_ne hbL, put_ne hbe]; exact hb2, by rw [put_ne heL, put_ne hpe]; exact hp2, _, _, _, rfl⟩
        rcases List.mem_append.mp hy with hy | hy
        · obtain ⟨cc, hth⟩ := hall y hy
          refine ⟨cc, hth.agree fun p3 e => ?_⟩
          obtain ⟨u, hu, hnl⟩ := hth.at e
          have n1 : p3 ≠ e3 := ne_of_get hu he3
          have n2 : p3 ≠ L := fun e => by
            rw [e, hL2] at hu
            exact hnl _ (Option.some.inj hu).symm
          rw [put_ne n2, put_ne n1]
        · rw [List.mem_singleton.mp hy]
          have hn2 : ((rsX ss.length).filter (fun u => !decide (u = [0])) ++ [cn]).Nodup := List.nodup_append.mpr ⟨hnf, by simp, fun a ha b hb e => hcn (by rw [List.mem_singleton.mp hb] at e; exact e ▸ ha)⟩
          refine ⟨_, th_tab (f := fun u => if u = cn then d else .str (told (f u))) (l := (rsX ss.length).filter (fun u => !decide (u = [0])) ++ [cn]) (by rw [put_ne hLe.symm]; exact put_same) hn2 (by rw [List.length_append, List.length_singleton]; omega) (fun u hu => ?_) fun u hu => ?_⟩
          · rcases List.mem_append.mp hu with hu | hu
            · exact hsm u (hsub u hu)
            · rw [List.mem_singleton.mp hu]; exact hcs
          · by_cases e : u = cn
            · rw [if_pos e]; exact hd
            · rw [if_neg e]; exact hF u
      rintro r2 m2 ⟨rs, hL2, hlen, hall, hb2, hp2, y8, y9, y10, rfl⟩
      have hlen : rs.length = 8 := hlen
      refine w_forVm (ev_op (ev_var rfl (fun h => nomatch h) ?_))
      refine ev_lcR1Y (n := 5) ?_ (by decide) (fun j acc mm => acc.length = j ∧ Ext m2 mm ∧ ∀ y ∈ acc, ∃ cc, ThP K P w ss.length mm y cc) ⟨rfl, Ext.refl _, fun _ h => nomatch h⟩ ?_ ?_
      · walk_at "go"
        exact ⟨rfl, rfl⟩
      · rintro j m5 D2 acc2 hj hmD2 ⟨hal3, hx5, ha5⟩
        have hbD : b ≠ D2 := ne_of_get (hx5 _ _ hb2) hmD2
        have hpD : e1 ≠ D2 := ne_of_get (hx5 _ _ hp2) hmD2
        walk_at "go"
        refine ⟨ss, b, e1, f, o, rfl, by rw [put_ne hbD]; exact hx5 _ _ hb2, hs, by rw [put_ne hpD]; exact hx5 _ _ hp2, ho, fun y m6 cc hx6 hth => ?_⟩
        have hD6 : m6 D2 = some (.lst acc2) := hx6 _ _ put_same
        refine ⟨del m6 D2, if_pos rfl, (put_del hD6).symm, by rw [List.length_append, hal3]; rfl, fun a u h => ?_, fun y2 hy2 => ?_⟩
        · have h5a := hx5 _ _ h
          have hne : a ≠ D2 := ne_of_get h5a hmD2
          exact (if_neg hne).trans (hx6 _ _ (by rw [put_ne hne]; exact h5a))
        · rcases List.mem_append.mp hy2 with hy2 | hy2
          · obtain ⟨c2, k1⟩ := ha5 y2 hy2
            refine ⟨c2, k1.agree fun p3 e => ?_⟩
            obtain ⟨u, hu, _⟩ := k1.at e
            have hne : p3 ≠ D2 := ne_of_get hu hmD2
            rw [hu]
            exact (if_neg hne).trans (hx6 _ _ (by rw [put_ne hne]; exact hu))
          · rw [List.mem_singleton.mp hy2]
            refine ⟨cc, hth.agree fun p3 e => ?_⟩
            obtain ⟨u, hu, hl⟩ := hth.at e
            have hne : p3 ≠ D2 := fun h => by
              rw [h, hD6] at hu
              exact hl _ (Option.some.inj hu).symm
            exact if_neg hne
      rintro acc2 m6 hal3 ⟨_, hx6, ha6⟩
      refine o2_addMV (hx6 _ _ hL2) (by rw [hal3, hlen]; decide) ?_
      have hall6 : ∀ y ∈ rs ++ acc2, ∃ cc, ThP K P w ss.length m6 y cc := fun y hy => by
        rcases List.mem_append.mp hy with hy | hy
        · obtain ⟨cc, k1⟩ := hall y hy
          exact ⟨cc, k1.less hx6⟩
        · exact ha6 y hy
      generalize rs ++ acc2 = al at *
      refine ⟨al, fun j r3 m3 => Ext m6 m3 ∧ ∃ y11 y12 y13 y14 y15 y16 y17, r3 = [.scr ns, .d (.int (i : Int)), .v (.ref b), .d (tupI ss), .d (.int (c : Int)), .d o, .v (.ref e1), .v (.ref L), y8, y9, y10, y11, y12, y13, y14, y15, y16, y17], rfl, ⟨Ext.refl _, _, _, _, _, _, _, _, rfl⟩, ?_, ?_⟩
      · rintro j y r3 m3 hj ⟨hx3, y11, y12, y13, y14, y15, y16, y17, rfl⟩
        obtain ⟨cc, hth0⟩ := hall6 y (List.mem_of_getElem? hj)
        have hth := hth0.less hx3
        have hne := hth.plth.ne
        obtain ⟨T, t1⟩ := hth.shows
        refine w_seq (w_asg (ev_callB (eva_cons (ev_var rfl hne (eva_nil (t1 _ (Ext.refl _) _ ?_))))))
        refine w_seq (w_asg (ev_call ?_))
        refine eva_cons (ev_var rfl hne ?_)
        refine eva_cons (ev_var rfl (fun h => nomatch h) ?_)
        refine eva_nil ⟨y, ss, cc, rfl, hs, hth.plth, ?_⟩
        refine w_seq (w_if (evt_or ?_))
        walk_at "go"
        refine br_f rfl ?_
        refine evt_test (ev_op (ev_var rfl (fun h => nomatch h) (ev_call ?_)))
        refine eva_cons (ev_var rfl hne ?_)
        refine eva_cons (ev_var rfl (fun h => nomatch h) ?_)
        refine eva_nil ⟨y, ss, cc, rfl, hs, hth.plth, ?_⟩
        refine o2_neSame (by cases cc <;> rfl) ?_
        refine ⟨_, rfl, br_f rfl (w_next ?_)⟩
        refine w_seq (w_asg (ev_lstD (eva_cons (ev_cS (eva_cons (ev_cI (eva_nil ⟨[.str "refused", .int 5], rfl, by show 2 ≤ 100000; decide, ?_⟩)))))))
        refine w_seq (Wp.imp (N := fun r4 m4 => ∃ (X : PyData) (z15 z16 z17 : Val), r4 = [.scr ns, .d (.int (i : Int)), .v (.ref b), .d (tupI ss), .d (.int (c : Int)), .d o, .v (.ref e1), .v (.ref L), y8, y9, y10, y, .d (.str T), .d (.bool cc), .d X, z15, z16, z17] ∧ Ext m3 m4 ∧ ShA X ∧ ∀ R' : Val → Mm → Prop, R' (.d X) m4 → f_told61 K P w [.d (tupI ss), .d (.int (c : Int)), y] m4 R') (E := fun _ _ => False) (w_if (evt_B (ev_var rfl (fun h => nomatch h) ⟨_, rfl, fun hcc => ?_, fun hcc => ?_⟩))) ?_ (fun _ _ h => h.elim))
        · subst hcc
          obtain ⟨kds, hat, hsk, hpl⟩ : ∃ kds, (Tg.dct kds).At m3 y ∧ SmK (.dct kds) ∧ Tg.plan ss.length (.dct kds) = true := by
            rcases hth.plth with ⟨t, g1, g2, g3, g4⟩ | ⟨p3, kos, _, _, _, g4⟩
            · cases t with
              | dat x => cases g4
              | dct kds => exact ⟨kds, g1, g3, g4.symm⟩
            · cases g4
          obtain ⟨pk, rfl, hmk, hndk, hlk, hitk⟩ := id hat
          have hB := plan_PB hs hc2 (wordB kds)
          have hgw : ∀ s ∈ rsX ss.length, getV (dI (dV kds)) (kI (kn s)) = some (.d (.str (told (wordB kds s)))) := fun s h => by
            rw [getV_dV, plan_all hfew hndk hpl h]; rfl
          refine w_seq (w_asg (ev_disp1 fun c1 hc1 => ev_tupT ?_))
          walk_at "dl1"
          refine ⟨[], rfl, by decide, _, rfl, ?_⟩
          walk_at "go"
          refine ⟨put_same, ?_⟩
          rw [put_put]
          have hpc : pk ≠ c1 := ne_of_get hmk hc1
          refine w_seq (w_forLt (nss := (rsX ss.length).map kn) ?_ (fun j r5 m5 => m5 = put m3 c1 (.dT (tabT (planT ss c (wordB kds)) ([] :: (rsX ss.length).take j))) ∧ ∃ z16, r5 = [.scr ns, .d (.int (i : Int)), .v (.ref b), .d (tupI ss), .d (.int (c : Int)), .d o, .v (.ref e1), .v (.ref L), y8, y9, y10, .v (.ref pk), .d (.str T), .d (.bool true), .d (.list [.str "refused", .int 5]), .v (.ref c1), z16, y17]) ⟨rfl, _, rfl⟩ ?_ ?_)
          · refine ev_slLt ?_
            walk_at "go"
            refine ⟨hfew, _, rfl, ?_⟩
            walk_at "go"
            exact ⟨rfl, by rw [← List.map_drop, show (ordX ss.length).drop 1 = rsX ss.length from o2], rfl⟩
          · rintro j ks r5 m5 hi ⟨rfl, z16, rfl⟩
            obtain ⟨s, hsi, rfl⟩ : ∃ s, (rsX ss.length)[j]? = some s ∧ ks = kn s := by
              rw [List.getElem?_map] at hi
              cases hx : (rsX ss.length)[j]? with
              | none => rw [hx] at hi; cases hi
              | some s => rw [hx] at hi; cases hi; exact ⟨s, rfl, rfl⟩
            obtain ⟨hsa, h0⟩ := o6 s (List.mem_of_getElem? hsi)
            have hk := allS_kinds hsa
            have hkl := hk.len
            obtain ⟨ha1, ha2⟩ := hah j s hsi
            have hgd : ∀ u, put m3 c1 u pk = some (.dT (dI (dV kds))) := fun u => by rw [put_ne hpc]; exact hmk
            have hlt : ∀ g : List Nat → Rat, (tabT g ([] :: (rsX ss.length).take j)).length < 100000 := fun g => by rw [tab_len, List.length_cons, List.length_take]; omega
            have e0 : (.tuple [.int ((c : Int) * (s.length : Int)), .int 1] : PyData) = frac (priceQ c s) := by
              unfold priceQ
              rw [frac_int, Int.natCast_mul]
            have e1' : tabT (planT ss c (wordB kds)) ([] :: (rsX ss.length).take j) = tabT (fun u => if u = s then priceQ c s else planT ss c (wordB kds) u) ([] :: (rsX ss.length).take j) := tabT_same fun u hu => by
              have hne2 : ¬ u = s := fun e => ha2 (e ▸ hu)
              rw [if_neg hne2]
            have e2' : frac (priceQ c s) = frac ((fun u => if u = s then priceQ c s else planT ss c (wordB kds) u) s) := by
              show _ = frac (if s = s then priceQ c s else planT ss c (wordB kds) s)
              rw [if_pos rfl]
            refine w_seq (w_dputV (ns := kn s) rfl ?_)
            walk_at "go"
            refine o2_mulI (cmul_small (by omega) (by omega)) ?_
            walk_at "go"
            refine ⟨c1, _, rfl, put_same, hlt _, ?_⟩
            rw [put_put, e0, e1', e2', putV_tab ha2, List.cons_append, ← take_one hsi]
            refine w_if (evt_test (ev_op (ev_orL (ev_dgetV (ns := kn s) rfl (ev_var rfl (fun h => nomatch h) ⟨pk, _, _, rfl, Or.inl (hgd _), hgw s (List.mem_of_getElem? hsi), ?_⟩)))))
            walk_at "go"
            rw [told_draw]
            have hsj : s ∈ [] :: (rsX ss.length).take (j + 1) := by
              rw [take_one hsi]
              exact List.mem_cons_of_mem _ (List.mem_append_right _ (List.mem_singleton.mpr rfl))
            cases hbs : wordB kds s with
            | true =>
              refine br_f rfl (w_next ⟨?_, _, rfl⟩)
              rw [tabT_same (f := fun u => if u = s then priceQ c s else planT ss c (wordB kds) u) (g := planT ss c (wordB kds)) fun u hu => ?_]
              show (if u = s then priceQ c s else planT ss c (wordB kds) u) = planT ss c (wordB kds) u
              by_cases e : u = s
              · subst e
                rw [if_pos rfl, plan_step ss c (wordB kds) hk.up h0, hbs, if_pos rfl]
              · rw [if_neg e]
            | false =>
              refine br_t rfl ?_
              refine w_dputV (ns := kn s) rfl ?_
              walk_at "go"
              refine ⟨ss, s, c1, _, planT ss c (wordB kds), rfl, hs, hk, h0, Or.inl put_same, hB, fun k hks => ?_, ?_⟩
              · have hw := ha1 k hks
                have hwn : ¬ wo s k = s := fun e => ha2 (by rw [← e]; exact hw)
                have hwin : wo s k ∈ [] :: (rsX ss.length).take (j + 1) := by
                  rw [take_one hsi]
                  rcases List.mem_cons.mp hw with e | hw
                  · rw [e]; exact List.mem_cons_self
                  · exact List.mem_cons_of_mem _ (List.mem_append_left _ hw)
                have hg := getV_tab (f := fun u => if u = s then priceQ c s else planT ss c (wordB kds) u) hwin
                rw [if_neg hwn] at hg
                exact hg
              refine ev_var rfl (fun h => nomatch h) ⟨c1, _, rfl, put_same, by rw [tab_len, List.length_cons, List.length_take]; omega, ?_⟩
              rw [put_put, putV_tabT hsj]
              refine ⟨?_, _, rfl⟩
              rw [tabT_same (g := planT ss c (wordB kds)) fun u hu => ?_]
              by_cases e : u = s
              · subst e
                rw [plan_step ss c (wordB kds) hk.up h0, hbs, if_neg (by decide)]
                unfold updQ
                rw [if_pos rfl]
              · unfold updQ
                rw [if_neg e]
                show (if u = s then priceQ c s else planT ss c (wordB kds) u) = planT ss c (wordB kds) u
                rw [if_neg e]
          rintro r5 m5 ⟨rfl, z16, rfl⟩
          rw [List.length_map, List.take_length]
          refine w_asg (ev_dget (ev_var rfl (fun h => nomatch h) ⟨c1, rfl, ?_⟩))
          refine ev_tupR1t (n := ss.length) (by omega) ?_
          walk_at "go"
          refine ⟨rfl, _, _, _, rfl, Or.inl put_same, getV_tab (s := List.range ss.length) (List.mem_cons_of_mem _ (rsX_range ⟨ss.length, by omega⟩ h1)), ?_⟩
          refine ⟨_, _, _, _, rfl, put_less hc1, (sh_frac (a := 1300) (hB.fr hs (kinds_all ss.length)) (by decide) (by decide)).toB.toA (by decide) (by decide), fun R' q' => ⟨_, ss, c, rfl, hs, hc2, Or.inl ⟨kds, hat.less (put_less hc1), hsk, hpl, q'⟩⟩⟩
        · subst hcc
          exact w_next ⟨refused 5, _, _, _, rfl, Ext.refl _, shA_refused, fun R' q' => ⟨_, ss, c, rfl, hs, hc2, Or.inr ⟨hth.plth, q'⟩⟩⟩
        rintro r4 m4 ⟨X, z15, z16, z17, rfl, hx4, hX, htold⟩
        refine w_if (evt_or (evt_test (ev_op (ev_callB (eva_cons (ev_call ?_))))))
        refine eva_cons (ev_var rfl (fun h => nomatch h) ?_)
        refine eva_cons (ev_var rfl (fun h => nomatch h) ?_)
        refine eva_cons (ev_var rfl hne ?_)
        refine eva_nil (htold _ ?_)
        refine eva_nil (on_orL (on_showN hX ?_))
        refine ev_callB (eva_cons (ev_var rfl (fun h => nomatch h) (eva_nil (on_orL (on_showN hX ?_)))))
        refine o2_neS ?_
        refine ⟨_, rfl, br_f (by simp) ?_⟩
        refine evt_test (ev_op (ev_callB (eva_cons (ev_var rfl hne (eva_nil (t1 _ hx4 _ ?_))))))
        refine ev_var rfl (fun h => nomatch h) (o2_neS ?_)
        refine ⟨_, rfl, br_f (by simp) (w_next ?_)⟩
        exact ⟨fun a u h => hx4 _ _ (hx3 _ _ h), _, _, _, _, _, _, _, rfl⟩
      · rintro r3 m3 ⟨hx3, y11, y12, y13, y14, y15, y16, y17, rfl⟩
        exact ⟨_, _, _, _, _, _, _, _, _, _, _, _, _, _, _, _, _, rfl⟩
    · rintro r' m' ⟨y1, y2, y3, y4, y5, y6, y7, y8, y9, y10, y11, y12, y13, y14, y15, y16, y17, rfl⟩
      walk_at "go"
      exact q _
end
theorem law_ends : ∀ ns : List Int, ns.length ≤ 63 → (∀ z ∈ ns, Builtin.Int.intBits z ≤ 1048576) → f_law [.scr ns] (fun _ => none) fun y _ => y = .d (.bool true) := fun ns _ _ => ⟨ns, rfl, fun _ => rfl⟩
section
variable {P : Program} {w : World} {K : PySem.W.Frag} {mg : Str → Option Value}
theorem all_mk {h : Heap} {fa : Addr} (X : K.In h) (G : h.Ns mainGlobals mg) (hfa : mg "law" = some (.ref fa))
    {od1 an1 : Option Addr} {sl1 : Array (Option Value)} {f1 : Addr} {oc1 kV1 dc1 pm1 cd1 ct1 : Value}
    (a1 : PySem.W.nsIn K mainGlobals "is_whole" = some (some (.ref f1))) (l1 : K.lookup f1 = some ⟨oc1, od1, .func (PySem.W.fnOf "is_whole" "is_whole" (defArgs s_is_whole) (defBody s_is_whole) (defScope s_is_whole) .none kV1 dc1 pm1 an1 cd1 ct1), sl1⟩) (c1 : PySem.W.codeIn K cd1 "is_whole" = true) (k1 : PySem.W.keepIn K (.ref f1) = true)
    {od2 an2 : Option Addr} {sl2 : Array (Option Value)} {f2 : Addr} {oc2 kV2 dc2 pm2 cd2 ct2 : Value}
    (a2 : PySem.W.nsIn K mainGlobals "greatest_common" = some (some (.ref f2))) (l2 : K.lookup f2 = some ⟨oc2, od2, .func (PySem.W.fnOf "greatest_common" "greatest_common" (defArgs s_greatest_common) (defBody s_greatest_common) (defScope s_greatest_common) .none kV2 dc2 pm2 an2 cd2 ct2), sl2⟩) (c2 : PySem.W.codeIn K cd2 "greatest_common" = true) (k2 : PySem.W.keepIn K (.ref f2) = true)
    {od3 an3 : Option Addr} {sl3 : Array (Option Value)} {f3 : Addr} {oc3 kV3 dc3 pm3 cd3 ct3 : Value}
    (a3 : PySem.W.nsIn K mainGlobals "sum_part" = some (some (.ref f3))) (l3 : K.lookup f3 = some ⟨oc3, od3, .func (PySem.W.fnOf "sum_part" "sum_part" (defArgs s_sum_part) (defBody s_sum_part) (defScope s_sum_part) .none kV3 dc3 pm3 an3 cd3 ct3), sl3⟩) (c3 : PySem.W.codeIn K cd3 "sum_part" = true) (k3 : PySem.W.keepIn K (.ref f3) = true)
    {od4 an4 : Option Addr} {sl4 : Array (Option Value)} {f4 : Addr} {oc4 kV4 dc4 pm4 cd4 ct4 : Value}
    (a4 : PySem.W.nsIn K mainGlobals "all_some" = some (some (.ref f4))) (l4 : K.lookup f4 = some ⟨oc4, od4, .func (PySem.W.fnOf "all_some" "all_some" (defArgs s_all_some) (defBody s_all_some) (defScope s_all_some) .none kV4 dc4 pm4 an4 cd4 ct4), sl4⟩) (c4 : PySem.W.codeIn K cd4 "all_some" = true) (k4 : PySem.W.keepIn K (.ref f4) = true)
    {od5 an5 : Option Addr} {sl5 : Array (Option Value)} {f5 : Addr} {oc5 kV5 dc5 pm5 cd5 ct5 : Value}
    (a5 : PySem.W.nsIn K mainGlobals "_law_box" = some (some (.ref f5))) (l5 : K.lookup f5 = some ⟨oc5, od5, .func (PySem.W.fnOf "_law_box" "_law_box" (defArgs s__law_box) (defBody s__law_box) (defScope s__law_box) .none kV5 dc5 pm5 an5 cd5 ct5), sl5⟩) (c5 : PySem.W.codeIn K cd5 "_law_box" = true) (k5 : PySem.W.keepIn K (.ref f5) = true)
    {od6 an6 : Option Addr} {sl6 : Array (Option Value)} {f6 : Addr} {oc6 kV6 dc6 pm6 cd6 ct6 : Value}
    (a6 : PySem.W.nsIn K mainGlobals "_law_take" = some (some (.ref f6))) (l6 : K.lookup f6 = some ⟨oc6, od6, .func (PySem.W.fnOf "_law_take" "_law_take" (defArgs s__law_take) (defBody s__law_take) (defScope s__law_take) .none kV6 dc6 pm6 an6 cd6 ct6), sl6⟩) (c6 : PySem.W.codeIn K cd6 "_law_take" = true) (k6 : PySem.W.keepIn K (.ref f6) = true)
    {od7 an7 : Option Addr} {sl7 : Array (Option Value)} {f7 : Addr} {oc7 kV7 dc7 pm7 cd7 ct7 : Value}
    (a7 : PySem.W.nsIn K mainGlobals "_law_made" = some (some (.ref f7))) (l7 : K.lookup f7 = some ⟨oc7, od7, .func (PySem.W.fnOf "_law_made" "_law_made" (defArgs s__law_made) (defBody s__law_made) (defScope s__law_made) .none kV7 dc7 pm7 an7 cd7 ct7), sl7⟩) (c7 : PySem.W.codeIn K cd7 "_law_made" = true) (k7 : PySem.W.keepIn K (.ref f7) = true)
    {od8 an8 : Option Addr} {sl8 : Array (Option Value)} {f8 : Addr} {oc8 kV8 dc8 pm8 cd8 ct8 : Value}
    (a8 : PySem.W.nsIn K mainGlobals "_law_sets" = some (some (.ref f8))) (l8 : K.lookup f8 = some ⟨oc8, od8, .func (PySem.W.fnOf "_law_sets" "_law_sets" (defArgs s__law_sets) (defBody s__law_sets) (defScope s__law_sets) .none kV8 dc8 pm8 an8 cd8 ct8), sl8⟩) (c8 : PySem.W.codeIn K cd8 "_law_sets" = true) (k8 : PySem.W.keepIn K (.ref f8) = true)
    {od9 an9 : Option Addr} {sl9 : Array (Option Value)} {f9 : Addr} {oc9 kV9 dc9 pm9 cd9 ct9 : Value}
    (a9 : PySem.W.nsIn K mainGlobals "_law_classes" = some (some (.ref f9))) (l9 : K.lookup f9 = some ⟨oc9, od9, .func (PySem.W.fnOf "_law_classes" "_law_classes" (defArgs s__law_classes) (defBody s__law_classes) (defScope s__law_classes) .none kV9 dc9 pm9 an9 cd9 ct9), sl9⟩) (c9 : PySem.W.codeIn K cd9 "_law_classes" = true) (k9 : PySem.W.keepIn K (.ref f9) = true)
    {od10 an10 : Option Addr} {sl10 : Array (Option Value)} {f10 : Addr} {oc10 kV10 dc10 pm10 cd10 ct10 : Value}
    (a10 : PySem.W.nsIn K mainGlobals "made" = some (some (.ref f10))) (l10 : K.lookup f10 = some ⟨oc10, od10, .func (PySem.W.fnOf "made" "made" (defArgs s_made) (defBody s_made) (defScope s_made) .none kV10 dc10 pm10 an10 cd10 ct10), sl10⟩) (c10 : PySem.W.codeIn K cd10 "made" = true) (k10 : PySem.W.keepIn K (.ref f10) = true)
    {od11 an11 : Option Addr} {sl11 : Array (Option Value)} {f11 : Addr} {oc11 kV11 dc11 pm11 cd11 ct11 : Value}
    (a11 : PySem.W.nsIn K mainGlobals "need_number" = some (some (.ref f11))) (l11 : K.lookup f11 = some ⟨oc11, od11, .func (PySem.W.fnOf "need_number" "need_number" (defArgs s_need_number) (defBody s_need_number) (defScope s_need_number) .none kV11 dc11 pm11 an11 cd11 ct11), sl11⟩) (c11 : PySem.W.codeIn K cd11 "need_number" = true) (k11 : PySem.W.keepIn K (.ref f11) = true)
    {od12 an12 : Option Addr} {sl12 : Array (Option Value)} {f12 : Addr} {oc12 kV12 dc12 pm12 cd12 ct12 : Value}
    (a12 : PySem.W.nsIn K mainGlobals "is_shares" = some (some (.ref f12))) (l12 : K.lookup f12 = some ⟨oc12, od12, .func (PySem.W.fnOf "is_shares" "is_shares" (defArgs s_is_shares) (defBody s_is_shares) (defScope s_is_shares) .none kV12 dc12 pm12 an12 cd12 ct12), sl12⟩) (c12 : PySem.W.codeIn K cd12 "is_shares" = true) (k12 : PySem.W.keepIn K (.ref f12) = true)
    {od13 an13 : Option Addr} {sl13 : Array (Option Value)} {f13 : Addr} {oc13 kV13 dc13 pm13 cd13 ct13 : Value}
    (a13 : PySem.W.nsIn K mainGlobals "are_kinds" = some (some (.ref f13))) (l13 : K.lookup f13 = some ⟨oc13, od13, .func (PySem.W.fnOf "are_kinds" "are_kinds" (defArgs s_are_kinds) (defBody s_are_kinds) (defScope s_are_kinds) .none kV13 dc13 pm13 an13 cd13 ct13), sl13⟩) (c13 : PySem.W.codeIn K cd13 "are_kinds" = true) (k13 : PySem.W.keepIn K (.ref f13) = true)
    {od14 an14 : Option Addr} {sl14 : Array (Option Value)} {f14 : Addr} {oc14 kV14 dc14 pm14 cd14 ct14 : Value}
    (a14 : PySem.W.nsIn K mainGlobals "rising_some" = some (some (.ref f14))) (l14 : K.lookup f14 = some ⟨oc14, od14, .func (PySem.W.fnOf "rising_some" "rising_some" (defArgs s_rising_some) (defBody s_rising_some) (defScope s_rising_some) .none kV14 dc14 pm14 an14 cd14 ct14), sl14⟩) (c14 : PySem.W.codeIn K cd14 "rising_some" = true) (k14 : PySem.W.keepIn K (.ref f14) = true)
    {od15 an15 : Option Addr} {sl15 : Array (Option Value)} {f15 : Addr} {oc15 kV15 dc15 pm15 cd15 ct15 : Value}
    (a15 : PySem.W.nsIn K mainGlobals "_law_odd" = some (some (.ref f15))) (l15 : K.lookup f15 = some ⟨oc15, od15, .func (PySem.W.fnOf "_law_odd" "_law_odd" (defArgs s__law_odd) (defBody s__law_odd) (defScope s__law_odd) .none kV15 dc15 pm15 an15 cd15 ct15), sl15⟩) (c15 : PySem.W.codeIn K cd15 "_law_odd" = true) (k15 : PySem.W.keepIn K (.ref f15) = true)
    {od16 an16 : Option Addr} {sl16 : Array (Option Value)} {f16 : Addr} {oc16 kV16 dc16 pm16 cd16 ct16 : Value}
    (a16 : PySem.W.nsIn K mainGlobals "_law_shares" = some (some (.ref f16))) (l16 : K.lookup f16 = some ⟨oc16, od16, .func (PySem.W.fnOf "_law_shares" "_law_shares" (defArgs s__law_shares) (defBody s__law_shares) (defScope s__law_shares) .none kV16 dc16 pm16 an16 cd16 ct16), sl16⟩) (c16 : PySem.W.codeIn K cd16 "_law_shares" = true) (k16 : PySem.W.keepIn K (.ref f16) = true)
    {od17 an17 : Option Addr} {sl17 : Array (Option Value)} {f17 : Addr} {oc17 kV17 dc17 pm17 cd17 ct17 : Value}
    (a17 : PySem.W.nsIn K mainGlobals "_law_sum" = some (some (.ref f17))) (l17 : K.lookup f17 = some ⟨oc17, od17, .func (PySem.W.fnOf "_law_sum" "_law_sum" (defArgs s__law_sum) (defBody s__law_sum) (defScope s__law_sum) .none kV17 dc17 pm17 an17 cd17 ct17), sl17⟩) (c17 : PySem.W.codeIn K cd17 "_law_sum" = true) (k17 : PySem.W.keepIn K (.ref f17) = true)
    {od18 an18 : Option Addr} {sl18 : Array (Option Value)} {f18 : Addr} {oc18 kV18 dc18 pm18 cd18 ct18 : Value}
    (a18 : PySem.W.nsIn K mainGlobals "_law_times" = some (some (.ref f18))) (l18 : K.lookup f18 = some ⟨oc18, od18, .func (PySem.W.fnOf "_law_times" "_law_times" (defArgs s__law_times) (defBody s__law_times) (defScope s__law_times) .none kV18 dc18 pm18 an18 cd18 ct18), sl18⟩) (c18 : PySem.W.codeIn K cd18 "_law_times" = true) (k18 : PySem.W.keepIn K (.ref f18) = true)
    {od19 an19 : Option Addr} {sl19 : Array (Option Value)} {f19 : Addr} {oc19 kV19 dc19 pm19 cd19 ct19 : Value}
    (a19 : PySem.W.nsIn K mainGlobals "_law_only" = some (some (.ref f19))) (l19 : K.lookup f19 = some ⟨oc19, od19, .func (PySem.W.fnOf "_law_only" "_law_only" (defArgs s__law_only) (defBody s__law_only) (defScope s__law_only) .none kV19 dc19 pm19 an19 cd19 ct19), sl19⟩) (c19 : PySem.W.codeIn K cd19 "_law_only" = true) (k19 : PySem.W.keepIn K (.ref f19) = true)
    {od20 an20 : Option Addr} {sl20 : Array (Option Value)} {f20 : Addr} {oc20 kV20 dc20 pm20 cd20 ct20 : Value}
    (a20 : PySem.W.nsIn K mainGlobals "_law_plan" = some (some (.ref f20))) (l20 : K.lookup f20 = some ⟨oc20, od20, .func (PySem.W.fnOf "_law_plan" "_law_plan" (defArgs s__law_plan) (defBody s__law_plan) (defScope s__law_plan) .none kV20 dc20 pm20 an20 cd20 ct20), sl20⟩) (c20 : PySem.W.codeIn K cd20 "_law_plan" = true) (k20 : PySem.W.keepIn K (.ref f20) = true)
    {od21 an21 : Option Addr} {sl21 : Array (Option Value)} {f21 : Addr} {oc21 kV21 dc21 pm21 cd21 ct21 : Value}
    (a21 : PySem.W.nsIn K mainGlobals "_law_is" = some (some (.ref f21))) (l21 : K.lookup f21 = some ⟨oc21, od21, .func (PySem.W.fnOf "_law_is" "_law_is" (defArgs s__law_is) (defBody s__law_is) (defScope s__law_is) .none kV21 dc21 pm21 an21 cd21 ct21), sl21⟩) (c21 : PySem.W.codeIn K cd21 "_law_is" = true) (k21 : PySem.W.keepIn K (.ref f21) = true)
    {od22 an22 : Option Addr} {sl22 : Array (Option Value)} {f22 : Addr} {oc22 kV22 dc22 pm22 cd22 ct22 : Value}
    (a22 : PySem.W.nsIn K mainGlobals "_law_bent" = some (some (.ref f22))) (l22 : K.lookup f22 = some ⟨oc22, od22, .func (PySem.W.fnOf "_law_bent" "_law_bent" (defArgs s__law_bent) (defBody s__law_bent) (defScope s__law_bent) .none kV22 dc22 pm22 an22 cd22 ct22), sl22⟩) (c22 : PySem.W.codeIn K cd22 "_law_bent" = true) (k22 : PySem.W.keepIn K (.ref f22) = true)
    {od23 an23 : Option Addr} {sl23 : Array (Option Value)} {f23 : Addr} {oc23 kV23 dc23 pm23 cd23 ct23 : Value}
    (a23 : PySem.W.nsIn K mainGlobals "sum_of" = some (some (.ref f23))) (l23 : K.lookup f23 = some ⟨oc23, od23, .func (PySem.W.fnOf "sum_of" "sum_of" (defArgs s_sum_of) (defBody s_sum_of) (defScope s_sum_of) .none kV23 dc23 pm23 an23 cd23 ct23), sl23⟩) (c23 : PySem.W.codeIn K cd23 "sum_of" = true) (k23 : PySem.W.keepIn K (.ref f23) = true)
    {od24 an24 : Option Addr} {sl24 : Array (Option Value)} {f24 : Addr} {oc24 kV24 dc24 pm24 cd24 ct24 : Value}
    (a24 : PySem.W.nsIn K mainGlobals "times_of" = some (some (.ref f24))) (l24 : K.lookup f24 = some ⟨oc24, od24, .func (PySem.W.fnOf "times_of" "times_of" (defArgs s_times_of) (defBody s_times_of) (defScope s_times_of) .none kV24 dc24 pm24 an24 cd24 ct24), sl24⟩) (c24 : PySem.W.codeIn K cd24 "times_of" = true) (k24 : PySem.W.keepIn K (.ref f24) = true)
    {od25 an25 : Option Addr} {sl25 : Array (Option Value)} {f25 : Addr} {oc25 kV25 dc25 pm25 cd25 ct25 : Value}
    (a25 : PySem.W.nsIn K mainGlobals "need_shares" = some (some (.ref f25))) (l25 : K.lookup f25 = some ⟨oc25, od25, .func (PySem.W.fnOf "need_shares" "need_shares" (defArgs s_need_shares) (defBody s_need_shares) (defScope s_need_shares) .none kV25 dc25 pm25 an25 cd25 ct25), sl25⟩) (c25 : PySem.W.codeIn K cd25 "need_shares" = true) (k25 : PySem.W.keepIn K (.ref f25) = true)
    {od26 an26 : Option Addr} {sl26 : Array (Option Value)} {f26 : Addr} {oc26 kV26 dc26 pm26 cd26 ct26 : Value}
    (a26 : PySem.W.nsIn K mainGlobals "are_plans" = some (some (.ref f26))) (l26 : K.lookup f26 = some ⟨oc26, od26, .func (PySem.W.fnOf "are_plans" "are_plans" (defArgs s_are_plans) (defBody s_are_plans) (defScope s_are_plans) .none kV26 dc26 pm26 an26 cd26 ct26), sl26⟩) (c26 : PySem.W.codeIn K cd26 "are_plans" = true) (k26 : PySem.W.keepIn K (.ref f26) = true)
    {od27 an27 : Option Addr} {sl27 : Array (Option Value)} {f27 : Addr} {oc27 kV27 dc27 pm27 cd27 ct27 : Value}
    (a27 : PySem.W.nsIn K mainGlobals "_law_due" = some (some (.ref f27))) (l27 : K.lookup f27 = some ⟨oc27, od27, .func (PySem.W.fnOf "_law_due" "_law_due" (defArgs s__law_due) (defBody s__law_due) (defScope s__law_due) .none kV27 dc27 pm27 an27 cd27 ct27), sl27⟩) (c27 : PySem.W.codeIn K cd27 "_law_due" = true) (k27 : PySem.W.keepIn K (.ref f27) = true)
    {od28 an28 : Option Addr} {sl28 : Array (Option Value)} {f28 : Addr} {oc28 kV28 dc28 pm28 cd28 ct28 : Value}
    (a28 : PySem.W.nsIn K mainGlobals "due_number" = some (some (.ref f28))) (l28 : K.lookup f28 = some ⟨oc28, od28, .func (PySem.W.fnOf "due_number" "due_number" (defArgs s_due_number) (defBody s_due_number) (defScope s_due_number) .none kV28 dc28 pm28 an28 cd28 ct28), sl28⟩) (c28 : PySem.W.codeIn K cd28 "due_number" = true) (k28 : PySem.W.keepIn K (.ref f28) = true)
    {od29 an29 : Option Addr} {sl29 : Array (Option Value)} {f29 : Addr} {oc29 kV29 dc29 pm29 cd29 ct29 : Value}
    (a29 : PySem.W.nsIn K mainGlobals "is_plan" = some (some (.ref f29))) (l29 : K.lookup f29 = some ⟨oc29, od29, .func (PySem.W.fnOf "is_plan" "is_plan" (defArgs s_is_plan) (defBody s_is_plan) (defScope s_is_plan) .none kV29 dc29 pm29 an29 cd29 ct29), sl29⟩) (c29 : PySem.W.codeIn K cd29 "is_plan" = true) (k29 : PySem.W.keepIn K (.ref f29) = true)
    {od30 an30 : Option Addr} {sl30 : Array (Option Value)} {f30 : Addr} {oc30 kV30 dc30 pm30 cd30 ct30 : Value}
    (a30 : PySem.W.nsIn K mainGlobals "need_price" = some (some (.ref f30))) (l30 : K.lookup f30 = some ⟨oc30, od30, .func (PySem.W.fnOf "need_price" "need_price" (defArgs s_need_price) (defBody s_need_price) (defScope s_need_price) .none kV30 dc30 pm30 an30 cd30 ct30), sl30⟩) (c30 : PySem.W.codeIn K cd30 "need_price" = true) (k30 : PySem.W.keepIn K (.ref f30) = true)
    {od31 an31 : Option Addr} {sl31 : Array (Option Value)} {f31 : Addr} {oc31 kV31 dc31 pm31 cd31 ct31 : Value}
    (a31 : PySem.W.nsIn K mainGlobals "plan_cost" = some (some (.ref f31))) (l31 : K.lookup f31 = some ⟨oc31, od31, .func (PySem.W.fnOf "plan_cost" "plan_cost" (defArgs s_plan_cost) (defBody s_plan_cost) (defScope s_plan_cost) .none kV31 dc31 pm31 an31 cd31 ct31), sl31⟩) (c31 : PySem.W.codeIn K cd31 "plan_cost" = true) (k31 : PySem.W.keepIn K (.ref f31) = true)
    {od32 an32 : Option Addr} {sl32 : Array (Option Value)} {f32 : Addr} {oc32 kV32 dc32 pm32 cd32 ct32 : Value}
    (a32 : PySem.W.nsIn K mainGlobals "_law_told" = some (some (.ref f32))) (l32 : K.lookup f32 = some ⟨oc32, od32, .func (PySem.W.fnOf "_law_told" "_law_told" (defArgs s__law_told) (defBody s__law_told) (defScope s__law_told) .none kV32 dc32 pm32 an32 cd32 ct32), sl32⟩) (c32 : PySem.W.codeIn K cd32 "_law_told" = true) (k32 : PySem.W.keepIn K (.ref f32) = true)
    {od33 an33 : Option Addr} {sl33 : Array (Option Value)} {f33 : Addr} {oc33 kV33 dc33 pm33 cd33 ct33 : Value}
    (a33 : PySem.W.nsIn K mainGlobals "law" = some (some (.ref f33))) (l33 : K.lookup f33 = some ⟨oc33, od33, .func (PySem.W.fnOf "law" "law" (defArgs s_law) (defBody s_law) (defScope s_law) .none kV33 dc33 pm33 an33 cd33 ct33), sl33⟩) (c33 : PySem.W.codeIn K cd33 "law" = true) (k33 : PySem.W.keepIn K (.ref f33) = true)
    (z_ValueError : PySem.W.nsIn K mainGlobals "ValueError" = some none)
    (z_abs : PySem.W.nsIn K mainGlobals "abs" = some none)
    (z_all : PySem.W.nsIn K mainGlobals "all" = some none)
    (z_bool : PySem.W.nsIn K mainGlobals "bool" = some none)
    (z_dict : PySem.W.nsIn K mainGlobals "dict" = some none)
    (z_divmod : PySem.W.nsIn K mainGlobals "divmod" = some none)
    (z_int : PySem.W.nsIn K mainGlobals "int" = some none)
    (z_isinstance : PySem.W.nsIn K mainGlobals "isinstance" = some none)
    (z_len : PySem.W.nsIn K mainGlobals "len" = some none)
    (z_list : PySem.W.nsIn K mainGlobals "list" = some none)
    (z_max : PySem.W.nsIn K mainGlobals "max" = some none)
    (z_min : PySem.W.nsIn K mainGlobals "min" = some none)
    (z_range : PySem.W.nsIn K mainGlobals "range" = some none)
    (z_repr : PySem.W.nsIn K mainGlobals "repr" = some none)
    (z_sorted : PySem.W.nsIn K mainGlobals "sorted" = some none)
    (z_str : PySem.W.nsIn K mainGlobals "str" = some none)
    (z_sum : PySem.W.nsIn K mainGlobals "sum" = some none)
    (z_tuple : PySem.W.nsIn K mainGlobals "tuple" = some none)
    {t_MOST_KINDS : Tok} (g_MOST_KINDS : PySem.W.nsIn K mainGlobals "MOST_KINDS" = some (some (.int 5 t_MOST_KINDS)))
    {t_MOST_PRICE : Tok} (g_MOST_PRICE : PySem.W.nsIn K mainGlobals "MOST_PRICE" = some (some (.int 99 t_MOST_PRICE)))
    {t_MOST_SHARE : Tok} (g_MOST_SHARE : PySem.W.nsIn K mainGlobals "MOST_SHARE" = some (some (.int 9 t_MOST_SHARE)))
    {p_NOUGHT : Addr} {e_NOUGHT : Option Addr} {q_NOUGHT : Array (Option Value)} {u_NOUGHT w_NOUGHT : Tok} {n_NOUGHT : Nat} (g_NOUGHT : PySem.W.nsIn K mainGlobals "NOUGHT" = some (some (.ref p_NOUGHT))) (o_NOUGHT : K.lookup p_NOUGHT = some ⟨.type "tuple", e_NOUGHT, .seq #[.int 0 u_NOUGHT, .int 1 w_NOUGHT] n_NOUGHT, q_NOUGHT⟩)
    {c_GatherError : Addr} (n_GatherError : PySem.W.nsIn K mainGlobals "GatherError" = some (some (.ref c_GatherError)))
    {c_NoKind : Addr} (n_NoKind : PySem.W.nsIn K mainGlobals "NoKind" = some (some (.ref c_NoKind)))
    {c_NoLine : Addr} (n_NoLine : PySem.W.nsIn K mainGlobals "NoLine" = some (some (.ref c_NoLine)))
    {c_NoNeeds : Addr} (n_NoNeeds : PySem.W.nsIn K mainGlobals "NoNeeds" = some (some (.ref c_NoNeeds)))
    {c_NoNumber : Addr} (n_NoNumber : PySem.W.nsIn K mainGlobals "NoNumber" = some (some (.ref c_NoNumber)))
    {c_NoPlan : Addr} (n_NoPlan : PySem.W.nsIn K mainGlobals "NoPlan" = some (some (.ref c_NoPlan)))
    {c_NoShares : Addr} (n_NoShares : PySem.W.nsIn K mainGlobals "NoShares" = some (some (.ref c_NoShares)))
    {c_NoText : Addr} (n_NoText : PySem.W.nsIn K mainGlobals "NoText" = some (some (.ref c_NoText)))
    {c_TooMany : Addr} (n_TooMany : PySem.W.nsIn K mainGlobals "TooMany" = some (some (.ref c_TooMany)))
    (q_NoPlan : PySem.W.excIn K c_NoPlan [.type "ValueError", .type "Exception", .type "BaseException", .type "object"] "ValueError.__new__" = true) (kp_NoPlan : PySem.W.keepIn K (.ref c_NoPlan) = true) (bs_NoPlan : PySem.W.subIn K (.ref c_NoPlan) (.type "BaseException") = some true) (ty_NoPlan : PySem.W.typeIn K (.ref c_NoPlan) = some (.type "type"))
    (xg_NoPlan : PySem.W.findIn K (.ref c_NoPlan) "__getattribute__" = some (some (.builtin "BaseException.__getattribute__")))
    (xk_NoPlan : PySem.W.findIn K (.ref c_NoPlan) "__getattr__" = some none)
    (xs_NoPlan : PySem.W.subIn K (.ref c_NoPlan) (.type "BaseException") = some true)
    (xd_NoPlan : PySem.W.hasDictIn K c_NoPlan = true)
    (xa_NoPlan : PySem.W.findIn K (.ref c_NoPlan) "__class__" = some (some (.builtin "object.__class__")))
    (xm_NoPlan : PySem.W.mroIn K c_NoPlan (.type "object") = some true)
    (kv_NoPlan : PySem.W.kitOne K (.ref c_NoPlan) (.type "ValueError") = some true)
    (kg_NoPlan : PySem.W.kitOne K (.ref c_NoPlan) (.ref c_GatherError) = some true)
    (em_NoPlan : PySem.W.exmOne K (.ref c_NoPlan) (.ref c_GatherError) = some true)
    (ko0_NoPlan : PySem.W.kitOne K (.ref c_NoPlan) (.ref c_NoShares) = some false)
    (ko1_NoPlan : PySem.W.kitOne K (.ref c_NoPlan) (.ref c_NoKind) = some false)
    (ko2_NoPlan : PySem.W.kitOne K (.ref c_NoPlan) (.ref c_NoNumber) = some false)
    (ko3_NoPlan : PySem.W.kitOne K (.ref c_NoPlan) (.ref c_NoNeeds) = some false)
    (ko4_NoPlan : PySem.W.kitOne K (.ref c_NoPlan) (.ref c_TooMany) = some false)
    (ko5_NoPlan : PySem.W.kitOne K (.ref c_NoPlan) (.ref c_NoPlan) = some true)
    (ko6_NoPlan : PySem.W.kitOne K (.ref c_NoPlan) (.ref c_NoLine) = some false)
    (ko7_NoPlan : PySem.W.kitOne K (.ref c_NoPlan) (.ref c_NoText) = some false)
    (x_n : PySem.W.specialIn K (.builtin "object.__class__") "__get__" = some (some (.builtin "getset_descriptor.__get__"))) (x_t : PySem.W.takesIn K (.builtin "object.__class__") = some true)
    : ∃ fd : FuncData, (∀ (s : Shared) (v : Value), BindsTo s fd ⟨[v], []⟩ [("_law_script", v)]) ∧ ∀ base : Heap, K.In base → base.Ns mainGlobals mg → SysAt base → FnG P w K mg base 7 fa fd ["_law_script"] (spD K f_law) := by
  have e := hfa.symm.trans (PySem.W.mg_of X G a33)
  cases e
  have y_ValueError := PySem.W.mg_none_of X G z_ValueError
  have y_abs := PySem.W.mg_none_of X G z_abs
  have y_all := PySem.W.mg_none_of X G z_all
  have y_bool := PySem.W.mg_none_of X G z_bool
  have y_dict := PySem.W.mg_none_of X G z_dict
  have y_divmod := PySem.W.mg_none_of X G z_divmod
  have y_int := PySem.W.mg_none_of X G z_int
  have y_isinstance := PySem.W.mg_none_of X G z_isinstance
  have y_len := PySem.W.mg_none_of X G z_len
  have y_list := PySem.W.mg_none_of X G z_list
  have y_max := PySem.W.mg_none_of X G z_max
  have y_min := PySem.W.mg_none_of X G z_min
  have y_range := PySem.W.mg_none_of X G z_range
  have y_repr := PySem.W.mg_none_of X G z_repr
  have y_sorted := PySem.W.mg_none_of X G z_sorted
  have y_str := PySem.W.mg_none_of X G z_str
  have y_sum := PySem.W.mg_none_of X G z_sum
  have y_tuple := PySem.W.mg_none_of X G z_tuple
  have x_MOST_KINDS : ∃ t, mg "MOST_KINDS" = some (.int 5 t) := ⟨_, PySem.W.mg_of X G g_MOST_KINDS⟩
  have x_MOST_PRICE : ∃ t, mg "MOST_PRICE" = some (.int 99 t) := ⟨_, PySem.W.mg_of X G g_MOST_PRICE⟩
  have x_MOST_SHARE : ∃ t, mg "MOST_SHARE" = some (.int 9 t) := ⟨_, PySem.W.mg_of X G g_MOST_SHARE⟩
  have x_NOUGHT : ∃ a, mg "NOUGHT" = some (.ref a) ∧ ∀ G, Rp K G (.tuple [.int 0, .int 1]) (.ref a) := ⟨_, PySem.W.mg_of X G g_NOUGHT, fun G => rp_tuple.mpr ⟨_, [V.int 0, V.int 1], rfl, Or.inr ⟨_, _, _, o_NOUGHT, rfl, rfl, (by show 2 ≤ sizeLine; decide), .cons ⟨_, rfl⟩ (.cons ⟨_, rfl⟩ .nil)⟩, rpa_ints [0, 1]⟩⟩
  have y_GatherError : mg "GatherError" = some (.ref c_GatherError) := PySem.W.mg_of X G n_GatherError
  have y_NoKind : mg "NoKind" = some (.ref c_NoKind) := PySem.W.mg_of X G n_NoKind
  have y_NoLine : mg "NoLine" = some (.ref c_NoLine) := PySem.W.mg_of X G n_NoLine
  have y_NoNeeds : mg "NoNeeds" = some (.ref c_NoNeeds) := PySem.W.mg_of X G n_NoNeeds
  have y_NoNumber : mg "NoNumber" = some (.ref c_NoNumber) := PySem.W.mg_of X G n_NoNumber
  have y_NoPlan : mg "NoPlan" = some (.ref c_NoPlan) := PySem.W.mg_of X G n_NoPlan
  have y_NoShares : mg "NoShares" = some (.ref c_NoShares) := PySem.W.mg_of X G n_NoShares
  have y_NoText : mg "NoText" = some (.ref c_NoText) := PySem.W.mg_of X G n_NoText
  have y_TooMany : mg "TooMany" = some (.ref c_TooMany) := PySem.W.mg_of X G n_TooMany
  have r_NoPlan : DL.RfT K mg "NoPlan" c_NoPlan := ⟨y_NoPlan, q_NoPlan, kp_NoPlan, bs_NoPlan, ty_NoPlan⟩
  have w_NoPlan : DL.XT K [c_NoShares, c_NoKind, c_NoNumber, c_NoNeeds, c_TooMany, c_NoPlan, c_NoLine, c_NoText] c_GatherError 5 c_NoPlan := DL.xt_mk ⟨xg_NoPlan, xk_NoPlan, xs_NoPlan, xd_NoPlan, xa_NoPlan, x_n, x_t, xm_NoPlan⟩ ko0_NoPlan ko1_NoPlan ko2_NoPlan ko3_NoPlan ko4_NoPlan ko5_NoPlan ko6_NoPlan ko7_NoPlan kg_NoPlan kv_NoPlan em_NoPlan
  have F1 := fun_mk (st := s_is_whole) l1 c1 k1
  have F2 := fun_mk (st := s_greatest_common) l2 c2 k2
  have F3 := fun_mk (st := s_sum_part) l3 c3 k3
  have F4 := fun_mk (st := s_all_some) l4 c4 k4
  have F5 := fun_mk (st := s__law_box) l5 c5 k5
  have F6 := fun_mk (st := s__law_take) l6 c6 k6
  have F7 := fun_mk (st := s__law_made) l7 c7 k7
  have F8 := fun_mk (st := s__law_sets) l8 c8 k8
  have F9 := fun_mk (st := s__law_classes) l9 c9 k9
  have F10 := fun_mk (st := s_made) l10 c10 k10
  have F11 := fun_mk (st := s_need_number) l11 c11 k11
  have F12 := fun_mk (st := s_is_shares) l12 c12 k12
  have F13 := fun_mk (st := s_are_kinds) l13 c13 k13
  have F14 := fun_mk (st := s_rising_some) l14 c14 k14
  have F15 := fun_mk (st := s__law_odd) l15 c15 k15
  have F16 := fun_mk (st := s__law_shares) l16 c16 k16
  have F17 := fun_mk (st := s__law_sum) l17 c17 k17
  have F18 := fun_mk (st := s__law_times) l18 c18 k18
  have F19 := fun_mk (st := s__law_only) l19 c19 k19
  have F20 := fun_mk (st := s__law_plan) l20 c20 k20
  have F21 := fun_mk (st := s__law_is) l21 c21 k21
  have F22 := fun_mk (st := s__law_bent) l22 c22 k22
  have F23 := fun_mk (st := s_sum_of) l23 c23 k23
  have F24 := fun_mk (st := s_times_of) l24 c24 k24
  have F25 := fun_mk (st := s_need_shares) l25 c25 k25
  have F26 := fun_mk (st := s_are_plans) l26 c26 k26
  have F27 := fun_mk (st := s__law_due) l27 c27 k27
  have F28 := fun_mk (st := s_due_number) l28 c28 k28
  have F29 := fun_mk (st := s_is_plan) l29 c29 k29
  have F30 := fun_mk (st := s_need_price) l30 c30 k30
  have F31 := fun_mk (st := s_plan_cost) l31 c31 k31
  have F32 := fun_mk (st := s__law_told) l32 c32 k32
  have F33 := fun_mk (st := s_law) l33 c33 k33
  refine ⟨PySem.W.fnOf "law" "law" (defArgs s_law) (defBody s_law) (defScope s_law) .none kV33 dc33 pm33 an33 cd33 ct33, fun s v => .of_eq rfl, fun base _ _ hsy => ?_⟩
  have C1 : Cl P w K mg base 1 "is_whole" f_isWhole := ok_is_whole (P := P) (w := w) (base := base) F1 (PySem.W.mg_of X G a1) y_isinstance y_bool y_int
  have C2 : Cl P w K mg base 1 "greatest_common" f_gcd := ok_greatest_common (P := P) (w := w) (base := base) F2 (PySem.W.mg_of X G a2) 
  have C3 : Cl P w K mg base 1 "sum_part" f_sumPart := ok_sum_part (P := P) (w := w) (base := base) F3 (PySem.W.mg_of X G a3) y_sum
  have C4 : Cl P w K mg base 1 "all_some" f_allSome := ok_all_some (P := P) (w := w) (base := base) F4 (PySem.W.mg_of X G a4) 
  have C5 : Cl P w K mg base 1 "_law_box" f_box2 := ok__law_box (P := P) (w := w) (base := base) F5 (PySem.W.mg_of X G a5) y_len y_range
  have C6 : Cl P w K mg base 1 "_law_take" f_take := ok__law_take (P := P) (w := w) (base := base) F6 (PySem.W.mg_of X G a6) y_divmod
  have C7 : Cl P w K mg base 1 "_law_made" f_made := ok__law_made (P := P) (w := w) (base := base) F7 (PySem.W.mg_of X G a7) y_abs
  have C8 : Cl P w K mg base 1 "_law_sets" f_lawSetsX := ok__law_sets (P := P) (w := w) (base := base) F8 (PySem.W.mg_of X G a8) y_range y_len
  have C9 : ClP P w K mg base 1 "_law_classes" (okE K [c_NoShares, c_NoKind, c_NoNumber, c_NoNeeds, c_TooMany, c_NoPlan, c_NoLine, c_NoText] c_GatherError) (f_lawClasses K [c_NoShares, c_NoKind, c_NoNumber, c_NoNeeds, c_TooMany, c_NoPlan, c_NoLine, c_NoText] c_GatherError) := ok__law_classes (P := P) (w := w) (base := base) F9 (PySem.W.mg_of X G a9) y_isinstance y_NoNeeds y_NoNumber y_NoKind y_NoShares y_NoText y_NoLine y_NoPlan y_TooMany
  have C10 : Cl P w K mg base 2 "made" f_made := ok_made (P := P) (w := w) (base := base) F10 (PySem.W.mg_of X G a10) y_abs C2
  have C11 : Cl P w K mg base 2 "need_number" f_needNumber := ok_need_number (P := P) (w := w) (base := base) F11 (PySem.W.mg_of X G a11) C1
  have C12 : Cl P w K mg base 2 "is_shares" f_isShares := ok_is_shares (P := P) (w := w) (base := base) F12 (PySem.W.mg_of X G a12) y_len y_isinstance y_tuple y_all x_MOST_KINDS x_MOST_SHARE C1
  have C13 : Cl P w K mg base 2 "are_kinds" f_areKinds := ok_are_kinds (P := P) (w := w) (base := base) F13 (PySem.W.mg_of X G a13) y_all y_isinstance y_tuple y_range y_len C1
  have C14 : Cl P w K mg base 2 "rising_some" f_rising := ok_rising_some (P := P) (w := w) (base := base) F14 (PySem.W.mg_of X G a14) y_sorted y_len y_range y_list C4
  have C15 : Cl P w K mg base 2 "_law_odd" f_oddN := ok__law_odd (P := P) (w := w) (base := base) F15 (PySem.W.mg_of X G a15) C6
  have C16 : Cl P w K mg base 2 "_law_shares" f_shares2 := ok__law_shares (P := P) (w := w) (base := base) F16 (PySem.W.mg_of X G a16) y_range y_int y_tuple C6
  have C17 : Cl P w K mg base 2 "_law_sum" f_plusG := ok__law_sum (P := P) (w := w) (base := base) F17 (PySem.W.mg_of X G a17) C7
  have C18 : Cl P w K mg base 2 "_law_times" f_timesG := ok__law_times (P := P) (w := w) (base := base) F18 (PySem.W.mg_of X G a18) C7
  have C19 : ClP P w K mg base 2 "_law_only" (okE K [c_NoShares, c_NoKind, c_NoNumber, c_NoNeeds, c_TooMany, c_NoPlan, c_NoLine, c_NoText] c_GatherError) (f_lawOnly K [c_NoShares, c_NoKind, c_NoNumber, c_NoNeeds, c_TooMany, c_NoPlan, c_NoLine, c_NoText] c_GatherError) := ok__law_only (P := P) (w := w) (base := base) F19 (PySem.W.mg_of X G a19) y_isinstance y_ValueError y_range C9 y_GatherError
  have C20 : Cl P w K mg base 2 "_law_plan" f_lawPlan61 := ok__law_plan (P := P) (w := w) (base := base) F20 (PySem.W.mg_of X G a20) y_len y_int C6 C8
  have C21 : ClG P w K mg base 2 "_law_is" (f_arePlansO K P w) := ok__law_is (P := P) (w := w) (base := base) F21 (PySem.W.mg_of X G a21) y_isinstance y_dict y_repr y_len y_str C8
  have C22 : Cl P w K mg base 2 "_law_bent" (f_bent61 K P w) := ok__law_bent (P := P) (w := w) (base := base) F22 (PySem.W.mg_of X G a22) y_sorted y_len y_dict y_tuple C6
  have C23 : Cl P w K mg base 3 "sum_of" f_sumOf := ok_sum_of (P := P) (w := w) (base := base) F23 (PySem.W.mg_of X G a23) C10
  have C24 : Cl P w K mg base 3 "times_of" f_timesOf := ok_times_of (P := P) (w := w) (base := base) F24 (PySem.W.mg_of X G a24) C10
  have C25 : Cl P w K mg base 3 "need_shares" f_needShares := ok_need_shares (P := P) (w := w) (base := base) F25 (PySem.W.mg_of X G a25) C12
  have C26 : Cl P w K mg base 3 "are_plans" (f_arePlansO K P w) := ok_are_plans (P := P) (w := w) (base := base) F26 (PySem.W.mg_of X G a26) y_len y_isinstance y_dict y_str C14 C13
  have C27 : Cl P w K mg base 3 "_law_due" f_dueG := ok__law_due (P := P) (w := w) (base := base) F27 (PySem.W.mg_of X G a27) y_sum y_tuple C17 C18
  have C28 : Cl P w K mg base 4 "due_number" f_dueG := ok_due_number (P := P) (w := w) (base := base) F28 (PySem.W.mg_of X G a28) y_sum y_tuple C23 C24 C3
  have C29 : Cl P w K mg base 4 "is_plan" (f_arePlansO K P w) := ok_is_plan (P := P) (w := w) (base := base) F29 (PySem.W.mg_of X G a29) C25 C26
  have C30 : Cl P w K mg base 4 "need_price" f_needPrice := ok_need_price (P := P) (w := w) (base := base) F30 (PySem.W.mg_of X G a30) x_MOST_PRICE C25 C11
  have O31 := fok_plan_cost (P := P) (w := w) (base := base) F31 (PySem.W.mg_of X G a31) y_len y_range y_tuple x_NOUGHT C30 C26 C14 C28
  have C31 : Cl P w K mg base 5 "plan_cost" f_planCostT := ok_plan_cost (P := P) (w := w) (base := base) F31 (PySem.W.mg_of X G a31) O31
  have X31 : ClX P w K mg base 5 "plan_cost" (orX f_planCostT (fnNoCost K P w [c_NoShares, c_NoKind, c_NoNumber, c_NoNeeds, c_TooMany, c_NoPlan, c_NoLine, c_NoText])) := okx_plan_cost (P := P) (w := w) (base := base) F31 (PySem.W.mg_of X G a31) y_len y_range y_tuple x_NOUGHT C30 C26 C14 C28 r_NoPlan O31
  have C32 : Cl P w K mg base 6 "_law_told" (f_told61 K P w) := ok__law_told (P := P) (w := w) (base := base) F32 (PySem.W.mg_of X G a32) y_range C19 X31 y_GatherError w_NoPlan
  exact ok_law F33 y_range y_max y_min y_len y_dict y_repr y_isinstance y_bool y_tuple C5 C16 C6 C15 C20 C22 C29 C21 C8 C27 C32 hsy
end
end Law
open PySem PySem.W PyProof.Rows
set_option maxRecDepth 100000 in
set_option maxHeartbeats 0 in
theorem PySem.Challenge.cw_kindsgathered_k61_plans_and_costs_holds : PySem.Challenge.rw_kindsgathered_k61_plans_and_costs.Holds := by
  w_on; o_law; k_head; (case hw => w_witness2)
  k_fill
  refine DL.walkS (l := PySem.Challenge.rw_kindsgathered_k61_plans_and_costs) (n := 63) (k := 7) (x := "_law_script") (sp := DL.f_law) rfl (by decide) (by decide +kernel) rfl ⟨rfl, by decide, by decide⟩ (fun w h Y => PySem.W.kIn_of Y) ?F Law.law_ends
  case F =>
    intro w mg fa h KX G hmg
    refine' Law.all_mk KX G hmg ?a1 ?l1 ?c1 ?k1 ?a2 ?l2 ?c2 ?k2 ?a3 ?l3 ?c3 ?k3 ?a4 ?l4 ?c4 ?k4 ?a5 ?l5 ?c5 ?k5 ?a6 ?l6 ?c6 ?k6 ?a7 ?l7 ?c7 ?k7 ?a8 ?l8 ?c8 ?k8 ?a9 ?l9 ?c9 ?k9 ?a10 ?l10 ?c10 ?k10 ?a11 ?l11 ?c11 ?k11 ?a12 ?l12 ?c12 ?k12 ?a13 ?l13 ?c13 ?k13 ?a14 ?l14 ?c14 ?k14 ?a15 ?l15 ?c15 ?k15 ?a16 ?l16 ?c16 ?k16 ?a17 ?l17 ?c17 ?k17 ?a18 ?l18 ?c18 ?k18 ?a19 ?l19 ?c19 ?k19 ?a20 ?l20 ?c20 ?k20 ?a21 ?l21 ?c21 ?k21 ?a22 ?l22 ?c22 ?k22 ?a23 ?l23 ?c23 ?k23 ?a24 ?l24 ?c24 ?k24 ?a25 ?l25 ?c25 ?k25 ?a26 ?l26 ?c26 ?k26 ?a27 ?l27 ?c27 ?k27 ?a28 ?l28 ?c28 ?k28 ?a29 ?l29 ?c29 ?k29 ?a30 ?l30 ?c30 ?k30 ?a31 ?l31 ?c31 ?k31 ?a32 ?l32 ?c32 ?k32 ?a33 ?l33 ?c33 ?k33 ?z_ValueError ?z_abs ?z_all ?z_bool ?z_dict ?z_divmod ?z_int ?z_isinstance ?z_len ?z_list ?z_max ?z_min ?z_range ?z_repr ?z_sorted ?z_str ?z_sum ?z_tuple ?g_MOST_KINDS ?g_MOST_PRICE ?g_MOST_SHARE ?g_NOUGHT ?o_NOUGHT ?n_GatherError ?n_NoKind ?n_NoLine ?n_NoNeeds ?n_NoNumber ?n_NoPlan ?n_NoShares ?n_NoText ?n_TooMany ?q_NoPlan ?kp_NoPlan ?bs_NoPlan ?ty_NoPlan ?xg_NoPlan ?xk_NoPlan ?xs_NoPlan ?xd_NoPlan ?xa_NoPlan ?xm_NoPlan ?kv_NoPlan ?kg_NoPlan ?em_NoPlan ?ko0_NoPlan ?ko1_NoPlan ?ko2_NoPlan ?ko3_NoPlan ?ko4_NoPlan ?ko5_NoPlan ?ko6_NoPlan ?ko7_NoPlan ?x_n ?x_t
    (case a1 => k_is)
    (case l1 => k_is)
    (case c1 => k_is)
    (case k1 => k_is)
    (case a2 => k_is)
    (case l2 => k_is)
    (case c2 => k_is)
    (case k2 => k_is)
    (case a3 => k_is)
    (case l3 => k_is)
    (case c3 => k_is)
    (case k3 => k_is)
    (case a4 => k_is)
    (case l4 => k_is)
    (case c4 => k_is)
    (case k4 => k_is)
    (case a5 => k_is)
    (case l5 => k_is)
    (case c5 => k_is)
    (case k5 => k_is)
    (case a6 => k_is)
    (case l6 => k_is)
    (case c6 => k_is)
    (case k6 => k_is)
    (case a7 => k_is)
    (case l7 => k_is)
    (case c7 => k_is)
    (case k7 => k_is)
    (case a8 => k_is)
    (case l8 => k_is)
    (case c8 => k_is)
    (case k8 => k_is)
    (case a9 => k_is)
    (case l9 => k_is)
    (case c9 => k_is)
    (case k9 => k_is)
    (case a10 => k_is)
    (case l10 => k_is)
    (case c10 => k_is)
    (case k10 => k_is)
    (case a11 => k_is)
    (case l11 => k_is)
    (case c11 => k_is)
    (case k11 => k_is)
    (case a12 => k_is)
    (case l12 => k_is)
    (case c12 => k_is)
    (case k12 => k_is)
    (case a13 => k_is)
    (case l13 => k_is)
    (case c13 => k_is)
    (case k13 => k_is)
    (case a14 => k_is)
    (case l14 => k_is)
    (case c14 => k_is)
    (case k14 => k_is)
    (case a15 => k_is)
    (case l15 => k_is)
    (case c15 => k_is)
    (case k15 => k_is)
    (case a16 => k_is)
    (case l16 => k_is)
    (case c16 => k_is)
    (case k16 => k_is)
    (case a17 => k_is)
    (case l17 => k_is)
    (case c17 => k_is)
    (case k17 => k_is)
    (case a18 => k_is)
    (case l18 => k_is)
    (case c18 => k_is)
    (case k18 => k_is)
    (case a19 => k_is)
    (case l19 => k_is)
    (case c19 => k_is)
    (case k19 => k_is)
    (case a20 => k_is)
    (case l20 => k_is)
    (case c20 => k_is)
    (case k20 => k_is)
    (case a21 => k_is)
    (case l21 => k_is)
    (case c21 => k_is)
    (case k21 => k_is)
    (case a22 => k_is)
    (case l22 => k_is)
    (case c22 => k_is)
    (case k22 => k_is)
    (case a23 => k_is)
    (case l23 => k_is)
    (case c23 => k_is)
    (case k23 => k_is)
    (case a24 => k_is)
    (case l24 => k_is)
    (case c24 => k_is)
    (case k24 => k_is)
    (case a25 => k_is)
    (case l25 => k_is)
    (case c25 => k_is)
    (case k25 => k_is)
    (case a26 => k_is)
    (case l26 => k_is)
    (case c26 => k_is)
    (case k26 => k_is)
    (case a27 => k_is)
    (case l27 => k_is)
    (case c27 => k_is)
    (case k27 => k_is)
    (case a28 => k_is)
    (case l28 => k_is)
    (case c28 => k_is)
    (case k28 => k_is)
    (case a29 => k_is)
    (case l29 => k_is)
    (case c29 => k_is)
    (case k29 => k_is)
    (case a30 => k_is)
    (case l30 => k_is)
    (case c30 => k_is)
    (case k30 => k_is)
    (case a31 => k_is)
    (case l31 => k_is)
    (case c31 => k_is)
    (case k31 => k_is)
    (case a32 => k_is)
    (case l32 => k_is)
    (case c32 => k_is)
    (case k32 => k_is)
    (case a33 => k_is)
    (case l33 => k_is)
    (case c33 => k_is)
    (case k33 => k_is)
    (case z_ValueError => k_is)
    (case z_abs => k_is)
    (case z_all => k_is)
    (case z_bool => k_is)
    (case z_dict => k_is)
    (case z_divmod => k_is)
    (case z_int => k_is)
    (case z_isinstance => k_is)
    (case z_len => k_is)
    (case z_list => k_is)
    (case z_max => k_is)
    (case z_min => k_is)
    (case z_range => k_is)
    (case z_repr => k_is)
    (case z_sorted => k_is)
    (case z_str => k_is)
    (case z_sum => k_is)
    (case z_tuple => k_is)
    (case g_MOST_KINDS => k_is)
    (case g_MOST_PRICE => k_is)
    (case g_MOST_SHARE => k_is)
    (case g_NOUGHT => k_is)
    (case o_NOUGHT => k_is)
    (case n_GatherError => k_is)
    (case n_NoKind => k_is)
    (case n_NoLine => k_is)
    (case n_NoNeeds => k_is)
    (case n_NoNumber => k_is)
    (case n_NoPlan => k_is)
    (case n_NoShares => k_is)
    (case n_NoText => k_is)
    (case n_TooMany => k_is)
    (case q_NoPlan => k_exc)
    (case kp_NoPlan => k_is)
    (case bs_NoPlan => k_is)
    (case ty_NoPlan => k_is)
    (case xg_NoPlan => k_is)
    (case xk_NoPlan => k_is)
    (case xs_NoPlan => k_is)
    (case xd_NoPlan => k_is)
    (case xa_NoPlan => k_is)
    (case xm_NoPlan => k_is)
    (case kv_NoPlan => kit_is)
    (case kg_NoPlan => kit_is)
    (case em_NoPlan => kts_exm)
    (case ko0_NoPlan => kit_is)
    (case ko1_NoPlan => kit_is)
    (case ko2_NoPlan => kit_is)
    (case ko3_NoPlan => kit_is)
    (case ko4_NoPlan => kit_is)
    (case ko5_NoPlan => kit_is)
    (case ko6_NoPlan => kit_is)
    (case ko7_NoPlan => kit_is)
    (case x_n => k_is)
    (case x_t => k_is)
