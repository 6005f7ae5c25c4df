import PyProof.Rows.All
import Wide.All
import OpenK.AllK
import Wide.FinOn
import HandS.ForMost
import HandS.ForExc
import HandS.IsInst
import HandS.Wide
import HandS.TupAny
import HandS.TupMul
import HandS.Conv
import HandS.Deep
import PyProof.ReprRoads
import PyProof.SumWalkG
import PyProof.WalksMore
import HandS.EndBits
import PyProof.ReprLen
import HandS.TupLe
import HandS.Text
import HandS.StrSplit
import HandS.Iter
import HandS.Walk
import HandS.TryOnly
import KE.SortKeyHeap
import HandS.SortKw
import KE.KDictDisplayH
import HandS.SortInts
import HandS.Zip
import KE.GoesMore
import KE.KDictWalk
import HandS.Dict
import KE.KDictPairs
import KE.KDictCopyH
import HandS.Style
import HandS.HotCalls
import HandS.ExcIs
import HandS.ExcCtx
import HandS.Strs
import HandS.TupLen
import KE.SortData
import HandS.DictTup
import PyProof.StrLawsRepr
import KE.KDictKeyed
import HandS.CallLocal
import PyProof.ReprReads
import PyProof.ReprText
import PyProof.Rows.ReprOcc
import HandS.WordsDict
import KE.KRevSl
import HandS.SetFor
import HandS.Flow
import HandS.ExcInit
import HandS.ClsMeth
import HandS.ExcField
import PySem.Challenge.RW_kindsgathered_k04_shares_written
set_option Elab.async false
set_option linter.all false
set_option maxRecDepth 100000
set_option maxHeartbeats 4000000
namespace DL
open PySem L2
/-! data behind values -/
def keyD : Key → PyData
  | .inl i => .int i
  | .inr x => .str x
mutual
def Rp (K : PySem.W.Frag) (G : Hp) : PyData → V → Prop
  | .none, v => v = .non
  | .bool b, v => v = .bl b
  | .int i, v => v = .int i
  | .str s, v => v = .str s
  | .list ds, v => ∃ a xs, v = .ref a ∧ Rd G a (.lst xs) ∧ RpAll K G ds xs
  | .tuple ds, v => ∃ a xs, v = .ref a ∧ SqT K G a xs ∧ RpAll K G ds xs
  | .dict kvs, v => ∃ a, v = .ref a ∧ ((∃ es, G a = some (.dT es) ∧ RpT K G kvs es) ∨ (∃ es, G a = some (.dK es) ∧ RpK K G kvs es))
def RpAll (K : PySem.W.Frag) (G : Hp) : List PyData → List V → Prop
  | [], xs => xs = []
  | d :: ds, xs => ∃ x r, xs = x :: r ∧ Rp K G d x ∧ RpAll K G ds r
def RpT (K : PySem.W.Frag) (G : Hp) : List (PyData × PyData) → List (List Key × V) → Prop
  | [], es => es = []
  | (k, d) :: r, es => ∃ ks v t, es = (ks, v) :: t ∧ k = .tuple (ks.map keyD) ∧ Rp K G d v ∧ RpT K G r t
def RpK (K : PySem.W.Frag) (G : Hp) : List (PyData × PyData) → List (Key × V) → Prop
  | [], es => es = []
  | (k, d) :: r, es => ∃ ks v t, es = (ks, v) :: t ∧ k = keyD ks ∧ Rp K G d v ∧ RpK K G r t
end
def Le (G G' : Hp) : Prop := ∀ a o, G a = some o → G' a = some o
theorem Le.refl (G : Hp) : Le G G := fun _ _ h => h
theorem Le.trans {G G1 G2 : Hp} (a : Le G G1) (b : Le G1 G2) : Le G G2 := fun x o h => b x o (a x o h)
theorem Le.new {G : Hp} {p : Addr} {o : HO} (h : G p = none) : Le G (upd G p o) := fun a u e => by
  rw [upd_ne (ne_of_none e h)]; exact e
theorem Le.rd {G G' : Hp} {a : Addr} {u : HO} (e : Le G G') (h : Rd G a u) : Rd G' a u := by
  rcases h with h | ⟨o, h⟩
  · exact Or.inl (e a _ h)
  · exact Or.inr ⟨o, e a _ h⟩
theorem Le.sqL {K : PySem.W.Frag} {G G' : Hp} {a : Addr} {xs : List V} (e : Le G G') (h : SqL K G a xs) : SqL K G' a xs := by
  rcases h with h | h
  · exact Or.inl (e.rd h)
  · exact Or.inr h
theorem Le.sqT {K : PySem.W.Frag} {G G' : Hp} {a : Addr} {xs : List V} (e : Le G G') (h : SqT K G a xs) : SqT K G' a xs := by
  rcases h with h | h
  · exact Or.inl (e.rd h)
  · exact Or.inr h
mutual
theorem Rp.mono {K : PySem.W.Frag} {G G' : Hp} (e : Le G G') : ∀ (d : PyData) (v : V), Rp K G d v → Rp K G' d v
  | .none, v, h => by rw [Rp] at h ⊢; exact h
  | .bool b, v, h => by rw [Rp] at h ⊢; exact h
  | .int i, v, h => by rw [Rp] at h ⊢; exact h
  | .str s, v, h => by rw [Rp] at h ⊢; exact h
  | .list ds, v, h => by
    rw [Rp] at h ⊢
    obtain ⟨a, xs, h1, h2, h3⟩ := h
    exact ⟨a, xs, h1, e.rd h2, RpAll.mono e ds xs h3⟩
  | .tuple ds, v, h => by
    rw [Rp] at h ⊢
    obtain ⟨a, xs, h1, h2, h3⟩ := h
    exact ⟨a, xs, h1, e.sqT h2, RpAll.mono e ds xs h3⟩
  | .dict kvs, v, h => by
    rw [Rp] at h ⊢
    obtain ⟨a, h1, h2⟩ := h
    refine ⟨a, h1, ?_⟩
    rcases h2 with ⟨es, h3, h4⟩ | ⟨es, h3, h4⟩
    · exact Or.inl ⟨es, e _ _ h3, RpT.mono e kvs es h4⟩
    · exact Or.inr ⟨es, e _ _ h3, RpK.mono e kvs es h4⟩
theorem RpAll.mono {K : PySem.W.Frag} {G G' : Hp} (e : Le G G') : ∀ (ds : List PyData) (xs : List V), RpAll K G ds xs → RpAll K G' ds xs
  | [], xs, h => by rw [RpAll] at h ⊢; exact h
  | d :: ds, xs, h => by
    rw [RpAll] at h ⊢
    obtain ⟨x, r, h1, h2, h3⟩ := h
    exact ⟨x, r, h1, Rp.mono e d x h2, RpAll.mono e ds r h3⟩
theorem RpT.mono {K : PySem.W.Frag} {G G' : Hp} (e : Le G G') : ∀ (kvs : List (PyData × PyData)) (es : List (List Key × V)), RpT K G kvs es → RpT K G' kvs es
  | [], es, h => by rw [RpT] at h ⊢; exact h
  | (k, d) :: r, es, h => by
    rw [RpT] at h ⊢
    obtain ⟨ks, v, t, h1, h2, h3, h4⟩ := h
    exact ⟨ks, v, t, h1, h2, Rp.mono e d v h3, RpT.mono e r t h4⟩
theorem RpK.mono {K : PySem.W.Frag} {G G' : Hp} (e : Le G G') : ∀ (kvs : List (PyData × PyData)) (es : List (Key × V)), RpK K G kvs es → RpK K G' kvs es
  | [], es, h => by rw [RpK] at h ⊢; exact h
  | (k, d) :: r, es, h => by
    rw [RpK] at h ⊢
    obtain ⟨ks, v, t, h1, h2, h3, h4⟩ := h
    exact ⟨ks, v, t, h1, h2, Rp.mono e d v h3, RpK.mono e r t h4⟩
end
section
variable {K : PySem.W.Frag} {G : Hp} {v : V}
theorem rp_none : Rp K G .none v ↔ v = .non := by rw [Rp]
theorem rp_bool {b : Bool} : Rp K G (.bool b) v ↔ v = .bl b := by rw [Rp]
theorem rp_int {i : Int} : Rp K G (.int i) v ↔ v = .int i := by rw [Rp]
theorem rp_str {s : Str} : Rp K G (.str s) v ↔ v = .str s := by rw [Rp]
theorem rp_list {ds : List PyData} : Rp K G (.list ds) v ↔ ∃ a xs, v = .ref a ∧ Rd G a (.lst xs) ∧ RpAll K G ds xs := by rw [Rp]
theorem rp_tuple {ds : List PyData} : Rp K G (.tuple ds) v ↔ ∃ a xs, v = .ref a ∧ SqT K G a xs ∧ RpAll K G ds xs := by rw [Rp]
theorem rpa_nil {xs : List V} : RpAll K G [] xs ↔ xs = [] := by rw [RpAll]
theorem rpa_cons {d : PyData} {ds : List PyData} {xs : List V} : RpAll K G (d :: ds) xs ↔ ∃ x r, xs = x :: r ∧ Rp K G d x ∧ RpAll K G ds r := by rw [RpAll]
end
theorem RpAll.length {K : PySem.W.Frag} {G : Hp} : ∀ {ds : List PyData} {xs : List V}, RpAll K G ds xs → xs.length = ds.length
  | [], xs, h => by rw [RpAll] at h; rw [h]; rfl
  | d :: ds, xs, h => by
    rw [RpAll] at h
    obtain ⟨x, r, h1, _, h3⟩ := h
    rw [h1, List.length_cons, List.length_cons, RpAll.length h3]
theorem RpAll.get {K : PySem.W.Frag} {G : Hp} : ∀ {ds : List PyData} {xs : List V} {i : Nat} {x : V}, RpAll K G ds xs → xs[i]? = some x → ∃ d, ds[i]? = some d ∧ Rp K G d x
  | [], xs, i, x, h, e => by rw [RpAll] at h; subst h; simp at e
  | d :: ds, xs, 0, x, h, e => by
    rw [RpAll] at h
    obtain ⟨y, r, h1, h2, _⟩ := h
    subst h1
    simp at e
    subst e
    exact ⟨d, rfl, h2⟩
  | d :: ds, xs, i + 1, x, h, e => by
    rw [RpAll] at h
    obtain ⟨y, r, h1, _, h3⟩ := h
    subst h1
    obtain ⟨z, h4, h5⟩ := RpAll.get (i := i) (x := x) h3 (by simpa using e)
    exact ⟨z, by simpa using h4, h5⟩
theorem RpAll.at {K : PySem.W.Frag} {G : Hp} : ∀ {ds : List PyData} {xs : List V} {i : Nat} {d : PyData}, RpAll K G ds xs → ds[i]? = some d → ∃ x, xs[i]? = some x ∧ Rp K G d x
  | [], xs, i, d, h, e => by simp at e
  | d0 :: ds, xs, 0, d, h, e => by
    rw [RpAll] at h
    obtain ⟨y, r, h1, h2, _⟩ := h
    subst h1
    simp at e
    subst e
    exact ⟨y, rfl, h2⟩
  | d0 :: ds, xs, i + 1, d, h, e => by
    rw [RpAll] at h
    obtain ⟨y, r, h1, _, h3⟩ := h
    subst h1
    obtain ⟨z, h4, h5⟩ := RpAll.at (i := i) (d := d) h3 (by simpa using e)
    exact ⟨z, by simpa using h4, h5⟩
theorem RpAll.append {K : PySem.W.Frag} {G : Hp} : ∀ {ds es : List PyData} {xs ys : List V}, RpAll K G ds xs → RpAll K G es ys → RpAll K G (ds ++ es) (xs ++ ys)
  | [], es, xs, ys, h, g => by rw [RpAll] at h; subst h; exact g
  | d :: ds, es, xs, ys, h, g => by
    rw [RpAll] at h
    obtain ⟨y, r, h1, h2, h3⟩ := h
    subst h1
    rw [List.cons_append, List.cons_append, RpAll]
    exact ⟨y, r ++ ys, rfl, h2, RpAll.append h3 g⟩
theorem RpAll.ints {K : PySem.W.Frag} {G : Hp} : ∀ {ns : List Int} {xs : List V}, RpAll K G (ns.map PyData.int) xs → xs = ns.map V.int
  | [], xs, h => by rw [List.map_nil, RpAll] at h; rw [h]; rfl
  | n :: ns, xs, h => by
    rw [List.map_cons, RpAll] at h
    obtain ⟨y, r, h1, h2, h3⟩ := h
    rw [Rp] at h2
    rw [h1, h2, RpAll.ints h3]; rfl
theorem RpAll.bools {K : PySem.W.Frag} {G : Hp} : ∀ {ns : List Bool} {xs : List V}, RpAll K G (ns.map PyData.bool) xs → xs = ns.map V.bl
  | [], xs, h => by rw [List.map_nil, RpAll] at h; rw [h]; rfl
  | n :: ns, xs, h => by
    rw [List.map_cons, RpAll] at h
    obtain ⟨y, r, h1, h2, h3⟩ := h
    rw [Rp] at h2
    rw [h1, h2, RpAll.bools h3]; rfl
theorem RpAll.strs {K : PySem.W.Frag} {G : Hp} : ∀ {ns : List Str} {xs : List V}, RpAll K G (ns.map PyData.str) xs → xs = ns.map V.str
  | [], xs, h => by rw [List.map_nil, RpAll] at h; rw [h]; rfl
  | n :: ns, xs, h => by
    rw [List.map_cons, RpAll] at h
    obtain ⟨y, r, h1, h2, h3⟩ := h
    rw [Rp] at h2
    rw [h1, h2, RpAll.strs h3]; rfl
theorem rpa_ints {K : PySem.W.Frag} {G : Hp} : ∀ (ns : List Int), RpAll K G (ns.map PyData.int) (ns.map V.int)
  | [] => by rw [List.map_nil, RpAll]; rfl
  | n :: ns => by
    rw [List.map_cons, List.map_cons, RpAll]
    exact ⟨_, _, rfl, by rw [Rp], rpa_ints ns⟩
/-! values at this level -/
inductive Val where
  | d (x : PyData)
  | v (w : V)
  | scr (ns : List Int)
  | any
  /-- a tuple of ints, made by the code itself -/
  | t (ns : List Int)
  /-- a list of such tuples, that stays as it is -/
  | lt (nss : List (List Int))
  /-- a pair of such a tuple and data -/
  | p (ns : List Int) (x : PyData)
  /-- a tuple of ints without attributes of its own -/
  | f (ns : List Int)
  /-- any other thing that stays as it is, by what is true of it -/
  | g (P : Hp → V → Prop)
def TAll (G : Hp) : List (List Int) → List V → Prop
  | [], xs => xs = []
  | ns :: r, xs => ∃ b t, xs = .ref b :: t ∧ G b = some (.tup (ns.map V.int)) ∧ TAll G r t
theorem TAll.mono {G G' : Hp} (e : Le G G') : ∀ {nss : List (List Int)} {xs : List V}, TAll G nss xs → TAll G' nss xs
  | [], xs, h => h
  | ns :: r, xs, h => by
    obtain ⟨b, t, h1, h2, h3⟩ := h
    exact ⟨b, t, h1, e _ _ h2, TAll.mono e h3⟩
theorem TAll.all {K : PySem.W.Frag} {G : Hp} : ∀ {nss : List (List Int)} {xs : List V}, TAll G nss xs → RpAll K G (nss.map fun ns => .tuple (ns.map PyData.int)) xs
  | [], xs, h => by rw [List.map_nil, RpAll]; exact h
  | ns :: r, xs, h => by
    obtain ⟨b, t, h1, h2, h3⟩ := h
    rw [List.map_cons, RpAll]
    exact ⟨_, t, h1, rp_tuple.mpr ⟨b, _, rfl, SqT.of h2, rpa_ints ns⟩, TAll.all h3⟩
inductive VR (K : PySem.W.Frag) (G : Hp) : Val → V → Prop
  | d {x : PyData} {v : V} (h : Rp K G x v) : VR K G (.d x) v
  | v {w : V} : VR K G (.v w) w
  | scr {ns : List Int} {a : Addr} (h : SqL K G a (ns.map V.int)) : VR K G (.scr ns) (.ref a)
  | any {v : V} : VR K G .any v
  | t {ns : List Int} {a : Addr} (h : G a = some (.tup (ns.map V.int))) : VR K G (.t ns) (.ref a)
  | lt {nss : List (List Int)} {a : Addr} {xs : List V} (h : Rd G a (.lst xs)) (h2 : TAll G nss xs) : VR K G (.lt nss) (.ref a)
  | p {ns : List Int} {x : PyData} {a b : Addr} {w : V} (h : G a = some (.tup [.ref b, w])) (h2 : G b = some (.tup (ns.map V.int))) (h3 : Rp K G x w) : VR K G (.p ns x) (.ref a)
  | f {ns : List Int} {a : Addr} {o : Obj} (h : G a = some (.frz o (.tup (ns.map V.int)))) (h1 : o.cls = .type "tuple") (h2 : o.dict = none) : VR K G (.f ns) (.ref a)
  | g {P : Hp → V → Prop} {v : V} (h : P G v) (h1 : ∀ G G', Le G G' → P G v → P G' v) : VR K G (.g P) v
theorem VR.mono {K : PySem.W.Frag} {G G' : Hp} (e : Le G G') {r : Val} {v : V} (h : VR K G r v) : VR K G' r v := by
  cases h with
  | d h => exact .d (Rp.mono e _ v h)
  | v => exact .v
  | scr h => exact .scr (e.sqL h)
  | any => exact .any
  | t h => exact .t (e _ _ h)
  | lt h h2 => exact .lt (e.rd h) (h2.mono e)
  | p h h2 h3 => exact .p (e _ _ h) (e _ _ h2) (Rp.mono e _ _ h3)
  | f h h1 h2 => exact .f (e _ _ h) h1 h2
  | g h h1 => exact .g (h1 _ _ e h) h1
theorem VR.rp {K : PySem.W.Frag} {G : Hp} {x : PyData} {v : V} (h : VR K G (.d x) v) : Rp K G x v := by
  cases h with
  | d h => exact h
theorem VR.eq {K : PySem.W.Frag} {G : Hp} {w v : V} (h : VR K G (.v w) v) : v = w := by
  cases h with
  | v => rfl
def VRs (K : PySem.W.Frag) (G : Hp) : List Val → List V → Prop
  | [], xs => xs = []
  | r :: rs, xs => ∃ x t, xs = x :: t ∧ VR K G r x ∧ VRs K G rs t
theorem VRs.mono {K : PySem.W.Frag} {G G' : Hp} (e : Le G G') : ∀ {rs : List Val} {xs : List V}, VRs K G rs xs → VRs K G' rs xs
  | [], xs, h => h
  | r :: rs, xs, h => by
    obtain ⟨x, t, h1, h2, h3⟩ := h
    exact ⟨x, t, h1, h2.mono e, VRs.mono e h3⟩
theorem VRs.length {K : PySem.W.Frag} {G : Hp} : ∀ {rs : List Val} {xs : List V}, VRs K G rs xs → xs.length = rs.length
  | [], xs, h => by
    have h : xs = [] := h
    rw [h]; rfl
  | r :: rs, xs, h => by
    obtain ⟨x, t, h1, _, h3⟩ := h
    rw [h1, List.length_cons, List.length_cons, VRs.length h3]
theorem VRs.ofAll {K : PySem.W.Frag} {G : Hp} : ∀ {ds : List PyData} {xs : List V}, RpAll K G ds xs → VRs K G (ds.map Val.d) xs
  | [], xs, h => by rw [RpAll] at h; exact h
  | d :: ds, xs, h => by
    rw [RpAll] at h
    obtain ⟨x, r, h1, h2, h3⟩ := h
    exact ⟨x, r, h1, .d h2, VRs.ofAll h3⟩
theorem VRs.toAll {K : PySem.W.Frag} {G : Hp} : ∀ {ds : List PyData} {xs : List V}, VRs K G (ds.map Val.d) xs → RpAll K G ds xs
  | [], xs, h => by rw [RpAll]; exact h
  | d :: ds, xs, h => by
    obtain ⟨x, r, h1, h2, h3⟩ := h
    rw [RpAll]
    exact ⟨x, r, h1, h2.rp, VRs.toAll h3⟩
theorem VRs.append {K : PySem.W.Frag} {G : Hp} : ∀ {rs ss : List Val} {xs ys : List V}, VRs K G rs xs → VRs K G ss ys → VRs K G (rs ++ ss) (xs ++ ys)
  | [], ss, xs, ys, h, g => by
    have h : xs = [] := h
    subst h; exact g
  | r :: rs, ss, xs, ys, h, g => by
    obtain ⟨x, t, h1, h2, h3⟩ := h
    subst h1
    exact ⟨x, t ++ ys, rfl, h2, VRs.append h3 g⟩
/-! slots -/
def Sl (K : PySem.W.Frag) (G : Hp) : List Val → St → Prop
  | [], s => s = []
  | r :: rs, s => ∃ x t, s = x :: t ∧ (r = .any ∨ ∃ v, x = some v ∧ VR K G r v) ∧ Sl K G rs t
theorem Sl.mono {K : PySem.W.Frag} {G G' : Hp} (e : Le G G') : ∀ {rs : List Val} {s : St}, Sl K G rs s → Sl K G' rs s
  | [], s, h => h
  | r :: rs, s, h => by
    obtain ⟨x, t, h1, h2, h3⟩ := h
    refine ⟨x, t, h1, ?_, Sl.mono e h3⟩
    rcases h2 with h2 | ⟨v, h2, h4⟩
    · exact Or.inl h2
    · exact Or.inr ⟨v, h2, h4.mono e⟩
theorem Sl.get {K : PySem.W.Frag} {G : Hp} : ∀ {rs : List Val} {s : St} {i : Nat} {r : Val}, Sl K G rs s → rs[i]? = some r → r ≠ .any → ∃ v, s[i]? = some (some v) ∧ VR K G r v
  | [], s, i, r, h, e, _ => by simp at e
  | r0 :: rs, s, 0, r, h, e, n => by
    obtain ⟨x, t, h1, h2, h3⟩ := h
    subst h1
    have e : r0 = r := by simpa using e
    subst e
    rcases h2 with h2 | ⟨v, h2, h4⟩
    · exact absurd h2 n
    · exact ⟨v, by rw [h2]; rfl, h4⟩
  | r0 :: rs, s, i + 1, r, h, e, n => by
    obtain ⟨x, t, h1, h2, h3⟩ := h
    subst h1
    obtain ⟨v, h5, h6⟩ := Sl.get (i := i) (r := r) h3 (by simpa using e) n
    exact ⟨v, by simpa using h5, h6⟩
theorem Sl.set {K : PySem.W.Frag} {G : Hp} {r : Val} {v : V} (hv : VR K G r v) : ∀ {rs : List Val} {s : St} (i : Nat), Sl K G rs s → Sl K G (rs.set i r) (s.set i (some v))
  | [], s, i, h => by
    have h : s = [] := h
    subst h; exact rfl
  | r0 :: rs, s, 0, h => by
    obtain ⟨x, t, h1, h2, h3⟩ := h
    subst h1
    exact ⟨some v, t, rfl, Or.inr ⟨v, rfl, hv⟩, h3⟩
  | r0 :: rs, s, i + 1, h => by
    obtain ⟨x, t, h1, h2, h3⟩ := h
    subst h1
    exact ⟨x, t.set i (some v), rfl, h2, Sl.set hv i h3⟩
theorem Sl.forget {K : PySem.W.Frag} {G : Hp} : ∀ {rs : List Val} {s : St} (i : Nat), Sl K G rs s → Sl K G (rs.set i .any) (s.set i none)
  | [], s, i, h => by
    have h : s = [] := h
    subst h; exact rfl
  | r0 :: rs, s, 0, h => by
    obtain ⟨x, t, h1, h2, h3⟩ := h
    subst h1
    exact ⟨none, t, rfl, Or.inl rfl, h3⟩
  | r0 :: rs, s, i + 1, h => by
    obtain ⟨x, t, h1, h2, h3⟩ := h
    subst h1
    exact ⟨x, t.set i none, rfl, h2, Sl.forget i h3⟩
theorem Sl.length {K : PySem.W.Frag} {G : Hp} : ∀ {rs : List Val} {s : St}, Sl K G rs s → s.length = rs.length
  | [], s, h => by
    have h : s = [] := h
    rw [h]; rfl
  | r :: rs, s, h => by
    obtain ⟨x, t, h1, _, h3⟩ := h
    rw [h1, List.length_cons, List.length_cons, Sl.length h3]
theorem Sl.anys {K : PySem.W.Frag} {G : Hp} : ∀ (n : Nat), Sl K G (List.replicate n .any) (List.replicate n none)
  | 0 => rfl
  | n + 1 => ⟨none, List.replicate n none, rfl, Or.inl rfl, Sl.anys n⟩
theorem Sl.start {K : PySem.W.Frag} {G : Hp} : ∀ {rs : List Val} {vs : List V} (n : Nat), VRs K G rs vs → Sl K G (rs ++ List.replicate n .any) (vs.map some ++ List.replicate n none)
  | [], vs, n, h => by
    have h : vs = [] := h
    subst h; exact Sl.anys n
  | r :: rs, vs, n, h => by
    obtain ⟨x, t, h1, h2, h3⟩ := h
    subst h1
    exact ⟨some x, _, rfl, Or.inr ⟨x, rfl, h2⟩, Sl.start n h3⟩
/-! what may change -/
inductive MO where
  | lst (rs : List Val)
  | dT (kvs : List (List Key × Val))
  | dK (kvs : List (Key × Val))
  /-- a dict that is being walked -/
  | lk (od : Obj) (es : List (List Key × V)) (kvs : List (List Key × Val))
  /-- a list of one whole number -/
  | box
  /-- any other thing, by what is true of it -/
  | g (P : Hp → Hp → Addr → Prop)
abbrev Mm := Addr → Option MO
def put (m : Mm) (a : Addr) (o : MO) : Mm := fun b => if b = a then some o else m b
def del (m : Mm) (a : Addr) : Mm := fun b => if b = a then none else m b
theorem put_same {m : Mm} {a : Addr} {o : MO} : put m a o a = some o := by unfold put; rw [if_pos rfl]
theorem put_ne {m : Mm} {a b : Addr} {o : MO} (h : b ≠ a) : put m a o b = m b := by unfold put; rw [if_neg h]
theorem put_put {m : Mm} {a : Addr} {o u : MO} : put (put m a o) a u = put m a u := by
  funext b; unfold put; split <;> rfl
theorem ne_of_get {m : Mm} {a b : Addr} {o : MO} (h : m a = some o) (g : m b = none) : a ≠ b := fun e => by
  rw [e, g] at h; cases h
def KVs (K : PySem.W.Frag) (G : Hp) {α : Type} : List (α × Val) → List (α × V) → Prop
  | [], es => es = []
  | (k, r) :: t, es => ∃ v u, es = (k, v) :: u ∧ VR K G r v ∧ KVs K G t u
theorem KVs.mono {K : PySem.W.Frag} {G G' : Hp} {α : Type} (e : Le G G') : ∀ {kvs : List (α × Val)} {es : List (α × V)}, KVs K G kvs es → KVs K G' kvs es
  | [], es, h => h
  | (k, r) :: t, es, h => by
    obtain ⟨v, u, h1, h2, h3⟩ := h
    exact ⟨v, u, h1, h2.mono e, KVs.mono e h3⟩
def MR (K : PySem.W.Frag) (G H : Hp) (a : Addr) : MO → Prop
  | .lst rs => ∃ xs, H a = some (.lst xs) ∧ VRs K G rs xs
  | .dT kvs => ∃ es, H a = some (.dT es) ∧ KVs K G kvs es
  | .dK kvs => ∃ es, H a = some (.dK es) ∧ KVs K G kvs es
  | .lk od es kvs => H a = some (.frz od (.dT es)) ∧ KVs K G kvs es
  | .box => ∃ n : Int, H a = some (.lst [.int n])
  | .g P => P G H a ∧ (∀ G G' H H' : Hp, Le G G' → H' a = H a → P G H a → P G' H' a) ∧ (∃ u, H a = some u) ∧ ∀ xs, H a ≠ some (.tup xs)
theorem MR.some {K : PySem.W.Frag} {G H : Hp} {a : Addr} {o : MO} (h : MR K G H a o) : ∃ u, H a = some u := by
  cases o with
  | lst rs => obtain ⟨xs, h, _⟩ := h; exact ⟨_, h⟩
  | dT kvs => obtain ⟨xs, h, _⟩ := h; exact ⟨_, h⟩
  | dK kvs => obtain ⟨xs, h, _⟩ := h; exact ⟨_, h⟩
  | lk od es kvs => exact ⟨_, h.1⟩
  | box => obtain ⟨n, h⟩ := h; exact ⟨_, h⟩
  | g P => exact h.2.2.1
theorem MR.mono {K : PySem.W.Frag} {G G' H H' : Hp} {a : Addr} {o : MO} (e : Le G G') (hh : H' a = H a) (h : MR K G H a o) : MR K G' H' a o := by
  cases o with
  | lst rs => obtain ⟨xs, h, g⟩ := h; exact ⟨xs, hh.trans h, g.mono e⟩
  | dT kvs => obtain ⟨xs, h, g⟩ := h; exact ⟨xs, hh.trans h, g.mono e⟩
  | dK kvs => obtain ⟨xs, h, g⟩ := h; exact ⟨xs, hh.trans h, g.mono e⟩
  | lk od es kvs => exact ⟨hh.trans h.1, h.2.mono e⟩
  | box => obtain ⟨n, h⟩ := h; exact ⟨n, hh.trans h⟩
  | g P => obtain ⟨h1, h2, h3, h4⟩ := h; exact ⟨h2 _ _ _ _ e hh h1, h2, by rw [hh]; exact h3, by rw [hh]; exact h4⟩
structure Sta (K : PySem.W.Frag) (m : Mm) (H G : Hp) : Prop where
  sub : ∀ a o, G a = some o → H a = some o
  mem : ∀ a o, m a = some o → MR K G H a o
  dis : ∀ a o, m a = some o → G a = none
section
variable {K : PySem.W.Frag} {m : Mm} {H G : Hp} {p : Addr} {o : HO}
theorem Sta.free (S : Sta K m H G) (h : H p = none) : G p = none := by
  cases e : G p with
  | none => rfl
  | some u => rw [S.sub p u e] at h; cases h
theorem Sta.freeM (S : Sta K m H G) (h : H p = none) : m p = none := by
  cases e : m p with
  | none => rfl
  | some u =>
    obtain ⟨x, hx⟩ := (S.mem p u e).some
    rw [hx] at h; cases h
/-- a new thing that stays as it is -/
theorem Sta.fix (S : Sta K m H G) (h : H p = none) : Sta K m (upd H p o) (upd G p o) := by
  have hg := S.free h
  have hm := S.freeM h
  refine ⟨fun a u e => ?_, fun a u e => ?_, fun a u e => ?_⟩
  · by_cases ha : a = p
    · subst ha; rw [upd_same] at e ⊢; exact e
    · rw [upd_ne ha] at e ⊢; exact S.sub a u e
  · have ha : a ≠ p := ne_of_get e hm
    exact (S.mem a u e).mono (Le.new hg) (upd_ne ha)
  · have ha : a ≠ p := ne_of_get e hm
    rw [upd_ne ha]; exact S.dis a u e
/-- a new thing that may change -/
theorem Sta.new {u : MO} (S : Sta K m H G) (h : H p = none) (hu : MR K G (upd H p o) p u) : Sta K (put m p u) (upd H p o) G := by
  have hg := S.free h
  refine ⟨fun a w e => ?_, fun a w e => ?_, fun a w e => ?_⟩
  · rw [upd_ne (ne_of_none e hg)]; exact S.sub a w e
  · by_cases ha : a = p
    · subst ha; rw [put_same] at e; cases e; exact hu
    · rw [put_ne ha] at e
      exact (S.mem a w e).mono (Le.refl G) (upd_ne ha)
  · by_cases ha : a = p
    · subst ha; exact hg
    · rw [put_ne ha] at e; exact S.dis a w e
/-- a thing changed -/
theorem Sta.chg {u w : MO} (S : Sta K m H G) (h : m p = some w) (hu : MR K G (upd H p o) p u) : Sta K (put m p u) (upd H p o) G := by
  have hg := S.dis p w h
  refine ⟨fun a w e => ?_, fun a w e => ?_, fun a w e => ?_⟩
  · rw [upd_ne (ne_of_none e hg)]; exact S.sub a w e
  · by_cases ha : a = p
    · subst ha; rw [put_same] at e; cases e; exact hu
    · rw [put_ne ha] at e
      exact (S.mem a w e).mono (Le.refl G) (upd_ne ha)
  · by_cases ha : a = p
    · subst ha; exact hg
    · rw [put_ne ha] at e; exact S.dis a w e
/-- from now on it stays as it is -/
theorem Sta.freeze {u : MO} (S : Sta K m H G) (h : m p = some u) (ho : H p = some o) : Sta K (del m p) H (upd G p o) := by
  have hg := S.dis p u h
  refine ⟨fun a w e => ?_, fun a w e => ?_, fun a w e => ?_⟩
  · by_cases ha : a = p
    · subst ha; rw [upd_same] at e; cases e; exact ho
    · rw [upd_ne ha] at e; exact S.sub a w e
  · by_cases ha : a = p
    · subst ha; unfold del at e; rw [if_pos rfl] at e; cases e
    · unfold del at e; rw [if_neg ha] at e
      exact (S.mem a w e).mono (Le.new hg) rfl
  · by_cases ha : a = p
    · subst ha; unfold del at e; rw [if_pos rfl] at e; cases e
    · unfold del at e; rw [if_neg ha] at e
      rw [upd_ne ha]; exact S.dis a w e
/-- less told of what may change -/
theorem Sta.less {m' : Mm} (S : Sta K m H G) (h : ∀ a o, m' a = some o → m a = some o) : Sta K m' H G :=
  ⟨S.sub, fun a o e => S.mem a o (h a o e), fun a o e => S.dis a o (h a o e)⟩
theorem Sta.sqL {a : Addr} {xs : List V} (S : Sta K m H G) (h : SqL K G a xs) : SqL K H a xs := Le.sqL S.sub h
theorem Sta.sqT {a : Addr} {xs : List V} (S : Sta K m H G) (h : SqT K G a xs) : SqT K H a xs := Le.sqT S.sub h
end
/-! what code does, at this level -/
def Ev (K : PySem.W.Frag) (t : TE) (r : List Val) (m : Mm) (Q : Val → Mm → Prop) : Prop :=
  ∀ σ H G, Sta K m H G → Sl K G r σ → ∀ R : VK, (∀ v H' G' x m', Q x m' → Sta K m' H' G' → Le G G' → VR K G' x v → R v H') → t σ H R
def EvT (K : PySem.W.Frag) (t : TT) (r : List Val) (m : Mm) (Q : Bool → Mm → Prop) : Prop :=
  ∀ σ H G, Sta K m H G → Sl K G r σ → ∀ R : Bool → Hp → Prop, (∀ H' G' b m', Q b m' → Sta K m' H' G' → Le G G' → R b H') → t σ H R
def EvA (K : PySem.W.Frag) (t : TA) (r : List Val) (m : Mm) (Q : List Val → Mm → Prop) : Prop :=
  ∀ σ H G, Sta K m H G → Sl K G r σ → ∀ R : List V → Hp → Prop, (∀ vs H' G' xs m', Q xs m' → Sta K m' H' G' → Le G G' → VRs K G' xs vs → R vs H') → t σ H R
def Op2 (K : PySem.W.Frag) (f : R2) (x y : Val) (m : Mm) (Q : Val → Mm → Prop) : Prop :=
  ∀ H G v w, Sta K m H G → VR K G x v → VR K G y w → ∀ R : VK, (∀ v H' G' x m', Q x m' → Sta K m' H' G' → Le G G' → VR K G' x v → R v H') → f v w H R
def Op1 (K : PySem.W.Frag) (f : V → Hp → VK → Prop) (x : Val) (m : Mm) (Q : Val → Mm → Prop) : Prop :=
  ∀ H G v, Sta K m H G → VR K G x v → ∀ R : VK, (∀ v H' G' x m', Q x m' → Sta K m' H' G' → Le G G' → VR K G' x v → R v H') → f v H R
def OpN (K : PySem.W.Frag) (f : List V → Hp → VK → Prop) (xs : List Val) (m : Mm) (Q : Val → Mm → Prop) : Prop :=
  ∀ H G vs, Sta K m H G → VRs K G xs vs → ∀ R : VK, (∀ v H' G' x m', Q x m' → Sta K m' H' G' → Le G G' → VR K G' x v → R v H') → f vs H R
def Wp (K : PySem.W.Frag) (t : TS) (r : List Val) (m : Mm) (N : List Val → Mm → Prop) (E : Val → Mm → Prop) : Prop :=
  ∀ σ H G (D : Ends), Sta K m H G → Sl K G r σ → (∀ σ' H' G' r' m', N r' m' → Sta K m' H' G' → Le G G' → Sl K G' r' σ' → D.nx σ' H') →
    (∀ v H' G' x m', E x m' → Sta K m' H' G' → Le G G' → VR K G' x v → D.rt v H') → t D σ H
section
variable {K : PySem.W.Frag} {r : List Val} {m : Mm} {Q : Val → Mm → Prop} {ta tb tc te : TE} {tt tu : TT}
theorem Ev.imp {Q' : Val → Mm → Prop} (h : Ev K te r m Q) (i : ∀ x m', Q x m' → Q' x m') : Ev K te r m Q' := fun σ H G S L R q =>
  h σ H G S L R fun v H' G' x m' hq => q v H' G' x m' (i x m' hq)
theorem EvT.imp {Q Q' : Bool → Mm → Prop} (h : EvT K tt r m Q) (i : ∀ x m', Q x m' → Q' x m') : EvT K tt r m Q' := fun σ H G S L R q =>
  h σ H G S L R fun H' G' x m' hq => q H' G' x m' (i x m' hq)
theorem EvA.imp {t : TA} {Q Q' : List Val → Mm → Prop} (h : EvA K t r m Q) (i : ∀ x m', Q x m' → Q' x m') : EvA K t r m Q' := fun σ H G S L R q =>
  h σ H G S L R fun v H' G' x m' hq => q v H' G' x m' (i x m' hq)
theorem ev_var {i : Nat} {x : Val} (h : r[i]? = some x) (n : x ≠ .any) (q : Q x m) : Ev K (tVar i) r m Q := fun σ H G S L R k => by
  obtain ⟨v, h1, h2⟩ := L.get h n
  exact ⟨v, h1, k v H G x m q S (Le.refl G) h2⟩
theorem ev_cI {i : Int} (q : Q (.d (.int i)) m) : Ev K (tC (.int i)) r m Q := fun σ H G S L R k => k _ H G _ m q S (Le.refl G) (.d (rp_int.mpr rfl))
theorem ev_cB {i : Bool} (q : Q (.d (.bool i)) m) : Ev K (tC (.bl i)) r m Q := fun σ H G S L R k => k _ H G _ m q S (Le.refl G) (.d (rp_bool.mpr rfl))
theorem ev_cS {i : Str} (q : Q (.d (.str i)) m) : Ev K (tC (.str i)) r m Q := fun σ H G S L R k => k _ H G _ m q S (Le.refl G) (.d (rp_str.mpr rfl))
theorem ev_cN (q : Q (.d .none) m) : Ev K (tC .non) r m Q := fun σ H G S L R k => k _ H G _ m q S (Le.refl G) (.d (rp_none.mpr rfl))
theorem ev_cV {v : V} (q : Q (.v v) m) : Ev K (tC v) r m Q := fun σ H G S L R k => k _ H G _ m q S (Le.refl G) .v
theorem ev_op {f : R2} (h : Ev K ta r m fun x m1 => Ev K tb r m1 fun y m2 => Op2 K f x y m2 Q) : Ev K (tOp f ta tb) r m Q := fun σ H G S L R k =>
  h σ H G S L _ fun v H1 G1 x m1 h1 S1 e1 r1 => h1 σ H1 G1 S1 (L.mono e1) _ fun w H2 G2 y m2 h2 S2 e2 r2 =>
    h2 H2 G2 v w S2 (r1.mono e2) r2 R fun v' H3 G3 z m3 h3 S3 e3 r3 => k v' H3 G3 z m3 h3 S3 (e1.trans (e2.trans e3)) r3
theorem ev_un {f : V → Hp → VK → Prop} (h : Ev K ta r m fun x m1 => Op1 K f x m1 Q) : Ev K (tUn f ta) r m Q := fun σ H G S L R k =>
  h σ H G S L _ fun v H1 G1 x m1 h1 S1 e1 r1 => h1 H1 G1 v S1 r1 R fun v' H3 G3 z m3 h3 S3 e3 r3 => k v' H3 G3 z m3 h3 S3 (e1.trans e3) r3
theorem eva_nil {Q : List Val → Mm → Prop} (q : Q [] m) : EvA K tNil r m Q := fun σ H G S L R k => k [] H G [] m q S (Le.refl G) rfl
theorem eva_cons {tr : TA} {Q : List Val → Mm → Prop} (h : Ev K ta r m fun x m1 => EvA K tr r m1 fun xs m2 => Q (x :: xs) m2) : EvA K (tCons ta tr) r m Q := fun σ H G S L R k =>
  h σ H G S L _ fun v H1 G1 x m1 h1 S1 e1 r1 => h1 σ H1 G1 S1 (L.mono e1) _ fun vs H2 G2 xs m2 h2 S2 e2 r2 =>
    k (v :: vs) H2 G2 (x :: xs) m2 h2 S2 (e1.trans e2) ⟨v, vs, rfl, r1.mono e2, r2⟩
theorem ev_callB {f : List V → Hp → VK → Prop} {t : TA} (h : EvA K t r m fun xs m1 => OpN K f xs m1 Q) : Ev K (tCB f t) r m Q := fun σ H G S L R k =>
  h σ H G S L _ fun vs H1 G1 xs m1 h1 S1 e1 r1 => h1 H1 G1 vs S1 r1 R fun v' H3 G3 z m3 h3 S3 e3 r3 => k v' H3 G3 z m3 h3 S3 (e1.trans e3) r3
theorem ev_if (h : EvT K tt r m fun b m1 => (b = true → Ev K ta r m1 Q) ∧ (b = false → Ev K tb r m1 Q)) : Ev K (tIf tt ta tb) r m Q := fun σ H G S L R k =>
  h σ H G S L _ fun H1 G1 b m1 h1 S1 e1 => by
    cases b with
    | true =>
      show ta σ H1 R
      exact h1.1 rfl σ H1 G1 S1 (L.mono e1) R fun v' H3 G3 z m3 h3 S3 e3 r3 => k v' H3 G3 z m3 h3 S3 (e1.trans e3) r3
    | false =>
      show tb σ H1 R
      exact h1.2 rfl σ H1 G1 S1 (L.mono e1) R fun v' H3 G3 z m3 h3 S3 e3 r3 => k v' H3 G3 z m3 h3 S3 (e1.trans e3) r3
theorem evt_test {Q : Bool → Mm → Prop} (h : Ev K te r m fun x m1 => ∃ b, x = .d (.bool b) ∧ Q b m1) : EvT K (tTest te) r m Q := fun σ H G S L R k =>
  h σ H G S L _ fun v H1 G1 x m1 ⟨b, hx, hb⟩ S1 e1 r1 => by
    subst hx
    exact ⟨b, rp_bool.mp r1.rp, k H1 G1 b m1 hb S1 e1⟩
theorem evt_B {Q : Bool → Mm → Prop} (h : Ev K te r m fun x m1 => ∃ b, x = .d (.bool b) ∧ Q b m1) : EvT K (tB te) r m Q := fun σ H G S L R k =>
  h σ H G S L _ fun v H1 G1 x m1 ⟨b, hx, hb⟩ S1 e1 r1 => by
    subst hx
    exact ⟨b, rp_bool.mp r1.rp, k H1 G1 b m1 hb S1 e1⟩
theorem evt_and {Q : Bool → Mm → Prop} (h : EvT K tt r m fun b m1 => (b = true → EvT K tu r m1 Q) ∧ (b = false → Q false m1)) : EvT K (tAnd tt tu) r m Q := fun σ H G S L R k =>
  h σ H G S L _ fun H1 G1 b m1 h1 S1 e1 => by
    cases b with
    | true =>
      show tu σ H1 R
      exact h1.1 rfl σ H1 G1 S1 (L.mono e1) R fun H3 G3 z m3 h3 S3 e3 => k H3 G3 z m3 h3 S3 (e1.trans e3)
    | false =>
      show R false H1
      exact k H1 G1 false m1 (h1.2 rfl) S1 e1
theorem evt_or {Q : Bool → Mm → Prop} (h : EvT K tt r m fun b m1 => (b = true → Q true m1) ∧ (b = false → EvT K tu r m1 Q)) : EvT K (tOr tt tu) r m Q := fun σ H G S L R k =>
  h σ H G S L _ fun H1 G1 b m1 h1 S1 e1 => by
    cases b with
    | false =>
      show tu σ H1 R
      exact h1.2 rfl σ H1 G1 S1 (L.mono e1) R fun H3 G3 z m3 h3 S3 e3 => k H3 G3 z m3 h3 S3 (e1.trans e3)
    | true =>
      show R true H1
      exact k H1 G1 true m1 (h1.1 rfl) S1 e1
theorem evt_not {Q : Bool → Mm → Prop} (h : EvT K tt r m fun b m1 => Q (!b) m1) : EvT K (tNot tt) r m Q := fun σ H G S L R k =>
  h σ H G S L _ fun H1 G1 b m1 h1 S1 e1 => k H1 G1 (!b) m1 h1 S1 e1
theorem ev_and (h : Ev K ta r m fun x m1 => ∃ b, x = .d (.bool b) ∧ (b = true → Ev K tb r m1 Q) ∧ (b = false → Q (.d (.bool false)) m1)) : Ev K (tAndV ta tb) r m Q := fun σ H G S L R k =>
  h σ H G S L _ fun v H1 G1 x m1 ⟨b, hx, h1, h2⟩ S1 e1 r1 => by
    subst hx
    refine ⟨b, rp_bool.mp r1.rp, ?_⟩
    cases b with
    | true =>
      show tb σ H1 R
      exact h1 rfl σ H1 G1 S1 (L.mono e1) R fun v' H3 G3 z m3 h3 S3 e3 r3 => k v' H3 G3 z m3 h3 S3 (e1.trans e3) r3
    | false =>
      show R (.bl false) H1
      exact k _ H1 G1 _ m1 (h2 rfl) S1 e1 (.d (rp_bool.mpr rfl))
theorem ev_or (h : Ev K ta r m fun x m1 => ∃ b, x = .d (.bool b) ∧ (b = true → Q (.d (.bool true)) m1) ∧ (b = false → Ev K tb r m1 Q)) : Ev K (tOrV ta tb) r m Q := fun σ H G S L R k =>
  h σ H G S L _ fun v H1 G1 x m1 ⟨b, hx, h1, h2⟩ S1 e1 r1 => by
    subst hx
    refine ⟨b, rp_bool.mp r1.rp, ?_⟩
    cases b with
    | false =>
      show tb σ H1 R
      exact h2 rfl σ H1 G1 S1 (L.mono e1) R fun v' H3 G3 z m3 h3 S3 e3 r3 => k v' H3 G3 z m3 h3 S3 (e1.trans e3) r3
    | true =>
      show R (.bl true) H1
      exact k _ H1 G1 _ m1 (h1 rfl) S1 e1 (.d (rp_bool.mpr rfl))
theorem ev_not (h : Ev K ta r m fun x m1 => ∃ b, x = .d (.bool b) ∧ Q (.d (.bool (!b))) m1) : Ev K (tNotV ta) r m Q := fun σ H G S L R k =>
  h σ H G S L _ fun v H1 G1 x m1 ⟨b, hx, h1⟩ S1 e1 r1 => by
    subst hx
    exact ⟨b, rp_bool.mp r1.rp, k _ H1 G1 _ m1 h1 S1 e1 (.d (rp_bool.mpr rfl))⟩
theorem ev_chain {f g : R2} (h : Ev K ta r m fun x m1 => Ev K tb r m1 fun y m2 => Op2 K f x y m2 fun z m3 => ∃ b, z = .d (.bool b) ∧ (b = true → Ev K tc r m3 fun w m4 => Op2 K g y w m4 Q) ∧ (b = false → Q (.d (.bool false)) m3)) :
    Ev K (tChain f g ta tb tc) r m Q := fun σ H G S L R k =>
  h σ H G S L _ fun v H1 G1 x m1 h1 S1 e1 r1 => h1 σ H1 G1 S1 (L.mono e1) _ fun w H2 G2 y m2 h2 S2 e2 r2 =>
    h2 H2 G2 v w S2 (r1.mono e2) r2 _ fun v' H3 G3 z m3 ⟨b, hz, h3, h4⟩ S3 e3 r3 => by
      subst hz
      refine ⟨b, rp_bool.mp r3.rp, ?_⟩
      cases b with
      | true =>
        show tc σ H3 _
        exact h3 rfl σ H3 G3 S3 (L.mono (e1.trans (e2.trans e3))) _ fun u H4 G4 q m4 h5 S4 e4 r4 =>
          h5 H4 G4 w u S4 (r2.mono (e3.trans e4)) r4 R fun v5 H5 G5 z5 m5 q5 S5 e5 r5 => k v5 H5 G5 z5 m5 q5 S5 (e1.trans (e2.trans (e3.trans (e4.trans e5)))) r5
      | false =>
        show R (.bl false) H3
        exact k _ H3 G3 _ m3 (h4 rfl) S3 (e1.trans (e2.trans e3)) (.d (rp_bool.mpr rfl))
/-- a tuple -/
theorem ev_tup {t : TA} (h : EvA K t r m fun xs m1 => ∃ ds : List PyData, xs = ds.map Val.d ∧ ds.length ≤ 100000 ∧ Q (.d (.tuple ds)) m1) : Ev K (tTup t) r m Q := fun σ H G S L R k =>
  h σ H G S L _ fun vs H1 G1 xs m1 ⟨ds, hx, hl, q⟩ S1 e1 r1 => by
    subst hx
    have hA := r1.toAll
    refine ⟨by rw [hA.length]; exact Nat.le_trans hl (by decide), fun p hp => ?_⟩
    have hg := S1.free hp
    exact k (.ref p) _ (upd G1 p (.tup vs)) _ m1 q (S1.fix hp) (e1.trans (Le.new hg)) (.d <| rp_tuple.mpr ⟨p, vs, rfl, SqT.of upd_same, RpAll.mono (Le.new hg) ds vs hA⟩)
/-- a list that stays as it is -/
theorem ev_lstD {t : TA} (h : EvA K t r m fun xs m1 => ∃ ds : List PyData, xs = ds.map Val.d ∧ ds.length ≤ 100000 ∧ Q (.d (.list ds)) m1) : Ev K (tLst t) r m Q := fun σ H G S L R k =>
  h σ H G S L _ fun vs H1 G1 xs m1 ⟨ds, hx, hl, q⟩ S1 e1 r1 => by
    subst hx
    have hA := r1.toAll
    refine ⟨by rw [hA.length]; exact Nat.le_trans hl (by decide), fun p hp => ?_⟩
    have hg := S1.free hp
    exact k (.ref p) _ (upd G1 p (.lst vs)) _ m1 q (S1.fix hp) (e1.trans (Le.new hg)) (.d <| rp_list.mpr ⟨p, vs, rfl, Rd.of upd_same, RpAll.mono (Le.new hg) ds vs hA⟩)
/-- a list that may change -/
theorem ev_lstM {t : TA} (h : EvA K t r m fun xs m1 => xs.length ≤ 100000 ∧ ∀ p, m1 p = none → Q (.v (.ref p)) (put m1 p (.lst xs))) : Ev K (tLst t) r m Q := fun σ H G S L R k =>
  h σ H G S L _ fun vs H1 G1 xs m1 ⟨hl, q⟩ S1 e1 r1 => by
    refine ⟨by rw [r1.length]; exact Nat.le_trans hl (by decide), fun p hp => ?_⟩
    exact k (.ref p) _ G1 _ _ (q p (S1.freeM hp)) (S1.new hp ⟨vs, upd_same, r1⟩) e1 .v
/-! statements -/
variable {N : List Val → Mm → Prop} {E : Val → Mm → Prop} {t u : TS}
theorem Wp.imp {N' : List Val → Mm → Prop} {E' : Val → Mm → Prop} (h : Wp K t r m N E) (i : ∀ x m', N x m' → N' x m') (j : ∀ x m', E x m' → E' x m') : Wp K t r m N' E' := fun σ H G D S L a b =>
  h σ H G D S L (fun σ' H' G' r' m' hq => a σ' H' G' r' m' (i _ _ hq)) (fun v H' G' x m' hq => b v H' G' x m' (j _ _ hq))
theorem w_next (q : N r m) : Wp K tNext r m N E := fun σ H G D S L a b => a σ H G r m q S (Le.refl G) L
theorem w_seq (h : Wp K t r m (fun r1 m1 => Wp K u r1 m1 N E) E) : Wp K (tSeq t u) r m N E := fun σ H G D S L a b =>
  h σ H G { D with nx := u D } S L (fun σ1 H1 G1 r1 m1 h1 S1 e1 L1 => h1 σ1 H1 G1 D S1 L1 (fun σ2 H2 G2 r2 m2 n2 S2 e2 L2 => a σ2 H2 G2 r2 m2 n2 S2 (e1.trans e2) L2)
    (fun v H2 G2 x m2 n2 S2 e2 L2 => b v H2 G2 x m2 n2 S2 (e1.trans e2) L2)) b
theorem w_asg {i : Nat} (h : Ev K te r m fun x m1 => N (r.set i x) m1) : Wp K (tAsg te (gName i)) r m N E := fun σ H G D S L a b =>
  h σ H G S L _ fun v H1 G1 x m1 q S1 e1 r1 => a (σ.set i (some v)) H1 G1 (r.set i x) m1 q S1 e1 ((L.mono e1).set r1 i)
theorem w_drop (h : Ev K te r m fun _ m1 => N r m1) : Wp K (tDrop te) r m N E := fun σ H G D S L a b =>
  h σ H G S L _ fun v H1 G1 x m1 q S1 e1 r1 => a σ H1 G1 r m1 q S1 e1 (L.mono e1)
theorem w_ret (h : Ev K te r m E) : Wp K (tRet te) r m N E := fun σ H G D S L a b => h σ H G S L _ b
theorem w_if (h : EvT K tt r m fun c m1 => (c = true → Wp K t r m1 N E) ∧ (c = false → Wp K u r m1 N E)) : Wp K (tIfS tt t u) r m N E := fun σ H G D S L a b =>
  h σ H G S L _ fun H1 G1 c m1 h1 S1 e1 => by
    cases c with
    | true =>
      show t D σ H1
      exact h1.1 rfl σ H1 G1 D S1 (L.mono e1) (fun σ2 H2 G2 r2 m2 n2 S2 e2 L2 => a σ2 H2 G2 r2 m2 n2 S2 (e1.trans e2) L2) (fun v H2 G2 x m2 n2 S2 e2 L2 => b v H2 G2 x m2 n2 S2 (e1.trans e2) L2)
    | false =>
      show u D σ H1
      exact h1.2 rfl σ H1 G1 D S1 (L.mono e1) (fun σ2 H2 G2 r2 m2 n2 S2 e2 L2 => a σ2 H2 G2 r2 m2 n2 S2 (e1.trans e2) L2) (fun v H2 G2 x m2 n2 S2 e2 L2 => b v H2 G2 x m2 n2 S2 (e1.trans e2) L2)
/-- a, b = .. of one tuple -/
theorem w_asg2 {i j : Nat} (h : Ev K te r m fun x m1 => ∃ d1 d2, x = .d (.tuple [d1, d2]) ∧ N ((r.set i (.d d1)).set j (.d d2)) m1) : Wp K (tAsg te (gTup K 2 (gCons (gName i) (gCons (gName j) gNil)))) r m N E := fun σ H G D S L a b =>
  h σ H G S L _ fun v H1 G1 x m1 ⟨d1, d2, hx, q⟩ S1 e1 r1 => by
    subst hx
    obtain ⟨p, xs, hv, hs, hA⟩ := rp_tuple.mp r1.rp
    have hl := hA.length
    obtain ⟨x1, t1, rfl, a1, hA⟩ := rpa_cons.mp hA
    obtain ⟨x2, t2, rfl, a2, hA⟩ := rpa_cons.mp hA
    obtain rfl := rpa_nil.mp hA
    refine ⟨p, _, hv, S1.sqT hs, rfl, x1, [x2], rfl, x2, [], rfl, rfl, ?_⟩
    exact a _ H1 G1 _ m1 q S1 e1 (((L.mono e1).set (r := .d d1) (.d a1) i).set (r := .d d2) (.d a2) j)
/-- a, b = e, f -/
theorem w_par {i j : Nat} {ta : TA} (h : EvA K ta r m fun xs m1 => ∃ x y, xs = [x, y] ∧ N ((r.set i x).set j y) m1) : Wp K (tPar i j ta) r m N E := fun σ H G D S L a b =>
  h σ H G S L _ fun vs H1 G1 xs m1 ⟨x, y, hx, q⟩ S1 e1 r1 => by
    subst hx
    obtain ⟨v1, t1, rfl, a1, t2⟩ := r1
    obtain ⟨v2, t2, rfl, a2, t3⟩ := t2
    have t3 : t2 = [] := t3
    subst t3
    exact ⟨v1, v2, rfl, a _ H1 G1 _ m1 q S1 e1 (((L.mono e1).set a1 i).set a2 j)⟩
theorem w_forLA {tl : TE} {j : Nat} (P : List PyData → Prop) (h : Ev K tl r m fun x m1 => m1 = m ∧ ∃ ds, x = .d (.list ds) ∧ P ds) (W : List PyData → Nat → List Val → Mm → Prop) (h0 : ∀ ds, P ds → W ds 0 r m)
    (hs : ∀ (ds : List PyData) (i : Nat) (d : PyData) r' m', P ds → ds[i]? = some d → W ds i r' m' → Wp K t (r'.set j (.d d)) m' (W ds (i + 1)) E) (hd : ∀ (ds : List PyData) r' m', P ds → W ds ds.length r' m' → N r' m') : Wp K (tFor (iList K tl) (gName j) t) r m N E := fun σ H G D S L a b =>
  h σ H G S L _ fun v H1 G1 x m1 ⟨hm, ds, hx, hP⟩ S1 e1 r1 => by
    subst hx hm
    obtain ⟨p, xs, hv, hs1, hA⟩ := rp_list.mp r1.rp
    have hs1 : SqL K G1 p xs := Or.inl hs1
    refine ⟨p, hv, ⟨xs, S1.sqL hs1⟩, for_list (xs := xs) (fun i σ' H' => ∃ G' r' m', W ds i r' m' ∧ Sta K m' H' G' ∧ Le G1 G' ∧ Sl K G' r' σ') ⟨G1, r, _, h0 ds hP, S1, Le.refl G1, L.mono e1⟩ ?_ ?_ ?_⟩
    · rintro i σ' H' hi ⟨G', r', m', _, S', e', _⟩
      exact S'.sqL (e'.sqL hs1)
    · rintro i y σ' H' hy ⟨G', r', m', hw, S', e', L'⟩
      obtain ⟨d, hd1, hd2⟩ := hA.get hy
      refine hs ds i d r' m' hP hd1 hw (σ'.set j (some y)) H' G' _ S' (L'.set (r := .d d) (.d (Rp.mono e' d y hd2)) j) (fun σ3 H3 G3 r3 m3 h3 S3 e3 L3 => ⟨G3, r3, m3, h3, S3, e'.trans e3, L3⟩) (fun v H3 G3 x m3 n3 S3 e3 L3 => b v H3 G3 x m3 n3 S3 (e1.trans (e'.trans e3)) L3)
    · rintro σ' H' ⟨G', r', m', hw, S', e', L'⟩
      rw [hA.length] at hw
      exact a σ' H' G' r' m' (hd ds r' m' hP hw) S' (e1.trans e') L'
theorem w_forR1 {ta : TA} {j : Nat} {n : Nat} (h : EvA K ta r m fun xs m1 => xs = [.d (.int (n : Int))] ∧ m1 = m) (hn : n ≤ 100000) (W : Nat → List Val → Mm → Prop) (h0 : W 0 r m)
    (hs : ∀ (i : Nat) r' m', i < n → W i r' m' → Wp K t (r'.set j (.d (.int (i : Int)))) m' (W (i + 1)) E) (hd : ∀ r' m', W n r' m' → N r' m') : Wp K (tFor (iRng1 ta) (gName j) t) r m N E := fun σ H G D S L a b =>
  h σ H G S L _ fun vs H1 G1 xs m1 ⟨hx, hm⟩ S1 e1 r1 => by
    subst hx hm
    obtain ⟨v1, t1, rfl, a1, t2⟩ := r1
    have t2 : t1 = [] := t2
    subst t2
    have a1 : v1 = .int (n : Int) := rp_int.mp a1.rp
    subst a1
    have en : ((n : Int)).toNat = n := by omega
    refine ⟨(n : Int), rfl, by omega, by omega, ?_⟩
    rw [en]
    refine for_range (lo := 0) (n := n) (fun i σ' H' => ∃ G' r' m', W i r' m' ∧ Sta K m' H' G' ∧ Le G1 G' ∧ Sl K G' r' σ') ⟨G1, r, _, h0, S1, Le.refl G1, L.mono e1⟩ ?_ ?_
    · rintro i σ' H' hi ⟨G', r', m', hw, S', e', L'⟩
      rw [Int.zero_add]
      refine hs i r' m' hi hw (σ'.set j (some (.int (i : Int)))) H' G' _ S' (L'.set (r := .d (.int (i : Int))) (.d (rp_int.mpr rfl)) j) (fun σ3 H3 G3 r3 m3 h3 S3 e3 L3 => ⟨G3, r3, m3, h3, S3, e'.trans e3, L3⟩) (fun v H3 G3 x m3 n3 S3 e3 L3 => b v H3 G3 x m3 n3 S3 (e1.trans (e'.trans e3)) L3)
    · rintro σ' H' ⟨G', r', m', hw, S', e', L'⟩
      exact a σ' H' G' r' m' (hd r' m' hw) S' (e1.trans e') L'
end
/-! what a def does, at this level -/
abbrev FSp := List Val → Mm → (Val → Mm → Prop) → Prop
def spD (K : PySem.W.Frag) (f : FSp) : Sp := fun vs H Q _ => ∃ m G args R, Sta K m H G ∧ VRs K G args vs ∧ f args m R ∧ ∀ v H' G' x m', R x m' → Sta K m' H' G' → Le G G' → VR K G' x v → Q v H'
theorem ev_call {K : PySem.W.Frag} {f : FSp} {t : TA} {E : XK} {r : List Val} {m : Mm} {Q : Val → Mm → Prop} (h : EvA K t r m fun xs m1 => f xs m1 Q) : Ev K (tCall (spD K f) [] E t) r m Q := fun σ H G S L R k =>
  h σ H G S L _ fun vs H1 G1 xs m1 h1 S1 e1 r1 => by
    rw [List.append_nil]
    exact ⟨m1, G1, xs, Q, S1, r1, h1, fun v' H3 G3 z m3 h3 S3 e3 r3 => k v' H3 G3 z m3 h3 S3 (e1.trans e3) r3⟩
section
variable {P : Program} {w : World} {K : PySem.W.Frag} {mg : Str → Option Value} {base : Heap}
theorem fn_ok {x qual : Str} {st : Stmt} {f : Addr} {fd : FuncData} {N ps : List Str} {k : Nat} {sp : FSp} (F : Fun K x qual st f fd) (S : FnScope N ps (defScope st)) (hl : ∀ args m R, sp args m R → args.length = ps.length)
    (hb : ∀ (cdv : Value) (A : Around) (outer : List Env) (s : Shared) (H : Hp) (E : XK), Room k (A.deeper (PyProof.Rows.envOfC qual (defScope st) s.heap.objs.size f cdv)) →
      ∃ t, PSs (cxOf CX0 P w K mg base N qual (defScope st) f cdv A outer s H E).nox (defBody st) t ∧
        ∀ args m R, sp args m R → Wp K t (args ++ List.replicate (N.length - args.length) .any) m (fun _ m' => R (.d .none) m') R) : FnOk P w K mg base CX0 (k + 1) f fd ps (spD K sp) := by
  refine F.ok S (fun vs H Q E h => ?_) (fun cdv A outer s H vs Q E hr h => ?_)
  · obtain ⟨m, G, args, R, S1, r1, h1, _⟩ := h
    rw [r1.length]; exact hl args m R h1
  · obtain ⟨m, G, args, R, S1, r1, h1, k1⟩ := h
    obtain ⟨t, ht, hw⟩ := hb cdv A outer s H E hr
    refine ⟨t, ht, ?_⟩
    refine hw args m R h1 _ H G _ S1 ?_ (fun σ' H' G' r' m' hn S' e' L' => ?_) (fun v H' G' x m' hn S' e' L' => k1 v H' G' x m' hn S' e' L')
    · unfold L2.start
      rw [r1.length]
      exact Sl.start _ r1
    · exact k1 .non H' G' (.d .none) m' hn S' e' (.d (rp_none.mpr rfl))
end
end DL
namespace DL
open PySem L2
/-! rules of the layer below, joined -/
section
variable {X : Cx}
/-- list + list, as they may be read -/
def rCatR : R2 := fun x y H Q => ∃ l b xs zs, x = .ref l ∧ y = .ref b ∧ Rd H l (.lst xs) ∧ Rd H b (.lst zs) ∧ xs.length + zs.length ≤ sizeLine ∧ ∀ p, H p = none → Q (.ref p) (upd H p (.lst (xs ++ zs)))
theorem rd_list {pins : List (Addr × Obj)} {σ : L2.St} {H : Hp} {s : Shared} {l : Addr} {xs : List V} (I : Inv X pins σ H s) (h : Rd H l (.lst xs)) :
    xs.length ≤ sizeLine ∧ ∃ (its : List Value) (n : Nat), Vals xs its ∧ xs.length = its.length ∧ s.heap.get? l = some { cls := .type "list", data := .seq its.toArray n } := by
  obtain ⟨z, its, n, r, e⟩ := h.ok I.hok
  exact ⟨z, its, n, r, r.length, e⟩
theorem op_catR : OpR X (binaryOp .Add) rCatR := by
  intro pins s σ H x y v u Q I rx ry h
  obtain ⟨l, b, xs, zs, rfl, rfl, hH, hB, hz, q⟩ := h
  cases rx
  cases ry
  obtain ⟨z1, its1, n1, r1, hl1, e1⟩ := rd_list I hH
  obtain ⟨z2, its2, n2, r2, hl2, e2⟩ := rd_list I hB
  refine PySem.P.add_list e1 e2 ?_ (by rw [List.size_toArray, List.size_toArray, ← hl1, ← hl2]; exact hz)
  have ea : its1.toArray ++ its2.toArray = (its1 ++ its2).toArray := by simp
  rw [ea]
  exact ⟨.ref _, _, I.lnew (t' := s.toks) (r1.append r2) (by rw [List.length_append]; exact hz), rfl, q _ I.fresh⟩
def rAddI : R2 := rI0 fun i j => .int (i + j)
def rAddS : R2 := fun x y H Q => ∃ i j, x = .str i ∧ y = .str j ∧ i.length + j.length ≤ sizeLine ∧ Q (.str (i ++ j)) H
def rAdd (K : PySem.W.Frag) : R2 := fun x y H Q => rAddI x y H Q ∨ (rCatA K x y H Q ∨ (rCatR x y H Q ∨ rAddS x y H Q))
theorem oAdd : OpR X (binaryOp .Add) (rAdd X.K) := (op_add).or (op_catA.or (op_catR.or op_add_str))
def rSub : R2 := rI0 fun i j => .int (i - j)
theorem oSub : OpR X (binaryOp .Sub) rSub := op_sub
def rMulI : R2 := rI CMulW fun i j => .int (i * j)
def rFdv : R2 := rI CDivW fun i j => .int (i / j)
theorem oFdv : OpR X (binaryOp .FloorDiv) rFdv := op_fdivW
def rMod : R2 := rI (fun _ j => 0 < j) fun i j => .int (i % j)
theorem oMod : OpR X (binaryOp .Mod) rMod := op_mod
def rPow : R2 := rI CPow fun i j => .int (i ^ j.toNat)
theorem oPow : OpR X (binaryOp .Pow) rPow := op_pow
def rLt : R2 := rI0 fun i j => .bl (decide (i < j))
def rLe : R2 := rI0 fun i j => .bl (decide (i ≤ j))
def rGt : R2 := rI0 fun i j => .bl (decide (j < i))
def rGe : R2 := rI0 fun i j => .bl (decide (j ≤ i))
theorem oLt : OpR X (compareOp .Lt) rLt := op_lt
theorem oLe : OpR X (compareOp .LtE) rLe := op_le
theorem oGt : OpR X (compareOp .Gt) rGt := op_gt
def rEqA (K : PySem.W.Frag) : R2 := fun x y H Q => rEq x y H Q ∨ rEqD K x y H Q
def rNeA (K : PySem.W.Frag) : R2 := fun x y H Q => rNe x y H Q ∨ rNeD K x y H Q
theorem oEq {k : Nat} (hr : Room k X.A) : OpR X (compareOp .Eq) (rEqA X.K) := op_eq.or (op_eqD hr.units)
theorem oNe {k : Nat} (hr : Room k X.A) : OpR X (compareOp .NotEq) (rNeA X.K) := op_ne.or (op_neD hr.units)
def rNeg : V → Hp → VK → Prop := rU fun i => .int (-i)
theorem oNeg : UnR X (unaryOp .USub) rNeg := un_neg
/-! a tuple so many times: once it is the same one -/
theorem mul_tuple1 {l : Addr} {items : Array Value} {n : Nat} {dd : Option Addr} {sl : Array (Option Value)} {u : Tok} :
    Meets (Builtin.«tuple.__mul__» ⟨[.ref l, .int 1 u], []⟩) (fun _ R s => s.heap.get? l = some { cls := .type "tuple", dict := dd, data := .seq items n, slots := sl } ∧ R (.ok (.ret (Value.ref l))) s) :=
  .of_wp fun prog w A R s h => by
    obtain ⟨hp, g, d, tk, os⟩ := s
    obtain ⟨hl, h⟩ := h
    have f1 := AutoSeq1.idx_int
    wp_walk using wpAny_loadPart' hl
    repeat (first
      | (refine wpAny_ite_false (by decide) ?_; wp_walk using wpAny_loadPart' hl)
      | (refine wpAny_ite_true (by simp) ?_; wp_walk using wpAny_loadPart' hl))
    exact ⟨_, rfl, h⟩
def rRepT1 (K : PySem.W.Frag) : R2 := fun x y H Q => ∃ l xs, x = .ref l ∧ y = .int 1 ∧ SqT K H l xs ∧ Q (.ref l) H
theorem op_repT1 : OpR X (binaryOp .Mult) (rRepT1 X.K) := by
  intro pins s σ H x y v u Q I rx ry h
  obtain ⟨l, xs, rfl, rfl, hT, q⟩ := h
  cases rx
  obtain ⟨t, rfl⟩ := ry
  obtain ⟨its, r, ⟨⟨cls, dd, data, sl⟩, ho, hc, n, hd⟩, hs⟩ := I.tuple hT
  simp only at hc hd
  subst hc hd
  refine wpAny_binaryOp_repeat_ref (T := "tuple") (U := "int") (by decide) ⟨_, ho, rfl⟩ (fun s' => typeIs_int s' 1 t) noFill_tuple_mul PySem.F.fills_int_mul PySem.F.slot_int_rmul repeat_tuple PySem.F.slot_int_index.lookup
    (call_meets PySem.F.slot_int_rmul (typeIs_int s 1 t) PySem.F.entry_int_rmul (PySem.F.args_int_rmul_2 _ _) (int_rmul_tuple 1 t l its.toArray n dd sl)
      ⟨ho, rfl, ⟨_, ho, rfl⟩, call_meets PySem.F.slot_tuple_mul ⟨_, ho, rfl⟩ PySem.F.entry_tuple_mul (PySem.F.args_tuple_mul_2 _ _) mul_tuple1 ⟨ho, ?_⟩⟩)
  exact ⟨.ref l, H, I, rfl, q⟩
def rMul (K : PySem.W.Frag) : R2 := fun x y H Q => rMulI x y H Q ∨ (rRepT K x y H Q ∨ (rRepT1 K x y H Q ∨ rRep x y H Q))
theorem oMul : OpR X (binaryOp .Mult) (rMul X.K) := op_mulW.or (op_repT.or (op_repT1.or op_rep))
/-! sum of a tuple -/
def rSumT (K : PySem.W.Frag) : List V → Hp → VK → Prop := fun vs H Q => ∃ (a : Addr) (ns : List Int), vs = [V.ref a] ∧ SqT K H a (ns.map V.int) ∧ Q (.int ns.sum) H
def rSumA (K : PySem.W.Frag) : List V → Hp → VK → Prop := fun vs H Q => rSum K vs H Q ∨ rSumT K vs H Q
theorem cAll (hc : X.calm = true) : CallR X (.builtin "all") (rAll X.K) := cr_all hc
def rAbs : List V → Hp → VK → Prop := fun xs H Q => ∃ i, xs = [.int i] ∧ Q (.int (if i < 0 then -i else i)) H
theorem cAbs : CallR X (.builtin "abs") rAbs := call_abs
def rMax2 : List V → Hp → VK → Prop := fun xs H Q => ∃ i j, xs = [.int i, .int j] ∧ Q (.int (if j > i then j else i)) H
def rMin2 : List V → Hp → VK → Prop := fun xs H Q => ∃ i j, xs = [.int i, .int j] ∧ Q (.int (if j < i then j else i)) H
theorem cMax (hc : X.calm = true) : CallR X (.builtin "max") rMax2 := call_max2 hc
theorem cMin (hc : X.calm = true) : CallR X (.builtin "min") rMin2 := call_min2 hc
def rLenQ (K : PySem.W.Frag) : List V → Hp → VK → Prop := fun xs H Q => ∃ p ys, xs = [.ref p] ∧ (SqL K H p ys ∨ SqT K H p ys) ∧ Q (.int ys.length) H
def rLenS : List V → Hp → VK → Prop := fun xs H Q => ∃ z, xs = [.str z] ∧ z.length ≤ sizeLine ∧ Q (.int z.length) H
def rLen (K : PySem.W.Frag) : List V → Hp → VK → Prop := fun vs H Q => rLenQ K vs H Q ∨ rLenS vs H Q
theorem cLen : CallR X (.builtin "len") (rLen X.K) := call_len_seq.or call_len_str
def rTupO (K : PySem.W.Frag) : List V → Hp → VK → Prop := fun xs H Q => ∃ p ys, xs = [.ref p] ∧ ((SqL K H p ys ∧ ∀ l, H l = none → Q (.ref l) (upd H l (.tup ys))) ∨ (SqT K H p ys ∧ Q (.ref p) H))
theorem cTup : CallR X (.type "tuple") (rTupO X.K) := call_tuple_of
def rLstO (K : PySem.W.Frag) : List V → Hp → VK → Prop := fun xs H Q => ∃ p ys, xs = [.ref p] ∧ (SqL K H p ys ∨ SqT K H p ys) ∧ ∀ l, H l = none → Q (.ref l) (upd H l (.lst ys))
theorem cLst : CallR X (.type "list") (rLstO X.K) := call_list_of
theorem cIsi : CallR X (.builtin "isinstance") (rIsi X.K) := call_isi
def rDivmod : List V → Hp → VK → Prop := fun xs H Q => ∃ i j, xs = [.int i, .int j] ∧ CDivW i j ∧ ∀ p, H p = none → Q (.ref p) (upd H p (.tup [.int (i / j), .int (i % j)]))
theorem cDivmod : CallR X (.builtin "divmod") rDivmod := by
  intro pins s σ H xs us Q I r h
  obtain ⟨i, j, rfl, ⟨h1, h2⟩, q⟩ := h
  obtain ⟨u, w', rfl, ⟨t, rfl⟩, ⟨t', rfl⟩⟩ := vals2 r
  refine PyProof.Rows.divmod_int (by omega) ?_ (.inl (PyProof.noPylong_of_log2 h2))
  rw [Int.fdiv_eq_ediv_of_nonneg i (by omega), Int.fmod_eq_emod_of_nonneg i (by omega)]
  have hn : H s.heap.objs.size = none := I.hok.fresh (Nat.le_refl _)
  refine ⟨.ref s.heap.objs.size, _, ?_, rfl, q _ hn⟩
  refine I.laid (fun b o e => Heap.get?_push_of_some _ e) (Nat.le_refl _) ⟨by rw [sizeLine_eq]; show 2 ≤ 16777216; decide, [.int (i / j) s.toks, .int (i % j) (s.toks + 1)], .cons ⟨_, rfl⟩ (.cons ⟨_, rfl⟩ .nil), ?_⟩
  exact ⟨_, Heap.get?_push_size s.heap rfl, rfl, 0, rfl⟩
/-! repr of data -/
mutual
theorem rp_dp {K : PySem.W.Frag} {G : Hp} : ∀ (d : PyData) (v : V), d.hasDict = false → Rp K G d v → Dp K G v d
  | .none, v, _, h => by rw [rp_none.mp h]; exact .non
  | .bool b, v, _, h => by rw [rp_bool.mp h]; exact .bl b
  | .int i, v, _, h => by rw [rp_int.mp h]; exact .int i
  | .str s, v, _, h => by rw [rp_str.mp h]; exact .str s
  | .list ds, v, n, h => by
    obtain ⟨a, xs, rfl, h2, h3⟩ := rp_list.mp h
    exact .lst (Or.inl h2) (rp_dpAll ds xs (by simpa [PyData.hasDict] using n) h3)
  | .tuple ds, v, n, h => by
    obtain ⟨a, xs, rfl, h2, h3⟩ := rp_tuple.mp h
    exact .tup h2 (rp_dpAll ds xs (by simpa [PyData.hasDict] using n) h3)
  | .dict kvs, v, n, h => by simp [PyData.hasDict] at n
theorem rp_dpAll {K : PySem.W.Frag} {G : Hp} : ∀ (ds : List PyData) (xs : List V), PyData.hasDictAll ds = false → RpAll K G ds xs → DpAll K G xs ds
  | [], xs, _, h => by rw [rpa_nil.mp h]; exact .nil
  | d :: ds, xs, n, h => by
    obtain ⟨x, r, rfl, h2, h3⟩ := rpa_cons.mp h
    have n : d.hasDict = false ∧ PyData.hasDictAll ds = false := by simpa [PyData.hasDictAll] using n
    exact .cons (rp_dp d x n.1 h2) (rp_dpAll ds r n.2 h3)
end
def rRepr (K : PySem.W.Frag) : List V → Hp → VK → Prop := fun xs H Q => ∃ x d, xs = [x] ∧ Rp K H d x ∧ d.hasDict = false ∧ d.depth ≤ 64 ∧ d.showable = true ∧ d.shown.length ≤ sizeLine ∧ Q (.str d.shown) H
theorem repr_leaf {pins : List (Addr × Obj)} {σ : L2.St} {H : Hp} {s : Shared} {Q : VK} {u : Value} {as : List Addr} {d : PyData} (I : Inv X pins σ H s) (r : Reads s.heap u d as) (h0 : d.hasDict = false) (hg : X.A.guards = some []) (hu : X.A.units + 65 < cLine)
    (h1 : d.depth ≤ 64) (h2 : d.showable = true) (h3 : d.shown.length ≤ sizeLine) (q : Q (.str d.shown) H) : wpAny (model X.prog X.w) X.A (call (.builtin "repr") [u]) (EP X pins σ Q) X.xe s := by
  cases r with
  | none =>
    simp only [PyData.shown] at q
    exact PySem.P.repr_of_none ⟨.str _, H, I.tok _, ⟨_, rfl⟩, q⟩
  | bool b =>
    simp only [PyData.shown] at q
    exact PySem.P.repr_of_bool ⟨.str _, H, I.tok _, ⟨_, rfl⟩, q⟩
  | int i t =>
    simp only [PyData.shown] at q
    exact PySem.P.repr_of_int (by simpa [PyData.showable] using h2) ⟨.str _, H, I.tok _, ⟨_, rfl⟩, q⟩
  | str x t =>
    simp only [PyData.shown] at q h3
    exact PySem.P.repr_of_str ⟨.str _, H, I.tok _, ⟨_, rfl⟩, q⟩ h3
  | list a1 a2 a3 a4 =>
    exact repr_of_reads' (.list a1 a2 a3 a4) h2 (PyData.noDict_hsm h0) hg (by omega) (fun _ _ e => e) (fun h' u tk hk => ⟨.str _, H, I.kept hk, ⟨_, rfl⟩, q⟩) h3
  | tuple a1 a2 a3 a4 =>
    exact repr_of_reads' (.tuple a1 a2 a3 a4) h2 (PyData.noDict_hsm h0) hg (by omega) (fun _ _ e => e) (fun h' u tk hk => ⟨.str _, H, I.kept hk, ⟨_, rfl⟩, q⟩) h3
  | dict a1 a2 a3 a4 a5 => simp [PyData.hasDict] at h0
theorem cRepr {k : Nat} (hr : Room k X.A) (hg : X.A.guards = some []) : CallR X (.builtin "repr") (rRepr X.K) := by
  intro pins s σ H xs us Q I r h
  obtain ⟨x, d, rfl, hd, h0, h1, h2, h3, q⟩ := h
  obtain ⟨u, rfl, rx⟩ := vals1 r
  obtain ⟨as, rd⟩ := Dp.reads I d x u (rp_dp d x h0 hd) rx
  have := hr.un
  exact repr_leaf I rd h0 hg (by omega) h1 h2 h3 q
end
end DL
namespace DL
open PySem L2
section
variable {K : PySem.W.Frag} {m : Mm} {Q : Val → Mm → Prop}
/-! operators upon ints -/
theorem int_of {G : Hp} {i : Int} {v : V} (h : VR K G (.d (.int i)) v) : v = .int i := rp_int.mp h.rp
theorem bool_of {G : Hp} {i : Bool} {v : V} (h : VR K G (.d (.bool i)) v) : v = .bl i := rp_bool.mp h.rp
theorem str_of {G : Hp} {i : Str} {v : V} (h : VR K G (.d (.str i)) v) : v = .str i := rp_str.mp h.rp
theorem vr_int {G : Hp} {i : Int} : VR K G (.d (.int i)) (.int i) := .d (rp_int.mpr rfl)
theorem vr_bool {G : Hp} {i : Bool} : VR K G (.d (.bool i)) (.bl i) := .d (rp_bool.mpr rfl)
theorem vr_str {G : Hp} {i : Str} : VR K G (.d (.str i)) (.str i) := .d (rp_str.mpr rfl)
theorem vr_none {G : Hp} : VR K G (.d .none) .non := .d (rp_none.mpr rfl)
theorem o2_I0 {g : Int → Int → Int} {i j : Int} (q : Q (.d (.int (g i j))) m) : Op2 K (rI0 fun i j => .int (g i j)) (.d (.int i)) (.d (.int j)) m Q := fun H G v w S a b R k => by
  rw [int_of a, int_of b]
  exact ⟨i, j, rfl, rfl, k _ H G _ m q S (Le.refl G) vr_int⟩
theorem o2_B0 {g : Int → Int → Bool} {i j : Int} (q : Q (.d (.bool (g i j))) m) : Op2 K (rI0 fun i j => .bl (g i j)) (.d (.int i)) (.d (.int j)) m Q := fun H G v w S a b R k => by
  rw [int_of a, int_of b]
  exact ⟨i, j, rfl, rfl, k _ H G _ m q S (Le.refl G) vr_bool⟩
theorem o2_I {C : Int → Int → Prop} {g : Int → Int → Int} {i j : Int} (c : C i j) (q : Q (.d (.int (g i j))) m) : Op2 K (rI C fun i j => .int (g i j)) (.d (.int i)) (.d (.int j)) m Q := fun H G v w S a b R k => by
  rw [int_of a, int_of b]
  exact ⟨i, j, rfl, rfl, c, k _ H G _ m q S (Le.refl G) vr_int⟩
theorem o2_addI {i j : Int} (q : Q (.d (.int (i + j))) m) : Op2 K (rAdd K) (.d (.int i)) (.d (.int j)) m Q := fun H G v w S a b R k => Or.inl (o2_I0 (g := fun i j => i + j) q H G v w S a b R k)
theorem o2_sub {i j : Int} (q : Q (.d (.int (i - j))) m) : Op2 K rSub (.d (.int i)) (.d (.int j)) m Q := o2_I0 (g := fun i j => i - j) q
theorem o2_mulI {i j : Int} (c : CMulW i j) (q : Q (.d (.int (i * j))) m) : Op2 K (rMul K) (.d (.int i)) (.d (.int j)) m Q := fun H G v w S a b R k => Or.inl (o2_I (C := CMulW) (g := fun i j => i * j) c q H G v w S a b R k)
theorem o2_fdv {i j : Int} (c : CDivW i j) (q : Q (.d (.int (i / j))) m) : Op2 K rFdv (.d (.int i)) (.d (.int j)) m Q := o2_I (C := CDivW) (g := fun i j => i / j) c q
theorem o2_mod {i j : Int} (c : 0 < j) (q : Q (.d (.int (i % j))) m) : Op2 K rMod (.d (.int i)) (.d (.int j)) m Q := o2_I (C := fun _ j => 0 < j) (g := fun i j => i % j) c q
theorem o2_lt {i j : Int} (q : Q (.d (.bool (decide (i < j)))) m) : Op2 K rLt (.d (.int i)) (.d (.int j)) m Q := o2_B0 (g := fun i j => decide (i < j)) q
theorem o2_le {i j : Int} (q : Q (.d (.bool (decide (i ≤ j)))) m) : Op2 K rLe (.d (.int i)) (.d (.int j)) m Q := o2_B0 (g := fun i j => decide (i ≤ j)) q
theorem o2_gt {i j : Int} (q : Q (.d (.bool (decide (j < i)))) m) : Op2 K rGt (.d (.int i)) (.d (.int j)) m Q := o2_B0 (g := fun i j => decide (j < i)) q
theorem o2_ge {i j : Int} (q : Q (.d (.bool (decide (j ≤ i)))) m) : Op2 K rGe (.d (.int i)) (.d (.int j)) m Q := o2_B0 (g := fun i j => decide (j ≤ i)) q
theorem o1_neg {i : Int} (q : Q (.d (.int (-i))) m) : Op1 K rNeg (.d (.int i)) m Q := fun H G v S a R k => by
  rw [int_of a]
  exact ⟨i, rfl, k _ H G _ m q S (Le.refl G) vr_int⟩
/-! == of data -/
theorem dp_of {H G : Hp} {x : PyData} {v : V} (S : Sta K m H G) (h : SeqAt.shaped x = true) (a : VR K G (.d x) v) : Dp K H v x := by
  have h : (x.canLay0 && decide (x.depth ≤ 64)) = true := h
  rw [Bool.and_eq_true] at h
  exact rp_dp x v (PyData.hasDict_of_canLay x h.1) (Rp.mono S.sub x v a.rp)
theorem o2_eq {x y : PyData} (hx : SeqAt.shaped x = true) (hy : SeqAt.shaped y = true) (q : Q (.d (.bool (PyData.eqv x y))) m) : Op2 K (rEqA K) (.d x) (.d y) m Q := fun H G v w S a b R k =>
  Or.inr ⟨x, y, dp_of S hx a, dp_of S hy b, hx, hy, k _ H G _ m q S (Le.refl G) vr_bool⟩
theorem o2_ne {x y : PyData} (hx : SeqAt.shaped x = true) (hy : SeqAt.shaped y = true) (q : Q (.d (.bool (!PyData.eqv x y))) m) : Op2 K (rNeA K) (.d x) (.d y) m Q := fun H G v w S a b R k =>
  Or.inr ⟨x, y, dp_of S hx a, dp_of S hy b, hx, hy, k _ H G _ m q S (Le.refl G) vr_bool⟩
theorem shaped_int (i : Int) : SeqAt.shaped (.int i) = true := by simp [SeqAt.shaped, PyData.canLay0, PyData.depth]
theorem eqv_int (i j : Int) : PyData.eqv (.int i) (.int j) = decide (i = j) := by
  simp only [PyData.eqv]; exact Bool.beq_eq_decide_eq i j
theorem o2_eqI {i j : Int} (q : Q (.d (.bool (decide (i = j)))) m) : Op2 K (rEqA K) (.d (.int i)) (.d (.int j)) m Q := o2_eq (shaped_int i) (shaped_int j) (by rw [eqv_int]; exact q)
theorem o2_neI {i j : Int} (q : Q (.d (.bool (!decide (i = j)))) m) : Op2 K (rNeA K) (.d (.int i)) (.d (.int j)) m Q := o2_ne (shaped_int i) (shaped_int j) (by rw [eqv_int]; exact q)
/-! texts -/
theorem o2_eqS {x y : Str} (q : Q (.d (.bool (decide (x = y)))) m) : Op2 K (rEqA K) (.d (.str x)) (.d (.str y)) m Q := fun H G v w S a b R k => by
  rw [str_of a, str_of b]
  refine Or.inl ⟨rfl, ?_⟩
  rw [dec_str, Bool.beq_eq_decide_eq]
  exact k _ H G _ m q S (Le.refl G) vr_bool
theorem o2_neS {x y : Str} (q : Q (.d (.bool (!decide (x = y)))) m) : Op2 K (rNeA K) (.d (.str x)) (.d (.str y)) m Q := fun H G v w S a b R k => by
  rw [str_of a, str_of b]
  refine Or.inl ⟨rfl, ?_⟩
  rw [dec_str, Bool.beq_eq_decide_eq]
  exact k _ H G _ m q S (Le.refl G) vr_bool
/-! items -/
theorem atI_nth {α : Type} (xs : List α) (i : Nat) : atI xs (i : Int) = xs[i]? := by
  unfold atI ixN
  rw [if_pos (Int.natCast_nonneg i)]
  by_cases h : i < xs.length
  · rw [if_pos (by omega), show ((i : Int)).toNat = i by omega]; rfl
  · rw [if_neg (by omega), List.getElem?_eq_none (by omega)]; rfl
theorem RpAll.atI {G : Hp} {ds : List PyData} {xs : List V} {i : Int} {d : PyData} (h : RpAll K G ds xs) (e : L2.atI ds i = some d) : ∃ x, L2.atI xs i = some x ∧ Rp K G d x := by
  unfold L2.atI at e ⊢
  rw [h.length]
  cases hj : ixN ds.length i with
  | none => rw [hj] at e; cases e
  | some j =>
    rw [hj] at e
    exact h.at e
theorem VRs.atI {G : Hp} : ∀ {rs : List Val} {xs : List V} {i : Nat} {r : Val}, VRs K G rs xs → rs[i]? = some r → ∃ x, xs[i]? = some x ∧ VR K G r x
  | [], xs, i, r, h, e => by simp at e
  | r0 :: rs, xs, 0, r, h, e => by
    obtain ⟨y, t, h1, h2, _⟩ := h
    subst h1
    have e : r0 = r := by simpa using e
    subst e
    exact ⟨y, rfl, h2⟩
  | r0 :: rs, xs, i + 1, r, h, e => by
    obtain ⟨y, t, h1, _, h3⟩ := h
    subst h1
    obtain ⟨z, h4, h5⟩ := VRs.atI (i := i) (r := r) h3 (by simpa using e)
    exact ⟨z, by simpa using h4, h5⟩
theorem o2_ixT {ds : List PyData} {i : Int} {d : PyData} (h : atI ds i = some d) (q : Q (.d d) m) : Op2 K (rIx K) (.d (.tuple ds)) (.d (.int i)) m Q := fun H G v w S a b R k => by
  rw [int_of b]
  obtain ⟨p, xs, hv, h2, h3⟩ := rp_tuple.mp a.rp
  obtain ⟨x, h4, h5⟩ := h3.atI h
  exact Or.inr (Or.inl ⟨p, xs, i, x, hv, rfl, S.sqT h2, h4, k _ H G _ m q S (Le.refl G) (.d h5)⟩)
theorem o2_ixL {ds : List PyData} {i : Int} {d : PyData} (h : atI ds i = some d) (q : Q (.d d) m) : Op2 K (rIx K) (.d (.list ds)) (.d (.int i)) m Q := fun H G v w S a b R k => by
  rw [int_of b]
  obtain ⟨p, xs, hv, h2, h3⟩ := rp_list.mp a.rp
  obtain ⟨x, h4, h5⟩ := h3.atI h
  exact Or.inl ⟨p, xs, i, x, hv, rfl, Or.inl (Le.rd S.sub h2), h4, k _ H G _ m q S (Le.refl G) (.d h5)⟩
theorem o2_ixM {p : Addr} {rs : List Val} {i : Nat} {r : Val} (hm : m p = some (.lst rs)) (h : rs[i]? = some r) (q : Q r m) : Op2 K (rIx K) (.v (.ref p)) (.d (.int (i : Int))) m Q := fun H G v w S a b R k => by
  rw [int_of b]
  obtain ⟨xs, h2, h3⟩ := S.mem p _ hm
  obtain ⟨x, h4, h5⟩ := h3.atI h
  exact Or.inl ⟨p, xs, i, x, a.eq, rfl, Or.inl (Or.inl h2), by rw [atI_nth]; exact h4, k _ H G _ m q S (Le.refl G) h5⟩
theorem o2_ixB {p : Addr} (hm : m p = some .box) (q : ∀ n : Int, Q (.d (.int n)) m) : Op2 K (rIx K) (.v (.ref p)) (.d (.int 0)) m Q := fun H G v w S a b R k => by
  rw [int_of b]
  obtain ⟨n, h2⟩ := S.mem p _ hm
  exact Or.inl ⟨p, [.int n], 0, .int n, a.eq, rfl, Or.inl (Or.inl h2), rfl, k _ H G _ m (q n) S (Le.refl G) vr_int⟩
theorem o2_ixS {ns : List Int} {i : Nat} {n : Int} (h : ns[i]? = some n) (q : Q (.d (.int n)) m) : Op2 K (rIx K) (.scr ns) (.d (.int (i : Int))) m Q := fun H G v w S a b R k => by
  rw [int_of b]
  cases a with
  | scr h2 =>
    exact Or.inl ⟨_, _, i, .int n, rfl, rfl, S.sqL h2, by rw [atI_nth, List.getElem?_map, h]; rfl, k _ H G _ m q S (Le.refl G) vr_int⟩
/-! built-ins -/
theorem vrs1 {G : Hp} {x : Val} {vs : List V} (h : VRs K G [x] vs) : ∃ v, vs = [v] ∧ VR K G x v := by
  obtain ⟨v, t, h1, h2, h3⟩ := h
  have h3 : t = [] := h3
  exact ⟨v, by rw [h1, h3], h2⟩
theorem vrs2 {G : Hp} {x y : Val} {vs : List V} (h : VRs K G [x, y] vs) : ∃ v w, vs = [v, w] ∧ VR K G x v ∧ VR K G y w := by
  obtain ⟨v, t, h1, h2, h3⟩ := h
  obtain ⟨w, h4, h5⟩ := vrs1 h3
  exact ⟨v, w, by rw [h1, h4], h2, h5⟩
theorem on_abs {i : Int} (q : Q (.d (.int (i.natAbs : Int))) m) : OpN K rAbs [.d (.int i)] m Q := fun H G vs S a R k => by
  obtain ⟨v, rfl, h⟩ := vrs1 a
  rw [int_of h]
  refine ⟨i, rfl, ?_⟩
  have e : (if i < 0 then -i else i) = (i.natAbs : Int) := by split <;> omega
  rw [e]
  exact k _ H G _ m q S (Le.refl G) vr_int
theorem on_max {i j : Int} (q : Q (.d (.int (max i j))) m) : OpN K rMax2 [.d (.int i), .d (.int j)] m Q := fun H G vs S a R k => by
  obtain ⟨v, w, rfl, h1, h2⟩ := vrs2 a
  rw [int_of h1, int_of h2]
  refine ⟨i, j, rfl, ?_⟩
  have e : (if j > i then j else i) = max i j := by split <;> omega
  rw [e]
  exact k _ H G _ m q S (Le.refl G) vr_int
theorem on_min {i j : Int} (q : Q (.d (.int (min i j))) m) : OpN K rMin2 [.d (.int i), .d (.int j)] m Q := fun H G vs S a R k => by
  obtain ⟨v, w, rfl, h1, h2⟩ := vrs2 a
  rw [int_of h1, int_of h2]
  refine ⟨i, j, rfl, ?_⟩
  have e : (if j < i then j else i) = min i j := by split <;> omega
  rw [e]
  exact k _ H G _ m q S (Le.refl G) vr_int
theorem on_lenT {ds : List PyData} (q : Q (.d (.int (ds.length : Int))) m) : OpN K (rLen K) [.d (.tuple ds)] m Q := fun H G vs S a R k => by
  obtain ⟨v, rfl, h⟩ := vrs1 a
  obtain ⟨p, xs, hv, h2, h3⟩ := rp_tuple.mp h.rp
  refine Or.inl ⟨p, xs, by rw [hv], Or.inr (S.sqT h2), ?_⟩
  rw [h3.length]
  exact k _ H G _ m q S (Le.refl G) vr_int
theorem on_lenL {ds : List PyData} (q : Q (.d (.int (ds.length : Int))) m) : OpN K (rLen K) [.d (.list ds)] m Q := fun H G vs S a R k => by
  obtain ⟨v, rfl, h⟩ := vrs1 a
  obtain ⟨p, xs, hv, h2, h3⟩ := rp_list.mp h.rp
  refine Or.inl ⟨p, xs, by rw [hv], Or.inl (Or.inl (Le.rd S.sub h2)), ?_⟩
  rw [h3.length]
  exact k _ H G _ m q S (Le.refl G) vr_int
theorem on_lenS {ns : List Int} (q : Q (.d (.int (ns.length : Int))) m) : OpN K (rLen K) [.scr ns] m Q := fun H G vs S a R k => by
  obtain ⟨v, rfl, h⟩ := vrs1 a
  cases h with
  | scr h2 =>
    refine Or.inl ⟨_, _, rfl, Or.inl (S.sqL h2), ?_⟩
    rw [List.length_map]
    exact k _ H G _ m q S (Le.refl G) vr_int
theorem on_lenX {x : Str} (hz : x.length ≤ 100000) (q : Q (.d (.int (x.length : Int))) m) : OpN K (rLen K) [.d (.str x)] m Q := fun H G vs S a R k => by
  obtain ⟨v, rfl, h⟩ := vrs1 a
  exact Or.inr ⟨x, by rw [str_of h], Nat.le_trans hz (by decide), k _ H G _ m q S (Le.refl G) vr_int⟩
theorem on_sumL {ns : List Int} (q : Q (.d (.int ns.sum)) m) : OpN K (rSumA K) [.d (.list (ns.map PyData.int))] m Q := fun H G vs S a R k => by
  obtain ⟨v, rfl, h⟩ := vrs1 a
  obtain ⟨p, xs, hv, h2, h3⟩ := rp_list.mp h.rp
  rw [h3.ints] at h2
  exact Or.inl ⟨p, ns, by rw [hv], Or.inl (Le.rd S.sub h2), k _ H G _ m q S (Le.refl G) vr_int⟩
theorem on_sumT {ns : List Int} (q : Q (.d (.int ns.sum)) m) : OpN K (rSumA K) [.d (.tuple (ns.map PyData.int))] m Q := fun H G vs S a R k => by
  obtain ⟨v, rfl, h⟩ := vrs1 a
  obtain ⟨p, xs, hv, h2, h3⟩ := rp_tuple.mp h.rp
  rw [h3.ints] at h2
  exact Or.inr ⟨p, ns, by rw [hv], S.sqT h2, k _ H G _ m q S (Le.refl G) vr_int⟩
theorem on_all {bs : List Bool} (q : Q (.d (.bool (bs.all id))) m) : OpN K (rAll K) [.d (.list (bs.map PyData.bool))] m Q := fun H G vs S a R k => by
  obtain ⟨v, rfl, h⟩ := vrs1 a
  obtain ⟨p, xs, hv, h2, h3⟩ := rp_list.mp h.rp
  rw [h3.bools] at h2
  exact ⟨p, bs, by rw [hv], Or.inl (Le.rd S.sub h2), k _ H G _ m q S (Le.refl G) vr_bool⟩
theorem on_any {bs : List Bool} (q : Q (.d (.bool (bs.any id))) m) : OpN K (rAny K) [.d (.list (bs.map PyData.bool))] m Q := fun H G vs S a R k => by
  obtain ⟨v, rfl, h⟩ := vrs1 a
  obtain ⟨p, xs, hv, h2, h3⟩ := rp_list.mp h.rp
  rw [h3.bools] at h2
  exact ⟨p, bs, by rw [hv], Or.inl (Le.rd S.sub h2), k _ H G _ m q S (Le.refl G) vr_bool⟩
theorem on_tupL {ds : List PyData} (q : Q (.d (.tuple ds)) m) : OpN K (rTupO K) [.d (.list ds)] m Q := fun H G vs S a R k => by
  obtain ⟨v, rfl, h⟩ := vrs1 a
  obtain ⟨p, xs, hv, h2, h3⟩ := rp_list.mp h.rp
  refine ⟨p, xs, by rw [hv], Or.inl ⟨Or.inl (Le.rd S.sub h2), fun l hl => ?_⟩⟩
  have hg := S.free hl
  exact k _ _ (upd G l (.tup xs)) _ m q (S.fix hl) (Le.new hg) (.d (rp_tuple.mpr ⟨l, xs, rfl, SqT.of upd_same, RpAll.mono (Le.new hg) ds xs h3⟩))
theorem on_tupT {ds : List PyData} (q : Q (.d (.tuple ds)) m) : OpN K (rTupO K) [.d (.tuple ds)] m Q := fun H G vs S a R k => by
  obtain ⟨v, rfl, h⟩ := vrs1 a
  obtain ⟨p, xs, hv, h2, h3⟩ := rp_tuple.mp h.rp
  exact ⟨p, xs, by rw [hv], Or.inr ⟨S.sqT h2, by rw [← hv]; exact k _ H G _ m q S (Le.refl G) h⟩⟩
theorem on_lstT {ds : List PyData} (q : Q (.d (.list ds)) m) : OpN K (rLstO K) [.d (.tuple ds)] m Q := fun H G vs S a R k => by
  obtain ⟨v, rfl, h⟩ := vrs1 a
  obtain ⟨p, xs, hv, h2, h3⟩ := rp_tuple.mp h.rp
  refine ⟨p, xs, by rw [hv], Or.inr (S.sqT h2), fun l hl => ?_⟩
  have hg := S.free hl
  exact k _ _ (upd G l (.lst xs)) _ m q (S.fix hl) (Le.new hg) (.d (rp_list.mpr ⟨l, xs, rfl, Rd.of upd_same, RpAll.mono (Le.new hg) ds xs h3⟩))
theorem on_divmod {i j : Int} (c : CDivW i j) (q : Q (.d (.tuple [.int (i / j), .int (i % j)])) m) : OpN K rDivmod [.d (.int i), .d (.int j)] m Q := fun H G vs S a R k => by
  obtain ⟨v, w, rfl, h1, h2⟩ := vrs2 a
  rw [int_of h1, int_of h2]
  refine ⟨i, j, rfl, c, fun p hp => ?_⟩
  have hg := S.free hp
  exact k _ _ (upd G p (.tup [.int (i / j), .int (i % j)])) _ m q (S.fix hp) (Le.new hg) (.d (rp_tuple.mpr ⟨p, _, rfl, SqT.of upd_same, rpa_ints [i / j, i % j]⟩))
/-! isinstance -/
def tyN : PyData → String
  | .none => "NoneType" | .bool _ => "bool" | .int _ => "int" | .str _ => "str" | .list _ => "list" | .tuple _ => "tuple" | .dict _ => "dict"
theorem ty_of {H G : Hp} {x : PyData} {v : V} (S : Sta K m H G) (a : Rp K G x v) : TyX K H v (.type (tyN x)) := by
  cases x with
  | none => rw [rp_none.mp a]; exact .base .non
  | bool b => rw [rp_bool.mp a]; exact .base (.bl b)
  | int b => rw [rp_int.mp a]; exact .base (.int b)
  | str b => rw [rp_str.mp a]; exact .base (.str b)
  | list ds =>
    obtain ⟨p, xs, rfl, h2, _⟩ := rp_list.mp a
    rcases Le.rd S.sub h2 with h | ⟨o, h⟩
    · exact .base (.lst h)
    · exact .base (.frz h)
  | tuple ds =>
    obtain ⟨p, xs, rfl, h2, _⟩ := rp_tuple.mp a
    rcases S.sqT h2 with (h | ⟨o, h⟩) | ⟨o, its, n, h, hc, _⟩
    · exact .base (.tup h)
    · exact .fTuple h
    · exact .kTuple h hc
  | dict kvs =>
    rw [Rp] at a
    obtain ⟨p, rfl, ⟨es, h, _⟩ | ⟨es, h, _⟩⟩ := a
    · exact .base (.dT (S.sub _ _ h))
    · exact .base (.dK (S.sub _ _ h))
theorem on_isi {x : PyData} {T : String} {b : Bool} (hb : kitB (tyN x) T = some b) (q : Q (.d (.bool b)) m) : OpN K (rIsi K) [.d x, .v (.ty T)] m Q := fun H G vs S a R k => by
  obtain ⟨v, w, rfl, h1, h2⟩ := vrs2 a
  rw [h2.eq]
  exact ⟨v, .ty T, _, _, b, rfl, .ty T, ty_of S h1.rp, kit_ty hb, k _ H G _ m q S (Le.refl G) vr_bool⟩
def isTup : PyData → Bool | .tuple _ => true | _ => false
def isIntB : PyData → Bool | .int _ => true | .bool _ => true | _ => false
def isBoo : PyData → Bool | .bool _ => true | _ => false
def isStrD : PyData → Bool | .str _ => true | _ => false
def isLst : PyData → Bool | .list _ => true | _ => false
def isDct : PyData → Bool | .dict _ => true | _ => false
theorem on_isiTup {x : PyData} (q : Q (.d (.bool (isTup x))) m) : OpN K (rIsi K) [.d x, .v (.ty "tuple")] m Q := on_isi (by cases x <;> (simp only [tyN, isTup, isIntB, isBoo, isStrD, isLst, isDct]; decide +kernel)) q
theorem on_isiInt {x : PyData} (q : Q (.d (.bool (isIntB x))) m) : OpN K (rIsi K) [.d x, .v (.ty "int")] m Q := on_isi (by cases x <;> (simp only [tyN, isTup, isIntB, isBoo, isStrD, isLst, isDct]; decide +kernel)) q
theorem on_isiBool {x : PyData} (q : Q (.d (.bool (isBoo x))) m) : OpN K (rIsi K) [.d x, .v (.ty "bool")] m Q := on_isi (by cases x <;> (simp only [tyN, isTup, isIntB, isBoo, isStrD, isLst, isDct]; decide +kernel)) q
theorem on_isiStr {x : PyData} (q : Q (.d (.bool (isStrD x))) m) : OpN K (rIsi K) [.d x, .v (.ty "str")] m Q := on_isi (by cases x <;> (simp only [tyN, isTup, isIntB, isBoo, isStrD, isLst, isDct]; decide +kernel)) q
theorem on_isiList {x : PyData} (q : Q (.d (.bool (isLst x))) m) : OpN K (rIsi K) [.d x, .v (.ty "list")] m Q := on_isi (by cases x <;> (simp only [tyN, isTup, isIntB, isBoo, isStrD, isLst, isDct]; decide +kernel)) q
theorem on_isiDict {x : PyData} (q : Q (.d (.bool (isDct x))) m) : OpN K (rIsi K) [.d x, .v (.ty "dict")] m Q := on_isi (by cases x <;> (simp only [tyN, isTup, isIntB, isBoo, isStrD, isLst, isDct]; decide +kernel)) q
/-! repr -/
theorem on_repr {x : PyData} (h0 : x.hasDict = false) (h1 : x.depth ≤ 64) (h2 : x.showable = true) (h3 : x.shown.length ≤ sizeLine) (q : Q (.d (.str x.shown)) m) : OpN K (rRepr K) [.d x] m Q := fun H G vs S a R k => by
  obtain ⟨v, rfl, h⟩ := vrs1 a
  exact ⟨v, x, rfl, Rp.mono S.sub x v h.rp, h0, h1, h2, h3, k _ H G _ m q S (Le.refl G) vr_str⟩
/-! + of tuples and lists, * -/
theorem nil_of_all {G : Hp} {ds : List PyData} (h : RpAll K G ds []) : ds = [] := by
  cases ds with
  | nil => rfl
  | cons d r =>
    obtain ⟨x, t, h1, _⟩ := rpa_cons.mp h
    cases h1
theorem o2_addL {ds es : List PyData} (hz : ds.length + es.length ≤ 100000) (q : Q (.d (.list (ds ++ es))) m) : Op2 K (rAdd K) (.d (.list ds)) (.d (.list es)) m Q := fun H G v w S a b R k => by
  obtain ⟨p, xs, rfl, h2, h3⟩ := rp_list.mp a.rp
  obtain ⟨p', ys, rfl, h4, h5⟩ := rp_list.mp b.rp
  refine Or.inr (Or.inr (Or.inl ⟨p, p', xs, ys, rfl, rfl, Le.rd S.sub h2, Le.rd S.sub h4, ?_, fun l hl => ?_⟩))
  · rw [h3.length, h5.length]; exact Nat.le_trans hz (by decide)
  · have hg := S.free hl
    exact k _ _ (upd G l (.lst (xs ++ ys))) _ m q (S.fix hl) (Le.new hg) (.d (rp_list.mpr ⟨l, _, rfl, Rd.of upd_same, RpAll.mono (Le.new hg) _ _ (h3.append h5)⟩))
theorem o2_addS {x y : Str} (hz : x.length + y.length ≤ 100000) (q : Q (.d (.str (x ++ y))) m) : Op2 K (rAdd K) (.d (.str x)) (.d (.str y)) m Q := fun H G v w S a b R k => by
  rw [str_of a, str_of b]
  exact Or.inr (Or.inr (Or.inr ⟨x, y, rfl, rfl, Nat.le_trans hz (by decide), k _ H G _ m q S (Le.refl G) vr_str⟩))
theorem RpAll.rep {G : Hp} {ds : List PyData} {xs : List V} (h : RpAll K G ds xs) : ∀ n : Nat, RpAll K G (List.replicate n ds).flatten (List.replicate n xs).flatten
  | 0 => rpa_nil.mpr rfl
  | n + 1 => by
    rw [List.replicate_succ, List.replicate_succ, List.flatten_cons, List.flatten_cons]
    exact h.append (RpAll.rep h n)
theorem o2_mulT {ds : List PyData} {n : Nat} (h0 : ds ≠ []) (h1 : 1 ≤ n) (h2 : n ≤ 1000) (h3 : ds.length ≤ 1000) (q : Q (.d (.tuple (List.replicate n ds).flatten)) m) : Op2 K (rMul K) (.d (.tuple ds)) (.d (.int (n : Int))) m Q := fun H G v w S a b R k => by
  rw [int_of b]
  obtain ⟨p, xs, rfl, g2, g3⟩ := rp_tuple.mp a.rp
  by_cases e : n = 1
  · subst e
    have e : (List.replicate 1 ds).flatten = ds := by simp
    rw [e] at q
    exact Or.inr (Or.inr (Or.inl ⟨p, xs, rfl, rfl, S.sqT g2, k _ H G _ m q S (Le.refl G) a⟩))
  · refine Or.inr (Or.inl ⟨p, (n : Int), xs, rfl, rfl, S.sqT g2, fun e => ?_, by omega, by omega, by rw [g3.length]; exact h3, fun l hl => ?_⟩)
    · subst e; exact h0 (nil_of_all g3)
    · have hg := S.free hl
      have en : ((n : Int)).toNat = n := by omega
      rw [en]
      exact k _ _ (upd G l _) _ m q (S.fix hl) (Le.new hg) (.d (rp_tuple.mpr ⟨l, _, rfl, SqT.of upd_same, RpAll.mono (Le.new hg) _ _ (g3.rep n)⟩))
end
/-! list(range), tuple(range) -/
section
variable {K : PySem.W.Frag} {r : List Val} {m : Mm} {Q : Val → Mm → Prop} {ta tb tc te : TE} {tt : TT}
/-! comprehensions -/
def Ext (m m' : Mm) : Prop := ∀ a o, m a = some o → m' a = some o
/-- one turn's end: the list so far stands at D -/
def LcW (K : PySem.W.Frag) (m : Mm) (G : Hp) (D : Addr) (W : Nat → List PyData → Prop) (i : Nat) (H' : Hp) : Prop :=
  ∃ G' acc, W i acc ∧ acc.length ≤ i ∧ Sta K (put m D (.lst (acc.map Val.d))) H' G' ∧ Le G G'
theorem lc_turn {G : Hp} {D : Addr} {W : Nat → List PyData → Prop} {i : Nat} {σ : L2.St} {H' : Hp} {r' : List Val} (hm : m D = none) (hi : i < 100000) (L : ∀ G', Le G G' → Sl K G' r' σ)
    (hs : ∀ m' acc, Ext m m' → W i acc → EvT K tt r' m' fun b m2 => m2 = m' ∧ (b = true → Ev K te r' m' fun x m3 => m3 = m' ∧ ∃ y, x = .d y ∧ W (i + 1) (acc ++ [y])) ∧ (b = false → W (i + 1) acc))
    (h : LcW K m G D W i H') : tt σ H' fun b H3 => if b = true then te σ H3 fun y H4 => ∃ acc, H4 D = some (.lst acc) ∧ acc.length < sizeLine ∧ LcW K m G D W (i + 1) (upd H4 D (.lst (acc ++ [y]))) else LcW K m G D W (i + 1) H3 := by
  obtain ⟨G', acc, hw, hl, S, e⟩ := h
  have hx : Ext m (put m D (.lst (acc.map Val.d))) := fun a o ha => by
    rw [put_ne (ne_of_get ha hm)]; exact ha
  refine hs _ acc hx hw σ H' G' S (L G' e) _ fun H3 G3 b m3 ⟨e3, h1, h2⟩ S3 l3 => ?_
  subst e3
  cases b with
  | true =>
    show te σ H3 _
    refine h1 rfl σ H3 G3 S3 (L G3 (e.trans l3)) _ fun v H4 G4 x m4 ⟨e4, y, hy, hw'⟩ S4 l4 r4 => ?_
    subst e4 hy
    obtain ⟨xs, g1, g2⟩ := S4.mem D _ put_same
    have hlen := g2.length
    rw [List.length_map] at hlen
    refine ⟨xs, g1, Nat.lt_of_lt_of_le (show xs.length < 100000 by omega) (by decide), G4, acc ++ [y], hw', by rw [List.length_append]; show acc.length + 1 ≤ i + 1; omega, ?_, e.trans (l3.trans l4)⟩
    have S5 := S4.chg (u := .lst ((acc ++ [y]).map Val.d)) (o := .lst (xs ++ [v])) put_same ⟨_, upd_same, by
      rw [List.map_append]
      exact g2.append ⟨v, [], rfl, r4, rfl⟩⟩
    rw [put_put] at S5
    exact S5
  | false =>
    show LcW K m G D W (i + 1) H3
    exact ⟨G3, acc, h2 rfl, by omega, S3, e.trans l3⟩
theorem wipe1 (σ : L2.St) (j : Nat) (x : V) : wipe ((wipe σ [j]).set j (some x)) [j] = wipe σ [j] := by
  show ((σ.set j none).set j (some x)).set j none = σ.set j none
  rw [List.set_set, List.set_set]
theorem sl_in {G : Hp} {σ : L2.St} {j : Nat} {d : PyData} {x : V} (L : Sl K G r σ) {G' : Hp} (e : Le G G') (h : Rp K G' d x) : Sl K G' (r.set j (.d d)) ((wipe σ [j]).set j (some x)) := by
  have := (L.mono e).set (r := .d d) (.d h) j
  show Sl K G' (r.set j (.d d)) ((σ.set j none).set j (some x))
  rw [List.set_set]
  exact this
theorem lc_end {G : Hp} {D : Addr} {W : Nat → List PyData → Prop} {n : Nat} {H' : Hp} {R : VK} (hm : m D = none) (h : LcW K m G D W n H') (hd : ∀ acc, W n acc → Q (.d (.list acc)) m)
    (k : ∀ v H' G' x m', Q x m' → Sta K m' H' G' → Le G G' → VR K G' x v → R v H') : R (.ref D) H' := by
  obtain ⟨G', acc, hw, hl, S, e⟩ := h
  obtain ⟨xs, g1, g2⟩ := S.mem D _ put_same
  have hg := S.dis D _ put_same
  have S2 := S.freeze put_same g1
  have e2 : del (put m D (.lst (acc.map Val.d))) D = m := by
    funext b
    unfold del put
    by_cases hb : b = D
    · rw [if_pos hb, hb, hm]
    · rw [if_neg hb, if_neg hb]
  rw [e2] at S2
  exact k _ H' _ _ m (hd acc hw) S2 (e.trans (Le.new hg)) (.d (rp_list.mpr ⟨D, xs, rfl, Rd.of upd_same, RpAll.mono (Le.new hg) acc xs g2.toAll⟩))
theorem lc_start {H G : Hp} {D : Addr} {W : Nat → List PyData → Prop} (S : Sta K m H G) (hD : H D = none) (h0 : W 0 []) : LcW K m G D W 0 (upd H D (.lst [])) :=
  ⟨G, [], h0, Nat.le_refl _, S.new hD ⟨[], upd_same, rfl⟩, Le.refl G⟩
theorem ev_lcT {tl : TE} {j : Nat} {ds : List PyData} (h : Ev K tl r m fun x m1 => x = .d (.tuple ds) ∧ m1 = m) (hn : ds.length ≤ 100000) (W : Nat → List PyData → Prop) (h0 : W 0 [])
    (hs : ∀ i d m' acc, ds[i]? = some d → Ext m m' → W i acc → EvT K tt (r.set j (.d d)) m' fun b m2 => m2 = m' ∧ (b = true → Ev K te (r.set j (.d d)) m' fun x m3 => m3 = m' ∧ ∃ y, x = .d y ∧ W (i + 1) (acc ++ [y])) ∧ (b = false → W (i + 1) acc))
    (hd : ∀ acc, W ds.length acc → Q (.d (.list acc)) m) : Ev K (tLc (iTup K tl) (gName j) tt te [j]) r m Q := fun σ H G S L R k =>
  h σ H G S L _ fun v H1 G1 x m1 ⟨hx, hm⟩ S1 e1 r1 => by
    subst hx hm
    obtain ⟨p, xs, hv, hs1, hA⟩ := rp_tuple.mp r1.rp
    refine ⟨p, hv, ⟨xs, S1.sqT hs1⟩, fun D hD => ?_⟩
    have hmD := S1.freeM hD
    refine lc_tup (xs := xs) (LcW K m1 G1 D W) (lc_start S1 hD h0) ?_ ?_ ?_
    · rintro i H' hi ⟨G', acc, _, _, S', e'⟩
      exact S'.sqT (e'.sqT hs1)
    · intro i y H' hy hP
      obtain ⟨d, hd1, hd2⟩ := hA.get hy
      have hi : i < 100000 := by
        have := (List.getElem?_eq_some_iff.mp hy).1
        rw [hA.length] at this
        omega
      exact ⟨wipe1 σ j y, lc_turn hmD hi (fun G' e' => sl_in (L.mono e1) e' (Rp.mono e' d y hd2)) (fun m' acc hx hw => hs i d m' acc hd1 hx hw) hP⟩
    · intro H' hP
      rw [hA.length] at hP
      exact lc_end hmD hP hd fun v H' G' x m' q S' e' r' => k v H' G' x m' q S' (e1.trans e') r'
theorem ev_lcL {tl : TE} {j : Nat} {ds : List PyData} (h : Ev K tl r m fun x m1 => x = .d (.list ds) ∧ m1 = m) (hn : ds.length ≤ 100000) (W : Nat → List PyData → Prop) (h0 : W 0 [])
    (hs : ∀ i d m' acc, ds[i]? = some d → Ext m m' → W i acc → EvT K tt (r.set j (.d d)) m' fun b m2 => m2 = m' ∧ (b = true → Ev K te (r.set j (.d d)) m' fun x m3 => m3 = m' ∧ ∃ y, x = .d y ∧ W (i + 1) (acc ++ [y])) ∧ (b = false → W (i + 1) acc))
    (hd : ∀ acc, W ds.length acc → Q (.d (.list acc)) m) : Ev K (tLc (iList K tl) (gName j) tt te [j]) r m Q := fun σ H G S L R k =>
  h σ H G S L _ fun v H1 G1 x m1 ⟨hx, hm⟩ S1 e1 r1 => by
    subst hx hm
    obtain ⟨p, xs, hv, hs1, hA⟩ := rp_list.mp r1.rp
    have hs1 : SqL K G1 p xs := Or.inl hs1
    refine ⟨p, hv, ⟨xs, S1.sqL hs1⟩, fun D hD => ?_⟩
    have hmD := S1.freeM hD
    refine lc_list (xs := xs) (LcW K m1 G1 D W) (lc_start S1 hD h0) ?_ ?_ ?_
    · rintro i H' hi ⟨G', acc, _, _, S', e'⟩
      exact S'.sqL (e'.sqL hs1)
    · intro i y H' hy hP
      obtain ⟨d, hd1, hd2⟩ := hA.get hy
      have hi : i < 100000 := by
        have := (List.getElem?_eq_some_iff.mp hy).1
        rw [hA.length] at this
        omega
      exact ⟨wipe1 σ j y, lc_turn hmD hi (fun G' e' => sl_in (L.mono e1) e' (Rp.mono e' d y hd2)) (fun m' acc hx hw => hs i d m' acc hd1 hx hw) hP⟩
    · intro H' hP
      rw [hA.length] at hP
      exact lc_end hmD hP hd fun v H' G' x m' q S' e' r' => k v H' G' x m' q S' (e1.trans e') r'
theorem ev_lcR1 {ta : TA} {j : Nat} {n : Nat} (h : EvA K ta r m fun xs m1 => xs = [.d (.int (n : Int))] ∧ m1 = m) (hn : n ≤ 100000) (W : Nat → List PyData → Prop) (h0 : W 0 [])
    (hs : ∀ (i : Nat) m' acc, i < n → Ext m m' → W i acc → EvT K tt (r.set j (.d (.int (i : Int)))) m' fun b m2 => m2 = m' ∧ (b = true → Ev K te (r.set j (.d (.int (i : Int)))) m' fun x m3 => m3 = m' ∧ ∃ y, x = .d y ∧ W (i + 1) (acc ++ [y])) ∧ (b = false → W (i + 1) acc))
    (hd : ∀ acc, W n acc → Q (.d (.list acc)) m) : Ev K (tLc (iRng1 ta) (gName j) tt te [j]) r m Q := fun σ H G S L R k =>
  h σ H G S L _ fun vs H1 G1 xs m1 ⟨hx, hm⟩ S1 e1 r1 => by
    subst hx hm
    obtain ⟨v1, rfl, a1⟩ := vrs1 r1
    have a1 := int_of a1
    subst a1
    have en : ((n : Int)).toNat = n := by omega
    refine ⟨(n : Int), rfl, by omega, by omega, ?_⟩
    rw [en]
    intro D hD
    have hmD := S1.freeM hD
    refine lc_range (lo := 0) (n := n) (LcW K m1 G1 D W) (lc_start S1 hD h0) ?_ ?_
    · intro i H' hi hP
      rw [Int.zero_add]
      exact ⟨wipe1 σ j _, lc_turn hmD (by omega) (fun G' e' => sl_in (L.mono e1) e' (rp_int.mpr rfl)) (fun m' acc hx hw => hs i m' acc hi hx hw) hP⟩
    · intro H' hP
      exact lc_end hmD hP hd fun v H' G' x m' q S' e' r' => k v H' G' x m' q S' (e1.trans e') r'
theorem ev_cTy {T : String} (q : Q (.v (.ty T)) m) : Ev K (tC (.ty T)) r m Q := ev_cV q
theorem evt_yes {Q : Bool → Mm → Prop} (q : Q true m) : EvT K tYes r m Q := fun σ H G S L R k => k H G true m q S (Le.refl G)
/-! a[i] = e -/
variable {N : List Val → Mm → Prop} {E : Val → Mm → Prop}
theorem w_setB {to ti : TE} {p : Addr} (h : Ev K te r m fun x m1 => ∃ n : Int, x = .d (.int n) ∧ Ev K to r m1 fun y m2 => y = .v (.ref p) ∧ Ev K ti r m2 fun z m3 => z = .d (.int 0) ∧ m3 p = some .box ∧ N r m3) :
    Wp K (tAsg te (gSub to ti rSetL)) r m N E := fun σ H G D S L a b =>
  h σ H G S L _ fun v H1 G1 x m1 ⟨n, hx, h1⟩ S1 e1 r1 => h1 σ H1 G1 S1 (L.mono e1) _ fun w H2 G2 y m2 ⟨hy, h2⟩ S2 e2 r2 => h2 σ H2 G2 S2 (L.mono (e1.trans e2)) _ fun u H3 G3 z m3 ⟨hz, hb, q⟩ S3 e3 r3 => by
    subst hx hy hz
    have a1 := int_of r1
    have a2 := r2.eq
    have a3 := int_of r3
    subst a1 a2 a3
    obtain ⟨n0, g1⟩ := S3.mem p _ hb
    refine ⟨p, [.int n0], 0, 0, rfl, rfl, g1, rfl, ?_⟩
    have S4 := S3.chg (u := .box) (o := .lst [.int n]) hb ⟨n, upd_same⟩
    have e4 : put m3 p .box = m3 := by
      funext c
      unfold put
      by_cases hc : c = p
      · rw [if_pos hc, hc, hb]
      · rw [if_neg hc]
    rw [e4] at S4
    exact a σ _ G3 r m3 q S4 (e1.trans (e2.trans e3)) (L.mono (e1.trans (e2.trans e3)))
/-- a box made -/
theorem ev_lstB {t : TA} (h : EvA K t r m fun xs m1 => ∃ n : Int, xs = [.d (.int n)] ∧ ∀ p, m1 p = none → Q (.v (.ref p)) (put m1 p .box)) : Ev K (tLst t) r m Q := fun σ H G S L R k =>
  h σ H G S L _ fun vs H1 G1 xs m1 ⟨n, hx, q⟩ S1 e1 r1 => by
    subst hx
    obtain ⟨v1, rfl, a1⟩ := vrs1 r1
    have a1 := int_of a1
    subst a1
    refine ⟨by rw [sizeLine_eq]; show 1 ≤ 16777216; decide, fun p hp => ?_⟩
    exact k (.ref p) _ G1 _ _ (q p (S1.freeM hp)) (S1.new hp ⟨n, upd_same⟩) e1 .v
/-! what grew is data from now on -/
theorem w_freeze {t : TS} {i : Nat} {p : Addr} {ds : List PyData} (hi : r[i]? = some (.v (.ref p))) (hm : m p = some (.lst (ds.map Val.d))) (h : Wp K t (r.set i (.d (.list ds))) (del m p) N E) : Wp K t r m N E := fun σ H G D S L a b => by
  obtain ⟨xs, h1, h2⟩ := S.mem p _ hm
  have hg := S.dis p _ hm
  obtain ⟨v, hv, hr⟩ := L.get hi (fun h => nomatch h)
  have hr := hr.eq
  subst hr
  have L2 := (L.mono (Le.new hg)).set (r := .d (.list ds)) (.d (rp_list.mpr ⟨p, xs, rfl, Rd.of upd_same, RpAll.mono (Le.new (o := .lst xs) hg) ds xs h2.toAll⟩)) i
  have e : σ.set i (some (.ref p)) = σ := by
    refine List.ext_getElem? fun k => ?_
    by_cases hk : k = i
    · subst hk
      rw [List.getElem?_set_self (List.getElem?_eq_some_iff.mp hv).1, hv]
    · rw [List.getElem?_set_ne (Ne.symm hk)]
  rw [e] at L2
  exact h σ H _ D (S.freeze hm h1) L2 (fun σ' H' G' r' m' n S' e' L' => a σ' H' G' r' m' n S' ((Le.new hg).trans e') L') (fun v H' G' x m' n S' e' L' => b v H' G' x m' n S' ((Le.new hg).trans e') L')
/-- xs.append(e) -/
theorem ev_app {to : TE} {p : Addr} {rs : List Val} (h : Ev K to r m fun x m1 => x = .v (.ref p) ∧ m1 p = some (.lst rs) ∧ Ev K te r m1 fun y m2 => m2 p = some (.lst rs) ∧ rs.length < 100000 ∧ Q (.d .none) (put m2 p (.lst (rs ++ [y])))) :
    Ev K (tBM K "list" rAppend to (tCons te tNil)) r m Q := fun σ H G S L R k =>
  h σ H G S L _ fun v H1 G1 x m1 ⟨hx, hm, h1⟩ S1 e1 r1 => by
    subst hx
    have r1 := r1.eq
    subst r1
    obtain ⟨xs, g1, g2⟩ := S1.mem p _ hm
    refine ⟨Or.inl ⟨rfl, xs, Or.inl (Or.inl g1)⟩, ?_⟩
    refine h1 σ H1 G1 S1 (L.mono e1) _ fun w H2 G2 y m2 ⟨hm2, hl, q⟩ S2 e2 r2 => ?_
    obtain ⟨ys, g3, g4⟩ := S2.mem p _ hm2
    refine ⟨p, ys, w, rfl, rfl, g3, Nat.lt_of_lt_of_le (by rw [g4.length]; exact hl) (by decide), ?_⟩
    exact k .non _ G2 _ _ q (S2.chg hm2 ⟨_, upd_same, g4.append ⟨w, [], rfl, r2, rfl⟩⟩) (e1.trans e2) vr_none
theorem o2_pow {i j : Int} (c : CPow i j) (q : Q (.d (.int (i ^ j.toNat))) m) : Op2 K rPow (.d (.int i)) (.d (.int j)) m Q := o2_I (C := CPow) (g := fun i j => i ^ j.toNat) c q
end
end DL
namespace DL
open PySem L2
/-- a def of the text that keeps a word of this level -/
structure Cl (P : Program) (w : World) (K : PySem.W.Frag) (mg : Str → Option Value) (base : Heap) (k : Nat) (x : Str) (sp : FSp) : Prop where
  ex : ∃ f fd ps, FnOk P w K mg base CX0 k f fd ps (spD K sp) ∧ mg x = some (.ref f) ∧ PySem.W.keepIn K (.ref f) = true ∧ Binds K fd ps []
section
variable {X : Cx} {k j n0 : Nat} {x : Str} {sp : FSp} {e : Expr} {es : List Expr} {t : TA} {p pos : Pos} {P : Program} {w : World} {K : PySem.W.Frag} {mg : Str → Option Value} {base : Heap}
theorem pe_cl (c : Cl P w K mg base k x sp) (hr : Room j X.A) (hk : k ≤ j) (hg : Gl X x) (ha : PA X (e :: es) t) (hP : X.prog = P := by rfl) (hw : X.w = w := by rfl) (hK : X.K = K := by rfl) (hmg : X.mg = mg := by rfl) (hbs : X.base = base := by rfl)
    (hdb : (x == ("__debug__" : Str)) = false := by decide)
    (he : starEach (e :: es) X.env = (false, eval e X.env) :: starEach es X.env := by rfl) (hpl : (backTo pos (starEach es X.env)).any (·.1) = false := by rfl) :
    PE X (.Call (.Name x p) (e :: es) [] pos) (tCall (spD K sp) [] E0 t) := by
  subst hP hw hK hmg hbs
  obtain ⟨f, fd, ps, F, hm, hkp, hb⟩ := c.ex
  exact pe_call F (hr.mono hk) hg hm hkp hb .nil pass0 ha hdb he hpl
theorem pe_gi {i : Int} (h : ∃ t, mg x = some (.int i t)) (hg : Gl X x) (hmg : X.mg = mg := by rfl) (hd : (x == ("__debug__" : Str)) = false := by decide) : PE X (.Name x pos) (tC (.int i)) := by
  subst hmg
  obtain ⟨t, h⟩ := h
  exact pe_glob hg h ⟨_, rfl⟩ hd
theorem pe_gs {i : Str} (h : ∃ t, mg x = some (.str i t)) (hg : Gl X x) (hmg : X.mg = mg := by rfl) (hd : (x == ("__debug__" : Str)) = false := by decide) : PE X (.Name x pos) (tC (.str i)) := by
  subst hmg
  obtain ⟨t, h⟩ := h
  exact pe_glob hg h ⟨_, rfl⟩ hd
/-! the joined rules, the written part by name -/
theorem kAdd (K : PySem.W.Frag) (h : X.K = K := by rfl) : OpR X (binaryOp .Add) (rAdd K) := h ▸ oAdd
theorem kMul (K : PySem.W.Frag) (h : X.K = K := by rfl) : OpR X (binaryOp .Mult) (rMul K) := h ▸ oMul
theorem kEq (K : PySem.W.Frag) (hr : Room j X.A) (h : X.K = K := by rfl) : OpR X (compareOp .Eq) (rEqA K) := h ▸ oEq hr
theorem kNe (K : PySem.W.Frag) (hr : Room j X.A) (h : X.K = K := by rfl) : OpR X (compareOp .NotEq) (rNeA K) := h ▸ oNe hr
theorem kIx (K : PySem.W.Frag) (h : X.K = K := by rfl) : IxR X (rIx K) := h ▸ ix_seq
theorem kLen (K : PySem.W.Frag) (h : X.K = K := by rfl) : CallR X (.builtin "len") (rLen K) := h ▸ cLen
theorem kAll (K : PySem.W.Frag) (hc : X.calm = true := by rfl) (h : X.K = K := by rfl) : CallR X (.builtin "all") (rAll K) := h ▸ cAll hc
theorem kTup (K : PySem.W.Frag) (h : X.K = K := by rfl) : CallR X (.type "tuple") (rTupO K) := h ▸ cTup
theorem kLst (K : PySem.W.Frag) (h : X.K = K := by rfl) : CallR X (.type "list") (rLstO K) := h ▸ cLst
theorem kIsi (K : PySem.W.Frag) (h : X.K = K := by rfl) : CallR X (.builtin "isinstance") (rIsi K) := h ▸ cIsi
theorem kSlL (K : PySem.W.Frag) (h : X.K = K := by rfl) : SlR X (rSlL K) := h ▸ sl_list
theorem kBM (K : PySem.W.Frag) {e : Expr} {T : String} {r : V → List V → Hp → VK → Prop} {to : TE} {ta : TA} (hp : PE X e (tBM X.K T r to ta)) (h : X.K = K := by rfl) : PE X e (tBM K T r to ta) := h ▸ hp
theorem kgT (K : PySem.W.Frag) {tg : Expr} {t : TGs} (hp : PG X tg (gTup X.K n0 t)) (h : X.K = K := by rfl) : PG X tg (gTup K n0 t) := h ▸ hp
theorem kiT (K : PySem.W.Frag) {tg l : Expr} {tl : TE} (hl : PE X l tl) (h : X.K = K := by rfl) : PI X tg l (iTup K tl) := h ▸ pi_tup hl
theorem kiL (K : PySem.W.Frag) {tg l : Expr} {tl : TE} (hl : PE X l tl) (h : X.K = K := by rfl) : PI X tg l (iList K tl) := h ▸ pi_list hl
end
/-! defs that want to know that nothing is being shown around them -/
structure FnG (P : Program) (w : World) (K : PySem.W.Frag) (mg : Str → Option Value) (base : Heap) (k : Nat) (f : Addr) (fd : FuncData) (ps : List Str) (sp : Sp) : Prop where
  len : ∀ vs H Q E, sp vs H Q E → vs.length = ps.length
  run : ∀ (A : Around) (outer : List Env) (s : Shared) (H : Hp) (args : Args) (us : List Value) (vs : List V) (Q : VK) (E : XK), A.guards = some [] → Room k A →
    Env0 P w K mg base A outer s H → BindsTo s fd args (ps.zip us) → Vals vs us → sp vs H Q E → codeAny (model P w) A (.call (.ref f) args) (CR CX0 outer P w H s Q E) s
section
variable {P : Program} {w : World} {K : PySem.W.Frag} {mg : Str → Option Value} {base : Heap}
theorem deeper_guards (A : Around) (env : Env) : (A.deeper env).guards = A.guards := by
  first
    | rfl
    | simp [Around.deeper]
theorem fnG_of {x qual : Str} {st : Stmt} {f : Addr} {fd : FuncData} {N ps : List Str} {k : Nat} {sp : Sp} (F : Fun K x qual st f fd) (S : FnScope N ps (defScope st)) (len : ∀ vs H Q E, sp vs H Q E → vs.length = ps.length)
    (hbody : ∀ (cdv : Value) (A : Around) (outer : List Env) (s : Shared) (H : Hp) (vs : List V) (Q : VK) (E : XK), (A.deeper (PyProof.Rows.envOfC qual (defScope st) s.heap.objs.size f cdv)).guards = some [] →
      Room k (A.deeper (PyProof.Rows.envOfC qual (defScope st) s.heap.objs.size f cdv)) → sp vs H Q E →
      ∃ t, PSs (cxOf CX0 P w K mg base N qual (defScope st) f cdv A outer s H E).nox (defBody st) t ∧ t { nx := fun _ H' => Q .non H', rt := Q } (L2.start N vs) H) : FnG P w K mg base (k + 1) f fd ps sp := by
  obtain ⟨oc, od, kV, doc, pm, an, cdv, ct, osl, rfl, lk, hcd⟩ := F.ex
  refine ⟨len, fun A outer s H args us vs Q E hgd hr e0 hb r hsp => ?_⟩
  have hl := len _ _ _ _ hsp
  have KX : K.In s.heap := e0.mod.kin.keeps fun b o e => (e0.bs b o e).1
  have lim : s.heap.NoLimit := e0.mod.nolimit.keeps fun b o e => (e0.bs b o e).1
  refine codeAny_call_function hr.depth (KX _ _ lk) rfl S.co S.gen rfl (PySem.W.codeRec_of KX hcd) (hb _ _ _ _ ?_)
  refine wpAny_newFunctionEnv_cells S.kind (fun y hy => ?_) fun env he s1 z => ?_
  · obtain ⟨n, v⟩ := y
    rcases S.par n (List.of_mem_zip hy).1 with q | q
    · exact Or.inl q
    · exact Or.inr ⟨q, PySem.W.cellsFrom_some _ _ _ (.inl q)⟩
  subst he
  refine ⟨lim.keeps z.toInCall.keep, codeAny_func ?_⟩
  obtain ⟨t, ht, hq⟩ := hbody cdv A outer s H vs Q E ((deeper_guards A _).trans hgd) (hr.deeper _) hsp
  have ht := ht.nox
  have I : Inv (cxOf CX0 P w K mg base N qual (defScope st) f cdv A outer s H E) [] (L2.start N vs) H s1 := inv_start S hr.hd e0 hl r z
  refine wpAny_mono (ht.run [] s1 (L2.start N vs) H _ I hq) (fun fl s' hs => ?_) fun e s' hs => hs
  cases fl with
  | ret u =>
    obtain ⟨v, σ', H', J, rv, q⟩ := hs
    exact ⟨v, H', J.os, J.bare, J.base, J.hok, rv, q⟩
  | next =>
    obtain ⟨σ', H', J, q⟩ := hs
    exact ⟨.non, H', J.os, J.bare, J.base, J.hok, rfl, q⟩
  | brk =>
    obtain ⟨_, _, _, q⟩ := hs
    exact q.elim
  | cont =>
    obtain ⟨_, _, _, q⟩ := hs
    exact q.elim
theorem fnG_ok {x qual : Str} {st : Stmt} {f : Addr} {fd : FuncData} {N ps : List Str} {k : Nat} {sp : FSp} (F : Fun K x qual st f fd) (S : FnScope N ps (defScope st)) (hl : ∀ args m R, sp args m R → args.length = ps.length)
    (hb : ∀ (cdv : Value) (A : Around) (outer : List Env) (s : Shared) (H : Hp) (E : XK), (A.deeper (PyProof.Rows.envOfC qual (defScope st) s.heap.objs.size f cdv)).guards = some [] →
      Room k (A.deeper (PyProof.Rows.envOfC qual (defScope st) s.heap.objs.size f cdv)) →
      ∃ t, PSs (cxOf CX0 P w K mg base N qual (defScope st) f cdv A outer s H E).nox (defBody st) t ∧
        ∀ args m R, sp args m R → Wp K t (args ++ List.replicate (N.length - args.length) .any) m (fun _ m' => R (.d .none) m') R) : FnG P w K mg base (k + 1) f fd ps (spD K sp) := by
  refine fnG_of F S (fun vs H Q E h => ?_) (fun cdv A outer s H vs Q E hg hr h => ?_)
  · obtain ⟨m, G, args, R, S1, r1, h1, _⟩ := h
    rw [r1.length]; exact hl args m R h1
  · obtain ⟨m, G, args, R, S1, r1, h1, k1⟩ := h
    obtain ⟨t, ht, hw⟩ := hb cdv A outer s H E hg hr
    refine ⟨t, ht, ?_⟩
    refine hw args m R h1 _ H G _ S1 ?_ (fun σ' H' G' r' m' hn S' e' L' => ?_) (fun v H' G' x m' hn S' e' L' => k1 v H' G' x m' hn S' e' L')
    · unfold L2.start
      rw [r1.length]
      exact Sl.start _ r1
    · exact k1 .non H' G' (.d .none) m' hn S' e' (.d (rp_none.mpr rfl))
end
end DL
namespace DL
open PySem L2
section
variable {P : Program} {w : World} {K : PySem.W.Frag} {mg mb : Str → Option Value} {k : Nat} {fa a : Addr} {fd : FuncData} {x : Str} {sp : FSp} {s1 : Shared} {vs : List Value} {ns : List Int}
/-- what the law's def is asked at the heap behind the top: the script alone is known -/
theorem law_core (KX : K.In s1.heap) (hns : s1.heap.Ns mainGlobals mg) (hb : s1.heap.Ns builtinsNs mb) (hbb : ∀ x : Str, x ≠ "__name__" → mb x = bootBuiltins x) (hlim : s1.heap.NoLimit) (hgs : s1.gens = #[])
    (ha : s1.heap.get? a = some { cls := .type "list", data := .seq vs.toArray }) (hr : Room k callerA)
    (F : ∀ base : Heap, K.In base → base.Ns mainGlobals mg → FnG P w K mg base k fa fd [x] (spD K sp)) (hbind : ∀ (s : Shared) (u : Value), BindsTo s fd ⟨[u], []⟩ [(x, u)])
    (hsp : sp [.scr ns] (fun _ => none) fun y _ => y = .d (.bool true))
    (H : Hp) (hO : Only H) (hS : SqL K H a (ns.map V.int)) (hok : HOk P w H s1.heap) (hA : ∀ b, H b ≠ none → b = a) (hK : H a ≠ none → K.lookup a = none) :
    codeAny (model P w) callerA (.call (.ref fa) ⟨[.ref a], []⟩) (fun r s' => r = .ok (.ret (.bool true)) ∧ OldK s1.heap s'.heap ∧ s'.os = s1.os ∧ PyProof.Rows.AllBare s'.gens) s1 := by
  have baseOf : ∀ {b : Addr} {o : Obj}, s1.heap.get? b = some o → H b = none → (hidT s1.heap H).get? b = some o := hidT_get
  have free : ∀ {b : Addr} {o : Obj} {es : Array DictEntry} {ep : Nat}, s1.heap.get? b = some o → o.data = .dict es ep → H b = none := fun {b o es ep} e d => by
    cases q : H b with
    | none => rfl
    | some u =>
      obtain rfl : b = a := hA b fun z => by rw [q] at z; cases z
      rw [ha] at e
      cases e
      exact absurd d fun z => nomatch z
  have nsK : ∀ {b : Addr} {m : Str → Option Value}, s1.heap.Ns b m → (hidT s1.heap H).Ns b m := fun ⟨o, es, ep, e, d, z⟩ => ⟨o, es, ep, baseOf e (free e d), d, z⟩
  have kB : K.In (hidT s1.heap H) := fun b o e => baseOf (KX b o e) (by
    cases q : H b with
    | none => rfl
    | some u =>
      obtain rfl : b = a := hA b fun z => by rw [q] at z; cases z
      rw [hK fun z => by rw [q] at z; cases z] at e
      cases e)
  have e0 : Env0 P w K mg (hidT s1.heap H) callerA [] s1 H := by
    refine ⟨rfl, ⟨kB, nsK hns, ⟨mb, nsK hb, hbb⟩, ?_⟩, fun b o e => of_hidT e, Nat.le_of_eq (hidT_size _ _), trivial, fun b z => ?_, hok, .of_eq hgs⟩
    · obtain ⟨mc, z1, z2⟩ := hlim
      exact ⟨mc, nsK z1, z2⟩
    · exact nomatch (show b ∈ ([] : List Addr) from z)
  have hs : spD K sp [.ref a] H (fun v _ => v = .bl true) fun _ _ _ => False := by
    refine ⟨fun _ => none, H, [.scr ns], fun y _ => y = .d (.bool true), ⟨fun _ _ e => e, (fun _ _ e => nomatch e), (fun _ _ e => nomatch e)⟩, ⟨_, [], rfl, .scr hS, rfl⟩, hsp, ?_⟩
    intro v H' G' y m' hy _ _ hv
    subst hy
    exact rp_bool.mp hv.rp
  refine codeAny_mono ((F _ kB (nsK hns)).run callerA [] s1 H ⟨[.ref a], []⟩ [.ref a] [.ref a] _ _ rfl hr e0 (hbind s1 (.ref a)) (.cons rfl .nil) hs) fun r s' h => ?_
  cases r with
  | error e => exact False.elim h
  | ok fl =>
    cases fl with
    | next => exact False.elim h
    | brk => exact False.elim h
    | cont => exact False.elim h
    | ret u =>
      obtain ⟨v, H', os, bare, un, hok', rv, q⟩ := h
      have q : v = .bl true := q
      subst q
      obtain rfl : u = Value.bool true := rv
      refine ⟨rfl, OldK.of_keep fun b o e => ?_, os, bare⟩
      cases q : H b with
      | none => exact un.keep b o e q (fun z => nomatch (show b ∈ ([] : List Addr) from z)) (fun z => nomatch z)
      | some y =>
        rcases hO b with z | ⟨ob, xs, z⟩
        · rw [q] at z; cases z
        · obtain ⟨e1, _⟩ := hok b _ z
          obtain ⟨e2, _⟩ := hok' b _ (un.frzs b ob _ z)
          rw [e] at e1
          cases e1
          exact e2
theorem law_run (KX : K.In s1.heap) (hns : s1.heap.Ns mainGlobals mg) (hb : s1.heap.Ns builtinsNs mb) (hbb : ∀ x : Str, x ≠ "__name__" → mb x = bootBuiltins x) (hlim : s1.heap.NoLimit) (hgs : s1.gens = #[])
    (ha : s1.heap.get? a = some { cls := .type "list", data := .seq vs.toArray }) (hi : PyProof.Rows.IntsAre vs ns) (hl : ns.length ≤ sizeLine) (hr : Room k callerA)
    (F : ∀ base : Heap, K.In base → base.Ns mainGlobals mg → FnG P w K mg base k fa fd [x] (spD K sp)) (hbind : ∀ (s : Shared) (u : Value), BindsTo s fd ⟨[u], []⟩ [(x, u)])
    (hsp : sp [.scr ns] (fun _ => none) fun y _ => y = .d (.bool true)) :
    codeAny (model P w) callerA (.call (.ref fa) ⟨[.ref a], []⟩) (fun r s' => r = .ok (.ret (.bool true)) ∧ OldK s1.heap s'.heap ∧ s'.os = s1.os ∧ PyProof.Rows.AllBare s'.gens) s1 := by
  have rv := vals_ints hi
  have hlen := hi.length
  cases hk : K.lookup a with
  | some o =>
    have e := KX a o hk
    rw [ha] at e
    cases e
    refine law_core KX hns hb hbb hlim hgs ha hr F hbind hsp (fun _ => none) (fun _ => Or.inl rfl) (Or.inr ⟨_, vs.toArray, _, hk, rfl, rfl, rfl, ?_, ?_⟩) (fun b u z => nomatch (show (none : Option HO) = some u from z)) (fun b z => absurd rfl z) fun z => absurd rfl z
    · rw [List.size_toArray, hlen]; exact hl
    · simpa using rv
  | none =>
    refine law_core KX hns hb hbb hlim hgs ha hr F hbind hsp (fun b => if b = a then some (.frz { cls := .type "list", data := .seq vs.toArray } (.lst (ns.map V.int))) else none) (fun b => ?_) (Or.inl (Or.inr ⟨{ cls := .type "list", data := .seq vs.toArray }, if_pos rfl⟩)) (fun b u z => ?_) (fun b z => ?_) fun _ => hk
    · by_cases h : b = a
      · exact Or.inr ⟨_, _, if_pos h⟩
      · exact Or.inl (if_neg h)
    · by_cases h : b = a
      · have z := (if_pos h).symm.trans z
        cases z
        subst h
        exact ⟨ha, by rw [List.length_map]; exact hl, vs, _, rv, ha⟩
      · exact nomatch (if_neg h).symm.trans z
    · by_cases h : b = a
      · exact h
      · exact absurd (if_neg h) z
end
/-- from the law's def to the row -/
theorem walkG {l : PySem.W.OpenLaw} {n k : Nat} {q : Program} {loose : List Str} {XP : (Str → Option Value) → Heap → Prop} {YP : World → Heap → Prop} {d : DefRec} {K : Params → PySem.W.Frag} {sp : FSp} {x : Str}
    (hn : l.most = some n) (hn2 : n ≤ sizeLine) (hdf : d.params.defaults = []) (hr : Room k callerA) (hY : ∀ (w : World) (h : Heap), YP w h → (K w.params).In h)
    (F : ∀ (w : World) (mg : Str → Option Value) (fa : Addr) (h : Heap), (K w.params).In h → h.Ns mainGlobals mg → mg d.name = some (.ref fa) →
      ∃ fd : FuncData, (∀ (s : Shared) (u : Value), BindsTo s fd ⟨[u], []⟩ [(x, u)]) ∧
        ∀ base : Heap, (K w.params).In base → base.Ns mainGlobals mg → FnG l.prog w (K w.params) mg base k fa fd [x] (spD (K w.params) sp))
    (hsp : ∀ ns : List Int, ns.length ≤ n → (∀ z ∈ ns, Builtin.Int.intBits z ≤ 1048576) → sp [.scr ns] (fun _ => none) fun y _ => y = .d (.bool true)) :
    PySem.W.WalkO q loose XP YP l.row.toRowW d [] (fun f vs => PySem.call f vs) := by
  refine Att.attach_callB hn hdf fun w s0 s1 mg mb fa o pm cd doc a vs ns G Y ho hd hcd hmg hobj hints hlen hbits hg => ?_
  have KX := hY w _ Y
  obtain ⟨fd, hb, hF⟩ := F w mg fa _ KX G.T.g hmg
  exact law_run KX G.T.g G.T.b G.T.builtins G.T.nolimit hg hobj hints (Nat.le_trans hlen hn2) hr hF hb (hsp ns hlen hbits)
end DL
namespace DL
open PySem L2
/-! bits -/
def Bt (i : Int) (k : Nat) : Prop := i.natAbs < 2 ^ k
theorem Bt.mono {i : Int} {a b : Nat} (h : Bt i a) (hb : a ≤ b) : Bt i b := Nat.lt_of_lt_of_le h (Nat.pow_le_pow_right (by decide) hb)
theorem Bt.mul {i j : Int} {a b : Nat} (h : Bt i a) (g : Bt j b) : Bt (i * j) (a + b) := wide_lt h g
theorem Bt.add {i j : Int} {a b c : Nat} (h : Bt i a) (g : Bt j b) (h1 : a ≤ c) (h2 : b ≤ c) : Bt (i + j) (c + 1) := by
  have h := h.mono h1
  have g := g.mono h2
  unfold Bt at *
  rw [Nat.pow_succ]
  have : (i + j).natAbs ≤ i.natAbs + j.natAbs := Int.natAbs_add_le i j
  omega
theorem Bt.le {i j : Int} {a : Nat} (h : Bt j a) (hi : i.natAbs ≤ j.natAbs) : Bt i a := Nat.lt_of_le_of_lt hi h
theorem Bt.cmul {i j : Int} {a b : Nat} (h : Bt i a) (g : Bt j b) (c : a + b + 2 ≤ 1000000) : CMulW i j := wide_mul (h.mono (Nat.le_succ a)) (g.mono (Nat.le_succ b)) (Nat.succ_pos a) (Nat.succ_pos b) (by omega)
theorem Bt.cdiv {i j : Int} {b : Nat} (g : Bt j b) (h0 : 0 < j) (c : b < 9000) : CDivW i j := wide_div h0 (g.mono (Nat.le_succ b)) (Nat.succ_pos b) (by omega)
theorem cdiv_small {i j : Int} (h0 : 0 < j) (h : j < 1073741824) : CDivW i j := wide_div (b := 30) h0 (by
  have e : (2 : Nat) ^ 30 = 1073741824 := by decide
  rw [e]; omega) (by decide) (by decide)
theorem cmul_small {i j : Int} (h0 : i.natAbs < 18446744073709551616) (h : j.natAbs < 18446744073709551616) : CMulW i j := by
  have e : (2 : Nat) ^ 64 = 18446744073709551616 := by decide
  exact wide_mul (a := 64) (b := 64) (by rw [e]; exact h0) (by rw [e]; exact h) (by decide) (by decide) (by decide)
/-! fractions -/
def frac (q : Rat) : PyData := .tuple [.int q.num, .int (q.den : Int)]
/-! ints of bounded size are shown -/
theorem log2_of_bt {i : Int} {a : Nat} (h : Bt i a) (h0 : 0 < a) : i.natAbs.log2 < a := PySem.Flt.log2_lt_of h0 h
theorem showable_int {i : Int} {a : Nat} (h : Bt i a) (h0 : 0 < a) (ha : a ≤ 1920) : (PyData.int i).showable = true := by
  simp only [PyData.showable]
  exact decide_eq_true (Nat.lt_of_lt_of_le (log2_of_bt h h0) ha)
/-! what may be shown: how deep, how long -/
structure Sh (d : PyData) (k n : Nat) : Prop where
  nd : d.hasDict = false
  dp : d.depth ≤ k
  sh : d.showable = true
  ln : d.shown.length ≤ n
theorem Sh.mono {d : PyData} {k n k' n' : Nat} (h : Sh d k n) (h1 : k ≤ k') (h2 : n ≤ n') : Sh d k' n' := ⟨h.nd, Nat.le_trans h.dp h1, h.sh, Nat.le_trans h.ln h2⟩
theorem sh_int {i : Int} {a : Nat} (h : Bt i a) (h0 : 0 < a) (ha : a ≤ 1920) : Sh (.int i) 0 (a + 1) := by
  refine ⟨by simp only [PyData.hasDict], by simp only [PyData.depth]; exact Nat.le_refl 0, showable_int h h0 ha, ?_⟩
  simp only [PyData.shown]
  rw [ofString_length]
  exact int_text_length_le h0 (log2_of_bt h h0)
theorem shAll {k n : Nat} : ∀ {ds : List PyData}, (∀ d ∈ ds, Sh d k n) → PyData.hasDictAll ds = false ∧ PyData.depthAll ds ≤ k ∧ PyData.showableAll ds = true ∧ ((PyData.shownAll ds).map (·.length)).sum ≤ n * ds.length ∧ (PyData.shownAll ds).length = ds.length
  | [], _ => ⟨by simp only [PyData.hasDictAll], by simp only [PyData.depthAll]; exact Nat.zero_le _, by simp only [PyData.showableAll], by simp [PyData.shownAll], by simp [PyData.shownAll]⟩
  | d :: ds, h => by
    have h1 := h d (List.mem_cons_self ..)
    obtain ⟨a, b, c, e, f⟩ := shAll (ds := ds) fun x hx => h x (List.mem_cons_of_mem _ hx)
    refine ⟨by simp only [PyData.hasDictAll, h1.nd, a]; rfl, ?_, by simp only [PyData.showableAll, h1.sh, c]; rfl, ?_, ?_⟩
    · simp only [PyData.depthAll]
      exact Nat.max_le.mpr ⟨h1.dp, b⟩
    · have := h1.ln
      simp only [PyData.shownAll, List.map_cons, List.sum_cons, List.length_cons]
      rw [Nat.mul_succ]
      omega
    · simp only [PyData.shownAll, List.length_cons, f]
theorem sh_tuple {ds : List PyData} {k n c : Nat} (h : ∀ d ∈ ds, Sh d k n) (hc : ds.length ≤ c) : Sh (.tuple ds) (k + 1) ((n + 2) * c + 3) := by
  obtain ⟨a, b, e, f, g⟩ := shAll h
  refine ⟨by simp only [PyData.hasDict, a], by simp only [PyData.depth]; omega, by simp only [PyData.showable, e], ?_⟩
  simp only [PyData.shown]
  have := tupleText_len_le (PyData.shownAll ds)
  have h1 : n * ds.length ≤ n * c := Nat.mul_le_mul_left n hc
  have h2 : (n + 2) * c = n * c + 2 * c := Nat.add_mul n 2 c
  omega
theorem on_show {K : PySem.W.Frag} {m : Mm} {Q : Val → Mm → Prop} {x : PyData} {k n : Nat} (h : Sh x k n) (h1 : k ≤ 64) (h2 : n ≤ 16777216) (q : Q (.d (.str x.shown)) m) : OpN K (rRepr K) [.d x] m Q :=
  on_repr h.nd (Nat.le_trans h.dp h1) h.sh (Nat.le_trans h.ln (by rw [sizeLine_eq]; exact h2)) q
/-- a fraction of small enough parts -/
def FrB (q : Rat) (a : Nat) : Prop := Bt q.num a ∧ Bt (q.den : Int) a
end DL
namespace DL
open PySem L2
theorem br_t {c : Bool} {A B : Prop} (h : c = true) (a : A) : (c = true → A) ∧ (c = false → B) := ⟨fun _ => a, fun g => by rw [h] at g; cases g⟩
theorem br_f {c : Bool} {A B : Prop} (h : c = false) (b : B) : (c = true → A) ∧ (c = false → B) := ⟨(fun g => by rw [h] at g; cases g), (fun _ => b)⟩
theorem take_one {α : Type} {ds : List α} {i : Nat} {d : α} (h : ds[i]? = some d) : ds.take (i + 1) = ds.take i ++ [d] := by
  rw [List.take_succ, h]; rfl
section
variable {K : PySem.W.Frag} {r : List Val} {m : Mm} {Q : Val → Mm → Prop} {te tl : TE} {tt : TT} {j : Nat} {ds : List PyData}
theorem ev_mapT (h : Ev K tl r m fun x m1 => x = .d (.tuple ds) ∧ m1 = m) (hn : ds.length ≤ 100000) (f : PyData → PyData)
    (hs : ∀ (i : Nat) (d : PyData) m', ds[i]? = some d → Ext m m' → Ev K te (r.set j (.d d)) m' fun x m3 => x = .d (f d) ∧ m3 = m') (q : Q (.d (.list (ds.map f))) m) : Ev K (tLc (iTup K tl) (gName j) tYes te [j]) r m Q :=
  ev_lcT h hn (fun i acc => acc = (ds.take i).map f) (by simp) (fun i d m' acc hd hx hw => evt_yes ⟨rfl, fun _ => (hs i d m' hd hx).imp fun x m3 e => ⟨e.2, f d, e.1, by rw [hw, take_one hd, List.map_append]; rfl⟩, (fun g => nomatch g)⟩)
    (fun acc hw => by rw [hw, List.take_length]; exact q)
/-- drawn items: each may be any that P allows -/
theorem ev_anyR1 {ta : TA} {n : Nat} (h : EvA K ta r m fun xs m1 => xs = [.d (.int (n : Int))] ∧ m1 = m) (hn : n ≤ 100000) (P : Nat → PyData → Prop)
    (hs : ∀ i m', i < n → Ext m m' → Ev K te (r.set j (.d (.int (i : Int)))) m' fun x m3 => (∃ y, x = .d y ∧ P i y) ∧ m3 = m') (q : ∀ ds : List PyData, ds.length = n → (∀ (i : Nat) (d : PyData), ds[i]? = some d → P i d) → Q (.d (.list ds)) m) : Ev K (tLc (iRng1 ta) (gName j) tYes te [j]) r m Q :=
  ev_lcR1 h hn (fun i acc => acc.length = i ∧ ∀ (k : Nat) (d : PyData), acc[k]? = some d → P k d) ⟨rfl, fun k d hk => by simp at hk⟩ (fun i m' acc hi hx hw => evt_yes ⟨rfl, fun _ => (hs i m' hi hx).imp fun x m3 e => ⟨e.2, by
      obtain ⟨y, hy, hp⟩ := e.1
      refine ⟨y, hy, by rw [List.length_append, hw.1]; rfl, fun k d hk => ?_⟩
      by_cases hki : k < i
      · rw [List.getElem?_append_left (by omega)] at hk
        exact hw.2 k d hk
      · have e2 : k = i := by
          have := (List.getElem?_eq_some_iff.mp hk).1
          rw [List.length_append, hw.1] at this
          simp at this
          omega
        subst e2
        rw [List.getElem?_append_right (by omega), hw.1] at hk
        simp at hk
        subst hk
        exact hp⟩, (fun g => nomatch g)⟩)
    (fun acc hw => q acc hw.1 hw.2)
end
end DL
namespace DL
open PySem L2
def isInt : PyData → Bool
  | .int _ => true
  | _ => false
def f_isWhole : FSp := fun args m R => ∃ x, args = [.d x] ∧ R (.d (.bool (isInt x))) m
def okS : PyData → Bool
  | .int i => decide (1 ≤ i) && decide (i ≤ 9)
  | _ => false
def isShares : PyData → Bool
  | .tuple ds => decide (1 ≤ ds.length) && (decide (ds.length ≤ 5) && ds.all okS)
  | _ => false
structure Shares (ss : List Int) : Prop where
  pos : 1 ≤ ss.length
  few : ss.length ≤ 5
  each : ∀ s ∈ ss, 1 ≤ s ∧ s ≤ 9
def tupI (ns : List Int) : PyData := .tuple (ns.map PyData.int)
def tupN (ks : List Nat) : PyData := .tuple ((ks.map fun (k : Nat) => (k : Int)).map PyData.int)
theorem isShares_of {ss : List Int} (h : Shares ss) : isShares (tupI ss) = true := by
  unfold isShares tupI
  dsimp only
  rw [List.length_map, decide_eq_true h.pos, decide_eq_true h.few, Bool.true_and, Bool.true_and, List.all_eq_true]
  intro d hd
  obtain ⟨i, hi, rfl⟩ := List.mem_map.mp hd
  obtain ⟨a, b⟩ := h.each i hi
  show (decide (1 ≤ i) && decide (i ≤ 9)) = true
  rw [decide_eq_true a, decide_eq_true b]; rfl
theorem int_shape {d : PyData} (h : isInt d = true) : ∃ i, d = .int i := by
  cases d with
  | int i => exact ⟨i, rfl⟩
  | _ => cases h
theorem tup_shape {d : PyData} (h : isTup d = true) : ∃ ds, d = .tuple ds := by
  cases d with
  | tuple i => exact ⟨i, rfl⟩
  | _ => cases h
def f_isShares : FSp := fun args m R => ∃ x, args = [.d x] ∧ R (.d (.bool (isShares x))) m
def f_needShares : FSp := fun args m R => ∃ x, args = [.d x] ∧ isShares x = true ∧ R (.d .none) m
def okK (n : Int) : PyData → Bool
  | .int i => decide (0 ≤ i) && decide (i < n)
  | _ => false
def intOf : PyData → Int
  | .int i => i
  | _ => 0
def rising (ds : List PyData) : Bool := (List.range (ds.length - 1)).all fun i => decide (intOf (ds.getD i .none) < intOf (ds.getD (i + 1) .none))
def areKinds (x : PyData) (n : Int) : Bool := match x with
  | .tuple ds => ds.all (okK n) && rising ds
  | _ => false
def sumP (ss : List Int) (ks : List Nat) : Int := (ks.map fun k => ss.getD k 0).sum
theorem shares_sum {ss : List Int} (h : Shares ss) : 1 ≤ ss.sum ∧ ss.sum ≤ 45 := by
  obtain ⟨h1, h2, h3⟩ := h
  match ss, h1, h2 with
  | [a], _, _ => have := h3 a (by simp); simp; omega
  | [a, b], _, _ => have := h3 a (by simp); have := h3 b (by simp); simp; omega
  | [a, b, c], _, _ => have := h3 a (by simp); have := h3 b (by simp); have := h3 c (by simp); simp; omega
  | [a, b, c, d], _, _ => have := h3 a (by simp); have := h3 b (by simp); have := h3 c (by simp); have := h3 d (by simp); simp; omega
  | [a, b, c, d, e], _, _ => have := h3 a (by simp); have := h3 b (by simp); have := h3 c (by simp); have := h3 d (by simp); have := h3 e (by simp); simp; omega
/-- some kinds of so many -/
structure Kinds (n : Nat) (ks : List Nat) : Prop where
  up : ks.Pairwise (· < ·)
  lt : ∀ k ∈ ks, k < n
theorem Kinds.len {n : Nat} {ks : List Nat} (h : Kinds n ks) : ks.length ≤ n := by
  have h1 : ks.Sublist (List.range n) := by
    have : ∀ (ks : List Nat) (m : Nat), ks.Pairwise (· < ·) → (∀ k ∈ ks, m ≤ k ∧ k < n) → ks.Sublist ((List.range n).drop m) := by
      intro ks
      induction ks with
      | nil => intro m _ _; exact List.nil_sublist _
      | cons k t ih =>
        intro m hp hl
        have hk := hl k (by simp)
        have hkn : k < (List.range n).length := by rw [List.length_range]; exact hk.2
        have hd : (List.range n).drop k = k :: (List.range n).drop (k + 1) := by
          rw [List.drop_eq_getElem_cons hkn, List.getElem_range]
        have h1 : (k :: t).Sublist ((List.range n).drop k) := by
          rw [hd]
          refine (ih (k + 1) (List.pairwise_cons.mp hp).2 fun x hx => ⟨?_, (hl x (by simp [hx])).2⟩).cons_cons k
          exact (List.pairwise_cons.mp hp).1 x hx
        refine h1.trans ?_
        have e : (List.range n).drop k = ((List.range n).drop m).drop (k - m) := by rw [List.drop_drop]; congr 1; omega
        rw [e]
        exact List.drop_sublist _ _
    exact this ks 0 h.up fun k hk => ⟨Nat.zero_le _, h.lt k hk⟩
  have := h1.length_le
  rw [List.length_range] at this
  exact this
theorem sumP_nonneg {ss : List Int} (h : Shares ss) : ∀ ks : List Nat, 0 ≤ sumP ss ks
  | [] => Int.le_refl 0
  | k :: t => by
    have ih := sumP_nonneg h t
    have e : sumP ss (k :: t) = ss.getD k 0 + sumP ss t := rfl
    have : 0 ≤ ss.getD k 0 := by
      rw [List.getD_eq_getElem?_getD]
      cases hk : ss[k]? with
      | none => decide
      | some s => have := h.each s (List.mem_of_getElem? hk); simp; omega
    omega
theorem getD_bounds {ss : List Int} (h : Shares ss) (k : Nat) : 0 ≤ ss.getD k 0 ∧ ss.getD k 0 ≤ 9 := by
  rw [List.getD_eq_getElem?_getD]
  cases hk : ss[k]? with
  | none => exact ⟨by decide, by decide⟩
  | some s => have := h.each s (List.mem_of_getElem? hk); simp; omega
theorem sumP_le9 {ss : List Int} (h : Shares ss) : ∀ ks : List Nat, sumP ss ks ≤ 9 * (ks.length : Int)
  | [] => Int.le_refl 0
  | k :: t => by
    have ih := sumP_le9 h t
    have e : sumP ss (k :: t) = ss.getD k 0 + sumP ss t := rfl
    have := getD_bounds h k
    rw [List.length_cons]
    omega
theorem frB_mk {t : Int} {b a : Nat} (h1 : Bt t a) (h2 : Bt (b : Int) a) (h0 : 0 < b) : FrB (mkRat t b) a := by
  refine ⟨?_, ?_⟩
  · rw [Rat.num_mkRat, if_neg (by omega)]
    refine h1.le ?_
    rw [Int.natAbs_ediv_of_dvd (Int.ofNat_dvd_left.mpr (Nat.gcd_dvd_right b t.natAbs)), Int.natAbs_natCast]
    exact Nat.div_le_self _ _
  · rw [Rat.den_mkRat, if_neg (by omega)]
    exact h2.le (by simp only [Int.natAbs_natCast]; exact Nat.div_le_self _ _)
theorem on_lenI {K : PySem.W.Frag} {m : Mm} {Q : Val → Mm → Prop} {ss : List Int} (q : Q (.d (.int (ss.length : Int))) m) : OpN K (rLen K) [.d (tupI ss)] m Q := on_lenT (by rw [List.length_map]; exact q)
theorem on_lenN {K : PySem.W.Frag} {m : Mm} {Q : Val → Mm → Prop} {ks : List Nat} (q : Q (.d (.int (ks.length : Int))) m) : OpN K (rLen K) [.d (tupN ks)] m Q := on_lenT (by rw [List.length_map, List.length_map]; exact q)
theorem on_sumI {K : PySem.W.Frag} {m : Mm} {Q : Val → Mm → Prop} {ss : List Int} (q : Q (.d (.int ss.sum)) m) : OpN K (rSumA K) [.d (tupI ss)] m Q := on_sumT q
/-! fractions reckoned -/
theorem o2_ixF0 {K : PySem.W.Frag} {m : Mm} {Q : Val → Mm → Prop} {q : Rat} (h : Q (.d (.int q.num)) m) : Op2 K (rIx K) (.d (frac q)) (.d (.int 0)) m Q := o2_ixT (d := .int q.num) rfl h
theorem o2_ixF1 {K : PySem.W.Frag} {m : Mm} {Q : Val → Mm → Prop} {q : Rat} (h : Q (.d (.int (q.den : Int))) m) : Op2 K (rIx K) (.d (frac q)) (.d (.int 1)) m Q := o2_ixT (d := .int (q.den : Int)) rfl h
theorem FrB.mono {q : Rat} {a b : Nat} (h : FrB q a) (hb : a ≤ b) : FrB q b := ⟨h.1.mono hb, h.2.mono hb⟩
theorem den_pos (q : Rat) : 0 < q.den := Nat.pos_of_ne_zero q.den_nz
theorem FrB.add {p q : Rat} {a b c : Nat} (h : FrB p a) (g : FrB q b) (hc : a + b + 1 ≤ c) : FrB (p + q) c := by
  rw [Rat.add_def']
  refine frB_mk (((h.1.mul g.2).add (g.1.mul h.2) (c := a + b) (Nat.le_refl _) (by omega)).mono hc) (Bt.mono (a := a + b) ?_ (by omega)) (Nat.mul_pos (den_pos p) (den_pos q))
  rw [Int.natCast_mul]
  exact h.2.mul g.2
theorem FrB.mul {p q : Rat} {a b c : Nat} (h : FrB p a) (g : FrB q b) (hc : a + b ≤ c) : FrB (p * q) c := by
  rw [Rat.mul_def']
  refine frB_mk ((h.1.mul g.1).mono hc) (Bt.mono (a := a + b) ?_ hc) (Nat.mul_pos (den_pos p) (den_pos q))
  rw [Int.natCast_mul]
  exact h.2.mul g.2
/-- whether a thing is a fraction -/
def isFrac : PyData → Bool
  | .tuple [.int t, .int b] => decide (1 ≤ b) && decide (Nat.gcd b.toNat t.natAbs = 1)
  | _ => false
def szFrac : PyData → Prop
  | .tuple [.int _, .int b] => Bt b 8000
  | _ => True
/-! a law's own helpers -/
theorem bt_lit {i : Int} {n a : Nat} (h : i.natAbs < 2 ^ n) (ha : n ≤ a) : Bt i a := Bt.mono (show Bt i n from h) ha
def f_cell : FSp := fun args m R => ∃ (ns : List Int) (k : Nat), args = [.scr ns, .d (.int (k : Int))] ∧ ∀ z : Int, R (.d (.int z)) m
def f_mix : FSp := fun args m R => ∃ (c : Int) (k : Nat), args = [.d (.int c), .d (.int (k : Int))] ∧ k ≤ 1000 ∧ ∀ z : Int, 0 ≤ z → z < 1073741824 → R (.d (.int z)) m
def f_box : FSp := fun args m R => ∃ (ns : List Int) (k : Nat), args = [.scr ns, .d (.int (k : Int))] ∧ ∀ p, m p = none → R (.v (.ref p)) (put m p .box)
def f_take : FSp := fun args m R => ∃ (p : Addr) (k : Int), args = [.v (.ref p), .d (.int k)] ∧ m p = some .box ∧ 0 < k ∧ Bt k 8000 ∧ ∀ z : Int, 0 ≤ z → z < k → R (.d (.int z)) m
def f_drawnShares : FSp := fun args m R => ∃ (p : Addr) (a b : Int), args = [.v (.ref p), .d (.int a), .d (.int b)] ∧ m p = some .box ∧ 1 ≤ a ∧ a ≤ 5 ∧ 2 ≤ b ∧ b ≤ 9 ∧ ∀ ss : List Int, Shares ss → (ss.length : Int) ≤ a → R (.d (tupI ss)) m
def f_law : FSp := fun args m R => ∃ ns : List Int, args = [.scr ns] ∧ ∀ m', R (.d (.bool true)) m'
end DL
namespace DL
open PySem L2
section
variable {K : PySem.W.Frag} {r : List Val} {m : Mm} {Q : Val → Mm → Prop} {ta tb tc te : TE} {tt : TT}
/-! a list that may change, so many times -/
theorem VRs.rep {G : Hp} {rs : List Val} {xs : List V} (h : VRs K G rs xs) : ∀ n : Nat, VRs K G (List.replicate n rs).flatten (List.replicate n xs).flatten
  | 0 => rfl
  | n + 1 => by
    rw [List.replicate_succ, List.replicate_succ, List.flatten_cons, List.flatten_cons]
    exact h.append (VRs.rep h n)
/-! parts -/
def EvO (K : PySem.W.Frag) (t : TO) (r : List Val) (m : Mm) (Q : Option Int → Mm → Prop) : Prop :=
  ∀ σ H G, Sta K m H G → Sl K G r σ → ∀ R : Option Int → Hp → Prop, (∀ H' G' x m', Q x m' → Sta K m' H' G' → Le G G' → R x H') → t σ H R
theorem evo_none {Q : Option Int → Mm → Prop} (q : Q none m) : EvO K tNoPart r m Q := fun σ H G S L R k => k H G none m q S (Le.refl G)
theorem evo_some {Q : Option Int → Mm → Prop} (h : Ev K te r m fun x m1 => ∃ i : Int, x = .d (.int i) ∧ Q (some i) m1) : EvO K (tPart te) r m Q := fun σ H G S L R k =>
  h σ H G S L _ fun v H1 G1 x m1 ⟨i, hx, q⟩ S1 e1 r1 => by
    subst hx
    exact ⟨i, int_of r1, k H1 G1 _ m1 q S1 e1⟩
def cutD (ds : List PyData) (lo hi : Option Int) : List PyData := (ds.drop (HT.sIx ds.length 0 lo)).take (HT.sIx ds.length ds.length hi - HT.sIx ds.length 0 lo)
theorem RpAll.drop {G : Hp} : ∀ {ds : List PyData} {xs : List V} (n : Nat), RpAll K G ds xs → RpAll K G (ds.drop n) (xs.drop n)
  | ds, xs, 0, h => h
  | [], xs, n + 1, h => by rw [rpa_nil.mp h]; exact rpa_nil.mpr rfl
  | d :: ds, xs, n + 1, h => by
    obtain ⟨x, r, rfl, h2, h3⟩ := rpa_cons.mp h
    exact RpAll.drop n h3
theorem RpAll.take {G : Hp} : ∀ {ds : List PyData} {xs : List V} (n : Nat), RpAll K G ds xs → RpAll K G (ds.take n) (xs.take n)
  | ds, xs, 0, h => rpa_nil.mpr rfl
  | [], xs, n + 1, h => by rw [rpa_nil.mp h]; exact rpa_nil.mpr rfl
  | d :: ds, xs, n + 1, h => by
    obtain ⟨x, r, rfl, h2, h3⟩ := rpa_cons.mp h
    exact rpa_cons.mpr ⟨x, r.take n, rfl, h2, RpAll.take n h3⟩
theorem RpAll.cut {G : Hp} {ds : List PyData} {xs : List V} (h : RpAll K G ds xs) (lo hi : Option Int) : RpAll K G (cutD ds lo hi) (cutV xs lo hi) := by
  unfold cutD cutV
  rw [h.length]
  exact RpAll.take _ (RpAll.drop _ h)
theorem ev_slL {tl th : TO} (h : Ev K te r m fun x m1 => ∃ ds, x = .d (.list ds) ∧ EvO K tl r m1 fun lo m2 => EvO K th r m2 fun hi m3 => Q (.d (.list (cutD ds lo hi))) m3) : Ev K (tSl (rSlL K) te tl th) r m Q := fun σ H G S L R k =>
  h σ H G S L _ fun v H1 G1 x m1 ⟨ds, hx, h1⟩ S1 e1 r1 => h1 σ H1 G1 S1 (L.mono e1) _ fun H2 G2 lo m2 h2 S2 e2 => h2 σ H2 G2 S2 (L.mono (e1.trans e2)) _ fun H3 G3 hi m3 q S3 e3 => by
    subst hx
    obtain ⟨p, xs, hv, g1, g2⟩ := rp_list.mp (Rp.mono (e2.trans e3) _ _ r1.rp)
    refine ⟨p, xs, hv, Or.inl (Le.rd S3.sub g1), fun l hl => ?_⟩
    have hg := S3.free hl
    exact k _ _ (upd G3 l _) _ m3 q (S3.fix hl) (e1.trans (e2.trans (e3.trans (Le.new hg)))) (.d (rp_list.mpr ⟨l, _, rfl, Rd.of upd_same, RpAll.mono (Le.new hg) _ _ (g2.cut lo hi)⟩))
theorem cut_whole {α : Type} (ds : List α) {a b : Nat} (h : a = 0 ∧ b = ds.length) : (ds.drop a).take (b - a) = ds := by
  rw [h.1, h.2, List.drop_zero, Nat.sub_zero, List.take_length]
theorem ev_slT {tl th : TO} (h : Ev K te r m fun x m1 => ∃ ds, x = .d (.tuple ds) ∧ EvO K tl r m1 fun lo m2 => EvO K th r m2 fun hi m3 => Q (.d (.tuple (cutD ds lo hi))) m3) : Ev K (tSl (rSlA K) te tl th) r m Q := fun σ H G S L R k =>
  h σ H G S L _ fun v H1 G1 x m1 ⟨ds, hx, h1⟩ S1 e1 r1 => h1 σ H1 G1 S1 (L.mono e1) _ fun H2 G2 lo m2 h2 S2 e2 => h2 σ H2 G2 S2 (L.mono (e1.trans e2)) _ fun H3 G3 hi m3 q S3 e3 => by
    subst hx
    obtain ⟨p, xs, hv, g1, g2⟩ := rp_tuple.mp (Rp.mono (e2.trans e3) _ _ r1.rp)
    refine ⟨p, xs, hv, S3.sqT g1, fun hw => ?_, fun _ l hl => ?_⟩
    · rw [g2.length] at hw
      have e : cutD ds lo hi = ds := cut_whole ds hw
      have q : Q (.d (.tuple (cutD ds lo hi))) m3 := q
      rw [e] at q
      exact k _ H3 G3 _ m3 q S3 (e1.trans (e2.trans e3)) (.d (rp_tuple.mpr ⟨p, xs, rfl, g1, g2⟩))
    · have hg := S3.free hl
      exact k _ _ (upd G3 l _) _ m3 q (S3.fix hl) (e1.trans (e2.trans (e3.trans (Le.new hg)))) (.d (rp_tuple.mpr ⟨l, _, rfl, SqT.of upd_same, RpAll.mono (Le.new hg) _ _ (g2.cut lo hi)⟩))
/-! truth, and what is the very same -/
def rIsBl : R2 := fun x y H Q => ∃ a b, x = .bl a ∧ y = .bl b ∧ Q (.bl (decide (a = b))) H
def rIsNotBl : R2 := fun x y H Q => ∃ a b, x = .bl a ∧ y = .bl b ∧ Q (.bl (!decide (a = b))) H
theorem o2_isB {a b : Bool} (q : Q (.d (.bool (decide (a = b)))) m) : Op2 K rIsBl (.d (.bool a)) (.d (.bool b)) m Q := fun H G v w S x y R k => by
  rw [bool_of x, bool_of y]
  exact ⟨a, b, rfl, rfl, k _ H G _ m q S (Le.refl G) vr_bool⟩
theorem o2_isNotB {a b : Bool} (q : Q (.d (.bool (!decide (a = b)))) m) : Op2 K rIsNotBl (.d (.bool a)) (.d (.bool b)) m Q := fun H G v w S x y R k => by
  rw [bool_of x, bool_of y]
  exact ⟨a, b, rfl, rfl, k _ H G _ m q S (Le.refl G) vr_bool⟩
/-! in -/
theorem oNotInS {X : Cx} (K : PySem.W.Frag) (h : X.K = K := by rfl) : OpR X (compareOp .NotIn) (rIn K true) := h ▸ op_notIn_seq
theorem inV_ints (i : Int) (ns : List Int) : inV (.int i) (ns.map V.int) = decide (i ∈ ns) := by
  unfold inV
  rw [List.any_map]
  induction ns with
  | nil => rfl
  | cons n ns ih =>
    rw [List.any_cons, ih]
    by_cases h : i = n
    · subst h; simp [eqV]
    · have h2 : ¬ n = i := fun e => h e.symm
      simp [eqV, h, h2]
theorem flat_ints (ns : List Int) : (ns.map V.int).all flatV = true := by
  rw [List.all_map, List.all_eq_true]; intro x _; rfl
theorem o2_inI {i : Int} {ns : List Int} {neg : Bool} (q : Q (.d (.bool (if neg then !decide (i ∈ ns) else decide (i ∈ ns)))) m) : Op2 K (rIn K neg) (.d (.int i)) (.d (.tuple (ns.map PyData.int))) m Q := fun H G v w S x y R k => by
  rw [int_of x]
  obtain ⟨p, xs, rfl, g1, g2⟩ := rp_tuple.mp y.rp
  rw [g2.ints] at g1
  refine ⟨p, _, rfl, Or.inr (S.sqT g1), rfl, flat_ints ns, ?_⟩
  rw [inV_ints]
  exact k _ H G _ m q S (Le.refl G) vr_bool
theorem mem_natI {k : Nat} {ks : List Nat} : ((k : Int) ∈ ks.map fun (k : Nat) => (k : Int)) ↔ k ∈ ks := by
  constructor
  · intro h
    obtain ⟨j, h1, h2⟩ := List.mem_map.mp h
    have : j = k := by omega
    rw [← this]; exact h1
  · intro h
    exact List.mem_map.mpr ⟨k, h, rfl⟩
theorem o2_inN {i : Nat} {ks : List Nat} (q : Q (.d (.bool (decide (i ∈ ks)))) m) : Op2 K (rIn K false) (.d (.int (i : Int))) (.d (tupN ks)) m Q := o2_inI (neg := false) (by
  have e : decide ((i : Int) ∈ ks.map fun (k : Nat) => (k : Int)) = decide (i ∈ ks) := decide_eq_decide.mpr mem_natI
  show Q (.d (.bool (decide ((i : Int) ∈ ks.map fun (k : Nat) => (k : Int))))) m
  rw [e]; exact q)
theorem o2_notInN {i : Nat} {ks : List Nat} (q : Q (.d (.bool (!decide (i ∈ ks)))) m) : Op2 K (rIn K true) (.d (.int (i : Int))) (.d (tupN ks)) m Q := o2_inI (neg := true) (by
  have e : decide ((i : Int) ∈ ks.map fun (k : Nat) => (k : Int)) = decide (i ∈ ks) := decide_eq_decide.mpr mem_natI
  show Q (.d (.bool (!decide ((i : Int) ∈ ks.map fun (k : Nat) => (k : Int))))) m
  rw [e]; exact q)
/-! xs[i] = e -/
variable {N : List Val → Mm → Prop} {E : Val → Mm → Prop} {t : TS}
theorem VRs.set {G : Hp} {y : Val} {v : V} (hv : VR K G y v) : ∀ {rs : List Val} {xs : List V} (i : Nat), VRs K G rs xs → VRs K G (rs.set i y) (xs.set i v)
  | [], xs, i, h => by
    have h : xs = [] := h
    subst h; exact rfl
  | r :: rs, xs, 0, h => by
    obtain ⟨x, t, rfl, h1, h2⟩ := h
    exact ⟨v, t, rfl, hv, h2⟩
  | r :: rs, xs, i + 1, h => by
    obtain ⟨x, t, rfl, h1, h2⟩ := h
    exact ⟨x, t.set i v, rfl, h1, VRs.set hv i h2⟩
theorem ixN_nat {n i : Nat} (h : i < n) : ixN n (i : Int) = some i := by
  unfold ixN
  rw [if_pos (Int.natCast_nonneg i), if_pos (by omega), show ((i : Int)).toNat = i by omega]
end
/-! lists of one kind of thing -/
theorem map_at {α : Type} {f : α → PyData} {xs : List α} {i : Nat} {d : PyData} (h : (xs.map f)[i]? = some d) : ∃ x, xs[i]? = some x ∧ d = f x := by
  rw [List.getElem?_map] at h
  cases hx : xs[i]? with
  | none => rw [hx] at h; cases h
  | some x => rw [hx] at h; cases h; exact ⟨x, rfl, rfl⟩
section
variable {K : PySem.W.Frag} {r : List Val} {m : Mm} {Q : Val → Mm → Prop} {te tl : TE} {tt : TT} {j : Nat} {α : Type} {xs : List α} {f : α → PyData} {N : List Val → Mm → Prop} {E : Val → Mm → Prop} {t : TS}
theorem ev_mapLf (h : Ev K tl r m fun x m1 => x = .d (.list (xs.map f)) ∧ m1 = m) (hn : xs.length ≤ 100000) (g : α → PyData)
    (hs : ∀ (x : α) m', x ∈ xs → Ext m m' → Ev K te (r.set j (.d (f x))) m' fun y m3 => y = .d (g x) ∧ m3 = m') (q : Q (.d (.list (xs.map g))) m) : Ev K (tLc (iList K tl) (gName j) tYes te [j]) r m Q :=
  ev_lcL h (by rw [List.length_map]; exact hn) (fun i acc => acc = (xs.take i).map g) (by simp) (fun i d m' acc hd hx hw => by
    obtain ⟨x, h1, rfl⟩ := map_at hd
    exact evt_yes ⟨rfl, fun _ => (hs x m' (List.mem_of_getElem? h1) hx).imp fun y m3 e => ⟨e.2, g x, e.1, by rw [hw, take_one h1, List.map_append]; rfl⟩, (fun g => nomatch g)⟩)
    (fun acc hw => by rw [hw, List.length_map, List.take_length]; exact q)
theorem ev_mapTf (h : Ev K tl r m fun x m1 => x = .d (.tuple (xs.map f)) ∧ m1 = m) (hn : xs.length ≤ 100000) (g : α → PyData)
    (hs : ∀ (x : α) m', x ∈ xs → Ext m m' → Ev K te (r.set j (.d (f x))) m' fun y m3 => y = .d (g x) ∧ m3 = m') (q : Q (.d (.list (xs.map g))) m) : Ev K (tLc (iTup K tl) (gName j) tYes te [j]) r m Q :=
  ev_lcT h (by rw [List.length_map]; exact hn) (fun i acc => acc = (xs.take i).map g) (by simp) (fun i d m' acc hd hx hw => by
    obtain ⟨x, h1, rfl⟩ := map_at hd
    exact evt_yes ⟨rfl, fun _ => (hs x m' (List.mem_of_getElem? h1) hx).imp fun y m3 e => ⟨e.2, g x, e.1, by rw [hw, take_one h1, List.map_append]; rfl⟩, (fun g => nomatch g)⟩)
    (fun acc hw => by rw [hw, List.length_map, List.take_length]; exact q)
end
/-! less told of what may change -/
section
variable {K : PySem.W.Frag} {r : List Val} {m : Mm} {Q : Val → Mm → Prop} {te tb : TE} {N : List Val → Mm → Prop} {E : Val → Mm → Prop} {t : TS} {ta : TA}
theorem ev_forget (h : Ev K te r m fun x m1 => ∃ m2, (∀ a o, m2 a = some o → m1 a = some o) ∧ Q x m2) : Ev K te r m Q := fun σ H G S L R k =>
  h σ H G S L R fun v H1 G1 x m1 ⟨m2, hl, q⟩ S1 e1 r1 => k v H1 G1 x m2 q (S1.less hl) e1 r1
theorem del_put {l : Addr} {o : MO} (h : m l = none) : del (put m l o) l = m := by
  funext b
  unfold del put
  by_cases hb : b = l
  · rw [if_pos hb, hb, h]
  · rw [if_neg hb, if_neg hb]
theorem put_less {l : Addr} {o : MO} (h : m l = none) : ∀ a u, m a = some u → put m l o a = some u := fun a u e => by
  rw [put_ne (ne_of_get e h)]; exact e
/-- [e, ..] * n: a list that may change -/
theorem ev_lstMul (h : EvA K ta r m fun xs m1 => ∃ ds : List PyData, xs = ds.map Val.d ∧ ds.length ≤ 100 ∧ Ev K tb r m1 fun y m2 => ∃ n : Nat, y = .d (.int (n : Int)) ∧ n ≤ 1000 ∧ ∀ l, m2 l = none → Q (.v (.ref l)) (put m2 l (.lst ((List.replicate n ds).flatten.map Val.d)))) : Ev K (tOp (rMul K) (tLst ta) tb) r m Q := fun σ H G S L R k =>
  h σ H G S L _ fun vs H1 G1 xs m1 ⟨ds, hx, hl, h1⟩ S1 e1 r1 => by
    subst hx
    have hA := r1.toAll
    refine ⟨by rw [hA.length]; exact Nat.le_trans hl (by decide), fun p hp => ?_⟩
    have hg := S1.free hp
    refine h1 σ _ (upd G1 p (.lst vs)) (S1.fix hp) (L.mono (e1.trans (Le.new hg))) _ fun w H2 G2 y m2 ⟨n, hy, hn, q⟩ S2 e2 r2 => ?_
    subst hy
    have r2 := int_of r2
    subst r2
    have en : ((n : Int)).toNat = n := by omega
    refine Or.inr (Or.inr (Or.inr ⟨p, (n : Int), vs, rfl, rfl, S2.sub _ _ (e2 _ _ upd_same), by omega, by omega, ?_, fun l hl => ?_⟩))
    · rw [en, hA.length]
      exact Nat.le_trans (Nat.mul_le_mul hl hn) (by decide)
    · rw [en]
      have hB : RpAll K G2 ds vs := RpAll.mono ((Le.new hg).trans e2) ds vs hA
      exact k _ _ G2 _ _ (q l (S2.freeM hl)) (S2.new hl ⟨_, upd_same, VRs.ofAll (hB.rep n)⟩) (e1.trans ((Le.new hg).trans e2)) .v
end
end DL
namespace DL
open PySem L2
/-- all some of so many -/
def allS : Nat → List (List Nat)
  | 0 => [[]]
  | n + 1 => allS n ++ (allS n).map fun s => s ++ [n]
theorem allS_len : ∀ n, (allS n).length = 2 ^ n
  | 0 => rfl
  | n + 1 => by rw [allS, List.length_append, List.length_map, allS_len n, Nat.pow_succ]; omega
/-! rows by turns -/
end DL
namespace DL
open PySem L2
section
variable {K : PySem.W.Frag} {r : List Val} {m : Mm} {Q : Val → Mm → Prop} {ta tb tc te to tl : TE} {tt : TT} {N : List Val → Mm → Prop} {E : Val → Mm → Prop} {t : TS}
/-! texts cut and joined -/
def rJoin (K : PySem.W.Frag) : V → List V → Hp → VK → Prop := fun x xs H Q => ∃ a p, ∃ ys : List Str, x = .str a ∧ xs = [.ref p] ∧ (SqL K H p (ys.map V.str) ∨ SqT K H p (ys.map V.str)) ∧ (ys.map (·.length)).sum + ys.length * a.length ≤ 16777216 ∧ Q (.str (Txt.join a ys)) H
theorem kJoin {X : Cx} (K : PySem.W.Frag) {e : Expr} {to te : TE} (hp : PE X e (tM1 (rJoin X.K) to te)) (h : X.K = K := by rfl) : PE X e (tM1 (rJoin K) to te) := h ▸ hp
def rSplit : V → List V → Hp → VK → Prop := fun x xs H Q => ∃ a b, x = .str a ∧ xs = [.str b] ∧ (b.length == 0) = false ∧ a.length + 2 ≤ sizeLine ∧ rNewStrs (Txt.split a b) H Q
theorem kSplit {X : Cx} {e : Expr} {to te : TE} (hp : PE X e (tM1 rSplit to te)) : PE X e (tM1 rSplit to te) := hp
theorem kiE {X : Cx} (K : PySem.W.Frag) {tg e : Expr} {ta : TA} (hp : PI X tg e (iEnum X.K ta)) (h : X.K = K := by rfl) : PI X tg e (iEnum K ta) := h ▸ hp
theorem ev_join {a : Str} {ys : List Str} (h : Ev K to r m fun x m1 => x = .d (.str a) ∧ Ev K te r m1 fun y m2 => y = .d (.list (ys.map PyData.str)) ∧ (ys.map (·.length)).sum + ys.length * a.length ≤ 16777216 ∧ Q (.d (.str (Txt.join a ys))) m2) : Ev K (tM1 (rJoin K) to te) r m Q := fun σ H G S L R k =>
  h σ H G S L _ fun v H1 G1 x m1 ⟨hx, h1⟩ S1 e1 r1 => by
    subst hx
    have r1 := str_of r1
    subst r1
    refine ⟨⟨a, rfl⟩, ?_⟩
    refine h1 σ H1 G1 S1 (L.mono e1) _ fun w H2 G2 y m2 ⟨hy, hz, q⟩ S2 e2 r2 => ?_
    subst hy
    obtain ⟨p, xs, rfl, g1, g2⟩ := rp_list.mp r2.rp
    rw [g2.strs] at g1
    exact ⟨a, p, ys, rfl, rfl, Or.inl (Or.inl (Le.rd S2.sub g1)), hz, k _ H2 G2 _ m2 q S2 (e1.trans e2) vr_str⟩
theorem rpa_strs {G : Hp} : ∀ (ns : List Str), RpAll K G (ns.map PyData.str) (ns.map V.str)
  | [] => by rw [List.map_nil, RpAll]; rfl
  | n :: ns => by
    rw [List.map_cons, List.map_cons, RpAll]
    exact ⟨_, _, rfl, by rw [Rp], rpa_strs ns⟩
theorem ev_split (h : Ev K to r m fun x m1 => ∃ a, x = .d (.str a) ∧ Ev K te r m1 fun y m2 => ∃ b, y = .d (.str b) ∧ (b.length == 0) = false ∧ a.length ≤ 100000 ∧ Q (.d (.list ((Txt.split a b).map PyData.str))) m2) : Ev K (tM1 rSplit to te) r m Q := fun σ H G S L R k =>
  h σ H G S L _ fun v H1 G1 x m1 ⟨a, hx, h1⟩ S1 e1 r1 => by
    subst hx
    have r1 := str_of r1
    subst r1
    refine ⟨⟨a, rfl⟩, ?_⟩
    refine h1 σ H1 G1 S1 (L.mono e1) _ fun w H2 G2 y m2 ⟨b, hy, hb, hz, q⟩ S2 e2 r2 => ?_
    subst hy
    have r2 := str_of r2
    subst r2
    refine ⟨a, b, rfl, rfl, hb, ?_, fun l hl => ?_⟩
    · exact Nat.le_trans (show a.length + 2 ≤ 100002 by omega) (by decide)
    have hg := S2.free hl
    exact k _ _ (upd G2 l _) _ m2 q (S2.fix hl) (e1.trans (e2.trans (Le.new hg))) (.d (rp_list.mpr ⟨l, _, rfl, Rd.of upd_same, rpa_strs _⟩))
/-! str(i), int(x) -/
def rStrI : List V → Hp → VK → Prop := fun xs H Q => ∃ i : Int, xs = [.int i] ∧ i.natAbs.log2 < 1920 ∧ Q (.str (toString i)) H
theorem cStr {X : Cx} : CallR X (.type "str") rStrI := call_str_int
def rInt0 : List V → Hp → VK → Prop := fun xs H Q => (∃ i, xs = [.int i] ∧ Q (.int i) H) ∨ ∃ k, xs = [.bl k] ∧ Q (.int (if k then 1 else 0)) H
def rIntS : List V → Hp → VK → Prop := fun xs H Q => ∃ a n, xs = [.str a] ∧ PySem.intText? a = some n ∧ a.length ≤ 640 ∧ Q (.int n) H
def rIntA : List V → Hp → VK → Prop := fun xs H Q => rInt0 xs H Q ∨ rIntS xs H Q
theorem cInt {X : Cx} : CallR X (.type "int") rIntA := (call_int1).or call_int_str
theorem on_str {i : Int} {a : Nat} (hb : Bt i a) (h0 : 0 < a) (ha : a ≤ 1920) (q : Q (.d (.str (toString i))) m) : OpN K rStrI [.d (.int i)] m Q := fun H G vs S x R k => by
  obtain ⟨v, rfl, h⟩ := vrs1 x
  rw [int_of h]
  exact ⟨i, rfl, Nat.lt_of_lt_of_le (log2_of_bt hb h0) ha, k _ H G _ m q S (Le.refl G) vr_str⟩
theorem on_intS {x : Str} {n : Int} (h : PySem.intText? x = some n) (hz : x.length ≤ 640) (q : Q (.d (.int n)) m) : OpN K rIntA [.d (.str x)] m Q := fun H G vs S a R k => by
  obtain ⟨v, rfl, hv⟩ := vrs1 a
  rw [str_of hv]
  exact Or.inr ⟨x, n, rfl, h, hz, k _ H G _ m q S (Le.refl G) vr_int⟩
theorem on_intB {b : Bool} (q : Q (.d (.int (if b then 1 else 0))) m) : OpN K rIntA [.d (.bool b)] m Q := fun H G vs S a R k => by
  obtain ⟨v, rfl, hv⟩ := vrs1 a
  rw [bool_of hv]
  exact Or.inl (Or.inr ⟨b, rfl, k _ H G _ m q S (Le.refl G) vr_int⟩)
def rNotInStr : R2 := fun x y H Q => ∃ i j, x = .str i ∧ y = .str j ∧ Q (.bl (!(!(Builtin.Str.occurrences j i 0 j.length 1).isEmpty))) H
theorem oNotInStr {X : Cx} : OpR X (compareOp .NotIn) rNotInStr := op_notin_str
theorem o2_notInStr {x y : Str} (q : Q (.d (.bool (Builtin.Str.occurrences y x 0 y.length 1).isEmpty)) m) : Op2 K rNotInStr (.d (.str x)) (.d (.str y)) m Q := fun H G v w S a b R k => by
  rw [str_of a, str_of b]
  refine ⟨x, y, rfl, rfl, ?_⟩
  rw [Bool.not_not]
  exact k _ H G _ m q S (Le.refl G) vr_bool
end
/-! shares as a text -/
def dg (s : Int) : Str := toString s
theorem dg_all : ∀ s : Fin 10, 1 ≤ s.val → (dg (s.val : Int)).length = 1 ∧ (Builtin.Str.occurrences "123456789" (dg (s.val : Int)) 0 (Str.ofString "123456789").length 1).isEmpty = false ∧ PySem.intText? (dg (s.val : Int)) = some (s.val : Int) ∧ 32 ∉ TL.tl (dg (s.val : Int)) := by decide +kernel
def showS (ss : List Int) : Str := Txt.join " " (ss.map dg)
theorem dg_ok {s : Int} (h : 1 ≤ s ∧ s ≤ 9) : (dg s).length = 1 ∧ (Builtin.Str.occurrences "123456789" (dg s) 0 (Str.ofString "123456789").length 1).isEmpty = false ∧ PySem.intText? (dg s) = some s ∧ 32 ∉ TL.tl (dg s) := by
  have := dg_all ⟨s.toNat, by omega⟩ (by show 1 ≤ s.toNat; omega)
  have e : ((⟨s.toNat, by omega⟩ : Fin 10).val : Int) = s := by show ((s.toNat : Nat) : Int) = s; omega
  rw [e] at this
  exact this
theorem dg_lens {ss : List Int} (h : ∀ s ∈ ss, 1 ≤ s ∧ s ≤ 9) : ((ss.map dg).map (·.length)).sum = ss.length := by
  induction ss with
  | nil => rfl
  | cons s ss ih =>
    rw [List.map_cons, List.map_cons, List.sum_cons, ih fun x hx => h x (List.mem_cons_of_mem _ hx), (dg_ok (h s (List.mem_cons_self ..))).1, List.length_cons]
    omega
def f_show : FSp := fun args m R => ∃ ss : List Int, args = [.d (tupI ss)] ∧ Shares ss ∧ R (.d (.str (showS ss))) m
end DL
namespace DL
open PySem L2
theorem Kinds.sub {n : Nat} {ks : List Nat} (h : Kinds n ks) : ks.Sublist (List.range n) := by
  have : ∀ (ks : List Nat) (m : Nat), ks.Pairwise (· < ·) → (∀ k ∈ ks, m ≤ k ∧ k < n) → ks.Sublist ((List.range n).drop m) := by
    intro ks
    induction ks with
    | nil => intro m _ _; exact List.nil_sublist _
    | cons k t ih =>
      intro m hp hl
      have hk := hl k (by simp)
      have hkn : k < (List.range n).length := by rw [List.length_range]; exact hk.2
      have hd : (List.range n).drop k = k :: (List.range n).drop (k + 1) := by
        rw [List.drop_eq_getElem_cons hkn, List.getElem_range]
      have h1 : (k :: t).Sublist ((List.range n).drop k) := by
        rw [hd]
        refine (ih (k + 1) (List.pairwise_cons.mp hp).2 fun x hx => ⟨?_, (hl x (by simp [hx])).2⟩).cons_cons k
        exact (List.pairwise_cons.mp hp).1 x hx
      refine h1.trans ?_
      have e : (List.range n).drop k = ((List.range n).drop m).drop (k - m) := by rw [List.drop_drop]; congr 1; omega
      rw [e]
      exact List.drop_sublist _ _
  exact this ks 0 h.up fun k hk => ⟨Nat.zero_le _, h.lt k hk⟩
theorem sumP_cons (ss : List Int) (k : Nat) (ks : List Nat) : sumP ss (k :: ks) = ss.getD k 0 + sumP ss ks := rfl
theorem nat_ne {t : Nat} (ht : 0 < t) : ((t : Nat) : Rat) ≠ 0 := by
  intro e
  have e2 : (((t : Nat) : Int) : Rat) = ((0 : Int) : Rat) := by rw [Rat.intCast_natCast]; exact e
  have e3 : ((t : Nat) : Int) = 0 := Rat.intCast_inj.mp e2
  omega
end DL
namespace DL
open PySem L2
instance (i : Int) (k : Nat) : Decidable (Bt i k) := by unfold Bt; infer_instance
instance (q : Rat) (a : Nat) : Decidable (FrB q a) := by unfold FrB; infer_instance
end DL
namespace DL
open PySem L2 PySem.W
end DL
namespace DL
open PySem L2
/-! a display of one pair, its key a tuple -/
/-! dicts at the level of data -/
def getV {κ : Type} [DecidableEq κ] (kvs : List (κ × Val)) (k : κ) : Option Val := (kvs.find? fun kv => decide (kv.1 = k)).map (·.2)
section
variable {K : PySem.W.Frag} {G : Hp} {κ : Type} [DecidableEq κ]
theorem KVs.len : ∀ {kvs : List (κ × Val)} {es : List (κ × V)}, KVs K G kvs es → es.length = kvs.length
  | [], es, h => by
    have h : es = [] := h
    rw [h]; rfl
  | (k, r) :: t, es, h => by
    obtain ⟨v, u, rfl, _, h3⟩ := h
    rw [List.length_cons, List.length_cons, KVs.len h3]
theorem KVs.get (k : κ) : ∀ {kvs : List (κ × Val)} {es : List (κ × V)}, KVs K G kvs es → (∀ r, getV kvs k = some r → ∃ v, valV es k = some v ∧ VR K G r v) ∧ (getV kvs k = none → valV es k = none)
  | [], es, h => by
    have h : es = [] := h
    subst h
    exact ⟨(fun r e => nomatch e), fun _ => rfl⟩
  | (j, x) :: t, es, h => by
    obtain ⟨v, u, rfl, h2, h3⟩ := h
    obtain ⟨ih1, ih2⟩ := KVs.get k h3
    by_cases e : j = k
    · have e1 : getV ((j, x) :: t) k = some x := by simp [getV, List.find?_cons, e]
      rw [e1, valV_pos (p := (j, v)) e]
      exact ⟨fun r hr => ⟨v, rfl, by cases hr; exact h2⟩, fun z => nomatch z⟩
    · have e1 : getV ((j, x) :: t) k = getV t k := by simp [getV, List.find?_cons, e]
      rw [e1, valV_neg (p := (j, v)) e]
      exact ⟨ih1, ih2⟩
theorem KVs.any (k : κ) : ∀ {kvs : List (κ × Val)} {es : List (κ × V)}, KVs K G kvs es → (es.any fun kv => decide (kv.1 = k)) = (kvs.any fun kv => decide (kv.1 = k))
  | [], es, h => by
    have h : es = [] := h
    subst h; rfl
  | (j, x) :: t, es, h => by
    obtain ⟨v, u, rfl, h2, h3⟩ := h
    rw [List.any_cons, List.any_cons, KVs.any k h3]
end
/-- a key of whole numbers -/
def kI (ns : List Int) : List Key := ns.map Sum.inl
theorem kI_inj {a b : List Int} (h : kI a = kI b) : a = b := List.map_inj_right (fun _ _ e => Sum.inl.inj e) |>.mp h
section
variable {K : PySem.W.Frag} {r : List Val} {m : Mm} {Q : Val → Mm → Prop} {ta tb tc te td ty tv tx : TE} {tt : TT} {N : List Val → Mm → Prop} {E : Val → Mm → Prop} {t : TS}
/-- the dict at p, as it may be read -/
def Dat (m : Mm) (p : Addr) (kvs : List (List Key × Val)) : Prop := m p = some (.dT kvs) ∨ ∃ od es, m p = some (.lk od es kvs)
theorem Dat.rd {p : Addr} {kvs : List (List Key × Val)} {H G : Hp} (h : Dat m p kvs) (S : Sta K m H G) : ∃ es, Rd H p (.dT es) ∧ KVs K G kvs es := by
  rcases h with h | ⟨od, es, h⟩
  · obtain ⟨es, h1, h2⟩ := S.mem p _ h
    exact ⟨es, Or.inl h1, h2⟩
  · obtain ⟨h1, h2⟩ := S.mem p _ h
    exact ⟨es, Or.inr ⟨od, h1⟩, h2⟩
theorem t_d {G : Hp} {ns : List Int} {v : V} (h : VR K G (.t ns) v) : VR K G (.d (tupI ns)) v := by
  cases h with
  | t h => exact .d (rp_tuple.mpr ⟨_, _, rfl, SqT.of h, rpa_ints ns⟩)
theorem ev_t2d (h : Ev K te r m fun x m1 => ∃ ns, x = .t ns ∧ Q (.d (tupI ns)) m1) : Ev K te r m Q := fun σ H G S L R k =>
  h σ H G S L R fun v H1 G1 x m1 ⟨ns, hx, q⟩ S1 e1 r1 => by
    subst hx
    exact k v H1 G1 _ m1 q S1 e1 (t_d r1)
theorem ev_varT {i : Nat} {ns : List Int} (h : r[i]? = some (.t ns)) (q : Q (.d (tupI ns)) m) : Ev K (tVar i) r m Q := ev_t2d (ev_var h (fun z => nomatch z) ⟨ns, rfl, q⟩)
theorem ev_varTN {i : Nat} {ks : List Nat} (h : r[i]? = some (.t (ks.map fun (k : Nat) => (k : Int)))) (q : Q (.d (tupN ks)) m) : Ev K (tVar i) r m Q := ev_varT h q
end
end DL
namespace DL
open PySem L2
section
variable {K : PySem.W.Frag} {r : List Val} {m : Mm} {Q : Val → Mm → Prop} {ta tb tc te tl : TE} {tt : TT} {N : List Val → Mm → Prop} {E : Val → Mm → Prop} {t : TS}
/-! tuples of ints that the code makes -/
theorem VRs.ints {G : Hp} : ∀ {ns : List Int} {xs : List V}, VRs K G (ns.map fun n => .d (.int n)) xs → xs = ns.map V.int
  | [], xs, h => h
  | n :: ns, xs, h => by
    obtain ⟨x, u, rfl, h1, h2⟩ := h
    rw [int_of h1, VRs.ints h2]; rfl
/-! lists of them -/
theorem TAll.len {G : Hp} : ∀ {nss : List (List Int)} {xs : List V}, TAll G nss xs → xs.length = nss.length
  | [], xs, h => by
    have h : xs = [] := h
    rw [h]; rfl
  | ns :: r, xs, h => by
    obtain ⟨b, t, rfl, _, h3⟩ := h
    rw [List.length_cons, List.length_cons, TAll.len h3]
theorem TAll.at {G : Hp} : ∀ {nss : List (List Int)} {xs : List V} {i : Nat} {x : V}, TAll G nss xs → xs[i]? = some x → ∃ ns b, nss[i]? = some ns ∧ x = .ref b ∧ G b = some (.tup (ns.map V.int))
  | [], xs, i, x, h, e => by
    have h : xs = [] := h
    subst h; simp at e
  | ns :: r, xs, 0, x, h, e => by
    obtain ⟨b, t, rfl, h2, h3⟩ := h
    have e : V.ref b = x := by simpa using e
    exact ⟨ns, b, rfl, e.symm, h2⟩
  | ns :: r, xs, i + 1, x, h, e => by
    obtain ⟨b, t, rfl, h2, h3⟩ := h
    obtain ⟨n2, b2, e1, e2, e3⟩ := TAll.at (i := i) (x := x) h3 (by simpa using e)
    exact ⟨n2, b2, by simpa using e1, e2, e3⟩
theorem TAll.append {G : Hp} : ∀ {a b : List (List Int)} {xs ys : List V}, TAll G a xs → TAll G b ys → TAll G (a ++ b) (xs ++ ys)
  | [], b, xs, ys, h, g => by
    have h : xs = [] := h
    subst h; exact g
  | ns :: r, b, xs, ys, h, g => by
    obtain ⟨c, t, rfl, h2, h3⟩ := h
    exact ⟨c, t ++ ys, rfl, h2, TAll.append h3 g⟩
/-! comprehensions whose items are any values -/
theorem TAll.zip {G : Hp} : ∀ {nss : List (List Int)} {xs : List V}, TAll G nss xs → ((xs.zip nss).map (·.1) = xs ∧ (xs.zip nss).map (·.2) = nss ∧ ∀ b ∈ xs.zip nss, ∃ t, b.1 = .ref t ∧ G t = some (.tup (b.2.map V.int)))
  | [], xs, h => by
    have h : xs = [] := h
    subst h
    exact ⟨rfl, rfl, fun b hb => nomatch hb⟩
  | ns :: r, xs, h => by
    obtain ⟨c, t, rfl, h2, h3⟩ := h
    obtain ⟨a1, a2, a3⟩ := TAll.zip h3
    refine ⟨by rw [List.zip_cons_cons, List.map_cons, a1], by rw [List.zip_cons_cons, List.map_cons, a2], fun b hb => ?_⟩
    rw [List.zip_cons_cons] at hb
    rcases List.mem_cons.mp hb with rfl | hb
    · exact ⟨c, rfl, h2⟩
    · exact a3 b hb
/-! a key that a name holds -/
end
end DL
namespace DL
open PySem L2
abbrev kn (ks : List Nat) : List Int := ks.map fun (k : Nat) => (k : Int)
/-! fractions from nought on, bounded -/
structure QB (q : Rat) (d v : Nat) : Prop where
  nn : 0 ≤ q
  le : q ≤ (v : Rat)
  den : q.den ≤ 2 ^ d
theorem QB.mono {q : Rat} {d v d' v' : Nat} (h : QB q d v) (hd : d ≤ d') (hv : v ≤ v') : QB q d' v' :=
  ⟨h.nn, Rat.le_trans h.le (Rat.natCast_le_natCast.mpr hv), Nat.le_trans h.den (Nat.pow_le_pow_right (by decide) hd)⟩
theorem QB.frB {q : Rat} {d v e : Nat} (h : QB q d v) (hv : v < 2 ^ e) : FrB q (d + e + 1) := by
  have hden := den_pos q
  refine ⟨?_, ?_⟩
  · have h0 : 0 ≤ q.num := Rat.num_nonneg.mpr h.nn
    have h1 : q.num ≤ (v : Int) * (q.den : Int) := by
      have := (Rat.le_iff q ((v : Nat) : Rat)).mp h.le
      have e1 : ((v : Nat) : Rat).den = 1 := rfl
      have e2 : ((v : Nat) : Rat).num = (v : Int) := rfl
      rw [e1, e2] at this
      simpa using this
    have h2 : q.num.natAbs ≤ v * q.den := by
      have : ((q.num.natAbs : Nat) : Int) ≤ ((v * q.den : Nat) : Int) := by rw [Int.natAbs_of_nonneg h0, Int.natCast_mul]; exact h1
      omega
    show q.num.natAbs < 2 ^ (d + e + 1)
    have h3 : v * q.den ≤ 2 ^ e * 2 ^ d := Nat.mul_le_mul (by omega) h.den
    rw [← Nat.pow_add] at h3
    refine Nat.lt_of_le_of_lt (Nat.le_trans h2 h3) ?_
    exact Nat.pow_lt_pow_right (by decide) (by omega)
  · show ((q.den : Nat) : Int).natAbs < 2 ^ (d + e + 1)
    rw [Int.natAbs_natCast]
    exact Nat.lt_of_le_of_lt h.den (Nat.pow_lt_pow_right (by decide) (by omega))
theorem den_mk_le (t : Int) (b : Nat) (hb : 0 < b) : (mkRat t b).den ≤ b := by
  rw [Rat.den_mkRat, if_neg (by omega)]
  exact Nat.div_le_self _ _
theorem QB.add {p q : Rat} {a b u v : Nat} (h : QB p a u) (g : QB q b v) : QB (p + q) (a + b) (u + v) := by
  refine ⟨Rat.add_nonneg h.nn g.nn, ?_, ?_⟩
  · have h1 := h.le
    have h2 := g.le
    rw [Rat.natCast_add]
    grind
  · rw [Rat.add_def']
    refine Nat.le_trans (den_mk_le _ _ (Nat.mul_pos (den_pos p) (den_pos q))) ?_
    rw [Nat.pow_add]
    exact Nat.mul_le_mul h.den g.den
theorem QB.mulN {q : Rat} {d v : Nat} (h : QB q d v) (n : Nat) : QB (((n : Int) : Rat) * q) d (n * v) := by
  have hn : (0 : Rat) ≤ ((n : Nat) : Rat) := Rat.natCast_nonneg
  refine ⟨?_, ?_, ?_⟩
  · rw [Rat.intCast_natCast]; exact Rat.mul_nonneg hn h.nn
  · rw [Rat.intCast_natCast, Rat.natCast_mul]
    exact Rat.mul_le_mul_of_nonneg_left h.le hn
  · rw [Rat.mul_def']
    have e : (((n : Int) : Rat)).den = 1 := rfl
    rw [e, Nat.one_mul]
    exact Nat.le_trans (den_mk_le _ _ (den_pos q)) h.den
theorem QB.nat (n : Nat) : QB ((n : Int) : Rat) 0 n := by
  refine ⟨?_, ?_, ?_⟩
  · rw [Rat.intCast_natCast]; exact Rat.natCast_nonneg
  · rw [Rat.intCast_natCast]; exact Rat.le_refl
  · exact Nat.le_refl 1
/-! the time paper -/
def dueAcc (ss : List Int) (P : List Nat → Rat) (s : List Nat) (l : List Nat) : Rat := l.foldl (fun acc k => acc + ((ss.getD k 0 : Int) : Rat) * P (s.filter fun x => !decide (x = k))) ((ss.sum : Int) : Rat)
def dueT (ss : List Int) (P : List Nat → Rat) (s : List Nat) : Rat := dueAcc ss P s s * mkRat 1 (sumP ss s).toNat
def timeF (ss : List Int) : Nat → List Nat → Rat
  | 0, _ => 0
  | n + 1, s => dueT ss (timeF ss n) s
def timeT (ss : List Int) (s : List Nat) : Rat := timeF ss s.length s
theorem without_len {s : List Nat} (hs : s.Pairwise (· < ·)) {k : Nat} (hk : k ∈ s) : (s.filter fun x => !decide (x = k)).length + 1 = s.length := by
  induction s with
  | nil => cases hk
  | cons a t ih =>
    obtain ⟨h1, h2⟩ := List.pairwise_cons.mp hs
    rcases List.mem_cons.mp hk with rfl | hk
    · rw [List.filter_cons, if_neg (by simp)]
      have : (t.filter fun x => !decide (x = k)) = t := List.filter_eq_self.mpr fun x hx => by have := h1 x hx; simp; omega
      rw [this]; rfl
    · have : a ≠ k := by have := h1 k hk; omega
      rw [List.filter_cons, if_pos (by simp [this]), List.length_cons, List.length_cons, ih h2 hk]
/-- bits of the paper's bottoms -/
def dB : Nat → Nat
  | 0 => 0
  | n + 1 => (n + 1) * dB n + 6
theorem kinds_without {n : Nat} {s : List Nat} (h : Kinds n s) (k : Nat) : Kinds n (s.filter fun x => !decide (x = k)) := ⟨h.up.filter _, fun x hx => h.lt x (List.mem_filter.mp hx).1⟩
theorem dB_le {n : Nat} (h : n ≤ 5) : dB n ≤ 1236 := by
  have : n = 0 ∨ n = 1 ∨ n = 2 ∨ n = 3 ∨ n = 4 ∨ n = 5 := by omega
  rcases this with rfl | rfl | rfl | rfl | rfl | rfl <;> decide
end DL
namespace DL
open PySem L2
theorem allS_nodup : ∀ n : Fin 6, (allS n).Nodup := by decide +kernel
/-! tables -/
def tabT (f : List Nat → Rat) (l : List (List Nat)) : List (List Key × Val) := l.map fun s => (kI (kn s), .d (frac (f s)))
def noNil (s : List Nat) : Bool := !decide (s = [])
end DL
namespace DL
open PySem L2 PyProof.Rows
end DL
namespace DL
open PySem L2
/-! bounds -/
/-! the turns -/
def addF (G : List Nat → Int) (p : List Nat × Int) : List Nat → Int := fun u => if u = p.1 then G u + p.2 else G u
/-! tables of whole numbers -/
def insL (l : List (List Nat)) (t : List Nat) : List (List Nat) := if t ∈ l then l else l ++ [t]
abbrev dI (kvs : List (List Int × Val)) : List (List Key × Val) := kvs.map fun kv => (kI kv.1, kv.2)
structure TabOk (n : Nat) (G : List Nat → Int) (l : List (List Nat)) : Prop where
  nd : l.Nodup
  sub : ∀ s ∈ l, s ∈ allS n
  off : ∀ s, s ∉ l → G s = 0
theorem TabOk.add {n : Nat} {G : List Nat → Int} {l : List (List Nat)} (h : TabOk n G l) {t : List Nat} (ht : t ∈ allS n) (x : Int) : TabOk n (addF G (t, x)) (insL l t) := by
  unfold insL
  by_cases hm : t ∈ l
  · rw [if_pos hm]
    refine ⟨h.nd, h.sub, fun s hs => ?_⟩
    have : s ≠ t := fun e => hs (e ▸ hm)
    simp [addF, this, h.off s hs]
  · rw [if_neg hm]
    refine ⟨List.nodup_append.mpr ⟨h.nd, List.pairwise_singleton .., fun a ha b hb => by rw [List.mem_singleton.mp hb]; exact fun e => hm (e ▸ ha)⟩, fun s hs => ?_, fun s hs => ?_⟩
    · rcases List.mem_append.mp hs with hs | hs
      · exact h.sub s hs
      · rw [List.mem_singleton.mp hs]; exact ht
    · have h1 : s ∉ l := fun z => hs (List.mem_append_left _ z)
      have h2 : s ≠ t := fun e => hs (List.mem_append_right _ (by rw [e]; simp))
      simp [addF, h2, h.off s h1]
theorem TabOk.len {n : Nat} {G : List Nat → Int} {l : List (List Nat)} (h : TabOk n G l) (hn : n ≤ 5) : l.length ≤ 32 := by
  have h1 : l.Perm ((allS n).filter fun s => decide (s ∈ l)) := (List.perm_ext_iff_of_nodup h.nd ((allS_nodup ⟨n, by omega⟩).filter _)).mpr fun s => by
    rw [List.mem_filter]
    constructor
    · intro z; exact ⟨h.sub s z, decide_eq_true z⟩
    · intro z; exact of_decide_eq_true z.2
  have h2 := h1.length_eq
  have h3 := List.length_filter_le (fun s => decide (s ∈ l)) (allS n)
  have h4 := allS_len n
  have h5 : 2 ^ n ≤ 2 ^ 5 := Nat.pow_le_pow_right (by decide) hn
  omega
/-! words -/
end DL
namespace DL
open PySem L2
/-! all together -/
end DL
namespace DL
open PySem L2
end DL
namespace DL
open PySem L2
end DL
/-! enumerate over a tuple -/
namespace DL
open PySem L2
end DL
/-! sum(d.values()) of a dict whose keys are tuples -/
namespace DL
open PySem L2
section
variable {K : PySem.W.Frag} {r : List Val} {m : Mm} {Q : Val → Mm → Prop} {te : TE}
theorem KVs.ints {G : Hp} {α : Type} : ∀ {kvs : List (α × Val)} {es : List (α × V)} {ns : List Int}, KVs K G kvs es → kvs.map (·.2) = ns.map (fun n => Val.d (.int n)) → es.map (·.2) = ns.map V.int
  | [], es, ns, h, e => by
    have h : es = [] := h
    subst h
    cases ns with
    | nil => rfl
    | cons _ _ => simp at e
  | (k, x) :: t, es, ns, h, e => by
    obtain ⟨v, u, rfl, h2, h3⟩ := h
    cases ns with
    | nil => simp at e
    | cons n ns =>
      rw [List.map_cons, List.map_cons] at e
      injection e with e1 e2
      rw [List.map_cons, List.map_cons, KVs.ints h3 e2]
      have e1 : x = .d (.int n) := e1
      subst e1
      rw [show v = .int n from int_of h2]
end
end DL
/-! no kind twice -/
namespace DL
open PySem L2
end DL
/-! dict(list of pairs) with tuples as keys -/
namespace DL
open PySem L2
end DL
/-! some kinds, the fewer ahead: told number by number -/
namespace DL
open PySem L2
def ordX (n : Nat) : List (List Nat) := (List.range (n + 1)).flatMap fun k => (allS n).filter fun s => decide (s.length = k)
end DL
/-! in which share of the cases just some kinds are left at some time -/
namespace DL
open PySem L2
/-! bounds -/
def InD (q : Rat) (D : Nat) : Prop := ∃ z : Int, q * ((D : Nat) : Rat) = (z : Rat)
theorem InD.add {p q : Rat} {D : Nat} (h : InD p D) (g : InD q D) : InD (p + q) D := by
  obtain ⟨x, hx⟩ := h
  obtain ⟨y, hy⟩ := g
  exact ⟨x + y, by rw [Rat.add_mul, hx, hy, Rat.intCast_add]⟩
theorem InD.int (z : Int) (D : Nat) : InD (z : Rat) D := ⟨z * D, by rw [Rat.intCast_mul, Rat.intCast_natCast]⟩
theorem InD.sum {α : Type} {f : α → Rat} {D : Nat} : ∀ {l : List α}, (∀ x ∈ l, InD (f x) D) → InD (l.map f).sum D
  | [], _ => by have := InD.int 0 D; simpa using this
  | x :: l, h => by
    rw [List.map_cons, List.sum_cons]
    exact (h x List.mem_cons_self).add (InD.sum fun y hy => h y (List.mem_cons_of_mem _ hy))
theorem InD.den {q : Rat} {D : Nat} (h : InD q D) (h0 : 0 < D) : q.den ≤ D := by
  obtain ⟨z, hz⟩ := h
  have e : q = mkRat z D := by
    have hn := nat_ne h0
    rw [Rat.mkRat_eq_div, ← hz]
    generalize ((D : Nat) : Rat) = E at *
    grind
  rw [e]
  exact den_mk_le z D h0
structure ChB (q : Rat) (D v : Nat) : Prop where
  nn : 0 ≤ q
  le : q ≤ (v : Rat)
  ind : InD q D
theorem ChB.frB {q : Rat} {D v d e : Nat} (h : ChB q D v) (h0 : 0 < D) (hD : D ≤ 2 ^ d) (hv : v < 2 ^ e) : FrB q (d + e + 1) :=
  QB.frB ⟨h.nn, h.le, Nat.le_trans (h.ind.den h0) hD⟩ hv
end DL
/-! how long until so many kinds have come: by who is left, forth and back -/
namespace DL
open PySem L2
/-! words -/
end DL
/-! code that runs while an exception is handled: comprehensions over a range, defs that are handed the exception -/
namespace DL
open PySem L2 PySem.Spec PyProof.Rows L2H
end DL
/-! defs that are handed the exception that is handled; isinstance of it -/
namespace DL
open PySem L2 PySem.Spec PyProof.Rows L2H
/-! at the level of data -/
section
variable {K : PySem.W.Frag} {m : Mm} {r : List Val} {Q : Val → Mm → Prop}
theorem relV_ref {C : Addr} : ∀ u, RelV (.ref C) u → u = .ref C := fun u h => h
theorem relV_ty {T : String} : ∀ u, RelV (.ty T) u → u = .type T := fun u h => h
end
section
variable {P : Program} {w : World} {K : PySem.W.Frag} {mg : Str → Option Value} {base : Heap}
/-- hot forms of a few rules -/
theorem kEqH {X : Cx} {j : Nat} (K : PySem.W.Frag) (hr : RoomH j X.A) (h : X.K = K := by rfl) : OpR X (compareOp .Eq) (rEqA K) := by
  subst h
  exact op_eq.or (op_eqD (by have := hr.un; omega))
end
end DL
/-! try .. except C as n, n a name that a comprehension of the suite reads (a cell); all that is raised is of C -/
namespace DL
open PySem L2 PySem.Spec PyProof.Rows L2H
end DL
/-! defs that may refuse, and the try that catches, at the level of data -/
namespace DL
open PySem L2 PySem.Spec PyProof.Rows L2H
abbrev FSpX := List Val → Mm → (Val → Mm → Prop) → (Addr → Mm → Prop) → Prop
def spX (K : PySem.W.Frag) (f : FSpX) : Sp := fun vs H Q E => ∃ m G args R X, Sta K m H G ∧ VRs K G args vs ∧ f args m R X ∧ (∀ v H' G' x m', R x m' → Sta K m' H' G' → Le G G' → VR K G' x v → Q v H') ∧
  (∀ C m' H' G', X C m' → Sta K m' H' G' → Le G G' → E (.ref C) none H')
def EvX (K : PySem.W.Frag) (G0 : Hp) (t : TE) (r : List Val) (m : Mm) (Q : Val → Mm → Prop) : Prop :=
  ∀ σ H G, Le G0 G → Sta K m H G → Sl K G r σ → ∀ R : VK, (∀ v H' G' x m', Q x m' → Sta K m' H' G' → Le G G' → VR K G' x v → R v H') → t σ H R
def Wx (K : PySem.W.Frag) (G0 : Hp) (t : TS) (r : List Val) (m : Mm) (N : List Val → Mm → Prop) (E : Val → Mm → Prop) : Prop :=
  ∀ σ H G (D : Ends), Le G0 G → Sta K m H G → Sl K G r σ → (∀ σ' H' G' r' m', N r' m' → Sta K m' H' G' → Le G G' → Sl K G' r' σ' → D.nx σ' H') →
    (∀ v H' G' x m', E x m' → Sta K m' H' G' → Le G G' → VR K G' x v → D.rt v H') → t D σ H
section
variable {K : PySem.W.Frag} {G0 : Hp} {r : List Val} {m : Mm} {Q : Val → Mm → Prop} {N : List Val → Mm → Prop} {E : Val → Mm → Prop} {t u : TS} {te ta tb : TE} {tt : TT} {W : L2.WX} {X : Addr → Mm → Prop}
theorem EvX.of (h : Ev K te r m Q) : EvX K G0 te r m Q := fun σ H G _ S L R k => h σ H G S L R k
theorem Wx.of (h : Wp K t r m N E) : Wx K G0 t r m N E := fun σ H G D _ S L a b => h σ H G D S L a b
theorem wx_next (q : N r m) : Wx K G0 tNext r m N E := .of (w_next q)
theorem wx_seq (h : Wx K G0 t r m (fun r1 m1 => Wx K G0 u r1 m1 N E) E) : Wx K G0 (tSeq t u) r m N E := fun σ H G D g0 S L a b =>
  h σ H G { D with nx := u D } g0 S L (fun σ1 H1 G1 r1 m1 h1 S1 e1 L1 => h1 σ1 H1 G1 D (g0.trans e1) S1 L1 (fun σ2 H2 G2 r2 m2 n2 S2 e2 L2 => a σ2 H2 G2 r2 m2 n2 S2 (e1.trans e2) L2)
    (fun v H2 G2 x m2 n2 S2 e2 L2 => b v H2 G2 x m2 n2 S2 (e1.trans e2) L2)) b
theorem wx_if (h : EvT K tt r m fun c m1 => (c = true → Wx K G0 t r m1 N E) ∧ (c = false → Wx K G0 u r m1 N E)) : Wx K G0 (tIfS tt t u) r m N E := fun σ H G D g0 S L a b =>
  h σ H G S L _ fun H1 G1 c m1 h1 S1 e1 => by
    cases c with
    | true =>
      show t D σ H1
      exact h1.1 rfl σ H1 G1 D (g0.trans e1) S1 (L.mono e1) (fun σ2 H2 G2 r2 m2 n2 S2 e2 L2 => a σ2 H2 G2 r2 m2 n2 S2 (e1.trans e2) L2) (fun v H2 G2 x m2 n2 S2 e2 L2 => b v H2 G2 x m2 n2 S2 (e1.trans e2) L2)
    | false =>
      show u D σ H1
      exact h1.2 rfl σ H1 G1 D (g0.trans e1) S1 (L.mono e1) (fun σ2 H2 G2 r2 m2 n2 S2 e2 L2 => a σ2 H2 G2 r2 m2 n2 S2 (e1.trans e2) L2) (fun v H2 G2 x m2 n2 S2 e2 L2 => b v H2 G2 x m2 n2 S2 (e1.trans e2) L2)
theorem wx_asg {i : Nat} (h : EvX K G0 te r m fun x m1 => N (r.set i x) m1) : Wx K G0 (tAsg te (gName i)) r m N E := fun σ H G D g0 S L a b =>
  h σ H G g0 S L _ fun v H1 G1 x m1 q S1 e1 r1 => a (σ.set i (some v)) H1 G1 (r.set i x) m1 q S1 e1 ((L.mono e1).set r1 i)
theorem wx_ret (h : EvX K G0 te r m E) : Wx K G0 (tRet te) r m N E := fun σ H G D g0 S L a b => h σ H G g0 S L _ b
end
theorem takesN0 {X : Cx} : L2N.Takes X (fun _ _ _ _ => False) := fun u s' ⟨_, _, _, _, _, _, _, _, _, _, _, _, _, _, _, _, w⟩ => w.elim
section
variable {P : Program} {w : World} {K : PySem.W.Frag} {mg : Str → Option Value} {base : Heap}
structure ClX (P : Program) (w : World) (K : PySem.W.Frag) (mg : Str → Option Value) (base : Heap) (k : Nat) (x : Str) (sp : FSpX) : Prop where
  ex : ∃ f fd ps, FnOk P w K mg base (L2N.CX P w) k f fd ps (spX K sp) ∧ mg x = some (.ref f) ∧ PySem.W.keepIn K (.ref f) = true ∧ Binds K fd ps []
end
end DL
/-! what is refused: words -/
namespace DL
open PySem L2 PySem.Spec PyProof.Rows L2H
section
variable {K : PySem.W.Frag} {r : List Val} {m : Mm} {Q : Val → Mm → Prop}
/-- {}, data -/
theorem ev_dnewD (q : Q (.d (.dict [])) m) : Ev K tDNewT r m Q := fun σ H G S L R k p hp =>
  k _ _ _ _ m q (S.fix hp) (Le.new (S.free hp)) (.d (by rw [Rp]; exact ⟨p, rfl, Or.inl ⟨[], upd_same, by rw [RpT]⟩⟩))
end
theorem roomM {k : Nat} {A : Around} {h : Option Value} (r : Room k A) : RoomH k (A.mark h) := ⟨r.dp, r.un⟩
/-! the cases of the small words -/
/-! slices -/
end DL
/-! a def that refuses, called where it answers; a def that answers here and refuses there -/
namespace DL
open PySem L2 PySem.Spec PyProof.Rows L2H
end DL
/-! orders; what the laws on refusals ask -/
namespace DL
open PySem L2 PySem.Spec PyProof.Rows L2H
end DL
/-! chances of orders; for a, b in a list of pairs -/
namespace DL
open PySem L2 PySem.Spec PyProof.Rows L2H
section
variable {P : Program} {w : World} {K : PySem.W.Frag} {mg : Str → Option Value} {base : Heap}
theorem Cl.imp {k : Nat} {x : Str} {f g : FSp} (c : Cl P w K mg base k x f) (h : ∀ args m R, g args m R → f args m R) : Cl P w K mg base k x g := by
  obtain ⟨a, fd, ps, F, hm, hk, hb⟩ := c.ex
  exact ⟨a, fd, ps, F.imp fun vs H Q E ⟨m, G, args, R, S, r, hf, k⟩ => ⟨m, G, args, R, S, r, h _ _ _ hf, k⟩, hm, hk, hb⟩
end
/-! what an order's kinds have -/
end DL
/-! repr of data with dicts (and no lists) -/
namespace DL
open PySem L2 PySem.Spec PyProof.Rows L2H
mutual
def noL : PyData → Bool
  | .list _ => false
  | .tuple ds => noLAll ds
  | .dict kvs => noLV kvs
  | .none => true
  | .bool _ => true
  | .int _ => true
  | .str _ => true
def noLAll : List PyData → Bool
  | [] => true
  | d :: ds => noL d && noLAll ds
def noLV : List (PyData × PyData) → Bool
  | [] => true
  | (_, d) :: r => noL d && noLV r
end
section
variable {X : Cx} {pins : List (Addr × Obj)} {σ : L2.St} {H : Hp} {s : Shared}
theorem key_reads {h : Heap} : ∀ {k : Key} {u : Value}, RelV (kV k) u → Reads h u (keyD k) []
  | .inl i, u, r => by
    obtain ⟨t, rfl⟩ := r
    exact Reads.int i t
  | .inr x, u, r => by
    obtain ⟨t, rfl⟩ := r
    exact Reads.str x t
theorem keys_reads {h : Heap} : ∀ {ks : List Key} {us : List Value}, Vals (ks.map kV) us → ReadsAll h us (ks.map keyD) []
  | [], us, r => by cases r; exact ReadsAll.nil
  | k :: ks, us, r => by
    cases r with
    | cons r1 r2 => exact ReadsAll.cons (as := []) (bs := []) (key_reads r1) (keys_reads r2)
theorem tup_reads (I : Inv X pins σ H s) {b : Addr} {ks : List Key} (h : H b = some (.tup (ks.map kV))) : Reads s.heap (.ref b) (.tuple (ks.map keyD)) [] := by
  obtain ⟨its, rv, ⟨o, ho, hc, n, hd⟩, _⟩ := I.tuple (SqT.of h)
  exact Reads.tuple ho hc hd (keys_reads rv)
mutual
theorem rdD (I : Inv X pins σ H s) : ∀ (d : PyData) (v : V) (u : Value), noL d = true → Rp X.K H d v → RelV v u → ∃ as, Reads s.heap u d as ∧ sysModules ∉ as
  | .none, v, u, _, h, r => by
    rw [rp_none.mp h] at r; cases r
    exact ⟨[], Reads.none, fun z => nomatch z⟩
  | .bool b, v, u, _, h, r => by
    rw [rp_bool.mp h] at r; cases r
    exact ⟨[], Reads.bool b, fun z => nomatch z⟩
  | .int i, v, u, _, h, r => by
    rw [rp_int.mp h] at r
    obtain ⟨t, rfl⟩ := r
    exact ⟨[], Reads.int i t, fun z => nomatch z⟩
  | .str x, v, u, _, h, r => by
    rw [rp_str.mp h] at r
    obtain ⟨t, rfl⟩ := r
    exact ⟨[], Reads.str x t, fun z => nomatch z⟩
  | .list ds, v, u, n, _, _ => by simp [noL] at n
  | .tuple ds, v, u, n, h, r => by
    obtain ⟨a, xs, rfl, h2, h3⟩ := rp_tuple.mp h
    cases r
    obtain ⟨its, rv, ⟨o, ho, hc, n2, hd⟩, _⟩ := I.tuple h2
    obtain ⟨as, hr, hns⟩ := rdDAll I ds xs its (by simpa [noL] using n) h3 rv
    exact ⟨as, Reads.tuple ho hc hd hr, hns⟩
  | .dict kvs, v, u, n, h, r => by
    rw [Rp] at h
    obtain ⟨a, rfl, h⟩ := h
    cases r
    have n : noLV kvs = true := by simpa [noL] using n
    rcases h with ⟨es, h1, h2⟩ | ⟨es, h1, h2⟩
    · obtain ⟨_, hd, xs, rel, o, es2, ep, g1, g2, g3, g4, _⟩ := dt_rd I.hok (.inl h1)
      obtain ⟨as, bs, q1, q2, q3, q4⟩ := rdDT I kvs es xs n h2 rel
      refine ⟨a :: as ++ bs, Reads.dict g1 g2.1 g3 ?_ ?_, ?_⟩
      · rw [g4, List.map_map]; exact q1
      · rw [g4, List.map_map]; exact q2
      · intro z
        rcases List.mem_append.mp z with z | z
        · rcases List.mem_cons.mp z with z | z
          · rw [z] at hd; simp at hd
          · exact q3 z
        · exact q4 z
    · obtain ⟨_, hd, vs, rel, o, es2, ep, g1, g2, g3, _, g4, _⟩ := dk_rd I.hok (.inl h1)
      obtain ⟨as, bs, q1, q2, q3, q4⟩ := rdDK I kvs es vs es2.toList n h2 rel g4
      refine ⟨a :: as ++ bs, Reads.dict g1 g2.1 g3 q1 q2, ?_⟩
      intro z
      rcases List.mem_append.mp z with z | z
      · rcases List.mem_cons.mp z with z | z
        · rw [z] at hd; simp at hd
        · exact q3 z
      · exact q4 z
theorem rdDAll (I : Inv X pins σ H s) : ∀ (ds : List PyData) (vs : List V) (us : List Value), noLAll ds = true → RpAll X.K H ds vs → Vals vs us → ∃ as, ReadsAll s.heap us ds as ∧ sysModules ∉ as
  | [], vs, us, _, h, r => by
    rw [rpa_nil.mp h] at r; cases r
    exact ⟨[], ReadsAll.nil, fun z => nomatch z⟩
  | d :: ds, vs, us, n, h, r => by
    obtain ⟨x, t, rfl, h2, h3⟩ := rpa_cons.mp h
    have n : noL d = true ∧ noLAll ds = true := by simpa [noLAll] using n
    cases r with
    | cons r1 r2 =>
      obtain ⟨as, q1, q2⟩ := rdD I d x _ n.1 h2 r1
      obtain ⟨bs, q3, q4⟩ := rdDAll I ds t _ n.2 h3 r2
      exact ⟨as ++ bs, ReadsAll.cons q1 q3, fun z => (List.mem_append.mp z).elim q2 q4⟩
theorem rdDT (I : Inv X pins σ H s) : ∀ (kvs : List (PyData × PyData)) (es : List (List Key × V)) (xs : List (List Key × Addr × Value)), noLV kvs = true → RpT X.K H kvs es → KT H es xs →
    ∃ as bs, ReadsAll s.heap (xs.map fun x => Value.ref x.2.1) (kvs.map (·.1)) as ∧ ReadsAll s.heap (xs.map fun x => x.2.2) (kvs.map (·.2)) bs ∧ sysModules ∉ as ∧ sysModules ∉ bs
  | [], es, xs, _, h, r => by
    rw [RpT] at h
    subst h
    cases r
    exact ⟨[], [], ReadsAll.nil, ReadsAll.nil, (fun z => nomatch z), (fun z => nomatch z)⟩
  | (k, d) :: kvs, es, xs, n, h, r => by
    rw [RpT] at h
    obtain ⟨ks, v, t, rfl, rfl, h2, h3⟩ := h
    have n : noL d = true ∧ noLV kvs = true := by simpa [noLV] using n
    cases r with
    | @cons p q ps qs hq r2 =>
      obtain ⟨e1, e2, e3⟩ := hq
      obtain ⟨as, q1, q2⟩ := rdD I d v _ n.1 h2 e3
      obtain ⟨cs, bs, q3, q4, q5, q6⟩ := rdDT I kvs t qs n.2 h3 r2
      exact ⟨[] ++ cs, as ++ bs, ReadsAll.cons (tup_reads I e2) q3, ReadsAll.cons q1 q4, q5, fun z => (List.mem_append.mp z).elim q2 q6⟩
theorem rdDK (I : Inv X pins σ H s) : ∀ (kvs : List (PyData × PyData)) (es : List (Key × V)) (vs : List (Key × Value)) (en : List DictEntry), noLV kvs = true → RpK X.K H kvs es → KV es vs → Pairs (mixKind X.prog X.w) en vs →
    ∃ as bs, ReadsAll s.heap (en.map (·.key)) (kvs.map (·.1)) as ∧ ReadsAll s.heap (en.map (·.val)) (kvs.map (·.2)) bs ∧ sysModules ∉ as ∧ sysModules ∉ bs
  | [], es, vs, en, _, h, r, p => by
    rw [RpK] at h
    subst h
    cases r
    cases p
    exact ⟨[], [], ReadsAll.nil, ReadsAll.nil, (fun z => nomatch z), (fun z => nomatch z)⟩
  | (k, d) :: kvs, es, vs, en, n, h, r, p => by
    rw [RpK] at h
    obtain ⟨ks, v, t, rfl, rfl, h2, h3⟩ := h
    have n : noL d = true ∧ noLV kvs = true := by simpa [noLV] using n
    cases r with
    | @cons p1 q ps qs hq r2 =>
      obtain ⟨e1, e3⟩ := hq
      cases p with
      | @cons e kv es2 kvs2 g1 g2 g3 =>
        obtain ⟨as, q1, q2⟩ := rdD I d v _ n.1 h2 e3
        obtain ⟨cs, bs, q3, q4, q5, q6⟩ := rdDK I kvs t qs es2 n.2 h3 r2 g3
        have kr : Reads s.heap e.key (keyD ks) [] := by
          have e1 : ks = q.1 := e1
          rw [e1]
          rcases keyIs_shape g1 with ⟨i, tk, e5, e4⟩ | ⟨x, tk, e5, e4⟩
          · rw [e5, e4]; exact Reads.int i tk
          · rw [e5, e4]; exact Reads.str x tk
        rw [← g2] at q1
        exact ⟨[] ++ cs, as ++ bs, ReadsAll.cons kr q3, ReadsAll.cons q1 q4, q5, fun z => (List.mem_append.mp z).elim q2 q6⟩
end
end
def rReprD (K : PySem.W.Frag) : List V → Hp → VK → Prop := fun xs H Q => ∃ a d, xs = [V.ref a] ∧ Rp K H d (V.ref a) ∧ noL d = true ∧ d.depth ≤ 64 ∧ d.showable = true ∧ d.shown.length ≤ sizeLine ∧ Q (.str d.shown) H
theorem cReprD {X : Cx} {k : Nat} (hr : Room k X.A) (hg : X.A.guards = some []) : CallR X (.builtin "repr") (rReprD X.K) := by
  intro pins s σ H xs us Q I r h
  obtain ⟨a, d, rfl, hd, h0, h1, h2, h3, q⟩ := h
  obtain ⟨u, rfl, rx⟩ := vals1 r
  obtain ⟨as, rd, ns⟩ := rdD I d _ u h0 hd rx
  cases rx
  have := hr.un
  exact repr_of_reads' rd h2 (fun _ => ns) hg (by omega) (fun _ _ e => e) (fun h' u tk hk => ⟨.str _, H, I.kept hk, ⟨_, rfl⟩, q⟩) h3
def rReprX (K : PySem.W.Frag) : List V → Hp → VK → Prop := fun xs H Q => rRepr K xs H Q ∨ rReprD K xs H Q
theorem kReprX {X : Cx} {j : Nat} (K : PySem.W.Frag) (hr : Room j X.A) (hg : X.A.guards = some []) (h : X.K = K := by rfl) : CallR X (.builtin "repr") (rReprX K) := h ▸ ((cRepr hr hg).or (cReprD hr hg))
section
variable {K : PySem.W.Frag} {m : Mm} {Q : Val → Mm → Prop}
theorem on_showX {x : PyData} {k n : Nat} (h : Sh x k n) (h1 : k ≤ 64) (h2 : n ≤ 16777216) (q : Q (.d (.str x.shown)) m) : OpN K (rReprX K) [.d x] m Q := fun H G vs S a R kk => Or.inl (on_show h h1 h2 q H G vs S a R kk)
/-- repr of a tuple or dict with dicts -/
theorem on_showD {x : PyData} (hx : (∃ ds, x = .tuple ds) ∨ ∃ kvs, x = .dict kvs) (h0 : noL x = true) (h1 : x.depth ≤ 64) (h2 : x.showable = true) (h3 : x.shown.length ≤ 16777216) (q : Q (.d (.str x.shown)) m) : OpN K (rReprX K) [.d x] m Q := fun H G vs S a R kk => by
  obtain ⟨v, rfl, hv⟩ := vrs1 a
  have hr := Rp.mono S.sub _ _ hv.rp
  obtain ⟨p, rfl⟩ : ∃ p, v = V.ref p := by
    rcases hx with ⟨ds, rfl⟩ | ⟨kvs, rfl⟩
    · obtain ⟨p, _, e, _⟩ := rp_tuple.mp hr
      exact ⟨p, e⟩
    · rw [Rp] at hr
      obtain ⟨p, e, _⟩ := hr
      exact ⟨p, e⟩
  exact Or.inr ⟨p, x, rfl, hr, h0, h1, h2, by rw [sizeLine_eq]; exact h3, kk _ H G _ m q S (Le.refl G) vr_str⟩
end
end DL
/-! taking items out of a list; a list mixed up -/
namespace DL
open PySem L2 PySem.Spec PyProof.Rows L2H
theorem VRs.erase {K : PySem.W.Frag} {G : Hp} : ∀ {rs : List Val} {xs : List V} (i : Nat), VRs K G rs xs → VRs K G (rs.eraseIdx i) (xs.eraseIdx i)
  | [], xs, i, h => by
    have h : xs = [] := h
    subst h
    exact rfl
  | r :: rs, xs, 0, h => by
    obtain ⟨v, t, rfl, h1, h2⟩ := h
    exact h2
  | r :: rs, xs, i + 1, h => by
    obtain ⟨v, t, rfl, h1, h2⟩ := h
    exact ⟨v, _, rfl, h1, VRs.erase i h2⟩
section
variable {K : PySem.W.Frag} {r : List Val} {m : Mm} {Q : Val → Mm → Prop} {te : TE}
/-- list(xs), a list that may change -/
theorem on_lstLM {ds : List PyData} (q : ∀ p, m p = none → Q (.v (.ref p)) (put m p (.lst (ds.map Val.d)))) : OpN K (rLstO K) [.d (.list ds)] m Q := fun H G vs S a R k => by
  obtain ⟨v, rfl, h⟩ := vrs1 a
  obtain ⟨p, xs, rfl, h2, h3⟩ := rp_list.mp h.rp
  refine ⟨p, xs, rfl, Or.inl (S.sqL (Or.inl h2)), fun l hl => ?_⟩
  exact k _ _ G _ _ (q l (S.freeM hl)) (S.new hl ⟨xs, upd_same, VRs.ofAll h3⟩) (Le.refl G) .v
end
end DL
/-! what are no orders; what may be shown -/
namespace DL
open PySem L2 PySem.Spec PyProof.Rows L2H
/-! shown, with or without dicts -/
def ShD (d : PyData) (k n : Nat) : Prop := noL d = true ∧ d.depth ≤ k ∧ d.showable = true ∧ d.shown.length ≤ n
def ShOk (x : PyData) : Prop := (∃ k n, Sh x k n ∧ k ≤ 64 ∧ n ≤ 16777216) ∨ ((∃ ds, x = .tuple ds) ∨ ∃ kvs, x = .dict kvs) ∧ ShD x 64 16777216
theorem on_showA {K : PySem.W.Frag} {m : Mm} {Q : Val → Mm → Prop} {x : PyData} (h : ShOk x) (q : Q (.d (.str x.shown)) m) : OpN K (rReprX K) [.d x] m Q := by
  rcases h with ⟨k, n, h, h1, h2⟩ | ⟨hx, h0, h1, h2, h3⟩
  · exact on_showX h h1 h2 q
  · exact on_showD hx h0 h1 h2 h3 q
theorem sh_small {i : Int} (h : i.natAbs < 1024) : Sh (.int i) 1 11 := (sh_int (i := i) (a := 10) h (by decide) (by decide)).mono (by decide) (by decide)
end DL
/-! [e for i, x in enumerate(a tuple)] -/
namespace DL
open PySem L2 PySem.Spec PyProof.Rows L2H
section
variable {K : PySem.W.Frag} {r : List Val} {m : Mm} {Q : Val → Mm → Prop} {te : TE}
theorem LcW.fix {G : Hp} {D T : Addr} {W : Nat → List PyData → Prop} {i : Nat} {H' : Hp} {o : HO} (h : LcW K m G D W i H') (hT : H' T = none) : ∃ G', Le G G' ∧ LcW K m (upd G' T o) D W i (upd H' T o) ∧ Le G (upd G' T o) := by
  obtain ⟨G', acc, hw, hl, S, e⟩ := h
  have hn := Le.new (o := o) (S.free hT)
  exact ⟨G', e, ⟨upd G' T o, acc, hw, hl, S.fix hT, Le.refl _⟩, e.trans hn⟩
end
end DL
/-! evened, named -/
namespace DL
open PySem L2 PySem.Spec PyProof.Rows L2H
end DL
/-! orders, and the chances by who is left -/
namespace DL
open PySem L2 PySem.Spec PyProof.Rows L2H
end DL
/-! all orders -/
namespace DL
open PySem L2 PySem.Spec PyProof.Rows L2H
end DL
/-! whole orders: what comes to one, what rises -/
namespace DL
open PySem L2
/-! some kind twice -/
/-! the sums so far -/
end DL
/-! the mean until all have come, over a list of shares: by parts that alternate -/
namespace DL
open PySem L2
/-! the paper's number is this one -/
end DL
/-! k13: cases, what lacks and means, in another order and each so many times -/
namespace DL
open PySem L2
/-! what comes of a list, n draws, with a beside -/
/-! each so many times -/
/-! the program's numbers -/
end DL
/-! tuples that are known to have no attributes: their methods -/
namespace DL
open PySem L2 PySem.Spec PyProof.Rows
end DL
/-! kinds bought or drawn -/
namespace DL
open PySem L2
section
variable {K : PySem.W.Frag} {r : List Val} {m : Mm} {Q : Val → Mm → Prop} {te tl : TE} {tt : TT}
theorem inV_strs (x : Str) (xs : List Str) : inV (.str x) (xs.map V.str) = decide (x ∈ xs) := by
  unfold inV
  rw [List.any_map]
  induction xs with
  | nil => rfl
  | cons n ns ih =>
    rw [List.any_cons, ih]
    by_cases h : x = n
    · subst h; simp [eqV]
    · have h2 : ¬ n = x := fun e => h e.symm
      simp [eqV, h, h2]
theorem TAll.drop {G : Hp} : ∀ {nss : List (List Int)} {xs : List V} (n : Nat), TAll G nss xs → TAll G (nss.drop n) (xs.drop n)
  | nss, xs, 0, h => h
  | [], xs, n + 1, h => by
    have h : xs = [] := h
    subst h; exact rfl
  | ns :: r, xs, n + 1, h => by
    obtain ⟨b, t, rfl, h2, h3⟩ := h
    exact TAll.drop n h3
end
/-! some kinds but none, the fewer ahead -/
def rsX (n : Nat) : List (List Nat) := (ordX n).filter noNil
/-! numbers by who is left, one told by the others -/
/-! bounds -/
def PB (ss : List Int) (P : List Nat → Rat) : Prop := ∀ s, Kinds ss.length s → QB (P s) (dB s.length) (99 * s.length)
theorem accG {ss : List Int} (hs : Shares ss) {P : List Nat → Rat} {s : List Nat} {d n : Nat} (hP : ∀ k ∈ s, QB (P (s.filter fun x => !decide (x = k))) d (99 * n)) : ∀ l : List Nat, (∀ k ∈ l, k ∈ s) → QB (dueAcc ss P s l) (l.length * d) (45 + 99 * n * (sumP ss l).toNat) := by
  intro l
  have hsum := shares_sum hs
  have gen : ∀ (l : List Nat) (a : Rat) (c v : Nat), QB a c v → (∀ k ∈ l, k ∈ s) → QB (l.foldl (fun acc k => acc + ((ss.getD k 0 : Int) : Rat) * P (s.filter fun x => !decide (x = k))) a) (c + l.length * d) (v + 99 * n * (sumP ss l).toNat) := by
    intro l
    induction l with
    | nil =>
      intro a c v h _
      exact h.mono (by simp) (by simp)
    | cons k t ih =>
      intro a c v h hl
      rw [List.foldl_cons]
      have hb := getD_bounds hs k
      have e1 : ss.getD k 0 = (((ss.getD k 0).toNat : Nat) : Int) := by omega
      have h1 := (hP k (hl k (List.mem_cons_self ..))).mulN (ss.getD k 0).toNat
      rw [← e1] at h1
      have h2 := ih _ _ _ (h.add h1) fun x hx => hl x (List.mem_cons_of_mem _ hx)
      refine h2.mono ?_ ?_
      · rw [List.length_cons, Nat.succ_mul]; omega
      · have e2 : (sumP ss (k :: t)).toNat = (ss.getD k 0).toNat + (sumP ss t).toNat := by
          have := sumP_nonneg hs t
          rw [sumP_cons]; omega
        rw [e2, Nat.mul_add]
        have e3 : (ss.getD k 0).toNat * (99 * n) = 99 * n * (ss.getD k 0).toNat := Nat.mul_comm _ _
        omega
  intro hl
  have e : ss.sum = ((ss.sum.toNat : Nat) : Int) := by omega
  have h0 : QB ((ss.sum : Int) : Rat) 0 45 := by
    rw [e]
    exact (QB.nat _).mono (Nat.le_refl _) (by omega)
  exact (gen l _ 0 45 h0 hl).mono (by omega) (Nat.le_refl _)
theorem PB.sub {ss : List Int} {P : List Nat → Rat} (h : PB ss P) {s : List Nat} (hk : Kinds ss.length s) {n : Nat} (hl : s.length = n + 1) : ∀ k ∈ s, QB (P (s.filter fun x => !decide (x = k))) (dB n) (99 * n) := fun k hks => by
  have := h _ (kinds_without hk k)
  have hw := without_len hk.up hks
  rw [show (s.filter fun x => !decide (x = k)).length = n by omega] at this
  exact this
theorem PB.fr {ss : List Int} (hs : Shares ss) {P : List Nat → Rat} (h : PB ss P) {s : List Nat} (hk : Kinds ss.length s) : FrB (P s) 1300 := by
  have h1 := hk.len
  have h2 := hs.few
  have h3 := dB_le (n := s.length) (by omega)
  exact ((h s hk).frB (e := 10) (by show _ < 1024; omega)).mono (by omega)
theorem PB.accFr {ss : List Int} (hs : Shares ss) {P : List Nat → Rat} (h : PB ss P) {s : List Nat} (hk : Kinds ss.length s) (i : Nat) : FrB (dueAcc ss P s (s.take i)) 1300 := by
  have h1 := hk.len
  have h2 := hs.few
  cases hn : s.length with
  | zero =>
    have : s = [] := List.length_eq_zero_iff.mp hn
    subst this
    have := shares_sum hs
    have e : ss.sum = ((ss.sum.toNat : Nat) : Int) := by omega
    have : dueAcc ss P [] (List.take i []) = ((ss.sum : Int) : Rat) := by simp [dueAcc]
    rw [this, e]
    exact ((QB.nat ss.sum.toNat).frB (e := 10) (by show _ < 1024; omega)).mono (by decide)
  | succ n =>
    have hb := accG hs (h.sub hk hn) (s.take i) fun k hk => List.mem_of_mem_take hk
    have hl : (s.take i).length ≤ n + 1 := by rw [List.length_take]; omega
    have hsl : sumP ss (s.take i) ≤ 45 := by
      have := sumP_le9 hs (s.take i)
      omega
    have hd : (s.take i).length * dB n + 6 ≤ dB (n + 1) := by
      show _ ≤ (n + 1) * dB n + 6
      exact Nat.add_le_add_right (Nat.mul_le_mul_right _ hl) 6
    have hd2 := dB_le (n := n + 1) (by omega)
    have hv : 45 + 99 * n * (sumP ss (s.take i)).toNat ≤ 45 + 99 * 4 * 45 := by
      refine Nat.add_le_add_left (Nat.mul_le_mul (Nat.mul_le_mul_left _ (by omega)) (by omega)) _
    exact (hb.frB (e := 15) (by show _ < 32768; omega)).mono (by omega)
/-! the laws of costs -/
/-! words -/
end DL
/-! sorted(d.items()), d with tuples for keys -/
namespace DL
open PySem L2 PySem.Spec PyProof.Rows
/-! everything that is known and may not change -/
section
variable {K : PySem.W.Frag} {m : Mm} {H G : Hp}
theorem Sta.all (S : Sta K m H G) : Sta K m H (fun a => if m a = none then H a else none) ∧ Le G (fun a => if m a = none then H a else none) := by
  have hle : Le G (fun a => if m a = none then H a else none) := fun a o h => by
    have hm : m a = none := by
      cases e : m a with
      | none => rfl
      | some u => rw [S.dis a u e] at h; cases h
    show (if m a = none then H a else none) = some o
    rw [if_pos hm]; exact S.sub a o h
  refine ⟨⟨fun a o h => ?_, fun a o h => (S.mem a o h).mono hle rfl, fun a o h => ?_⟩, hle⟩
  · have h : (if m a = none then H a else none) = some o := h
    by_cases hm : m a = none
    · rw [if_pos hm] at h; exact h
    · rw [if_neg hm] at h; cases h
  · show (if m a = none then H a else none) = none
    rw [if_neg (by rw [h]; exact fun z => nomatch z)]
theorem Le.at {G G' : Hp} (h : Le G G') {a : Addr} {o : HO} (e : G a = some o) : G' a = some o := h a o e
variable {r : List Val} {Q : Val → Mm → Prop} {te : TE}
end
/-! in whatever order they were put in -/
/-! d.clear() -/
/-! the numbers of a paper, as pairs -/
end DL
/-! k01: shares and fractions known among all sorts of things -/
namespace DL
open PySem L2 PySem.Spec PyProof.Rows
/-! == of lists of unlike length -/
section
variable {K : PySem.W.Frag} {r : List Val} {m : Mm} {Q : Val → Mm → Prop}
/-- {'a': 1} -/
theorem ev_dispS {k : Str} {i : Int} (q : Q (.d (.dict [(.str k, .int i)])) m) : Ev K (tDisp [(tC (.str k), tC (.int i))]) r m Q := fun σ H G S L R kk p hp => by
  have hg := S.free hp
  refine ⟨upd_same, [(.inr k, .int i)], rfl, by show 1 ≤ 15; decide, ?_⟩
  rw [upd_upd]
  refine kk _ _ (upd G p (.dK [(.inr k, .int i)])) _ m q (S.fix hp) (Le.new hg) (.d ?_)
  rw [Rp]
  refine ⟨p, rfl, Or.inr ⟨_, upd_same, ?_⟩⟩
  rw [RpK]
  refine ⟨.inr k, .int i, [], rfl, rfl, by rw [Rp], ?_⟩
  rw [RpK]
end
/-! what may be shown -/
theorem shOk_tupS {ds : List PyData} (h : ∀ d ∈ ds, Sh d 3 2000) (hl : ds.length ≤ 40) : ShOk (.tuple ds) := Or.inl ⟨_, _, sh_tuple h hl, by decide, by decide⟩
def oddA : List PyData := [.none, .bool true, .bool false, .int (-1), .int 0, .int 1, .str "", .str "1", .tuple [], .list [], .tuple [.int 0], .list [.int 1], .tuple [.int 0, .int 1], .dict [(.str "a", .int 1)], .dict [], .int ((10 : Int) ^ 29), .tuple [.int 1, .int 2], .tuple [.int 2, .int 4]]
def oddB : List PyData := [.tuple [.tuple [.int 1, .int 2]], .tuple [.int 1, .int 0], .tuple [.int 3, .int (-1)], .tuple [.bool true, .int 1], .tuple [.int 1, .int 2, .int 3], .tuple [.list [.int 1]]]
def oddL : List PyData := oddA ++ oddB
def f_odd : FSp := fun args m R => ∃ p : Addr, args = [.v (.ref p)] ∧ m p = some .box ∧ ∀ o ∈ oddL, R (.d o) m
end DL
/-! so many of each: defs that call themselves, needs, the mean by what is still needed -/
namespace DL
open PySem L2
/-! slices of tuples of ints -/
/-! needs -/
structure NeedV (n : Nat) (v : List Nat) : Prop where
  len : v.length = n
  few : ∀ x ∈ v, x ≤ 3
def lessV (v : List Nat) (k : Nat) : List Nat := v.take k ++ [v.getD k 0 - 1] ++ v.drop (k + 1)
theorem lessV_set {v : List Nat} {k : Nat} (h : k < v.length) : lessV v k = v.set k (v.getD k 0 - 1) := by
  unfold lessV
  rw [List.set_eq_take_append_cons_drop, if_pos h, List.append_assoc]; rfl
theorem NeedV.less {n : Nat} {v : List Nat} (h : NeedV n v) {k : Nat} (hk : k < n) : NeedV n (lessV v k) := by
  have hk : k < v.length := by rw [h.len]; exact hk
  rw [lessV_set hk]
  refine ⟨by rw [List.length_set]; exact h.len, fun x hx => ?_⟩
  rcases List.mem_or_eq_of_mem_set hx with hx | hx
  · exact h.few x hx
  · have : v.getD k 0 ≤ 3 := by
      rw [List.getD_eq_getElem?_getD, List.getElem?_eq_getElem hk]
      exact h.few _ (List.getElem_mem hk)
    omega
/-! the mean by what is still needed -/
/-! bounds -/
theorem allS_filter : ∀ (n : Nat) (p : Nat → Bool), (List.range n).filter p ∈ allS n
  | 0, p => by simp [allS]
  | n + 1, p => by
    have ih := allS_filter n p
    rw [List.range_succ, List.filter_append]
    unfold allS
    by_cases h : p n = true
    · simp [h, ih]
    · simp [h, ih]
/-! what is known -/
structure TabN (n : Nat) (l : List (List Nat)) : Prop where
  nd : l.Nodup
  nv : ∀ v ∈ l, NeedV n v
  zero : List.replicate n 0 ∈ l
theorem nd_len {α : Type} [BEq α] [LawfulBEq α] : ∀ {l r : List α}, l.Nodup → (∀ x ∈ l, x ∈ r) → l.length ≤ r.length
  | [], r, _, _ => Nat.zero_le _
  | x :: l, r, hn, hs => by
    obtain ⟨h1, h2⟩ := List.nodup_cons.mp hn
    have := nd_len (r := r.erase x) h2 fun y hy => (List.mem_erase_of_ne (fun (e : y = x) => h1 (by rw [← e]; exact hy))).mpr (hs y (List.mem_cons_of_mem _ hy))
    have hx := hs x List.mem_cons_self
    have e := List.length_erase_of_mem hx
    have := List.length_pos_of_mem hx
    rw [List.length_cons]
    omega
def allN : Nat → List (List Nat)
  | 0 => [[]]
  | n + 1 => (allN n).flatMap fun v => (List.range 4).map fun x => x :: v
theorem allN_len : ∀ n, (allN n).length = 4 ^ n
  | 0 => rfl
  | n + 1 => by
    have ih := allN_len n
    unfold allN
    rw [Nat.pow_succ, ← ih]
    generalize allN n = l
    induction l with
    | nil => rfl
    | cons a t ih => rw [List.flatMap_cons, List.length_append, ih, List.length_cons, List.length_map, List.length_range]; omega
theorem need_mem : ∀ {n : Nat} {v : List Nat}, NeedV n v → v ∈ allN n
  | 0, [], _ => List.mem_singleton.mpr rfl
  | 0, x :: v, h => by have := h.len; simp at this
  | n + 1, [], h => by have := h.len; simp at this
  | n + 1, x :: v, h => List.mem_flatMap.mpr ⟨v, need_mem ⟨by have := h.len; simpa using this, fun y hy => h.few y (List.mem_cons_of_mem _ hy)⟩, List.mem_map.mpr ⟨x, List.mem_range.mpr (by have := h.few x List.mem_cons_self; omega), rfl⟩⟩
theorem TabN.len {n : Nat} (hn : n ≤ 5) {l : List (List Nat)} (h : TabN n l) : l.length ≤ 1024 := by
  refine Nat.le_trans (nd_len h.nd fun v hv => need_mem (h.nv v hv)) ?_
  rw [allN_len]
  exact Nat.pow_le_pow_right (by decide) hn
theorem TabN.add {n : Nat} {l : List (List Nat)} (h : TabN n l) {v : List Nat} (hv : NeedV n v) (hm : v ∉ l) : TabN n (l ++ [v]) :=
  ⟨List.nodup_append.mpr ⟨h.nd, by simp, fun a ha b hb => by rw [List.mem_singleton.mp hb]; exact fun e => hm (e ▸ ha)⟩, fun u hu => by
    rcases List.mem_append.mp hu with hu | hu
    · exact h.nv u hu
    · rw [List.mem_singleton.mp hu]; exact hv, List.mem_append_left _ h.zero⟩
/-! (0,) * n as a key -/
/-! how many states, what is right -/
end DL
/-! k24: so many draws with so many of each, by times: plain mathematics -/
namespace DL
open PySem L2 RZ
/-- how many ways to choose -/
def ch : Nat → Nat → Nat
  | _, 0 => 1
  | 0, _ + 1 => 0
  | n + 1, m + 1 => ch n m + ch n (m + 1)
/-! turn by turn -/
/-! the dict of a turn -/
def totF (F : List Nat → Int) (l : List (List Nat)) (φ : List Nat → Int) : Int := (l.map fun s => F s * φ s).sum
structure TabG (n : Nat) (F : List Nat → Int) (l : List (List Nat)) : Prop where
  nd : l.Nodup
  nv : ∀ s ∈ l, NeedV n s
  off : ∀ s, s ∉ l → F s = 0
  nn : ∀ s, 0 ≤ F s
theorem TabG.add {n : Nat} {F : List Nat → Int} {l : List (List Nat)} (h : TabG n F l) {t : List Nat} (ht : NeedV n t) {x : Int} (hx : 0 ≤ x) : TabG n (addF F (t, x)) (insL l t) := by
  have nn : ∀ s, 0 ≤ addF F (t, x) s := fun s => by
    have := h.nn s
    unfold addF
    split <;> omega
  unfold insL
  by_cases hm : t ∈ l
  · rw [if_pos hm]
    exact ⟨h.nd, h.nv, fun s hs => by
      have : s ≠ t := fun e => hs (e ▸ hm)
      simp [addF, this, h.off s hs], nn⟩
  · rw [if_neg hm]
    refine ⟨List.nodup_append.mpr ⟨h.nd, by simp, fun a ha b hb => by rw [List.mem_singleton.mp hb]; exact fun e => hm (e ▸ ha)⟩, fun s hs => ?_, fun s hs => ?_, nn⟩
    · rcases List.mem_append.mp hs with hs | hs
      · exact h.nv s hs
      · rw [List.mem_singleton.mp hs]; exact ht
    · have h1 : s ∉ l := fun z => hs (List.mem_append_left _ z)
      have h2 : s ≠ t := fun e => hs (by rw [e]; exact List.mem_append_right _ (List.mem_singleton.mpr rfl))
      simp [addF, h2, h.off s h1]
theorem TabG.len {n : Nat} (hn : n ≤ 5) {F : List Nat → Int} {l : List (List Nat)} (h : TabG n F l) : l.length ≤ 1024 := by
  refine Nat.le_trans (nd_len h.nd fun v hv => need_mem (h.nv v hv)) ?_
  rw [allN_len]
  exact Nat.pow_le_pow_right (by decide) hn
theorem tot_ge {F : List Nat → Int} (nn : ∀ s, 0 ≤ F s) : ∀ (l : List (List Nat)), 0 ≤ totF F l (fun _ => 1) ∧ ∀ s ∈ l, F s ≤ totF F l fun _ => 1
  | [] => ⟨Int.le_refl _, fun _ h => nomatch h⟩
  | a :: l => by
    obtain ⟨h1, h2⟩ := tot_ge nn l
    have ha := nn a
    have e : totF F (a :: l) (fun _ => 1) = F a + totF F l fun _ => 1 := by
      unfold totF
      rw [List.map_cons, List.sum_cons, Int.mul_one]
    rw [e]
    refine ⟨by omega, fun s hs => ?_⟩
    rcases List.mem_cons.mp hs with rfl | hs
    · omega
    · have := h2 s hs; omega
theorem TabG.le {n : Nat} {F : List Nat → Int} {l : List (List Nat)} (h : TabG n F l) (s : List Nat) : F s ≤ totF F l fun _ => 1 := by
  obtain ⟨h1, h2⟩ := tot_ge h.nn l
  by_cases hs : s ∈ l
  · exact h2 s hs
  · rw [h.off s hs]; exact h1
/-- what is left at nothing more to need -/
theorem tot_none {n : Nat} {F : List Nat → Int} : ∀ {l : List (List Nat)}, l.Nodup → (∀ s ∈ l, s.length = n) → totF F l (fun s => if s = List.replicate s.length 0 then 1 else 0) = if List.replicate n 0 ∈ l then F (List.replicate n 0) else 0
  | [], _, _ => rfl
  | a :: l, hn, hl => by
    obtain ⟨h1, h2⟩ := List.nodup_cons.mp hn
    have ih := tot_none (F := F) h2 fun s hs => hl s (List.mem_cons_of_mem _ hs)
    have e : totF F (a :: l) (fun s => if s = List.replicate s.length 0 then 1 else 0) = F a * (if a = List.replicate a.length 0 then 1 else 0) + totF F l fun s => if s = List.replicate s.length 0 then 1 else 0 := by
      unfold totF
      rw [List.map_cons, List.sum_cons]
    rw [e, ih, hl a List.mem_cons_self]
    by_cases ha : a = List.replicate n 0
    · subst ha
      rw [if_pos rfl, if_neg h1, if_pos List.mem_cons_self]
      omega
    · have : (List.replicate n 0 ∈ a :: l) ↔ List.replicate n 0 ∈ l := by
        rw [List.mem_cons]
        exact ⟨fun h => h.resolve_left fun e => ha e.symm, Or.inr⟩
      rw [if_neg ha, Int.mul_zero, Int.zero_add]
      simp only [this]
theorem TabG.none {n : Nat} {F : List Nat → Int} {l : List (List Nat)} (h : TabG n F l) : totF F l (fun s => if s = List.replicate s.length 0 then 1 else 0) = F (List.replicate n 0) := by
  rw [tot_none h.nd fun s hs => (h.nv s hs).len]
  by_cases hz : List.replicate n 0 ∈ l
  · rw [if_pos hz]
  · rw [if_neg hz, h.off _ hz]
/-! bounds -/
/-! rows -/
end DL
/-! comprehensions over what is not known ahead -/
namespace DL
open PySem L2
end DL
/-! pairs of a whole number and a tuple of ints, lists of such, these sorted -/
namespace DL
open PySem L2 PySem.Spec PyProof.Rows
def qP (i : Int) (ns : List Int) : Hp → V → Prop := fun G v => ∃ b c, v = .ref b ∧ G b = some (.tup [.int i, .ref c]) ∧ G c = some (.tup (ns.map V.int))
theorem qP.mono {i : Int} {ns : List Int} {v : V} (G G' : Hp) (e : Le G G') (h : qP i ns G v) : qP i ns G' v := by
  obtain ⟨b, c, h1, h2, h3⟩ := h
  exact ⟨b, c, h1, e _ _ h2, e _ _ h3⟩
def lqP (qs : List (Int × List Int)) : Hp → V → Prop := fun G v => ∃ (a : Addr) (bs : List (V × Int × List Int)), v = .ref a ∧ Rd G a (.lst (bs.map (·.1))) ∧ bs.map (·.2) = qs ∧ ∀ b ∈ bs, qP b.2.1 b.2.2 G b.1
theorem lqP.mono {qs : List (Int × List Int)} {v : V} (G G' : Hp) (e : Le G G') (h : lqP qs G v) : lqP qs G' v := by
  obtain ⟨a, bs, h1, h2, h3, h4⟩ := h
  exact ⟨a, bs, h1, e.rd h2, h3, fun b hb => (h4 b hb).mono _ _ e⟩
/-! sorted of such a list -/
end DL
/-! dicts whose keys are pairs of tuples of ints -/
namespace DL
open PySem L2 PySem.Spec PyProof.Rows
abbrev PK := List Int × List Int
def pkK (k : PK) : NestedKey := .tup [.tup (k.1.map NestedKey.num), .tup (k.2.map NestedKey.num)]
def PkAt (H : Hp) (b : Addr) (k : PK) : Prop := ∃ c d, H b = some (.tup [.ref c, .ref d]) ∧ H c = some (.tup (k.1.map V.int)) ∧ H d = some (.tup (k.2.map V.int))
theorem PkAt.keep {H H' : Hp} {b : Addr} {k : PK} (e : ∀ c xs, H c = some (.tup xs) → H' c = some (.tup xs)) (h : PkAt H b k) : PkAt H' b k := by
  obtain ⟨c, d, h1, h2, h3⟩ := h
  exact ⟨c, d, e _ _ h1, e _ _ h2, e _ _ h3⟩
theorem PkAt.mono {H H' : Hp} {b : Addr} {k : PK} (e : Le H H') (h : PkAt H b k) : PkAt H' b k := h.keep fun c xs z => e _ _ z
section
variable {P : Program} {w : World} {H : Hp} {h : Heap}
theorem nest_all : ∀ {ns : List Int} {us : List Value}, Vals (ns.map V.int) us → NestedAll h (ns.map NestedKey.num) us
  | [], us, r => by cases r; exact .nil
  | n :: ns, us, r => by
    cases r with
    | cons r1 r2 =>
      obtain ⟨t, rfl⟩ := r1
      exact .cons (.int n t) (nest_all r2)
theorem nest_ints {c : Addr} {ns : List Int} (ok : HOk P w H h) (e : H c = some (.tup (ns.map V.int))) : NestedIs h (.tup (ns.map NestedKey.num)) (.ref c) := by
  have hok := ok c _ e
  obtain ⟨_, us, r, o, g1, g2, n, g3⟩ := hok
  exact .tup g1 g2 g3 (by rw [List.toList_toArray]; exact nest_all r)
theorem depth_nums : ∀ ns : List Int, NestedKey.depthAll (ns.map NestedKey.num) = 0
  | [] => by simp [NestedKey.depthAll]
  | n :: ns => by simp [NestedKey.depthAll, NestedKey.depth, depth_nums ns]
theorem pk_is {b : Addr} {k : PK} (ok : HOk P w H h) (e : PkAt H b k) : (nestedKind P w).is h (pkK k) b := by
  obtain ⟨c, d, h1, h2, h3⟩ := e
  have hok := ok b _ h1
  obtain ⟨_, us, r, o, g1, g2, n, g3⟩ := hok
  refine ⟨.tup g1 g2 g3 ?_, ?_⟩
  · rw [List.toList_toArray]
    cases r with
    | cons r1 r2 =>
      cases r2 with
      | cons r3 r4 =>
        cases r4
        cases r1
        cases r3
        exact .cons (nest_ints ok h2) (.cons (nest_ints ok h3) .nil)
  · unfold pkK
    simp only [NestedKey.depth, NestedKey.depthAll, depth_nums]
    decide
end
abbrev PkE := PK × Addr × V
def PkR (p : PkE) (q : NestedKey × Addr × Value) : Prop := q.1 = pkK p.1 ∧ q.2.1 = p.2.1 ∧ RelV p.2.2 q.2.2
/-- the dict at a as one object -/
def pkO (P : Program) (w : World) (a : Addr) (es : List PkE) : HO := .ext fun h => (a == sysModules) = false ∧ ∃ xs, Paired PkR es xs ∧ ∃ o en ep, h.get? a = some o ∧ o.ExactDict ∧ o.data = .dict en ep ∧ en.toList = xs.map (entryOfKey (nestedKind P w)) ∧ (xs.map (·.1)).Nodup
def PkOb (P : Program) (w : World) (H : Hp) (a : Addr) (es : List PkE) : Prop := H a = some (pkO P w a es) ∨ es = [] ∧ H a = some (.dT [])
structure PkD (P : Program) (w : World) (H : Hp) (a : Addr) (es : List PkE) : Prop where
  obj : PkOb P w H a es
  keys : ∀ e ∈ es, PkAt H e.2.1 e.1
  few : es.length ≤ 100000
theorem PkD.dict {P : Program} {w : World} {H : Hp} {h : Heap} {a : Addr} {es : List PkE} (ok : HOk P w H h) (x : PkD P w H a es) : (a == sysModules) = false ∧ ∃ xs, Paired PkR es xs ∧ h.DictOfH (nestedKind P w) a xs := by
  rcases x.obj with e | ⟨rfl, e⟩
  · obtain ⟨⟨h0, xs, r, o, en, ep, g1, g2, g3, g4, g5⟩, _⟩ := (show ObjOk P w H h a (pkO P w a es) from ok a _ e)
    refine ⟨h0, xs, r, o, en, ep, g1, g2, g3, g4, fun y hy => ?_, g5⟩
    have all : ∀ {l : List PkE} {ys : List (NestedKey × Addr × Value)}, Paired PkR l ys → (∀ e ∈ l, PkAt H e.2.1 e.1) → ∀ y ∈ ys, (nestedKind P w).is h y.1 y.2.1 := fun {l ys} r => by
      induction r with
      | nil => exact fun _ _ z => nomatch z
      | @cons p q ps qs hpq _ ih =>
        intro hk y hy
        rcases List.mem_cons.mp hy with rfl | hy
        · obtain ⟨e1, e2, _⟩ := hpq
          rw [e1, e2]
          exact pk_is ok (hk p List.mem_cons_self)
        · exact ih (fun e he => hk e (List.mem_cons_of_mem _ he)) y hy
    exact all r x.keys y hy
  · obtain ⟨z, y, xs, r, o, en, ep, g1, g2, g3, g4, _⟩ := (show ObjOk P w H h a (.dT []) from ok a _ e)
    cases r
    exact ⟨y, [], .nil, o, en, ep, g1, g2, g3, g4, (fun _ z => nomatch z), List.nodup_nil⟩
/-! readings and rules -/
/-! at the level of data -/
def pkP (k : PK) : Hp → V → Prop := fun G v => ∃ b, v = .ref b ∧ PkAt G b k
theorem pkP.mono {k : PK} {v : V} (G G' : Hp) (e : Le G G') (h : pkP k G v) : pkP k G' v := by
  obtain ⟨b, h1, h2⟩ := h
  exact ⟨b, h1, h2.mono e⟩
end DL
/-! what the second gatherer lacks when the first one has all -/
namespace DL
open PySem L2
theorem kinds_filter {n : Nat} {s : List Nat} (h : Kinds n s) : (List.range n).filter (fun x => decide (x ∈ s)) = s := by
  have n1 : ((List.range n).filter fun x => decide (x ∈ s)).Nodup := List.nodup_range.filter _
  have n2 : s.Nodup := h.up.imp fun e => Nat.ne_of_lt e
  have hp : ((List.range n).filter fun x => decide (x ∈ s)).Perm s := (List.perm_ext_iff_of_nodup n1 n2).mpr fun x => by
    rw [List.mem_filter, List.mem_range, decide_eq_true_eq]
    exact ⟨fun z => z.2, fun z => ⟨h.lt x z, z⟩⟩
  exact hp.eq_of_pairwise (fun a b _ _ h1 h2 => by omega) (List.pairwise_lt_range.filter _) h.up
theorem kinds_allS {n : Nat} {s : List Nat} (h : Kinds n s) : s ∈ allS n := by
  rw [← kinds_filter h]
  exact allS_filter n _
/-! the tables -/
abbrev PN := List Nat × List Nat
structure TabK (n : Nat) (l : List PN) : Prop where
  nd : l.Nodup
  gs : ∀ k ∈ l, Kinds n k.1 ∧ Kinds n k.2
theorem TabK.len {n : Nat} (hn : n ≤ 5) {l : List PN} (h : TabK n l) : l.length ≤ 1024 := by
  have hm : ∀ k ∈ l, k ∈ (allS n).flatMap fun a => (allS n).map fun b => (a, b) := fun k hk => List.mem_flatMap.mpr ⟨k.1, kinds_allS (h.gs k hk).1, List.mem_map.mpr ⟨k.2, kinds_allS (h.gs k hk).2, rfl⟩⟩
  refine Nat.le_trans (nd_len h.nd hm) ?_
  have hl : ∀ (x y : List (List Nat)), (x.flatMap fun a => y.map fun b => (a, b)).length = x.length * y.length := fun x y => by
    induction x with
    | nil => simp
    | cons a t ih => rw [List.flatMap_cons, List.length_append, ih, List.length_map, List.length_cons, Nat.succ_mul, Nat.add_comm]
  rw [hl, allS_len]
  have : 2 ^ n ≤ 2 ^ 5 := Nat.pow_le_pow_right (by decide) hn
  exact Nat.mul_le_mul this this
/-! the words -/
end DL
/-! k54: what the gatherers' stage refuses -/
namespace DL
open PySem L2
end DL
/-! repr of any data; the end of a law that knows that sys.modules stands ahead of it -/
namespace DL
open PySem L2 PySem.Spec PyProof.Rows L2H
structure ShA (x : PyData) : Prop where
  dp : x.depth ≤ 64
  sh : x.showable = true
  ln : x.shown.length ≤ 16777216
/-! how long it is shown -/
structure ShB (d : PyData) (k n : Nat) : Prop where
  dp : d.depth ≤ k
  sh : d.showable = true
  ln : d.shown.length ≤ n
theorem ShB.mono {d : PyData} {k n k' n' : Nat} (h : ShB d k n) (h1 : k ≤ k') (h2 : n ≤ n') : ShB d k' n' := ⟨Nat.le_trans h.dp h1, h.sh, Nat.le_trans h.ln h2⟩
end DL
/-! unlike things are shown unlike, where one of them is made of ints, tuples, lists -/
namespace DL
open PySem
def sL (x : PyData) : List Nat := x.shown.cps.toList
theorem cps_app (a b : Str) : (a ++ b).cps.toList = a.cps.toList ++ b.cps.toList := by
  show (a.cps ++ b.cps).toList = _
  exact Array.toList_append
theorem sL_int (i : Int) : sL (.int i) = (toString i).toList.map Char.toNat := by
  unfold sL
  simp only [PyData.shown]
  rw [Str.ofString_eq_toList]
def bdT (c : Nat) : List PyData → List Nat
  | [] => [c]
  | x :: t => 44 :: 32 :: (sL x ++ bdT c t)
theorem join_bd (c : Nat) : ∀ (t : List PyData) (x : PyData), (Str.join ", " (PyData.shownAll (x :: t))).cps.toList ++ [c] = sL x ++ bdT c t
  | [], x => by
    simp only [PyData.shownAll, Str.join]
    rfl
  | y :: t, x => by
    have ih := join_bd c t y
    simp only [PyData.shownAll] at ih ⊢
    rw [Str.join]
    · rw [cps_app, cps_app, List.append_assoc, List.append_assoc, ih]
      rfl
    · exact fun h => nomatch h
theorem sL_nil : sL (.list []) = [91, 93] := by decide +kernel
theorem sL_list (x : PyData) (t : List PyData) : sL (.list (x :: t)) = 91 :: (sL x ++ bdT 93 t) := by
  have h : (PyData.list (x :: t)).shown = ("[" : Str) ++ Str.join ", " (PyData.shownAll (x :: t)) ++ "]" := by
    simp only [PyData.shown, PyData.shownAll]
    unfold PySem.listText
    rw [show textFrom 0 "[" (PyData.shown x :: PyData.shownAll t) = textFrom 1 (("[" : Str) ++ PyData.shown x) (PyData.shownAll t) by rfl]
    rw [textFrom_pos _ _ _ _ (by decide)]
  unfold sL
  rw [h, cps_app, cps_app, List.append_assoc]
  rw [show ("]" : Str).cps.toList = [93] by decide +kernel, show ("[" : Str).cps.toList = [91] by decide +kernel, join_bd 93 t x]
  rfl
theorem sL_tnil : sL (.tuple []) = [40, 41] := by decide +kernel
theorem sL_tone (x : PyData) : sL (.tuple [x]) = 40 :: (sL x ++ [44, 41]) := by
  unfold sL
  simp only [PyData.shown, PyData.shownAll]
  unfold PySem.tupleText
  rw [cps_app, cps_app]
  rw [show ("(" : Str).cps.toList = [40] by decide +kernel]
  rfl
theorem sL_tup (x y : PyData) (t : List PyData) : sL (.tuple (x :: y :: t)) = 40 :: (sL x ++ bdT 41 (y :: t)) := by
  have h : (PyData.tuple (x :: y :: t)).shown = ("(" : Str) ++ Str.join ", " (PyData.shownAll (x :: y :: t)) ++ ")" := by
    simp only [PyData.shown]
    unfold PySem.tupleText
    have hl : ((PyData.shownAll (x :: y :: t)).length == 1) = false := by simp [PyData.shownAll]
    rw [hl]
    rfl
  unfold sL
  rw [h, cps_app, cps_app, List.append_assoc]
  rw [show (")" : Str).cps.toList = [41] by decide +kernel, show ("(" : Str).cps.toList = [40] by decide +kernel, join_bd 41 (y :: t) x]
  rfl
/-! the first sign -/
def hc : PyData → Nat → Prop
  | .none, c => c = 78
  | .bool _, c => c = 84 ∨ c = 70
  | .int _, c => (48 ≤ c ∧ c ≤ 57) ∨ c = 45
  | .str _, c => c = 39 ∨ c = 34
  | .list _, c => c = 91
  | .tuple _, c => c = 40
  | .dict _, c => c = 123
def dgS (c : Nat) : Prop := (48 ≤ c ∧ c ≤ 57) ∨ c = 45
theorem int_dgS (i : Int) : ∀ c ∈ sL (.int i), dgS c := fun c hc => by
  rw [sL_int] at hc
  obtain ⟨ch, h1, rfl⟩ := List.mem_map.mp hc
  rcases PyProof.Rows.int_sign i ch h1 with h | h
  · have h : (48 : UInt32) ≤ ch.val ∧ ch.val ≤ 57 := by simpa [Char.isDigit] using h
    exact Or.inl ⟨UInt32.le_iff_toNat_le.mp h.1, UInt32.le_iff_toNat_le.mp h.2⟩
  · exact Or.inr (by rw [h]; rfl)
theorem int_ne (i : Int) : sL (.int i) ≠ [] := fun h => by
  rw [sL_int] at h
  have h : (toString i).toList = [] := List.map_eq_nil_iff.mp h
  cases i with
  | ofNat n =>
    have h : (Nat.repr n).toList = [] := h
    rw [Nat.toList_repr] at h
    exact Nat.toDigits_ne_nil h
  | negSucc n =>
    have h : ("-" ++ Nat.repr (n + 1)).toList = [] := h
    simp at h
theorem fold_head (f : Nat → List Nat) : ∀ (l : List Nat) (acc : Array Nat), ∃ t, (l.foldl (fun out c => out ++ (f c).toArray) acc).toList = acc.toList ++ t
  | [], acc => ⟨[], by simp⟩
  | c :: l, acc => by
    obtain ⟨t, ht⟩ := fold_head f l (acc ++ (f c).toArray)
    exact ⟨f c ++ t, by rw [List.foldl_cons, ht]; simp⟩
theorem sL_head : ∀ x : PyData, ∃ c l, sL x = c :: l ∧ hc x c
  | .none => ⟨78, [111, 110, 101], by decide +kernel, rfl⟩
  | .bool true => ⟨84, [114, 117, 101], by decide +kernel, Or.inl rfl⟩
  | .bool false => ⟨70, [97, 108, 115, 101], by decide +kernel, Or.inr rfl⟩
  | .int i => by
    cases h : sL (.int i) with
    | nil => exact absurd h (int_ne i)
    | cons c l => exact ⟨c, l, rfl, int_dgS i c (by rw [h]; exact List.mem_cons_self)⟩
  | .str x => by
    have hq : reprQuote x = 39 ∨ reprQuote x = 34 := by
      unfold reprQuote
      split <;> simp
    obtain ⟨t, ht⟩ := fold_head (PySem.Builtin.Str.reprChar (reprQuote x)) x.cps.toList #[reprQuote x]
    refine ⟨reprQuote x, t ++ [reprQuote x], ?_, hq⟩
    unfold sL
    simp only [PyData.shown]
    unfold reprText
    show ((x.cps.foldl (fun out c => out ++ (PySem.Builtin.Str.reprChar (reprQuote x) c).toArray) #[reprQuote x]).push (reprQuote x)).toList = _
    rw [Array.toList_push, ← Array.foldl_toList, ht]
    rfl
  | .list [] => ⟨91, [93], sL_nil, rfl⟩
  | .list (x :: t) => ⟨91, _, sL_list x t, rfl⟩
  | .tuple [] => ⟨40, [41], sL_tnil, rfl⟩
  | .tuple [x] => ⟨40, _, sL_tone x, rfl⟩
  | .tuple (x :: y :: t) => ⟨40, _, sL_tup x y t, rfl⟩
  | .dict kvs => by
    refine ⟨123, (Str.join ", " (PyData.shownKv kvs)).cps.toList ++ ("}" : Str).cps.toList, ?_, rfl⟩
    unfold sL
    simp only [PyData.shown]
    unfold PySem.dictText
    rw [cps_app, cps_app, show ("{" : Str).cps.toList = [123] by decide +kernel]
    rfl
/-- what may stand behind an item -/
def sep (r : List Nat) : Prop := ∀ c l, r = c :: l → c = 44 ∨ c = 41 ∨ c = 93
theorem dgS_cut : ∀ {l1 l2 r1 r2 : List Nat}, (∀ c ∈ l1, dgS c) → (∀ c ∈ l2, dgS c) → sep r1 → sep r2 → l1 ++ r1 = l2 ++ r2 → l1 = l2 ∧ r1 = r2
  | [], [], r1, r2, _, _, _, _, h => ⟨rfl, h⟩
  | [], c :: l2, r1, r2, _, h2, s1, _, h => by
    have := s1 c _ h
    have := h2 c List.mem_cons_self
    unfold dgS at this
    omega
  | c :: l1, [], r1, r2, h1, _, _, s2, h => by
    have := s2 c _ h.symm
    have := h1 c List.mem_cons_self
    unfold dgS at this
    omega
  | c :: l1, d :: l2, r1, r2, h1, h2, s1, s2, h => by
    rw [List.cons_append, List.cons_append] at h
    injection h with e h
    obtain ⟨h3, h4⟩ := dgS_cut (fun c hc => h1 c (List.mem_cons_of_mem _ hc)) (fun c hc => h2 c (List.mem_cons_of_mem _ hc)) s1 s2 h
    exact ⟨by rw [e, h3], h4⟩
theorem int_text_inj {i j : Int} (h : sL (.int i) = sL (.int j)) : i = j := by
  rw [sL_int, sL_int] at h
  have hc : ∀ {a b : Char}, a.toNat = b.toNat → a = b := fun {a b} e => Char.ext (UInt32.toNat_inj.mp e)
  have h2 : (toString i).toList = (toString j).toList := (List.map_inj_right (fun _ _ e => hc e)).mp h
  exact Int.repr_injective (String.toList_inj.mp h2)
mutual
def itl : PyData → Bool
  | .int _ => true
  | .list ys => itlAll ys
  | .tuple ys => itlAll ys
  | .none => false
  | .bool _ => false
  | .str _ => false
  | .dict _ => false
def itlAll : List PyData → Bool
  | [] => true
  | y :: t => itl y && itlAll t
end
theorem bd_head (c : Nat) (hc : c = 41 ∨ c = 93) (t : List PyData) (r : List Nat) : sep (bdT c t ++ r) := fun d l h => by
  cases t with
  | nil =>
    have h : c :: r = d :: l := h
    injection h with h _
    omega
  | cons x t =>
    have h : 44 :: (32 :: (sL x ++ bdT c t) ++ r) = d :: l := h
    injection h with h _
    omega
theorem same_head {x y : PyData} {r1 r2 : List Nat} (h : sL x ++ r1 = sL y ++ r2) : ∃ c, hc x c ∧ hc y c := by
  obtain ⟨c, l, e1, h1⟩ := sL_head x
  obtain ⟨d, k, e2, h2⟩ := sL_head y
  rw [e1, e2, List.cons_append, List.cons_append] at h
  injection h with e _
  exact ⟨c, h1, e ▸ h2⟩
theorem not_close {y : PyData} (hy : itl y = true) {r1 r2 : List Nat} {c : Nat} (hc' : c = 41 ∨ c = 93) : c :: r1 ≠ sL y ++ r2 := fun h => by
  obtain ⟨d, k, e2, h2⟩ := sL_head y
  rw [e2, List.cons_append] at h
  injection h with e _
  subst e
  cases y <;> simp [itl] at hy <;> simp only [hc] at h2 <;> omega
mutual
theorem cut : ∀ (y x : PyData) (r1 r2 : List Nat), itl y = true → sep r1 → sep r2 → sL x ++ r1 = sL y ++ r2 → x = y ∧ r1 = r2
  | .int i, x, r1, r2, _, s1, s2, h => by
    obtain ⟨c, h1, h2⟩ := same_head h
    cases x with
    | int j =>
      obtain ⟨h3, h4⟩ := dgS_cut (int_dgS j) (int_dgS i) s1 s2 h
      exact ⟨by rw [int_text_inj h3], h4⟩
    | _ => simp only [hc] at h1 h2; omega
  | .list ys, x, r1, r2, hy, s1, s2, h => by
    obtain ⟨c, h1, h2⟩ := same_head h
    cases x with
    | list xs =>
      cases ys with
      | nil =>
        cases xs with
        | nil => exact ⟨rfl, List.append_cancel_left h⟩
        | cons a t =>
          rw [sL_nil, sL_list] at h
          injection h with _ h
          obtain ⟨d, k, e2, h2⟩ := sL_head a
          rw [e2] at h
          injection h with h _
          subst h
          cases a <;> simp only [hc] at h2 <;> omega
      | cons b u =>
        have hy : itl b = true ∧ itlAll u = true := by simpa [itl, itlAll] using hy
        cases xs with
        | nil =>
          rw [sL_nil, sL_list] at h
          injection h with _ h
          have h : 93 :: ([] ++ r1) = (sL b ++ bdT 93 u) ++ r2 := h
          rw [List.append_assoc] at h
          exact absurd h (not_close hy.1 (Or.inr rfl))
        | cons a t =>
          rw [sL_list, sL_list] at h
          injection h with _ h
          have h : (sL a ++ bdT 93 t) ++ r1 = (sL b ++ bdT 93 u) ++ r2 := h
          rw [List.append_assoc, List.append_assoc] at h
          obtain ⟨h3, h4⟩ := cut b a _ _ hy.1 (bd_head 93 (Or.inr rfl) t r1) (bd_head 93 (Or.inr rfl) u r2) h
          obtain ⟨h5, h6⟩ := cutT u t 93 r1 r2 hy.2 (Or.inr rfl) h4
          exact ⟨by rw [h3, h5], h6⟩
    | _ => simp only [hc] at h1 h2; omega
  | .tuple ys, x, r1, r2, hy, s1, s2, h => by
    obtain ⟨c, h1, h2⟩ := same_head h
    cases x with
    | tuple xs =>
      have s41 : ∀ r : List Nat, sep (44 :: r) := fun r d l e => by injection e with e _; omega
      cases ys with
      | nil =>
        cases xs with
        | nil => exact ⟨rfl, List.append_cancel_left h⟩
        | cons a t =>
          obtain ⟨d, k, e2, h2⟩ := sL_head a
          have h3 : d = 41 := by
            cases t with
            | nil =>
              rw [sL_tnil, sL_tone, e2] at h
              injection h with _ h
              injection h with h _
            | cons b t =>
              rw [sL_tnil, sL_tup, e2] at h
              injection h with _ h
              injection h with h _
          subst h3
          cases a <;> simp only [hc] at h2 <;> omega
      | cons b u =>
        have hy : itl b = true ∧ itlAll u = true := by simpa [itl, itlAll] using hy
        cases xs with
        | nil =>
          rw [sL_tnil] at h
          cases u with
          | nil =>
            rw [sL_tone] at h
            injection h with _ h
            have h : 41 :: ([] ++ r1) = (sL b ++ [44, 41]) ++ r2 := h
            rw [List.append_assoc] at h
            exact absurd h (not_close hy.1 (Or.inl rfl))
          | cons b2 u =>
            rw [sL_tup] at h
            injection h with _ h
            have h : 41 :: ([] ++ r1) = (sL b ++ bdT 41 (b2 :: u)) ++ r2 := h
            rw [List.append_assoc] at h
            exact absurd h (not_close hy.1 (Or.inl rfl))
        | cons a t =>
          cases t with
          | nil =>
            cases u with
            | nil =>
              rw [sL_tone, sL_tone] at h
              injection h with _ h
              have h : (sL a ++ [44, 41]) ++ r1 = (sL b ++ [44, 41]) ++ r2 := h
              rw [List.append_assoc, List.append_assoc] at h
              obtain ⟨h3, h4⟩ := cut b a _ _ hy.1 (s41 _) (s41 _) h
              exact ⟨by rw [h3], by injection h4 with _ h4; injection h4 with _ h4⟩
            | cons b2 u =>
              rw [sL_tone, sL_tup] at h
              injection h with _ h
              have h : (sL a ++ [44, 41]) ++ r1 = (sL b ++ bdT 41 (b2 :: u)) ++ r2 := h
              rw [List.append_assoc, List.append_assoc] at h
              obtain ⟨h3, h4⟩ := cut b a _ _ hy.1 (s41 _) (s41 _) h
              have h4 : 44 :: (41 :: r1) = 44 :: (32 :: (sL b2 ++ bdT 41 u) ++ r2) := h4
              injection h4 with _ h4
              injection h4 with h4 _
              omega
          | cons a2 t =>
            cases u with
            | nil =>
              rw [sL_tup, sL_tone] at h
              injection h with _ h
              have h : (sL a ++ bdT 41 (a2 :: t)) ++ r1 = (sL b ++ [44, 41]) ++ r2 := h
              rw [List.append_assoc, List.append_assoc] at h
              obtain ⟨h3, h4⟩ := cut b a _ _ hy.1 (s41 _) (s41 _) h
              have h4 : 44 :: (32 :: (sL a2 ++ bdT 41 t) ++ r1) = 44 :: (41 :: r2) := h4
              injection h4 with _ h4
              injection h4 with h4 _
              omega
            | cons b2 u =>
              rw [sL_tup, sL_tup] at h
              injection h with _ h
              have h : (sL a ++ bdT 41 (a2 :: t)) ++ r1 = (sL b ++ bdT 41 (b2 :: u)) ++ r2 := h
              rw [List.append_assoc, List.append_assoc] at h
              obtain ⟨h3, h4⟩ := cut b a _ _ hy.1 (s41 _) (s41 _) h
              obtain ⟨h5, h6⟩ := cutT (b2 :: u) (a2 :: t) 41 r1 r2 hy.2 (Or.inl rfl) h4
              exact ⟨by rw [h3, h5], h6⟩
    | _ => simp only [hc] at h1 h2; omega
  | .none, _, _, _, hy, _, _, _ => by simp [itl] at hy
  | .bool _, _, _, _, hy, _, _, _ => by simp [itl] at hy
  | .str _, _, _, _, hy, _, _, _ => by simp [itl] at hy
  | .dict _, _, _, _, hy, _, _, _ => by simp [itl] at hy
theorem cutT : ∀ (ys xs : List PyData) (c : Nat) (r1 r2 : List Nat), itlAll ys = true → (c = 41 ∨ c = 93) → bdT c xs ++ r1 = bdT c ys ++ r2 → xs = ys ∧ r1 = r2
  | [], xs, c, r1, r2, _, hc', h => by
    cases xs with
    | nil => exact ⟨rfl, List.append_cancel_left h⟩
    | cons a t =>
      have h : 44 :: (32 :: (sL a ++ bdT c t) ++ r1) = c :: r2 := h
      injection h with h _
      omega
  | b :: u, xs, c, r1, r2, hy, hc', h => by
    have hy : itl b = true ∧ itlAll u = true := by simpa [itlAll] using hy
    cases xs with
    | nil =>
      have h : c :: r1 = 44 :: (32 :: (sL b ++ bdT c u) ++ r2) := h
      injection h with h _
      omega
    | cons a t =>
      have h : 44 :: (32 :: ((sL a ++ bdT c t) ++ r1)) = 44 :: (32 :: ((sL b ++ bdT c u) ++ r2)) := h
      injection h with _ h
      injection h with _ h
      rw [List.append_assoc, List.append_assoc] at h
      obtain ⟨h3, h4⟩ := cut b a _ _ hy.1 (bd_head c hc' t r1) (bd_head c hc' u r2) h
      obtain ⟨h5, h6⟩ := cutT u t c r1 r2 hy.2 hc' h4
      exact ⟨by rw [h3, h5], h6⟩
end
end DL
/-! k33: pack papers among things that are told otherwise -/
namespace DL
open PySem L2
/-! it is the paper where it is shown as the paper -/
section
variable {K : PySem.W.Frag} {r : List Val} {m : Mm} {Q : Val → Mm → Prop} {te to1 ti1 to2 ti2 : TE} {N : List Val → Mm → Prop} {E : Val → Mm → Prop}
/-- xs[i], ys[j] = .. of one tuple -/
theorem w_asg2S (h : Ev K te r m fun x m1 => ∃ d1 d2, x = .d (.tuple [d1, d2]) ∧ Ev K to1 r m1 fun y m2 => ∃ p, y = .v (.ref p) ∧ Ev K ti1 r m2 fun z m3 => ∃ (i : Nat) (rs : List Val), z = .d (.int (i : Int)) ∧ m3 p = some (.lst rs) ∧ i < rs.length ∧
      Ev K to2 r (put m3 p (.lst (rs.set i (.d d1)))) fun y m4 => ∃ p, y = .v (.ref p) ∧ Ev K ti2 r m4 fun z m5 => ∃ (i : Nat) (rs : List Val), z = .d (.int (i : Int)) ∧ m5 p = some (.lst rs) ∧ i < rs.length ∧ N r (put m5 p (.lst (rs.set i (.d d2))))) :
    Wp K (tAsg te (gTup K 2 (gCons (gSub to1 ti1 rSetL) (gCons (gSub to2 ti2 rSetL) gNil)))) r m N E := fun σ H G D S L a b =>
  h σ H G S L _ fun v H1 G1 x m1 ⟨d1, d2, hx, h1⟩ S1 e1 r1 => by
    subst hx
    obtain ⟨p, xs, hv, hs, hA⟩ := rp_tuple.mp r1.rp
    obtain ⟨x1, t1, rfl, a1, hA⟩ := rpa_cons.mp hA
    obtain ⟨x2, t2, rfl, a2, hA⟩ := rpa_cons.mp hA
    obtain rfl := rpa_nil.mp hA
    refine ⟨p, _, hv, S1.sqT hs, rfl, x1, [x2], rfl, ?_⟩
    refine h1 σ H1 G1 S1 (L.mono e1) _ fun w H2 G2 y m2 ⟨p1, hy, h2⟩ S2 e2 r2 => h2 σ H2 G2 S2 (L.mono (e1.trans e2)) _ fun u H3 G3 z m3 ⟨i, rs, hz, hb, hi, h3⟩ S3 e3 r3 => ?_
    subst hy hz
    obtain rfl := r2.eq
    obtain rfl := int_of r3
    obtain ⟨ys, g1, g2⟩ := S3.mem p1 _ hb
    refine ⟨p1, ys, (i : Int), i, rfl, rfl, g1, ixN_nat (by rw [g2.length]; exact hi), x2, [], rfl, ?_⟩
    have S4 := S3.chg (u := .lst (rs.set i (.d d1))) (o := .lst (ys.set i x1)) hb ⟨_, upd_same, VRs.set (.d (Rp.mono (e2.trans e3) _ _ a1)) i g2⟩
    refine h3 σ _ G3 S4 (L.mono (e1.trans (e2.trans e3))) _ fun w H5 G5 y m5 ⟨p2, hy, h5⟩ S5 e5 r5 => h5 σ H5 G5 S5 (L.mono (e1.trans (e2.trans (e3.trans e5)))) _ fun u H6 G6 z m6 ⟨j, rs', hz, hb', hi', q⟩ S6 e6 r6 => ?_
    subst hy hz
    obtain rfl := r5.eq
    obtain rfl := int_of r6
    obtain ⟨zs, g3, g4⟩ := S6.mem p2 _ hb'
    refine ⟨p2, zs, (j : Int), j, rfl, rfl, g3, ixN_nat (by rw [g4.length]; exact hi'), rfl, ?_⟩
    have S7 := S6.chg (u := .lst (rs'.set j (.d d2))) (o := .lst (zs.set j x2)) hb' ⟨_, upd_same, VRs.set (.d (Rp.mono (e2.trans (e3.trans (e5.trans e6))) _ _ a2)) j g4⟩
    exact a σ _ G6 r _ q S7 (e1.trans (e2.trans (e3.trans (e5.trans e6)))) (L.mono (e1.trans (e2.trans (e3.trans (e5.trans e6)))))
end
end DL
/-! k64: what the buying stage refuses -/
namespace DL
open PySem L2
/-- a thing that is no plan -/
def NoPl (m : Mm) (y : Val) : Prop := (∃ x, y = .d x ∧ isDct x = false) ∨ ∃ (p : Addr) (kvs : List (List Int × Val)), y = .v (.ref p) ∧ m p = some (.dT (dI kvs)) ∧ (kvs = [] ∨ kvs = [([], .d (.str "draw"))] ∨ kvs = [([0], .d (.str "Buy"))] ∨ kvs = [([0], .d .none)])
theorem NoPl.less {m m' : Mm} {y : Val} (h : NoPl m y) (hl : ∀ a o, m a = some o → m' a = some o) : NoPl m' y := by
  rcases h with h | ⟨p, kvs, h1, h2, h3⟩
  · exact Or.inl h
  · exact Or.inr ⟨p, kvs, h1, hl _ _ h2, h3⟩
end DL
/-! list.sort of tuples of which the first one is empty -/
/-! list(d), sorted(d), dict(d) of a dict with tuple keys -/
namespace DL
open PySem L2 PySem.Spec PyProof.Rows
/-! list(d) -/
/-! sorted(d) -/
end DL
/-! dict(d), and these at the level of data -/
namespace DL
open PySem L2 PySem.Spec PyProof.Rows
/-! at the level of data -/
end DL
/-! k21: rules, papers that are over or under, words -/
namespace DL
open PySem L2
end DL
/-! k21: papers that are over or under: plain mathematics, words -/
namespace DL
open PySem L2
def hQ : Rat := mkRat 1 2
/-- papers whose numbers are small enough -/
structure FB (ss : List Int) (P : List Nat → Rat) : Prop where
  nn : ∀ s, Kinds ss.length s → 0 ≤ P s
  fr : ∀ s, Kinds ss.length s → FrB (P s) 1400
  acc : ∀ s, Kinds ss.length s → ∀ i, FrB (dueAcc ss P s (s.take i)) 1400
theorem PB.fb {ss : List Int} (hs : Shares ss) {P : List Nat → Rat} (h : PB ss P) : FB ss P := ⟨fun s hk => (h s hk).nn, fun s hk => (h.fr hs hk).mono (by decide), fun s hk i => (h.accFr hs hk i).mono (by decide)⟩
/-- 1/2 more -/
def addH (P : List Nat → Rat) : List Nat → Rat := fun s => if s = [] then P s else P s + hQ
/-! the time paper's own numbers -/
/-! words -/
/-- a paper stands at p -/
structure PapAt (ss : List Int) (m : Mm) (p : Addr) (P : List Nat → Rat) : Prop where
  sh : Shares ss
  fb : FB ss P
  nil : P [] = 0
  mem : m p = some (.dT (tabT P ([] :: rsX ss.length)))
theorem PapAt.less {ss : List Int} {m m' : Mm} {p : Addr} {P : List Nat → Rat} (h : PapAt ss m p P) (hl : ∀ a o, m a = some o → m' a = some o) : PapAt ss m' p P := ⟨h.sh, h.fb, h.nil, hl _ _ h.mem⟩
/-! what they tell -/
/-- the paper while 1/2 is added -/
def hF (ss : List Int) (l : List (List Nat)) : List Nat → Rat := fun s => if s ∈ l then addH (timeT ss) s else timeT ss s
end DL
/-! things that may be dicts with tuple keys, lists of such things -/
namespace DL
open PySem L2
/-! dicts of data -/
def dV (kds : List (List Int × PyData)) : List (List Int × Val) := kds.map fun e => (e.1, Val.d e.2)
def dctD (kds : List (List Int × PyData)) : PyData := .dict (kds.map fun e => (tupI e.1, e.2))
def lkD (kds : List (List Int × PyData)) (k : List Int) : Option PyData := (kds.find? fun e => decide (e.1 = k)).map (·.2)
theorem getV_dV (kds : List (List Int × PyData)) (k : List Int) : getV (dI (dV kds)) (kI k) = (lkD kds k).map Val.d := by
  induction kds with
  | nil => rfl
  | cons e kds ih =>
    unfold getV lkD dI dV at *
    rw [List.map_cons, List.map_cons, List.find?_cons, List.find?_cons]
    by_cases h : e.1 = k
    · subst h; simp
    · rw [show decide (kI e.1 = kI k) = false from decide_eq_false fun z => h (kI_inj z), show decide (e.1 = k) = false from decide_eq_false h]
      exact ih
end DL
/-! k17: any thing looked at as a paper: plain mathematics, words -/
namespace DL
open PySem L2
def topI : PyData → Int
  | .tuple (.int t :: _) => t
  | _ => 0
def frQ : PyData → Rat
  | .tuple [.int t, .int b] => mkRat t b.toNat
  | _ => 0
def okEn (n : Nat) (e : List Int × PyData) : Bool := areKinds (tupI e.1) (n : Int) && (isFrac e.2 && decide (0 ≤ topI e.2))
def numK (kds : List (List Int × PyData)) (s : List Nat) : Rat := match lkD kds (kn s) with
  | some d => frQ d
  | none => 0
def okPap (n : Nat) (kds : List (List Int × PyData)) : Bool := decide (kds.length = 2 ^ n) && (kds.all (okEn n) && decide (numK kds [] = 0))
/-! things -/
inductive Tg where
  | dat (x : PyData)
  | dct (kds : List (List Int × PyData))
def Tg.data : Tg → PyData
  | .dat x => x
  | .dct kds => dctD kds
/-- the thing t stands at y -/
def Tg.At (m : Mm) (y : Val) : Tg → Prop
  | .dat x => y = .d x ∧ ∀ kvs, x = .dict kvs → kvs.length ≤ 1
  | .dct kds => ∃ p, y = .v (.ref p) ∧ m p = some (.dT (dI (dV kds))) ∧ (kds.map (·.1)).Nodup ∧ kds.length ≤ 100 ∧ ∀ e ∈ kds, szFrac e.2 ∧ e.1.length ≤ 100
theorem Tg.At.less {m m' : Mm} {y : Val} {t : Tg} (h : t.At m y) (hl : ∀ a o, m a = some o → m' a = some o) : t.At m' y := by
  cases t with
  | dat x => exact h
  | dct kds =>
    obtain ⟨p, h1, h2, h3⟩ := h
    exact ⟨p, h1, hl _ _ h2, h3⟩
def Tg.pap (n : Nat) : Tg → Bool
  | .dat _ => false
  | .dct kds => okPap n kds
def Tg.num : Tg → List Nat → Rat
  | .dat _ => fun _ => 0
  | .dct kds => numK kds
/-- a paper stands at p, its keys in any order -/
structure PapD (ss : List Int) (m : Mm) (p : Addr) (kds : List (List Int × PyData)) : Prop where
  sh : Shares ss
  fb : FB ss (numK kds)
  mem : m p = some (.dT (dI (dV kds)))
  num : ∀ s, Kinds ss.length s → lkD kds (kn s) = some (frac (numK kds s))
theorem PapD.get {ss : List Int} {m : Mm} {p : Addr} {kds : List (List Int × PyData)} (h : PapD ss m p kds) {s : List Nat} (hs : Kinds ss.length s) : getV (dI (dV kds)) (kI (kn s)) = some (.d (frac (numK kds s))) := by
  rw [getV_dV, h.num s hs]; rfl
/-- small enough for all that is reckoned -/
def TgB (ss : List Int) (t : Tg) : Prop := t.pap ss.length = true → FB ss t.num
/-! bounds of what is grown -/
/-- bits of the bottoms -/
def gB : Nat → Nat
  | 0 => 0
  | n + 1 => (n + 1) * gB n + 12
/-- each number small: bottoms by how many kinds, tops at most v -/
def GB (ss : List Int) (v : Nat) (P : List Nat → Rat) : Prop := ∀ s, Kinds ss.length s → QB (P s) (gB s.length) v
theorem accB {ss : List Int} (hs : Shares ss) {P : List Nat → Rat} {s : List Nat} {d v : Nat} (hP : ∀ k ∈ s, QB (P (s.filter fun x => !decide (x = k))) d v) : ∀ l : List Nat, (∀ k ∈ l, k ∈ s) → QB (dueAcc ss P s l) (l.length * d) (45 + l.length * (9 * v)) := by
  intro l
  have hsum := shares_sum hs
  have gen : ∀ (l : List Nat) (a : Rat) (c u : Nat), QB a c u → (∀ k ∈ l, k ∈ s) → QB (l.foldl (fun acc k => acc + ((ss.getD k 0 : Int) : Rat) * P (s.filter fun x => !decide (x = k))) a) (c + l.length * d) (u + l.length * (9 * v)) := by
    intro l
    induction l with
    | nil =>
      intro a c u h _
      exact h.mono (by simp) (by simp)
    | cons k t ih =>
      intro a c u h hl
      rw [List.foldl_cons]
      have hb := getD_bounds hs k
      have e1 : ss.getD k 0 = (((ss.getD k 0).toNat : Nat) : Int) := by omega
      have h1 := (hP k (hl k (List.mem_cons_self ..))).mulN (ss.getD k 0).toNat
      rw [← e1] at h1
      have h1 := h1.mono (d' := d) (v' := 9 * v) (Nat.le_refl _) (Nat.mul_le_mul_right _ (by omega))
      have h2 := ih _ _ _ (h.add h1) fun x hx => hl x (List.mem_cons_of_mem _ hx)
      have e2 : (t.length + 1) * (9 * v) = t.length * (9 * v) + 9 * v := Nat.succ_mul _ _
      refine h2.mono ?_ ?_
      · rw [List.length_cons, Nat.succ_mul]; omega
      · show _ ≤ u + (t.length + 1) * (9 * v)
        omega
  intro hl
  have e : ss.sum = ((ss.sum.toNat : Nat) : Int) := by omega
  have h0 : QB ((ss.sum : Int) : Rat) 0 45 := by
    rw [e]
    exact (QB.nat _).mono (Nat.le_refl _) (by omega)
  exact (gen l _ 0 45 h0 hl).mono (by omega) (Nat.le_refl _)
theorem GB.sub {ss : List Int} {v : Nat} {P : List Nat → Rat} (h : GB ss v P) {s : List Nat} (hk : Kinds ss.length s) {n : Nat} (hl : s.length = n + 1) : ∀ k ∈ s, QB (P (s.filter fun x => !decide (x = k))) (gB n) v := fun k hks => by
  have := h _ (kinds_without hk k)
  have hw := without_len hk.up hks
  rw [show (s.filter fun x => !decide (x = k)).length = n by omega] at this
  exact this
theorem gB_le {n : Nat} (h : n ≤ 4) : gB n ≤ 492 := by
  have : n = 0 ∨ n = 1 ∨ n = 2 ∨ n = 3 ∨ n = 4 := by omega
  rcases this with rfl | rfl | rfl | rfl | rfl <;> decide
theorem GB.fb {ss : List Int} (hs : Shares ss) (h4 : ss.length ≤ 4) {v : Nat} (hv : v ≤ 1100000) {P : List Nat → Rat} (h : GB ss v P) : FB ss P := by
  refine ⟨fun s hk => (h s hk).nn, fun s hk => ?_, fun s hk i => ?_⟩
  · have := hk.len
    have := gB_le (n := s.length) (by omega)
    exact ((h s hk).frB (e := 21) (by show _ < 2097152; omega)).mono (by omega)
  · have hl4 := hk.len
    cases hn : s.length with
    | zero =>
      have : s = [] := List.length_eq_zero_iff.mp hn
      subst this
      have := shares_sum hs
      have e : ss.sum = ((ss.sum.toNat : Nat) : Int) := by omega
      have : dueAcc ss P [] (List.take i []) = ((ss.sum : Int) : Rat) := by simp [dueAcc]
      rw [this, e]
      exact ((QB.nat ss.sum.toNat).frB (e := 10) (by show _ < 1024; omega)).mono (by decide)
    | succ n =>
      have hb := accB hs (h.sub hk hn) (s.take i) fun k hk => List.mem_of_mem_take hk
      have hl : (s.take i).length ≤ 4 := by rw [List.length_take]; omega
      have hd := gB_le (n := n) (by omega)
      have hg : gB n ≤ 120 := by
        have : n = 0 ∨ n = 1 ∨ n = 2 ∨ n = 3 := by omega
        rcases this with rfl | rfl | rfl | rfl <;> decide
      have hd2 : (s.take i).length * gB n ≤ 480 := Nat.le_trans (Nat.mul_le_mul hl hg) (by decide)
      have hv2 : (s.take i).length * (9 * v) ≤ 4 * (9 * 1100000) := Nat.mul_le_mul hl (Nat.mul_le_mul_left _ hv)
      exact (hb.frB (e := 26) (by show _ < 67108864; omega)).mono (by omega)
/-! dicts by a table -/
/-! how long dicts are shown -/
/-- what a thing must be like in the law -/
structure Gd (ss : List Int) (t : Tg) : Prop where
  sh : ShA t.data
  b : TgB ss t
/-! the things of k17 -/
/-! what is grown -/
end DL
/-! dicts with tuple keys, some of which are tuples of truths -/
namespace DL
open PySem L2 PySem.Spec PyProof.Rows
def nkI (ns : List Int) : NestedKey := .tup (ns.map NestedKey.num)
inductive OKey where
  | okI (ns : List Int)
  | okB (bs : List Bool)
def b01 (b : Bool) : Int := if b = true then 1 else 0
def OKey.num : OKey → List Int
  | .okI ns => ns
  | .okB bs => bs.map b01
def OKey.data : OKey → PyData
  | .okI ns => tupI ns
  | .okB bs => .tuple (bs.map PyData.bool)
def OKey.At (H : Hp) (b : Addr) : OKey → Prop
  | .okI ns => H b = some (.tup (ns.map V.int))
  | .okB bs => H b = some (.tup (bs.map V.bl))
theorem OKey.At.mono {H H' : Hp} {b : Addr} {z : OKey} (e : Le H H') (h : z.At H b) : z.At H' b := by
  cases z with
  | okI ns => exact e _ _ h
  | okB bs => exact e _ _ h
theorem rpa_bls {K : PySem.W.Frag} {G : Hp} : ∀ (bs : List Bool), RpAll K G (bs.map PyData.bool) (bs.map V.bl)
  | [] => rpa_nil.mpr rfl
  | b :: bs => rpa_cons.mpr ⟨_, _, rfl, rp_bool.mpr rfl, rpa_bls bs⟩
theorem OKey.At.rp {K : PySem.W.Frag} {H : Hp} {b : Addr} {z : OKey} (h : z.At H b) : Rp K H z.data (.ref b) := by
  cases z with
  | okI ns => exact rp_tuple.mpr ⟨b, _, rfl, SqT.of h, rpa_ints _⟩
  | okB bs => exact rp_tuple.mpr ⟨b, _, rfl, SqT.of h, rpa_bls _⟩
section
variable {P : Program} {w : World} {H : Hp} {h : Heap}
theorem nest_bls : ∀ {bs : List Bool} {us : List Value}, Vals (bs.map V.bl) us → NestedAll h ((bs.map b01).map NestedKey.num) us
  | [], us, r => by cases r; exact .nil
  | n :: ns, us, r => by
    cases r with
    | cons r1 r2 =>
      cases r1
      exact .cons (.bool rfl) (nest_bls r2)
theorem ok_is {b : Addr} {z : OKey} (ok : HOk P w H h) (e : z.At H b) : (nestedKind P w).is h (nkI z.num) b := by
  refine ⟨?_, ?_⟩
  · cases z with
    | okI ns => exact nest_ints ok e
    | okB bs =>
      obtain ⟨_, us, r, o, g1, g2, n, g3⟩ := (show ObjOk P w H h b (.tup (bs.map V.bl)) from ok b _ e)
      exact .tup g1 g2 g3 (by rw [List.toList_toArray]; exact nest_bls r)
  · unfold nkI
    simp only [NestedKey.depth, depth_nums]
    decide
end
abbrev OE := OKey × Addr × V
def NkR (p : OE) (q : NestedKey × Addr × Value) : Prop := q.1 = nkI p.1.num ∧ q.2.1 = p.2.1 ∧ RelV p.2.2 q.2.2
/-- the dict at a as one object -/
def nkO (P : Program) (w : World) (a : Addr) (es : List OE) : HO := .ext fun h => (a == sysModules) = false ∧ ∃ xs, Paired NkR es xs ∧ ∃ o en ep, h.get? a = some o ∧ o.ExactDict ∧ o.data = .dict en ep ∧ en.toList = xs.map (entryOfKey (nestedKind P w)) ∧ (xs.map (·.1)).Nodup
/-- read, perhaps while it is walked -/
structure NkW (P : Program) (w : World) (H : Hp) (a : Addr) (es : List OE) : Prop where
  obj : H a = some (nkO P w a es) ∨ ∃ o, H a = some (.frz o (nkO P w a es))
  keys : ∀ e ∈ es, e.1.At H e.2.1
theorem nk_obj {P : Program} {w : World} {H : Hp} {h : Heap} {a : Addr} {es : List OE} (ok : HOk P w H h) (x : H a = some (nkO P w a es) ∨ ∃ o, H a = some (.frz o (nkO P w a es))) : (a == sysModules) = false ∧ ∃ xs, Paired NkR es xs ∧ ∃ o en ep, h.get? a = some o ∧ o.ExactDict ∧ o.data = .dict en ep ∧ en.toList = xs.map (entryOfKey (nestedKind P w)) ∧ (xs.map (·.1)).Nodup := by
  rcases x with e | ⟨o, e⟩
  · obtain ⟨x, _⟩ := (show ObjOk P w H h a (nkO P w a es) from ok a _ e)
    exact x
  · obtain ⟨_, x, _⟩ := (show ObjOk P w H h a (.frz o (nkO P w a es)) from ok a _ e)
    exact x
theorem NkW.dict {P : Program} {w : World} {H : Hp} {h : Heap} {a : Addr} {es : List OE} (ok : HOk P w H h) (x : NkW P w H a es) : (a == sysModules) = false ∧ ∃ xs, Paired NkR es xs ∧ h.DictOfH (nestedKind P w) a xs := by
  obtain ⟨h0, xs, r, o, en, ep, g1, g2, g3, g4, g5⟩ := nk_obj ok x.obj
  refine ⟨h0, xs, r, o, en, ep, g1, g2, g3, g4, fun y hy => ?_, g5⟩
  have all : ∀ {l : List OE} {ys : List (NestedKey × Addr × Value)}, Paired NkR l ys → (∀ e ∈ l, e.1.At H e.2.1) → ∀ y ∈ ys, (nestedKind P w).is h y.1 y.2.1 := fun {l ys} r => by
    induction r with
    | nil => exact fun _ _ z => nomatch z
    | @cons p q ps qs hpq _ ih =>
      intro hk y hy
      rcases List.mem_cons.mp hy with rfl | hy
      · obtain ⟨e1, e2, _⟩ := hpq
        rw [e1, e2]
        exact ok_is ok (hk p List.mem_cons_self)
      · exact ih (fun e he => hk e (List.mem_cons_of_mem _ he)) y hy
  exact all r x.keys y hy
/-! one kind of keys taken as the other -/
/-! readings and rules -/
def tOr (t1 t2 : TE) : TE := fun σ H Q => t1 σ H Q ∨ t2 σ H Q
end DL
/-! dicts with odd keys: walked, told, at the level of data -/
namespace DL
open PySem L2 PySem.Spec PyProof.Rows L2H
/-! walked -/
/-! isinstance, len, repr -/
def dctO (kos : List (OKey × PyData)) : PyData := .dict (kos.map fun e => (e.1.data, e.2))
/-! at the level of data -/
def okP (z : OKey) : Hp → V → Prop := fun G v => ∃ b, v = .ref b ∧ z.At G b
theorem okP.mono {z : OKey} {v : V} (G G' : Hp) (e : Le G G') (h : okP z G v) : okP z G' v := by
  obtain ⟨b, h1, h2⟩ := h
  exact ⟨b, h1, h2.mono e⟩
def OrG (K : PySem.W.Frag) (G : Hp) (p : OKey × PyData) (e : OE) : Prop := e.1 = p.1 ∧ p.1.At G e.2.1 ∧ VR K G (.d p.2) e.2.2
theorem org_keys {K : PySem.W.Frag} {G H : Hp} (e : Le G H) {kos : List (OKey × PyData)} {es : List OE} (r : Paired (OrG K G) kos es) : ∀ x ∈ es, x.1.At H x.2.1 := by
  induction r with
  | nil => exact fun _ h => nomatch h
  | cons h _ ih =>
    intro x hx
    rcases List.mem_cons.mp hx with rfl | hx
    · rw [h.1]; exact h.2.1.mono e
    · exact ih x hx
def oddQ (K : PySem.W.Frag) (P : Program) (w : World) (kos : List (OKey × PyData)) : Hp → Hp → Addr → Prop := fun G H a => ∃ es : List OE, H a = some (nkO P w a es) ∧ Paired (OrG K G) kos es
def oddM (K : PySem.W.Frag) (P : Program) (w : World) (kos : List (OKey × PyData)) : MO := .g (oddQ K P w kos)
def oddWQ (K : PySem.W.Frag) (P : Program) (w : World) (o : Obj) (es : List OE) (kos : List (OKey × PyData)) : Hp → Hp → Addr → Prop := fun G H a => H a = some (.frz o (nkO P w a es)) ∧ Paired (OrG K G) kos es
/-- one that is being walked -/
def oddW (K : PySem.W.Frag) (P : Program) (w : World) (o : Obj) (es : List OE) (kos : List (OKey × PyData)) : MO := .g (oddWQ K P w o es kos)
section
variable {K : PySem.W.Frag} {P : Program} {w : World} {G H : Hp} {a p : Addr} {kos : List (OKey × PyData)} {o : Obj} {es : List OE}
theorem Sta.odd {m : Mm} (S : Sta K m H G) (hm : m p = some (oddM K P w kos)) : ∃ es, H p = some (nkO P w p es) ∧ Paired (OrG K G) kos es := by
  obtain ⟨⟨es, h1, h2⟩, _⟩ := S.mem p _ hm
  exact ⟨es, h1, h2⟩
def OdDat (K : PySem.W.Frag) (P : Program) (w : World) (m : Mm) (p : Addr) (kos : List (OKey × PyData)) : Prop := m p = some (oddM K P w kos) ∨ ∃ o es, m p = some (oddW K P w o es kos)
theorem OdDat.rd {m : Mm} (h : OdDat K P w m p kos) (S : Sta K m H G) : ∃ es, NkW P w H p es ∧ Paired (OrG K G) kos es := by
  rcases h with h | ⟨o, es, h⟩
  · obtain ⟨es, h1, h2⟩ := S.odd h
    exact ⟨es, ⟨Or.inl h1, org_keys S.sub h2⟩, h2⟩
  · obtain ⟨⟨h1, h2⟩, _⟩ := S.mem p _ h
    exact ⟨es, ⟨Or.inr ⟨o, h1⟩, org_keys S.sub h2⟩, h2⟩
end
end DL
/-! t[::-1] of a tuple -/
namespace DL
open PySem L2 PySem.Spec PyProof.Rows HT
end DL
set_option exponentiation.threshold 9000
/-! k15: time papers looked at: plain mathematics, words -/
namespace DL
open PySem L2
/-- an odd dict: one key is a tuple of truths -/
structure OdAt (K : PySem.W.Frag) (P : Program) (w : World) (m : Mm) (p : Addr) (kos : List (OKey × PyData)) : Prop where
  mem : m p = some (oddM K P w kos)
  nd : (kos.map fun e => e.1.num).Nodup
  few : kos.length ≤ 100
  ok : ∀ e ∈ kos, szFrac e.2 ∧ e.1.num.length ≤ 100
  okb : ∀ e ∈ kos, ∀ bs, e.1 = .okB bs → bs ≠ []
  odd : ∃ e ∈ kos, ∃ bs, e.1 = .okB bs
theorem Tg.At.nd {m : Mm} {y : Val} {t : Tg} (h : t.At m y) : ∀ kds, t = .dct kds → (kds.map (·.1)).Nodup := fun kds e => by
  subst e
  obtain ⟨p, _, _, h, _⟩ := h
  exact h
/-! words -/
/-! bounds -/
/-! the things of k15 -/
def ThG (K : PySem.W.Frag) (P : Program) (w : World) (ss : List Int) (m : Mm) (y : Val) : Prop := (∃ t : Tg, t.At m y ∧ Gd ss t) ∨ ∃ (p : Addr) (kos : List (OKey × PyData)), y = .v (.ref p) ∧ OdAt K P w m p kos ∧ ShA (dctO kos)
section
variable {K : PySem.W.Frag} {P : Program} {w : World} {ss : List Int} {m m' : Mm} {y : Val}
theorem ThG.agree (h : ThG K P w ss m y) (e : ∀ p, y = .v (.ref p) → m' p = m p) : ThG K P w ss m' y := by
  rcases h with ⟨t, h, g⟩ | ⟨p, kos, rfl, ho, g⟩
  · refine Or.inl ⟨t, ?_, g⟩
    cases t with
    | dat x => exact h
    | dct kds =>
      obtain ⟨p, rfl, h1, h2⟩ := h
      exact ⟨p, rfl, (e p rfl).trans h1, h2⟩
  · exact Or.inr ⟨p, kos, rfl, ⟨(e p rfl).trans ho.mem, ho.nd, ho.few, ho.ok, ho.okb, ho.odd⟩, g⟩
theorem ThG.at (h : ThG K P w ss m y) {p : Addr} (e : y = .v (.ref p)) : ∃ o, m p = some o ∧ ∀ xs, o ≠ .lst xs := by
  rcases h with ⟨t, h, g⟩ | ⟨p', kos, h, ho, g⟩
  · cases t with
    | dat x => rw [e] at h; exact nomatch h.1
    | dct kds =>
      obtain ⟨p', h, h1, h2⟩ := h
      rw [e] at h
      cases h
      exact ⟨_, h1, fun xs z => nomatch z⟩
  · rw [e] at h
    cases h
    exact ⟨_, ho.mem, fun xs z => nomatch z⟩
theorem ThG.less (h : ThG K P w ss m y) (hx : Ext m m') : ThG K P w ss m' y := h.agree fun p e => by
  obtain ⟨o, h1, _⟩ := h.at e
  rw [h1, hx p o h1]
end
end DL
/-! defs that want to know that nothing is being shown around them, called -/
namespace DL
open PySem L2 PySem.Spec PyProof.Rows
end DL
/-! sorted(d) of a dict whose keys are tuples with an item at least -/
namespace DL
open PySem L2 PySem.Spec PyProof.Rows
end DL
set_option exponentiation.threshold 9000
/-! k61: plans looked at: a walk over a dict that is data, plain mathematics, words -/
namespace DL
open PySem L2
/-! plans -/
/-! how keys are shown -/
theorem o2_inStrL {K : PySem.W.Frag} {m : Mm} {Q : Val → Mm → Prop} {x : Str} {xs : List Str} {neg : Bool} (q : Q (.d (.bool (if neg then !decide (x ∈ xs) else decide (x ∈ xs)))) m) : Op2 K (rIn K neg) (.d (.str x)) (.d (.list (xs.map PyData.str))) m Q := fun H G v w S a b R k => by
  rw [str_of a]
  obtain ⟨p, ys, rfl, g1, g2⟩ := rp_list.mp b.rp
  rw [g2.strs] at g1
  refine ⟨p, _, rfl, Or.inl (Or.inl (Le.rd S.sub g1)), rfl, by rw [List.all_map, List.all_eq_true]; exact fun _ _ => rfl, ?_⟩
  rw [inV_strs]
  exact k _ H G _ m q S (Le.refl G) vr_bool
/-! the law's odd things -/
end DL
/-! instances of a class: attributes, methods, at the level of data; tuples of any things; tuples known whole put together -/
namespace DL
open PySem L2 PySem.Spec PyProof.Rows L2H
/-! tuples known whole: displays and sums -/
/-! attributes as targets -/
/-! methods -/
/-! K-named rules -/
/-! ## the level of data -/
def vtQ (K : PySem.W.Frag) (rs : List Val) : Hp → V → Prop := fun G v => ∃ p xs, v = .ref p ∧ G p = some (.tup xs) ∧ VRs K G rs xs
section
variable {K : PySem.W.Frag} {G H : Hp} {a p C : Addr} {fs : List (Str × Val)} {m : Mm}
theorem vtQ.mono {rs : List Val} {v : V} (G G' : Hp) (e : Le G G') (h : vtQ K rs G v) : vtQ K rs G' v := by
  obtain ⟨p, xs, h1, h2, h3⟩ := h
  exact ⟨p, xs, h1, e _ _ h2, h3.mono e⟩
end
end DL
/-! the desk: further rules (count, or of texts, signs of a text, parts of a text, a try that is not needed), its attributes -/
namespace DL
open PySem L2 PySem.Spec PyProof.Rows L2H
/-! ## the level of data -/
section
variable {K : PySem.W.Frag} {r : List Val} {m : Mm} {Q : Val → Mm → Prop} {ta tb te to tl : TE} {t : TS} {N : List Val → Mm → Prop} {E : Val → Mm → Prop}
/-- s[a:b] -/
theorem ev_slS {tl th : TO} (h : Ev K te r m fun x m1 => ∃ s : Str, x = .d (.str s) ∧ s.length ≤ 100000 ∧ EvO K tl r m1 fun lo m2 => EvO K th r m2 fun hi m3 => Q (.d (.str (cutS s lo hi))) m3) : Ev K (tSl rSlS te tl th) r m Q := fun σ H G S L R k =>
  h σ H G S L _ fun v H1 G1 x m1 ⟨s, hx, hz, h1⟩ S1 e1 r1 => h1 σ H1 G1 S1 (L.mono e1) _ fun H2 G2 lo m2 h2 S2 e2 => h2 σ H2 G2 S2 (L.mono (e1.trans e2)) _ fun H3 G3 hi m3 q S3 e3 => by
    subst hx
    have r1 := str_of r1
    subst r1
    exact ⟨s, rfl, Nat.le_trans hz (by decide), k _ H3 G3 _ m3 q S3 (e1.trans (e2.trans e3)) vr_str⟩
end
/-! the attributes of the desk -/
end DL
/-! an own exception class whose __init__ calls its program's own base class: G.__init__(self, ..) -/
namespace L2
open PySem PySem.Spec PyProof.Rows
section
variable {X : Cx} {e : Expr} {es : List Expr} {ta : TA} {p1 p2 pos : Pos}
/-- ValueError.__init__ is handed the object and what it is made of -/
theorem geinit_end {pins : List (Addr × Obj)} {σ : St} {H1 : Hp} {Q : VK} {s1 : Shared} {us : List Value} {vs : List V} (I1 : Inv X pins σ H1 s1) (rel : Vals vs us)
    (h : ∃ (a C : Addr) (ws : List V), vs = .ref a :: ws ∧ ws.length ≤ 1000 ∧ OexC X.K C ∧ H1 a = some (exo a C none) ∧ Q .non H1) : wpAny (model X.prog X.w) X.A (call (.builtin "ValueError.__init__") us) (EP X pins σ Q) X.xe s1 := by
  obtain ⟨a, C, ws, rfl, few, T, ea, q⟩ := h
  match us, rel with
  | _ :: rest, .cons first others =>
    cases (show _ = Value.ref a from first)
    exact oinit_ok T I1 ea (Nat.le_trans (Paired.length others ▸ few) (by decide)) fun t J => ⟨.non, H1, J, rfl, q⟩
theorem pe_geinit {x : Str} {Gc : Addr} {mc : Value} {pl : Sem Bool} (hg : Gl X x) (hm : X.mg x = some (.ref Gc)) (r : ClX.CRead X.K Gc mc) (vV : PySem.W.findCls X.K (.ref Gc) mc "__init__" = some (.val (.builtin "ValueError.__init__"))) (ha : PA X (e :: es) ta)
    (hc : eval (.Call (.Attribute (.Name x p1) "__init__" p2) (e :: es) [] pos) X.env = (do
      let ov ← eval (.Name x p1) X.env
      standAt p2.atName
      let (f, first) ← holding [ov] (getMethod ov "__init__" pl)
      callWith pos f first (backTo pos (starEach (e :: es) X.env)) (backToKw pos (keywordEach [] X.env))) := by rfl)
    (he : starEach (e :: es) X.env = (false, eval e X.env) :: starEach es X.env := by rfl) (hpl : (backTo pos (starEach es X.env)).any (·.1) = false := by rfl) (hd : (x == ("__debug__" : Str)) = false := by decide) :
    PE X (.Call (.Attribute (.Name x p1) "__init__" p2) (e :: es) [] pos) (tVeI X.K ta) :=
  ⟨fun pins s σ H Q I h =>
    have called := PyProof.Rows.callWith_method1 (pos := pos) (first := []) (thn (ha.run pos pins _ σ H _ (I.tok _) h) fun us t ⟨vs, H1, J, rel, z⟩ => geinit_end J rel z) he hpl
    PySem.W.methodCall_KW (ld_glob I hg hm (PySem.W.method_cls I.kIn r.ga (PySem.W.cls_value I.kIn r.rd vV (by decide +kernel) called)) hd) hc⟩
end
end L2
/-! an exception with a number of its own: its __init__ -/
namespace DL
open PySem L2 PySem.Spec PyProof.Rows L2H
section
variable {P : Program} {w : World} {K : PySem.W.Frag} {mg : Str → Option Value} {base : Heap}
def spInit (K : PySem.W.Frag) : Sp := fun vs H Q E => ∃ (a C : Addr) (z : V), vs = [.ref a, z] ∧ OexC K C ∧ PySem.W.findIn K (.ref C) "at" = some none ∧ H a = some (exo a C none) ∧
  ∀ dx, H dx = none → dx ≠ a → Q .non (upd (upd H dx (exd dx [("at", z)])) a (exo a C (some dx)))
theorem init_ok {qual : Str} {st : Stmt} {f : Addr} {fd : FuncData} {k : Nat} {msg : Str} (F : Fun K "__init__" qual st f fd) (S : FnScope ["self", "at"] ["self", "at"] (defScope st))
    (hb : ∀ (cdv : Value) (A : Around) (outer : List Env) (s : Shared) (H : Hp) (E : XK), Room k (A.deeper (PyProof.Rows.envOfC qual (defScope st) s.heap.objs.size f cdv)) →
      PSs (cxOf CX0 P w K mg base ["self", "at"] qual (defScope st) f cdv A outer s H E).nox (defBody st) (tSeq (tDrop (tVeI K (tCons (tVar 0) (tCons (tC (.str msg)) tNil)))) (tOst K "at" (tVar 0) (tVar 1)))) :
    FnOk P w K mg base CX0 (k + 1) f fd ["self", "at"] (spInit K) := by
  refine F.ok S (fun vs H Q E h => ?_) (fun cdv A outer s H vs Q E hr h => ?_)
  · obtain ⟨a, C, z, rfl, _⟩ := h
    rfl
  · obtain ⟨a, C, z, rfl, T, hno, ha, q⟩ := h
    refine ⟨_, hb cdv A outer s H E hr, ?_⟩
    exact ⟨.ref a, rfl, a, C, [.str msg], rfl, by show 1 ≤ 1000; decide, T, ha, z, rfl, .ref a, rfl, a, C, rfl, T, hno, Or.inl ⟨ha, q⟩⟩
/-- words that refuse with a number -/
abbrev FSpY := List Val → Mm → (Val → Mm → Prop) → (Addr → Int → Mm → Prop) → Prop
def xdN (z : Int) : HO := .xd [("at", .int z)]
def spY (K : PySem.W.Frag) (f : FSpY) : Sp := fun vs H Q E => ∃ m G args R X, Sta K m H G ∧ VRs K G args vs ∧ f args m R X ∧ (∀ v H' G' x m', R x m' → Sta K m' H' G' → Le G G' → VR K G' x v → Q v H') ∧
  (∀ C z m' H' G' d, X C z m' → Sta K m' H' G' → Le G G' → G' d = some (xdN z) → E (.ref C) (some d) H')
/-- what is refused with a number is taken -/
def TkY (K : PySem.W.Frag) (G0 : Hp) (r : List Val) (W : L2.WX) (X : Addr → Int → Mm → Prop) : Prop := ∀ C z m' H' G' σ d, X C z m' → Sta K m' H' G' → Le G0 G' → Sl K G' r σ → G' d = some (xdN z) → W (.ref C) (some d) σ H'
/-- raise C(e) -/
def tRaiseO (K : PySem.W.Frag) (C : Addr) (te : TE) (W : L2.WX) : TS := fun _ σ H => tMkO C (spInit K) [] (tCons te tNil) σ H fun cls d H' => W cls d σ H'
/-- an object of class C, just laid, behind the tuple of what it is made of -/
def bornH (C : Addr) (us : List Value) (h : Heap) : Heap := (h.push (PySem.W.kdv_tup us)).push (PySem.HandSPX.excO C h.objs.size)
section
variable {X : Cx} {pins : List (Addr × Obj)} {σ : L2.St} {H : Hp} {s : Shared} {C : Addr} {us : List Value}
theorem born_up (b : Addr) (u : Obj) (e : s.heap.get? b = some u) : (bornH C us s.heap).get? b = some u := by
  unfold bornH
  exact Heap.get?_push_of_some _ (Heap.get?_push_of_some _ e)
theorem born_here (C : Addr) (us : List Value) (h : Heap) : (bornH C us h).get? (h.objs.size + 1) = some (PySem.HandSPX.excO C h.objs.size) := by
  unfold bornH
  heap_get
theorem born_inv (I : L2.Inv X pins σ H s) : L2.Inv X pins σ (upd H (s.heap.objs.size + 1) (exo (s.heap.objs.size + 1) C none)) { s with heap := bornH C us s.heap } :=
  I.laid (t' := s.toks) born_up (Nat.le_succ _) (exo_ok (born_here C us s.heap))
end
/-- what __init__ of such a class leaves: the object, kept from now on without a context -/
theorem left_made {X : Cx} {pins : List (Addr × Obj)} {σ : L2.St} {H1 H2 : Hp} {Q : XK} {s1 s2 : Shared} {C d : Addr} {us : List Value} {fs : List (Str × V)} (T : OexC X.K C) (I : L2.Inv X pins σ H1 s1) (un : Un (frs X.stack) [] (upd H1 (s1.heap.objs.size + 1) (exo (s1.heap.objs.size + 1) C none)) H2 (bornH C us s1.heap) s2.heap)
    (ok : HOk X.prog X.w H2 s2.heap) (os : s2.os = s1.os) (bare : AllBare s2.gens) (ea : H2 (s1.heap.objs.size + 1) = some (exo (s1.heap.objs.size + 1) C (some d))) (ed : H2 d = some (exd d fs)) (hd : H1 d = none) (q : Q (.ref C) (some d) (upd (L2.del H2 (s1.heap.objs.size + 1)) d (.xd fs))) :
    L2N.MkP X pins σ Q (.ref (s1.heap.objs.size + 1)) s2 := by
  obtain ⟨h1, g1, d1, t1, o1⟩ := s1
  obtain ⟨h2, g2, d2, t2, o2⟩ := s2
  have up : ∀ b u, h1.get? b = some u → (bornH C us h1).get? b = some u := born_up (s := ⟨h1, g1, d1, t1, o1⟩)
  obtain ⟨t0, G, J, keep, here, was, no⟩ := mk_end0 (d2 := d2) (t2 := t2) I (Nat.le_succ _) up un ok os bare ea ed hd
  have plain : L2N.Zn (.ref C) (some d) { cls := .ref C, dict := some d, data := .fields #[.ref t0, .none, .none, .none, .bool false, .none] } := ⟨rfl, rfl, fun vs e => by cases e; rfl⟩
  exact ⟨_, _, _, ⟨G, g2, d2, t2, o2⟩, _, _, _, rfl, J, keep, here, was, plain, rfl, rfl, no, rfl, bare, raises_own T.exC T.tyC, q⟩
/-- C(..), C keeps a number: its call, then its __init__ -/
theorem pmkN_oex {X : Cx} {CX : CXT} {x : Str} {C fI : Addr} {e : Expr} {es : List Expr} {ta : TA} {k : Nat} {fd : FuncData} {p pos : Pos} {ps : List Str} {sp : Sp} {ds : List Value} {dvs : List V} (T : OexC X.K C) (iC : PySem.W.findIn X.K (.ref C) "__init__" = some (some (.ref fI))) (tI : PySem.W.typeIn X.K (.ref fI) = some (.type "function"))
    (F1 : FnOk X.prog X.w X.K X.mg X.base CX k fI fd ps sp) (hr : Room (k + 1) X.A) (hb : Binds X.K fd ps ds) (hd : Vals dvs ds) (hx : Passes CX X (fun _ _ _ => False)) (hg : Gl X x) (hm : X.mg x = some (.ref C)) (ha : PA X (e :: es) ta)
    (hdb : (x == ("__debug__" : Str)) = false) (he : starEach (e :: es) X.env = (false, eval e X.env) :: starEach es X.env) (hpl : (backTo pos (starEach es X.env)).any (·.1) = false) :
    L2N.PMk X (.Call (.Name x p) (e :: es) [] pos) (tMkO C sp dvs ta) := fun pins s σ H Q I h => by
  obtain ⟨_, _, _, _, bm, _, _, _, _, _, _, _, _, _, _, inC, refs⟩ := T.cls
  have args := ha.run pos pins s σ H _ I h
  refine wpAny_Call_Name_kw (ld_glob I hg hm (PySem.W.callWith_K (h₀ := X.base) I.ok.mod.kin T.kC (wpAny_mono args (fun us s1 made => ?_) fun _ _ z => z) he hpl) hdb)
  obtain ⟨vs, H1, I1, rel, few, next⟩ := made
  refine ⟨I1.kIn, ?_⟩
  have q := next _ (I1.hok.fresh (Nat.le_succ s1.heap.objs.size))
  have J := born_inv (C := C) (us := us) I1
  have all : Vals (V.ref (s1.heap.objs.size + 1) :: (vs ++ dvs)) (Value.ref (s1.heap.objs.size + 1) :: (us ++ ds)) := .cons rfl (rel.append hd)
  have many : (Value.ref (s1.heap.objs.size + 1) :: us ++ ds).length = ps.length := (F1.len _ _ _ _ q ▸ all.length).symm
  have line : us.length ≤ sizeLine := Nat.le_trans (Paired.length rel ▸ few) (by decide)
  have run := F1.run _ X.stack _ _ ⟨Value.ref (s1.heap.objs.size + 1) :: us, []⟩ _ _ _ (fun _ _ _ => False) (hr.make C us []) (J.env0.make C us []) (hb _ _ J.kIn many) all q
  refine wpAny_call (PySem.HandSPX.call_own F.excBase_ValueError (fun Y => PySem.HandSPX.refsVE_contains Y bm refs) (I1.kIn _ _ inC) (PySem.W.looks_findIn I1.kIn iC) (fun self => PySem.W.bind_fn I1.kIn self tI) line (codeAny_mono run fun r s2 out => ?_))
  match r, out with
  | .error er, out => exact hx pins σ _ _ er s2 J out
  | .ok (.ret _), ⟨v, H2, os, bare, un, ok, rv, ev, d, fs, ea, ed, hd1, q2⟩ =>
    subst ev
    exact ⟨rv, left_made T I1 un ok os bare ea ed hd1 q2⟩
theorem ps_raiseO {X : Cx} {W : L2.WX} {C fI : Addr} {x : Str} {e : Expr} {te : TE} {k : Nat} {fd : FuncData} {p pos pos' : Pos} (T : OexC X.K C) (iC : PySem.W.findIn X.K (.ref C) "__init__" = some (some (.ref fI))) (tI : PySem.W.typeIn X.K (.ref fI) = some (.type "function"))
    (F1 : FnOk X.prog X.w X.K X.mg X.base CX0 k fI fd ["self", "at"] (spInit X.K)) (hr : Room (k + 1) X.A) (hb : Binds X.K fd ["self", "at"] []) (hg : Gl X x) (hm : X.mg x = some (.ref C)) (tk : L2N.Takes X W) (he : PE X e te) (hc : X.calm = true := by rfl)
    (hdb : (x == ("__debug__" : Str)) = false := by decide) (he2 : starEach [e] X.env = (false, eval e X.env) :: starEach [] X.env := by rfl) (hpl : (backTo pos (starEach [] X.env)).any (·.1) = false := by rfl) :
    PS X (.Raise (some (.Call (.Name x p) [e] [] pos)) none pos') (tRaiseO X.K C te W) :=
  L2N.ps_raise hc tk (pmkN_oex T iC tI F1 hr hb .nil (fun _ _ _ _ _ _ _ h => h.elim) hg hm (pa_cons he pa_nil he2) hdb he2 hpl)
section
variable {G0 : Hp} {r : List Val} {m : Mm} {Q : Val → Mm → Prop} {N : List Val → Mm → Prop} {E : Val → Mm → Prop} {te : TE} {W : L2.WX} {X : Addr → Int → Mm → Prop}
theorem wy_raise {C : Addr} (T : OexC K C) (hno : PySem.W.findIn K (.ref C) "at" = some none) (hW : TkY K G0 r W X) (h : Ev K te r m fun x m1 => ∃ z : Int, x = .d (.int z) ∧ X C z m1) : Wx K G0 (tRaiseO K C te W) r m N E := fun σ H G D g0 S L a b => by
  refine h σ H G S L _ fun v H1 G1 x m1 ⟨z, hx, q⟩ S1 e1 r1 => ?_
  subst hx
  have r1 := int_of r1
  subst r1
  refine ⟨by show 1 ≤ 1000; decide, fun a1 ha1 => ?_⟩
  refine ⟨a1, C, .int z, rfl, T, hno, upd_same, fun dx hdx hne => ⟨rfl, dx, [("at", .int z)], upd_same, ?_, ?_, ?_⟩⟩
  · rw [upd_ne hne, upd_same]
  · rw [upd_ne hne] at hdx
    exact hdx
  · rw [upd_ne hne] at hdx
    have e : upd (L2.del (upd (upd (upd H1 a1 (exo a1 C none)) dx (exd dx [("at", .int z)])) a1 (exo a1 C (some dx))) a1) dx (.xd [("at", .int z)]) = upd H1 dx (xdN z) := by
      funext b
      by_cases h1 : b = dx
      · subst h1
        rw [upd_same, upd_same]
        rfl
      · rw [upd_ne h1, upd_ne h1]
        by_cases h2 : b = a1
        · subst h2
          rw [L2.del_same, ha1]
        · rw [L2.del_ne h2, upd_ne h2, upd_ne h1, upd_ne h2]
    rw [e]
    have hg := S1.free hdx
    exact hW C z m1 _ (upd G1 dx (xdN z)) σ dx q (S1.fix hdx) (g0.trans (e1.trans (Le.new hg))) ((L.mono e1).mono (Le.new hg)) upd_same
theorem evy_call {f : FSpY} {t : TA} (hW : TkY K G0 r W X) (h : EvA K t r m fun xs m1 => f xs m1 Q X) : EvX K G0 (tCallS (spY K f) (WE W) t) r m Q := fun σ H G g0 S L R k =>
  h σ H G S L _ fun vs H1 G1 xs m1 h1 S1 e1 r1 =>
    ⟨m1, G1, xs, Q, X, S1, r1, h1, fun v' H3 G3 z m3 h3 S3 e3 r3 => k v' H3 G3 z m3 h3 S3 (e1.trans e3) r3, fun C z m' H' G' d hx S' e' hd => hW C z m' H' G' σ d hx S' (g0.trans (e1.trans e')) (L.mono (e1.trans e')) hd⟩
end
structure ClY (P : Program) (w : World) (K : PySem.W.Frag) (mg : Str → Option Value) (base : Heap) (k : Nat) (x : Str) (sp : FSpY) : Prop where
  ex : ∃ f fd ps, FnOk P w K mg base (L2N.CX P w) k f fd ps (spY K sp) ∧ mg x = some (.ref f) ∧ PySem.W.keepIn K (.ref f) = true ∧ Binds K fd ps []
theorem pe_clY {X : Cx} {W : L2.WX} {k j : Nat} {x : Str} {sp : FSpY} {e : Expr} {es : List Expr} {t : TA} {p pos : Pos} (c : ClY P w K mg base k x sp) (hr : Room j X.A) (hk : k ≤ j) (hg : Gl X x) (tk : L2N.Takes X W) (ha : PA X (e :: es) t)
    (hP : X.prog = P := by rfl) (hw : X.w = w := by rfl) (hK : X.K = K := by rfl) (hmg : X.mg = mg := by rfl) (hbs : X.base = base := by rfl)
    (hdb : (x == ("__debug__" : Str)) = false := by decide)
    (he : starEach (e :: es) X.env = (false, eval e X.env) :: starEach es X.env := by rfl) (hpl : (backTo pos (starEach es X.env)).any (·.1) = false := by rfl) :
    PE X (.Call (.Name x p) (e :: es) [] pos) (tCallS (spY K sp) (WE W) t) := by
  subst hP hw hK hmg hbs
  obtain ⟨f, fd, ps, F, hm, hkp, hb⟩ := c.ex
  exact pe_callS F (hr.mono hk) hg hm hkp hb (fun σ => L2N.passAt tk σ) ha hdb he hpl
theorem fnY_ok {x qual : Str} {st : Stmt} {f : Addr} {fd : FuncData} {N ps : List Str} {k : Nat} {sp : FSpY} (F : Fun K x qual st f fd) (S : FnScope N ps (defScope st)) (hl : ∀ args m R X, sp args m R X → args.length = ps.length)
    (hb : ∀ (cdv : Value) (A : Around) (outer : List Env) (s : Shared) (H : Hp) (E : XK), Room k (A.deeper (envOfC qual (defScope st) s.heap.objs.size f cdv)) →
      ∃ t, PSs (cxOf (L2N.CX P w) P w K mg base N qual (defScope st) f cdv A outer s H E) (defBody st) t ∧
        ∀ args m R X, sp args m R X → ∀ G0, (∀ r, TkY K G0 r (fun cls d _ H => E cls d H) X) → Wx K G0 t (args ++ List.replicate (N.length - args.length) .any) m (fun _ m' => R (.d .none) m') R) :
    FnOk P w K mg base (L2N.CX P w) (k + 1) f fd ps (spY K sp) := by
  obtain ⟨oc, od, kV, doc, pm, an, cdv, ct, osl, rfl, lk, hcd⟩ := F.ex
  refine fn_of lk hcd S (fun vs H Q E h => ?_) fun A outer s H vs Q E hr h => ?_
  · obtain ⟨m, G, args, R, X, S1, r1, h1, _⟩ := h
    rw [r1.length]; exact hl args m R X h1
  · obtain ⟨m, G, args, R, X, S1, r1, h1, k1, k2⟩ := h
    obtain ⟨t, ht, hw⟩ := hb cdv A outer s H E hr
    refine ⟨t, ht, ?_⟩
    refine hw args m R X h1 G (fun r C z m' H' G' σ d hx S' e' _ hd => k2 C z m' H' G' d hx S' e' hd) _ H G _ (Le.refl G) S1 ?_ (fun σ' H' G' r' m' hn S' e' L' => k1 .non H' G' (.d .none) m' hn S' e' (.d (rp_none.mpr rfl))) (fun v H' G' x m' hn S' e' L' => k1 v H' G' x m' hn S' e' L')
    unfold L2.start
    rw [r1.length]
    exact Sl.start _ r1
/-- what the written part says of a class whose exceptions keep a number -/
structure OxT (P : Program) (w : World) (K : PySem.W.Frag) (mg : Str → Option Value) (base : Heap) (k : Nat) (x : Str) (C : Addr) : Prop where
  g : mg x = some (.ref C)
  T : OexC K C
  hno : PySem.W.findIn K (.ref C) "at" = some none
  ini : ∃ fI fd, PySem.W.findIn K (.ref C) "__init__" = some (some (.ref fI)) ∧ PySem.W.typeIn K (.ref fI) = some (.type "function") ∧ FnOk P w K mg base CX0 k fI fd ["self", "at"] (spInit K) ∧ Binds K fd ["self", "at"] []
theorem ps_rfO {X : Cx} {W : L2.WX} {C : Addr} {x : Str} {e : Expr} {te : TE} {k j : Nat} {p pos pos' : Pos} (c : OxT P w K mg base k x C) (hr : Room j X.A) (hk : k + 1 ≤ j) (hg : Gl X x) (tk : L2N.Takes X W) (he : PE X e te) (hc : X.calm = true := by rfl)
    (hP : X.prog = P := by rfl) (hw : X.w = w := by rfl) (hK : X.K = K := by rfl) (hmg : X.mg = mg := by rfl) (hbs : X.base = base := by rfl)
    (hdb : (x == ("__debug__" : Str)) = false := by decide) (he2 : starEach [e] X.env = (false, eval e X.env) :: starEach [] X.env := by rfl) (hpl : (backTo pos (starEach [] X.env)).any (·.1) = false := by rfl) :
    PS X (.Raise (some (.Call (.Name x p) [e] [] pos)) none pos') (tRaiseO K C te W) := by
  subst hP hw hK hmg hbs
  obtain ⟨fI, fd, h1, h2, F1, hb⟩ := c.ini
  exact ps_raiseO c.T h1 h2 F1 (hr.mono hk) hb hg c.g tk he hc hdb he2 hpl
end
end DL
set_option exponentiation.threshold 9000
/-! k04: what a text of shares writes, or where it is wrong -/
namespace DL
open PySem L2
def okW (w : Str) : Bool := decide (w.length = 1) && !(Builtin.Str.occurrences "123456789" w 0 (Str.ofString "123456789").length 1).isEmpty
theorem nine_cps : ("123456789" : Str).cps.toList = [49, 50, 51, 52, 53, 54, 55, 56, 57] := by decide +kernel
theorem okW_dg : ∀ d : _root_.Fin 9, okW (dg ((d.val + 1 : Nat) : Int)) = true ∧ (⟨#[49 + d.val]⟩ : Str) = dg ((d.val + 1 : Nat) : Int) := by decide +kernel
theorem okW_iff {w : Str} : okW w = true ↔ ∃ z : Int, 1 ≤ z ∧ z ≤ 9 ∧ w = dg z := by
  constructor
  · intro h
    unfold okW at h
    rw [Bool.and_eq_true] at h
    obtain ⟨h1, h2⟩ := h
    have h1 : w.cps.size = 1 := of_decide_eq_true h1
    obtain ⟨c, hc⟩ : ∃ c, w = ⟨#[c]⟩ := by
      obtain ⟨⟨l⟩⟩ := w
      match l, h1 with
      | [c], _ => exact ⟨c, rfl⟩
    subst hc
    have h3 : (!(Builtin.Str.occurrences ("123456789" : Str) ⟨#[c]⟩ 0 ("123456789" : Str).length 1).isEmpty) = true := h2
    rw [PySem.StrLaws.found_one, nine_cps] at h3
    have h4 := of_decide_eq_true h3
    have h5 : 49 ≤ c ∧ c ≤ 57 := by
      simp only [List.mem_cons, List.not_mem_nil, or_false] at h4
      omega
    obtain ⟨_, h6⟩ := okW_dg ⟨c - 49, by omega⟩
    refine ⟨((c - 49 + 1 : Nat) : Int), by omega, by omega, ?_⟩
    have h7 : 49 + (c - 49) = c := by omega
    have h6 : (⟨#[49 + (c - 49)]⟩ : Str) = dg ((c - 49 + 1 : Nat) : Int) := h6
    rw [h7] at h6
    exact h6
  · rintro ⟨z, h1, h2, rfl⟩
    obtain ⟨h3, _⟩ := okW_dg ⟨z.toNat - 1, by omega⟩
    have e : ((z.toNat - 1 + 1 : Nat) : Int) = z := by omega
    have h3 : okW (dg ((z.toNat - 1 + 1 : Nat) : Int)) = true := h3
    rw [e] at h3
    exact h3
/-- the first wrong word, if any -/
def badAt : Nat → List Str → Option Nat
  | _, [] => none
  | i, w :: ws => if i = 5 ∨ okW w = false then some i else badAt (i + 1) ws
def valW (w : Str) : Int := (PySem.intText? w).getD 0
theorem okW_list : ∀ d : _root_.Fin 9, dg ((d.val + 1 : Nat) : Int) ∈ [("1" : Str), "2", "3", "4", "5", "6", "7", "8", "9"] := by decide +kernel
theorem list_okW : ∀ x ∈ [("1" : Str), "2", "3", "4", "5", "6", "7", "8", "9"], okW x = true := by decide +kernel
theorem okW_mem (w : Str) : decide (w ∈ [("1" : Str), "2", "3", "4", "5", "6", "7", "8", "9"]) = okW w := by
  cases h : okW w with
  | true =>
    obtain ⟨z, h1, h2, rfl⟩ := okW_iff.mp h
    have h3 : dg ((z.toNat - 1 + 1 : Nat) : Int) ∈ _ := okW_list ⟨z.toNat - 1, by omega⟩
    have e : ((z.toNat - 1 + 1 : Nat) : Int) = z := by omega
    rw [e] at h3
    exact decide_eq_true h3
  | false =>
    refine decide_eq_false fun hm => ?_
    rw [list_okW w hm] at h
    cases h
theorem badAt_none : ∀ {i : Nat} {ws : List Str}, badAt i ws = none → i ≤ 5 → i + ws.length ≤ 5 ∧ ∀ w ∈ ws, okW w = true
  | i, [], _, hi => ⟨hi, fun _ h => nomatch h⟩
  | i, w :: ws, h, hi => by
    unfold badAt at h
    by_cases hc : i = 5 ∨ okW w = false
    · rw [if_pos hc] at h; cases h
    · rw [if_neg hc] at h
      have h1 : i ≠ 5 := fun e => hc (Or.inl e)
      have h2 : okW w = true := by
        cases hw : okW w with
        | true => rfl
        | false => exact absurd (Or.inr hw) hc
      obtain ⟨a, b⟩ := badAt_none h (by omega)
      refine ⟨by rw [List.length_cons]; omega, fun u hu => ?_⟩
      rcases List.mem_cons.mp hu with rfl | hu
      · exact h2
      · exact b u hu
theorem valW_ok {w : Str} (h : okW w = true) : PySem.intText? w = some (valW w) ∧ 1 ≤ valW w ∧ valW w ≤ 9 ∧ w = dg (valW w) := by
  obtain ⟨z, h1, h2, rfl⟩ := okW_iff.mp h
  have h3 := (dg_ok ⟨h1, h2⟩).2.2.1
  have e : valW (dg z) = z := by unfold valW; rw [h3]; rfl
  rw [e]
  exact ⟨h3, h1, h2, rfl⟩
def f_readY (C : Addr) : FSpY := fun args m R X => ∃ d : PyData, args = [.d d] ∧ ((isStrD d = false ∧ X C 0 m) ∨ ∃ t : Str, d = .str t ∧ t.length ≤ 100000 ∧
  (∀ i, badAt 0 (Txt.split t " ") = some i → X C (i : Int) m) ∧ (badAt 0 (Txt.split t " ") = none → R (.d (tupI ((Txt.split t " ").map valW))) m))
section
variable {K : PySem.W.Frag} {G0 : Hp} {r : List Val} {m : Mm} {N : List Val → Mm → Prop} {E : Val → Mm → Prop} {t : TS}
/-- for i, x in enumerate(a list), the suite may refuse -/
theorem wx_forE {ta : TA} {j1 j2 : Nat} {α : Type} {xs : List α} {f : α → PyData} (h : EvA K ta r m fun ys m1 => ys = [.d (.list (xs.map f))] ∧ m1 = m) (W : Nat → List Val → Mm → Prop) (h0 : W 0 r m)
    (hs : ∀ (i : Nat) (x : α) r' m', xs[i]? = some x → W i r' m' → Wx K G0 t ((r'.set j1 (.d (.int (i : Int)))).set j2 (.d (f x))) m' (W (i + 1)) E) (hd : ∀ r' m', W xs.length r' m' → N r' m') : Wx K G0 (tFor (iEnum K ta) (gTup K 2 (gCons (gName j1) (gCons (gName j2) gNil))) t) r m N E := fun σ H G D g0 S L a b =>
  h σ H G S L _ fun vs H1 G1 ys m1 ⟨hx, hm⟩ S1 e1 r1 => by
    subst hx hm
    obtain ⟨v, rfl, rv⟩ := vrs1 r1
    obtain ⟨p, zs, rfl, hs1, hA⟩ := rp_list.mp rv.rp
    have hs1 : SqL K G1 p zs := Or.inl hs1
    have hlen := hA.length
    rw [List.length_map] at hlen
    refine ⟨p, zs, rfl, S1.sqL hs1, for_it (walk_enum (xs := zs)) (fun i σ' H' => ∃ G' r' m', W i r' m' ∧ Sta K m' H' G' ∧ Le G1 G' ∧ Sl K G' r' σ') ⟨G1, r, _, h0, S1, Le.refl G1, L.mono e1⟩ ?_ ?_ ?_⟩
    · rintro i σ' H' hi ⟨G', r', m', _, S', e', _⟩
      exact S'.sqL (e'.sqL hs1)
    · rintro i x σ' H' H2 hi ⟨G', r', m', hw, S', e', L'⟩ ⟨T, x1, x2, rfl, hT, rfl, hx1, hx2⟩
      have hx1 : V.int (i : Int) = x1 := by simpa using hx1
      subst hx1
      obtain ⟨d, hd1, hd2⟩ := hA.get hx2
      obtain ⟨y, hy, rfl⟩ := map_at hd1
      have hg := S'.free hT
      have e2 : Le G' (upd G' T (.tup [.int (i : Int), x2])) := Le.new hg
      refine ⟨T, _, rfl, SqT.of upd_same, rfl, _, [x2], rfl, x2, [], rfl, rfl, ?_⟩
      exact hs i y r' m' hy hw _ _ (upd G' T (.tup [.int (i : Int), x2])) _ (g0.trans (e1.trans (e'.trans e2))) (S'.fix hT) (((L'.mono e2).set (r := .d (.int (i : Int))) vr_int j1).set (r := .d (f y)) (.d (Rp.mono (e'.trans e2) _ _ hd2)) j2)
        (fun σ3 H3 G3 r3 m3 h3 S3 e3 L3 => ⟨G3, r3, m3, h3, S3, e'.trans (e2.trans e3), L3⟩) (fun v H3 G3 x m3 n3 S3 e3 L3 => b v H3 G3 x m3 n3 S3 (e1.trans (e'.trans (e2.trans e3))) L3)
    · rintro σ' H' ⟨G', r', m', hw, S', e', L'⟩
      rw [hlen] at hw
      exact a σ' H' G' r' m' (hd r' m' hw) S' (e1.trans e') L'
end
theorem badAt_some : ∀ {i k : Nat} {ws : List Str} {w : Str}, ws[k]? = some w → (∀ j u, j < k → ws[j]? = some u → okW u = true ∧ i + j ≠ 5) → (i + k = 5 ∨ okW w = false) → badAt i ws = some (i + k)
  | i, k, [], w, h, _, _ => by simp at h
  | i, 0, u :: ws, w, h, _, hc => by
    have e : u = w := by simpa using h
    subst e
    unfold badAt
    rw [if_pos (by simpa using hc)]
    simp
  | i, k + 1, u :: ws, w, h, hp, hc => by
    obtain ⟨h1, h2⟩ := hp 0 u (by omega) rfl
    unfold badAt
    rw [if_neg (by
      rintro (e | e)
      · exact h2 (by omega)
      · rw [h1] at e; cases e)]
    have h3 := badAt_some (i := i + 1) (k := k) (ws := ws) (w := w) (by simpa using h) (fun j u hj hu => by
      obtain ⟨a, b⟩ := hp (j + 1) u (by omega) (by simpa using hu)
      exact ⟨a, by omega⟩) (by rcases hc with e | e; exact Or.inl (by omega); exact Or.inr e)
    rw [h3]
    congr 1
    omega
theorem badAt_all : ∀ {i : Nat} {ws : List Str}, (∀ j u, ws[j]? = some u → okW u = true ∧ i + j ≠ 5) → badAt i ws = none
  | _, [], _ => rfl
  | i, u :: ws, h => by
    obtain ⟨h1, h2⟩ := h 0 u rfl
    unfold badAt
    rw [if_neg (by
      rintro (e | e)
      · exact h2 (by omega)
      · rw [h1] at e; cases e)]
    exact badAt_all fun j u hu => by
      obtain ⟨a, b⟩ := h (j + 1) u (by simpa using hu)
      exact ⟨a, by omega⟩
def f_lawRead : FSp := fun args m R => ∃ t : Str, args = [.d (.str t)] ∧ t.length ≤ 10000 ∧ (∀ i : Nat, badAt 0 (Txt.split t " ") = some i → R (.d (.int (i : Int))) m) ∧ (badAt 0 (Txt.split t " ") = none → R (.d (tupI ((Txt.split t " ").map valW))) m)
def f_lawSaid04 : FSp := fun args m R => ∃ d : PyData, args = [.d d] ∧ ((isStrD d = false ∧ R (.d (.int 0)) m) ∨ ∃ t : Str, d = .str t ∧ t.length ≤ 100000 ∧
  (∀ i : Nat, badAt 0 (Txt.split t " ") = some i → R (.d (.int (i : Int))) m) ∧ (badAt 0 (Txt.split t " ") = none → R (.d (tupI ((Txt.split t " ").map valW))) m))
end DL
/-! the handled exception keeps a number: isinstance of it, defs that are handed it, its number; count and index in lists of truths -/
namespace DL
open PySem L2 PySem.Spec PyProof.Rows L2H
section
variable {prog : Program} {w : World} {A : Around} {E : Value → Shared → Prop} {s : Shared} {K : PySem.W.Frag} {x D : Addr} {ox : Obj} {m : Option Obj}
theorem findObj_clsM (C : ExcC K D) : PySem.W.findObj K D m "__class__" = some (.bind (.builtin "getset_descriptor.__get__") (.builtin "object.__class__")) := by
  obtain ⟨cd, hc, _⟩ := PySem.W.any_some C.hd
  unfold PySem.W.findObj
  rw [hc, Option.bind_some, C.ha, Option.bind_some]
  simp [C.hn, C.ht]
theorem cls_askedM {Q : Option Value → Shared → Prop} (C : ExcC K D) (X : K.In s.heap) (I : PySem.W.InstAt s.heap x ox D m) (h : Q (some (.ref D)) { s with toks := s.toks + 1 }) : wpAny (model prog w) A (getAttr? (.ref x) "__class__") Q E s := by
  have hf := findObj_clsM (m := m) C
  obtain ⟨hp, g, dr, tk, os⟩ := s
  have L0 := I.type (M := model prog w)
  have La := PySem.W.looks_findIn (M := model prog w) X C.hg
  have Lb := PySem.W.looks_findIn (M := model prog w) X C.hk
  have Lf := PySem.W.looks_find (M := model prog w) X I hf
  have subE : PySem.W.Looks (model prog w) hp (isInstance (.ref x) (.type "BaseException")) true := L0.andThen (PySem.W.looks_subIn X C.hs)
  have e0 : (false && onTheHeap (Value.builtin "BaseException.__getattribute__")) = false := rfl
  have e2 : (Value.builtin "BaseException.__getattribute__" == Value.builtin "object.__getattribute__") = false := by decide +kernel
  have e1 : (onTheHeap (Value.ref D) && Value.builtin "BaseException.__getattribute__" == Value.builtin "object.__getattribute__") = false := by rw [e2]; rfl
  unfold getAttr? getAttrBy? getAttrBy
  refine wpAny_bind (wpAny_mkText (wpAny_bind (wpAny_attempt (wpAny_holding (wpAny_bind (L0.at (wpAny_bind (La.at ?_))))))))
  show wpAny _ _ (if (onTheHeap (Value.ref D) && Value.builtin "BaseException.__getattribute__" == Value.builtin "object.__getattribute__") = true then _ else _) _ _ _
  rw [e1, if_neg Bool.false_ne_true]
  unfold getAttrByItsOwn hookBefore
  refine wpAny_bind ?_
  rw [if_pos (show onTheHeap (Value.ref D) = true from rfl)]
  refine Lb.at ?_
  refine wpAny_bind (wpAny_attempt (wpAny_holding ?_))
  unfold callGetattribute
  rw [e0, if_neg Bool.false_ne_true]
  unfold boundAndCalled
  rw [PySem.F.excAttr_ValueError.ga.bind (.ref x)]
  refine wpAny_bind (wpAny_pure ?_)
  show wpAny _ _ (call (.builtin "BaseException.__getattribute__") [.ref x, .str "__class__" tk]) _ _ _
  refine wpAny_call (codeAny_call_builtin PySem.F.excAttr_ValueError.ga.plain PySem.F.entry_bexc_ga ?_)
  refine @PySem.W.check_slot (model prog w) _ _ ⟨hp, g, dr, tk + 1, os⟩ "BaseException.__getattribute__" "BaseException" "__getattribute__" (.ref x) [.str "__class__" tk] [] _ (by decide +kernel) (by decide +kernel) subE (PySem.F.args_bexc_ga (.ref x) (.str "__class__" tk)) ?_
  unfold Builtin.«object.__getattribute__»
  refine wpAny_bind (wpAny_of_eq (a := ((Value.ref x : Value), [Value.str "__class__" tk])) (by first | rfl | (simp only [slotArgs]; rfl)) ?_)
  refine wpAny_bind (wpAny_pure (wpAny_bind (L0.at (wpAny_bind (Lf.at ?_)))))
  show wpAny _ _ (holding [Value.builtin "object.__class__"] (call (.builtin "getset_descriptor.__get__") [.builtin "object.__class__", .ref x, .ref D]) >>= ret) _ _ _
  refine wpAny_bind (wpAny_holding (wpAny_call (PySem.W.class_get (s := ⟨hp, g, dr, tk + 1, os⟩) (ox := ox) (od := m) X I C.hm ?_)))
  refine wpAny_pure ?_
  show wpAny _ _ (handedOut (.ref D)) _ _ _
  rw [PySem.W.handedOut_of (v := .ref D) rfl]
  first
    | exact wpAny_pure (wpAny_pure h)
    | exact wpAny_pure h
    | exact wpAny_pure (wpAny_bind (wpAny_pure (wpAny_pure h)))
theorem kitx_excM (C : ExcC K D) : PySem.W.KitX K (.ref x) (.ref D) (fun h => PySem.W.InstAt h x ox D m) := by
  obtain ⟨cdD, hcD, _⟩ := PySem.W.any_some C.hd
  unfold PySem.W.clsIn at hcD
  split at hcD
  · rename_i c' d' cd' sl' ho
    refine ⟨fun _ _ _ I => I.type, fun _ _ X _ => ?_, fun h tp dd its n sl X htp => Bool.eq_false_iff.mpr fun q => ?_, fun X I k => cls_askedM C X I k⟩
    · intro A' Q' E' s' k q
      unfold isType loadHead
      exact wpAny_bind (wpAny_loadPart (k _ _ (X _ _ ho)) (wpAny_pure q))
    · obtain rfl : D = tp := Value.ref.inj (beq_iff_eq.mp q)
      cases (X _ _ ho).symm.trans htp
  · cases hcD
end
structure FnD (P : Program) (w : World) (K : PySem.W.Frag) (mg : Str → Option Value) (base : Heap) (k : Nat) (f : Addr) (fd : FuncData) (ps : List Str) (sp : Addr → Value → Addr → Sp) : Prop where
  len : ∀ a c d vs H Q E, sp a c d vs H Q E → vs.length = ps.length
  run : ∀ (A : Around) (outer : List Env) (s : Shared) (H : Hp) (args : Args) (us : List Value) (vs : List V) (Q : VK) (E : XK) (p : Addr × Obj) (c : Value) (d : Addr), RoomH k A → Hot1 A p → Zc c (some d) p.2 → PinOk outer H s p →
    Env0 P w K mg base A outer s H → BindsTo s fd args (ps.zip us) → Vals vs us → sp p.1 c d vs H Q E → codeAny (model P w) A (.call (.ref f) args) (CR CX0 outer P w H s Q E) s
section
variable {P : Program} {w : World} {K : PySem.W.Frag} {mg : Str → Option Value} {base : Heap}
theorem fnD_of {x qual : Str} {st : Stmt} {f : Addr} {fd : FuncData} {N ps : List Str} {k : Nat} {sp : Addr → Value → Addr → Sp} (F : Fun K x qual st f fd) (S : FnScope N ps (defScope st)) (len : ∀ a c d vs H Q E, sp a c d vs H Q E → vs.length = ps.length)
    (hbody : ∀ (cdv : Value) (A : Around) (outer : List Env) (s : Shared) (H : Hp) (vs : List V) (Q : VK) (E : XK) (p : Addr × Obj) (c : Value) (d : Addr), Hot1 A p → Zc c (some d) p.2 → RoomH k (A.deeper (envOfC qual (defScope st) s.heap.objs.size f cdv)) → sp p.1 c d vs H Q E →
      ∃ t, PSs (cxH CX0 P w K mg base N qual (defScope st) f cdv A outer s H E p).nox (defBody st) t ∧ t { nx := fun _ H' => Q .non H', rt := Q } (L2.start N vs) H) : FnD P w K mg base (k + 1) f fd ps sp := by
  obtain ⟨oc, od, kV, doc, pm, an, cdv, ct, osl, rfl, lk, hcd⟩ := F.ex
  refine ⟨len, fun A outer s H args us vs Q E p c d hr hot hz hpin e0 hb r hsp => ?_⟩
  have here : ∀ b o, base.get? b = some o → s.heap.get? b = some o := fun b o e => (e0.bs b o e).1
  have KX : K.In s.heap := e0.mod.kin.keeps here
  have par : ∀ y ∈ ps.zip us, (defScope st).names.lookup y.1 = some .local ∨ ((defScope st).names.lookup y.1 = some .cell ∧ ((cellsFrom (s.heap.objs.size + 1) (defScope st).names []).lookup y.1).isSome = true) := fun y hy =>
    (S.par y.1 (List.of_mem_zip (a := y.1) (b := y.2) hy).1).imp id fun q => ⟨q, PySem.W.cellsFrom_some _ _ _ (.inl q)⟩
  refine codeAny_call_function hr.depth (KX _ _ lk) rfl S.co S.gen rfl (PySem.W.codeRec_of KX hcd) (hb _ _ _ _ (wpAny_newFunctionEnv_cells S.kind par fun env he s1 x => ?_))
  subst he
  obtain ⟨t, ht, hq⟩ := hbody cdv A outer s H vs Q E p c d hot hz (hr.deeper _) hsp
  have I : Inv (cxH CX0 P w K mg base N qual (defScope st) f cdv A outer s H E p) [] (L2.start N vs) H s1 := inv_startH S hpin e0 (len _ _ _ _ _ _ _ hsp) r x
  refine ⟨(e0.mod.nolimit.keeps here).keeps x.toInCall.keep, codeAny_func (wpAny_mono (ht.nox.run [] s1 (L2.start N vs) H _ I hq) (fun fl s' hs => ?_) fun e s' hs => hs)⟩
  cases fl with
  | ret u =>
    obtain ⟨v, σ', H', J, rv, q⟩ := hs
    exact ⟨v, H', J.os, J.bare, J.base, J.hok, rv, q⟩
  | next =>
    obtain ⟨σ', H', J, q⟩ := hs
    exact ⟨.non, H', J.os, J.bare, J.base, J.hok, rfl, q⟩
  | brk =>
    obtain ⟨_, _, _, q⟩ := hs
    exact q.elim
  | cont =>
    obtain ⟨_, _, _, q⟩ := hs
    exact q.elim
end
def SeesD (X : Cx) (a : Addr) (c : Value) (d : Addr) : Prop := ∃ oe : Obj, (a, oe) ∈ X.pn ∧ Hot1 X.A (a, oe) ∧ Zc c (some d) oe
theorem sees_suiteD {X : Cx} {a : Addr} {oe : Obj} {cls : Value} {d : Option Addr} {dd : Addr} {pn : List (Addr × Obj)} (hz : L2N.Zn cls d oe) (hf : ∃ vs, oe.data = .fields vs) (hd : d = some dd) : SeesD (X.suite a ((a, oe) :: pn)) a cls dd := by
  obtain ⟨vs, hv⟩ := hf
  subst hd
  exact ⟨oe, List.mem_cons_self, ⟨rfl, vs, hv, hz.2.2 vs hv⟩, hz.1, hz.2.1⟩
/-- isinstance(e, c), e keeps a dict at d -/
def rIsD (K : PySem.W.Frag) (D a d : Addr) : List V → Hp → VK → Prop := fun xs H Q => ∃ (c : V) (cv : Value) (b : Bool), xs = [.ref a, c] ∧ (∀ u, RelV c u → u = cv) ∧ PySem.W.kitOne K (.ref D) cv = some b ∧ (∃ fs, H d = some (.xd fs)) ∧ Q (.bl b) H
section
variable {X : Cx} {k : Nat} {f : Addr} {fd : FuncData} {ps : List Str} {sp : Addr → Value → Addr → Sp} {x : Str} {q pos : Pos} {e : Expr} {es : List Expr} {t : TA} {a d : Addr} {c : Value}
theorem pe_callD (F : FnD X.prog X.w X.K X.mg X.base k f fd ps sp) (hr : RoomH k X.A) (hc : SeesD X a c d) (hg : Gl X x) (hm : X.mg x = some (.ref f)) (hk : PySem.W.keepIn X.K (.ref f) = true) (hb : Binds X.K fd ps [])
    (ha : PA X (e :: es) t) (hdb : (x == ("__debug__" : Str)) = false := by decide) (he : starEach (e :: es) X.env = (false, eval e X.env) :: starEach es X.env := by rfl) (hpl : (backTo pos (starEach es X.env)).any (·.1) = false := by rfl) :
    PE X (.Call (.Name x q) (e :: es) [] pos) (tCall (sp a c d) [] E0 t) := by
  refine ⟨fun pins s σ H Q I h => ?_⟩
  refine wpAny_Call_Name_kw (ld_glob I hg hm ?_ hdb)
  refine PySem.W.callWith_K (h₀ := X.base) I.ok.mod.kin hk (thn (ha.run pos pins s σ H _ I h) fun us s1 hh => ?_) he hpl
  obtain ⟨vs, H1, I1, r, hsp⟩ := hh
  refine ⟨I1.kIn, ?_⟩
  rw [List.append_nil] at hsp
  obtain ⟨oe, hp, hot, hz⟩ := hc
  have hl : us.length = ps.length := by rw [← r.length]; exact F.len _ _ _ _ _ _ _ hsp
  have b := hb s1 us I1.kIn (by rw [List.append_nil]; exact hl)
  rw [List.append_nil] at b
  obtain ⟨p1, p2, p3, p4, p5⟩ := I1.pin (a, oe) (List.mem_append_left _ hp)
  have pin : PinOk X.stack H1 s1 (a, oe) := ⟨p1, p2, fun z => (List.mem_cons.mp (I1.stkSub a z)).elim p3 p4, p5⟩
  refine wpAny_call (codeAny_mono (F.run X.A X.stack s1 H1 ⟨us, []⟩ us vs Q E0 (a, oe) c d hr hot hz pin I1.env0 b r hsp) fun r s' hq => ?_)
  cases r with
  | error e => exact (pass0 pins σ H1 s1 e s' I1 hq)
  | ok fl =>
    cases fl with
    | ret u => exact I1.after hq
    | next => exact hq.elim
    | brk => exact hq.elim
    | cont => exact hq.elim
theorem call_isD {D : Addr} (hc : SeesD X a (.ref D) d) (C : ExcC X.K D) : CallR X (.builtin "isinstance") (rIsD X.K D a d) := by
  rintro pins s σ H xs us Q I r ⟨y, cv, b, rfl, hcv, e, ⟨fs, hfs⟩, qq⟩
  obtain ⟨oe, hp, ⟨_, vs, hv, _⟩, hz⟩ := hc
  cases r with
  | cons rx rr =>
    cases rr with
    | cons rt rr =>
      cases rr
      cases rx
      obtain rfl := hcv _ rt
      have hget := (I.pin (a, oe) (List.mem_append_left _ hp)).1
      have hx : ObjOk X.prog X.w H s.heap d (.xd fs) := I.hok d _ hfs
      obtain ⟨mA, hns, hrr⟩ := hx
      obtain ⟨od, ho, hl⟩ := lookIn_ns hns
      have J : PySem.W.InstAt s.heap a oe D (some od) := ⟨hget, hz.1, by unfold PySem.W.notCls; rw [hv] <;> rfl, by rw [hz.2]; exact ho⟩
      exact PySem.W.kia_one (kitx_excM C) I.kIn J e (fun z => nomatch z) fun tk => ⟨.bl b, H, I.kept (t' := tk) fun _ _ z => z, rfl, qq⟩
theorem kIsD (K : PySem.W.Frag) {D : Addr} (hc : SeesD X a (.ref D) d) (C : ExcC K D) (h : X.K = K := by rfl) : CallR X (.builtin "isinstance") (rIsD K D a d) := by
  subst h; exact call_isD hc C
end
/-! at the level of data -/
def spQ (K : PySem.W.Frag) (ok : Addr → Prop) (f : Addr → Addr → Addr → FSp) : Addr → Value → Addr → Sp := fun a c d vs H Q E => ∃ D, c = .ref D ∧ ok D ∧ spD K (f a D d) vs H Q E
/-- the handled exception, with its number -/
def xNP (a d : Addr) (z : Int) : Hp → V → Prop := fun G u => u = .ref a ∧ G d = some (xdN z)
def xN (a d : Addr) (z : Int) : Val := .g (xNP a d z)
theorem xNP.mono {a d : Addr} {z : Int} {v : V} : ∀ G G', Le G G' → xNP a d z G v → xNP a d z G' v := fun _ _ e h => ⟨h.1, e _ _ h.2⟩
section
variable {K : PySem.W.Frag} {m : Mm} {r : List Val} {Q : Val → Mm → Prop}
theorem xN_of {G : Hp} {a d : Addr} {z : Int} {v : V} (h : VR K G (xN a d z) v) : v = .ref a ∧ G d = some (xdN z) := by
  cases h with
  | g h1 _ => exact h1
theorem on_isD {D a d : Addr} {z : Int} {c : V} {cv : Value} {b : Bool} (hc : ∀ u, RelV c u → u = cv) (hk : PySem.W.kitOne K (.ref D) cv = some b) (q : Q (.d (.bool b)) m) : OpN K (rIsD K D a d) [xN a d z, .v c] m Q := fun H G vs S x R k => by
  obtain ⟨v, w, rfl, h1, h2⟩ := vrs2 x
  obtain ⟨rfl, hd⟩ := xN_of h1
  obtain rfl := h2.eq
  exact ⟨_, cv, b, rfl, hc, hk, ⟨_, S.sub _ _ hd⟩, k _ H G _ m q S (Le.refl G) vr_bool⟩
theorem ev_callD {ok : Addr → Prop} {f : Addr → Addr → Addr → FSp} {a D d : Addr} {t : TA} {E : XK} (hD : ok D) (h : EvA K t r m fun xs m1 => f a D d xs m1 Q) : Ev K (tCall (spQ K ok f a (.ref D) d) [] E t) r m Q := fun σ H G S L R k =>
  h σ H G S L _ fun vs H1 G1 xs m1 h1 S1 e1 r1 => by
    rw [List.append_nil]
    exact ⟨D, rfl, hD, m1, G1, xs, Q, S1, r1, h1, fun v' H3 G3 z m3 h3 S3 e3 r3 => k v' H3 G3 z m3 h3 S3 (e1.trans e3) r3⟩
/-- e.at -/
theorem ev_atN {a C d : Addr} {z : Int} {te : TE} (h : Ev K te r m fun x m1 => x = xN a d z ∧ Q (.d (.int z)) m1) : Ev K (tXf a (.ref C) (some d) C "at" te) r m Q := fun σ H G S L R k =>
  h σ H G S L _ fun v H1 G1 x m1 ⟨hx, q⟩ S1 e1 r1 => by
    subst hx
    obtain ⟨rfl, hg⟩ := xN_of r1
    exact ⟨rfl, rfl, d, [("at", .int z)], .int z, rfl, S1.sub _ _ hg, rfl, k _ H1 G1 _ m1 q S1 e1 vr_int⟩
end
def tHasD (d : Option Addr) (t : Addr → TS) : TS := fun D σ H => ∃ dd, d = some dd ∧ t dd D σ H
theorem pss_hasD {X : Cx} {st : List Stmt} {t : Addr → TS} {d : Option Addr} (h : ∀ dd, d = some dd → PSs X st (t dd)) : PSs X st (tHasD d t) := ⟨fun pins s σ H D I ⟨dd, hd, hw⟩ => (h dd hd).run pins s σ H D I hw⟩
theorem pe_atN {X : Cx} {a C dd : Addr} {oe : Obj} {cls : Value} {d : Option Addr} {pn : List (Addr × Obj)} {e : Expr} {te : TE} {pos : Pos} {n : Str} {K : PySem.W.Frag} (T : ExcC K C) (hno : PySem.W.findIn K (.ref C) n = some none) (hz : L2N.Zn cls d oe) (hf : ∃ vs, oe.data = .fields vs) (hd : d = some dd)
    (he : PE (X.suite a ((a, oe) :: pn)) e te) (hK : X.K = K := by rfl) (hb : attributeBase e n X.env (eval e X.env) = eval e X.env := by rfl) : PE (X.suite a ((a, oe) :: pn)) (.Attribute e n pos) (tXf a cls (some dd) C n te) := by
  subst hK hd
  exact pe_xf ⟨T.hg, T.hk, T.hs, T.hd⟩ hno ⟨hz.1, hz.2.1⟩ hf he hb
section
variable {K : PySem.W.Frag} {r : List Val} {m : Mm} {N : List Val → Mm → Prop} {E : Val → Mm → Prop} {tb : L2.WX → TS} {c : Value} {i : Nat} {ts : Addr → Value → Option Addr → TS}
theorem w_tryZ (X : Addr → Int → Mm → Prop) (hb : ∀ (W : L2.WX) (G0 : Hp), TkY K G0 r W X → Wx K G0 (tb W) r m N E)
    (hx : ∀ C z m', X C z m' → PySem.W.exmOne K (.ref C) c = some true ∧ ∀ a d, Wp K (ts a (.ref C) (some d)) (r.set i (xN a d z)) m' (fun r' m'' => N (r'.set i .any) m'') E) :
    Wp K (fun D σ H => tb (wAs K c i ts (fun _ _ _ _ => False) D) D σ H) r m N E := fun σ H G D S L a b => by
  refine hb (wAs K c i ts (fun _ _ _ _ => False) D) G (fun C z m' H' G' σ' d hC S' e' L' hd => ?_) σ H G D (Le.refl G) S L a b
  obtain ⟨h1, h2⟩ := hx C z m' hC
  refine ⟨true, h1, fun _ x _ => ?_, fun z => nomatch z⟩
  exact h2 x d (σ'.set i (some (.ref x))) H' G' _ S' (L'.set (r := xN x d z) (.g ⟨rfl, hd⟩ xNP.mono) i) (fun σ2 H2 G2 r2 m2 hn S2 e2 L2 => a (σ2.set i none) H2 G2 (r2.set i .any) m2 hn S2 (e'.trans e2) (L2.forget i)) fun v H2 G2 y m2 hn S2 e2 L2 => b v H2 G2 y m2 hn S2 (e'.trans e2) L2
theorem w_hasD {d : Addr} {t : Addr → TS} (h : Wp K (t d) r m N E) : Wp K (tHasD (some d) t) r m N E := fun σ H G D S L a b => ⟨d, rfl, h σ H G D S L a b⟩
end
section
variable {P : Program} {w : World} {K : PySem.W.Frag} {mg : Str → Option Value} {base : Heap}
structure ClD (P : Program) (w : World) (K : PySem.W.Frag) (mg : Str → Option Value) (base : Heap) (k : Nat) (x : Str) (ok : Addr → Prop) (sp : Addr → Addr → Addr → FSp) : Prop where
  ex : ∃ f fd ps, FnD P w K mg base k f fd ps (spQ K ok sp) ∧ mg x = some (.ref f) ∧ PySem.W.keepIn K (.ref f) = true ∧ Binds K fd ps []
theorem pe_clD {X : Cx} {k j : Nat} {x : Str} {ok : Addr → Prop} {sp : Addr → Addr → Addr → FSp} {e : Expr} {es : List Expr} {t : TA} {p pos : Pos} {a d : Addr} {c : Value} (cl : ClD P w K mg base k x ok sp) (hr : RoomH j X.A) (hk : k ≤ j) (hc : SeesD X a c d) (hg : Gl X x) (ha : PA X (e :: es) t)
    (hP : X.prog = P := by rfl) (hw : X.w = w := by rfl) (hK : X.K = K := by rfl) (hmg : X.mg = mg := by rfl) (hbs : X.base = base := by rfl) (hdb : (x == ("__debug__" : Str)) = false := by decide)
    (he : starEach (e :: es) X.env = (false, eval e X.env) :: starEach es X.env := by rfl) (hpl : (backTo pos (starEach es X.env)).any (·.1) = false := by rfl) :
    PE X (.Call (.Name x p) (e :: es) [] pos) (tCall (spQ K ok sp a c d) [] E0 t) := by
  subst hP hw hK hmg hbs
  obtain ⟨f, fd, ps, F, hm, hkp, hb⟩ := cl.ex
  exact pe_callD F (hr.mono hk) hc hg hm hkp hb ha hdb he hpl
theorem fnD_ok {x qual : Str} {st : Stmt} {f : Addr} {fd : FuncData} {N ps : List Str} {k : Nat} {ok : Addr → Prop} {sp : Addr → Addr → Addr → FSp} (F : Fun K x qual st f fd) (S : FnScope N ps (defScope st)) (hl : ∀ a D d args m R, sp a D d args m R → args.length = ps.length)
    (hb : ∀ (cdv : Value) (A : Around) (outer : List Env) (s : Shared) (H : Hp) (E : XK) (p : Addr × Obj) (D d : Addr), ok D → SeesD (cxH CX0 P w K mg base N qual (defScope st) f cdv A outer s H E p).nox p.1 (.ref D) d → RoomH k (A.deeper (envOfC qual (defScope st) s.heap.objs.size f cdv)) →
      ∃ t, PSs (cxH CX0 P w K mg base N qual (defScope st) f cdv A outer s H E p).nox (defBody st) t ∧
        ∀ args m R, sp p.1 D d args m R → Wp K t (args ++ List.replicate (N.length - args.length) .any) m (fun _ m' => R (.d .none) m') R) : FnD P w K mg base (k + 1) f fd ps (spQ K ok sp) := by
  refine fnD_of F S (fun a c d vs H Q E h => ?_) (fun cdv A outer s H vs Q E p c d hot hz hr h => ?_)
  · obtain ⟨D, _, _, m, G, args, R, _, r1, h1, _⟩ := h
    rw [r1.length]; exact hl a D d args m R h1
  · obtain ⟨D, rfl, hD, m, G, args, R, S1, r1, h1, k1⟩ := h
    have hs : SeesD (cxH CX0 P w K mg base N qual (defScope st) f cdv A outer s H E p).nox p.1 (.ref D) d := ⟨p.2, List.mem_singleton.mpr rfl, hot, hz⟩
    obtain ⟨t, ht, hw⟩ := hb cdv A outer s H E p D d hD hs hr
    refine ⟨t, ht, hw args m R h1 _ H G _ S1 ?_ (fun σ' H' G' r' m' hn S' e' L' => k1 .non H' G' (.d .none) m' hn S' e' (.d (rp_none.mpr rfl))) (fun v H' G' x m' hn S' e' L' => k1 v H' G' x m' hn S' e' L')⟩
    unfold L2.start
    rw [r1.length]
    exact Sl.start _ r1
end
/-! l.count(b), l.index(b) in a list of truths -/
def rCntF (K : PySem.W.Frag) : V → List V → Hp → VK → Prop := fun x xs H Q => ∃ (p : Addr) (ys : List V) (y : V), x = .ref p ∧ xs = [y] ∧ SqL K H p ys ∧ flatV y = true ∧ ys.all flatV = true ∧ Q (.int ((ys.countP fun z => eqV z y : Nat) : Int)) H
theorem cnt_of {y : V} : ∀ {ys : List V} {us : List Value}, Vals ys us → ys.all flatV = true → us.countP (eqU y) = ys.countP fun z => eqV z y
  | _, _, .nil, _ => rfl
  | y1 :: ys, u :: us, .cons r t, f => by
    rw [List.all_cons, Bool.and_eq_true] at f
    rw [List.countP_cons, List.countP_cons, cnt_of t f.2, eqU_of r f.1]
theorem mt_cntF {X : Cx} : MtR X "list.count" (rCntF X.K) := by
  intro pins s σ H x xs v us Q I rx rxs h
  obtain ⟨p, ys, y, rfl, rfl, hs, fy, fys, q⟩ := h
  cases rx
  obtain ⟨u, rfl, ru⟩ := rxs.one
  obtain ⟨its, rv, ⟨⟨cls, dd, data, sl⟩, n, ho, hc, hdn, hd⟩, hlen⟩ := I.list hs
  simp only at hc hd
  subst hc hd
  refine call_meets PySem.F.slot_list_count ⟨_, ho, rfl⟩ PySem.F.entry_list_count (PySem.F.args_list_count_2 _ _)
    (SeqAt.list_countAt p its.toArray n dd sl u (eqU y)) ⟨ho, fun w hw => mem_eqAt ru fy rv fys w (by simpa using hw), ?_⟩
  have ec : its.toArray.toList.countP (eqU y) = ys.countP fun z => eqV z y := cnt_of rv fys
  refine ⟨.int ((ys.countP fun z => eqV z y : Nat) : Int), H, I.tok _, ⟨s.toks, ?_⟩, q⟩
  show Value.int ((its.toArray.toList.countP (eqU y) : Nat) : Int) s.toks = Value.int ((ys.countP fun z => eqV z y : Nat) : Int) s.toks
  rw [ec]
theorem kCntF (K : PySem.W.Frag) {X : Cx} {e : Expr} {to : TE} {ta : TA} (hp : PE X e (tBM X.K "list" (rCntF X.K) to ta)) (h : X.K = K := by rfl) : PE X e (tBM K "list" (rCntF K) to ta) := h ▸ hp
theorem kIdxF (K : PySem.W.Frag) {X : Cx} {e : Expr} {to : TE} {ta : TA} (hp : PE X e (tBM X.K "list" (L2.rIndex X.K) to ta)) (h : X.K = K := by rfl) : PE X e (tBM K "list" (L2.rIndex K) to ta) := h ▸ hp
theorem rpa_bools {K : PySem.W.Frag} {G : Hp} : ∀ {bs : List Bool} {xs : List V}, RpAll K G (bs.map PyData.bool) xs → xs = bs.map V.bl
  | [], _, h => rpa_nil.mp h
  | b :: bs, xs, h => by
    obtain ⟨x, r, rfl, h1, h2⟩ := rpa_cons.mp h
    rw [rp_bool.mp h1, rpa_bools h2]
    rfl
theorem bls_flat (bs : List Bool) : (bs.map V.bl).all flatV = true := by
  rw [List.all_eq_true]
  intro x hx
  obtain ⟨b, _, rfl⟩ := List.mem_map.mp hx
  rfl
section
variable {K : PySem.W.Frag} {r : List Val} {m : Mm} {Q : Val → Mm → Prop} {to te : TE}
theorem ev_cntB (h : Ev K to r m fun x m1 => ∃ bs : List Bool, x = .d (.list (bs.map PyData.bool)) ∧ Ev K te r m1 fun y m2 => ∃ b : Bool, y = .d (.bool b) ∧ Q (.d (.int (bs.count b : Nat))) m2) : Ev K (tBM K "list" (rCntF K) to (tCons te tNil)) r m Q := fun σ H G S L R k =>
  h σ H G S L _ fun v H1 G1 x m1 ⟨bs, hx, h1⟩ S1 e1 r1 => by
    subst hx
    obtain ⟨p, xs, rfl, g1, g2⟩ := rp_list.mp r1.rp
    rw [rpa_bools g2] at g1
    refine ⟨Or.inl ⟨rfl, _, Or.inl (Le.rd S1.sub g1)⟩, ?_⟩
    refine h1 σ H1 G1 S1 (L.mono e1) _ fun w H2 G2 y m2 ⟨b, hy, q⟩ S2 e2 r2 => ?_
    subst hy
    have r2 := rp_bool.mp r2.rp
    subst r2
    refine ⟨p, bs.map V.bl, .bl b, rfl, rfl, Or.inl (Le.rd S2.sub (e2.rd g1)), rfl, bls_flat bs, ?_⟩
    have e : (bs.map V.bl).countP (fun z => eqV z (.bl b)) = bs.count b := by
      rw [List.countP_map, List.count_eq_countP]
      rfl
    rw [e]
    exact k _ H2 G2 _ m2 q S2 (e1.trans e2) vr_int
theorem ev_idxB (h : Ev K to r m fun x m1 => ∃ bs : List Bool, x = .d (.list (bs.map PyData.bool)) ∧ Ev K te r m1 fun y m2 => ∃ (b : Bool) (j : Nat), y = .d (.bool b) ∧ bs[j]? = some b ∧ (∀ i : Nat, i < j → bs[i]? = some (!b)) ∧ Q (.d (.int (j : Int))) m2) : Ev K (tBM K "list" (L2.rIndex K) to (tCons te tNil)) r m Q := fun σ H G S L R k =>
  h σ H G S L _ fun v H1 G1 x m1 ⟨bs, hx, h1⟩ S1 e1 r1 => by
    subst hx
    obtain ⟨p, xs, rfl, g1, g2⟩ := rp_list.mp r1.rp
    rw [rpa_bools g2] at g1
    refine ⟨Or.inl ⟨rfl, _, Or.inl (Le.rd S1.sub g1)⟩, ?_⟩
    refine h1 σ H1 G1 S1 (L.mono e1) _ fun w H2 G2 y m2 ⟨b, j, hy, hj, hn, q⟩ S2 e2 r2 => ?_
    subst hy
    have r2 := rp_bool.mp r2.rp
    subst r2
    refine ⟨p, bs.map V.bl, .bl b, j, .bl b, rfl, rfl, Or.inl (Le.rd S2.sub (e2.rd g1)), rfl, bls_flat bs, by rw [List.getElem?_map, hj]; rfl, by cases b <;> rfl, fun i z hi hz => ?_, ?_⟩
    · rw [List.getElem?_map, hn i hi] at hz
      cases hz
      cases b <;> rfl
    · exact k _ H2 G2 _ m2 q S2 (e1.trans e2) vr_int
end
/-! what the written part says of classes -/
structure XL (K : PySem.W.Frag) (cs : List Addr) (gat : Addr) (i : Nat) (C : Addr) : Prop where
  exc : ExcC K C
  one : ∀ j, j < cs.length → PySem.W.kitOne K (.ref C) (.ref (cs.getD j 0)) = some (decide (j = i))
  gt : PySem.W.kitOne K (.ref C) (.ref gat) = some true
  val : PySem.W.kitOne K (.ref C) (.type "ValueError") = some true
  em : PySem.W.exmOne K (.ref C) (.ref gat) = some true
abbrev okL (K : PySem.W.Frag) (cs : List Addr) (gat : Addr) : Addr → Prop := fun D => ∃ i, XL K cs gat i D
theorem oexC_of {K : PySem.W.Frag} {C N : Addr} {nm q : Str} {bs bm : List Value} {sn : List Str} {sub : List Value} {ab : Bool} {col : Option Bool} {dd : Option Addr} {k0 k1 k2 k3 k5 : Option Value} (ox : K.lookup C = some (excClassObj nm q C N bs bm true sn sub ab col dd k0 k1 k2 k3 k5 "ValueError.__new__"))
    (rv : PySem.HandSPX.refsVE bm = true) (sa : PySem.W.findIn K (.ref C) "__setattr__" = some (some (.builtin "object.__setattr__"))) (ex : PySem.W.subIn K (.ref C) (.type "BaseException") = some true) (ty : PySem.W.typeIn K (.ref C) = some (.type "type")) (kC : PySem.W.keepIn K (.ref C) = true) : OexC K C :=
  ⟨⟨nm, q, N, bs, bm, sn, sub, ab, col, dd, k0, k1, k2, k3, k5, ox, rv⟩, sa, ex, ty, kC⟩
theorem kNeH {X : Cx} {j : Nat} (K : PySem.W.Frag) (hr : RoomH j X.A) (h : X.K = K := by rfl) : OpR X (compareOp .NotEq) (rNeA K) := by
  subst h
  exact op_ne.or (op_neD (by have := hr.un; omega))
def f_marks (K : PySem.W.Frag) (cs : List Addr) (gat : Addr) : Addr → Addr → Addr → FSp := fun a D d args m R => ∃ z, XL K cs gat 5 D ∧ cs.length = 6 ∧ args = [xN a d z] ∧ R (.d (.str "text")) m
end DL
set_option exponentiation.threshold 9000
/-! k04: texts bent -/
namespace DL
open PySem L2
section
variable {K : PySem.W.Frag} {m : Mm} {r : List Val} {Q : Val → Mm → Prop}
/-- s[i] of a text -/
theorem o2_ixC {s : Str} {i : Nat} (hs : s.length ≤ 100000) (hi : i < s.length) (q : ∀ c : Nat, Q (.d (.str ⟨#[c]⟩)) m) : Op2 K (rIx K) (.d (.str s)) (.d (.int (i : Int))) m Q := fun H G v w S a b R k => by
  rw [int_of b, str_of a]
  have hi2 : i < s.cps.toList.length := by rw [Array.length_toList]; exact hi
  refine Or.inr (Or.inr ⟨s, (i : Int), s.cps.toList[i], rfl, rfl, by rw [sizeLine_eq]; omega, ?_, k _ H G _ m (q _) S (Le.refl G) vr_str⟩)
  rw [atI_nth]
  exact List.getElem?_eq_getElem hi2
end
theorem cnt_nn (c : Nat) : ∀ l : List Nat, 0 ≤ PyProof.Rows.cnt c l
  | [] => Int.le_refl 0
  | n :: r => by
    rw [PyProof.Rows.cnt_cons]
    have := cnt_nn c r
    split <;> omega
theorem split_pos (t : Str) : 0 < (Txt.split t " ").length := by
  have h := PyProof.Rows.split_len t 32
  have h2 := cnt_nn 32 t.cps.toList
  have e : (" " : Str) = ⟨#[32]⟩ := by decide +kernel
  rw [e]
  omega
theorem join_le {a : Str} {b : Nat} (ha : a.length ≤ 1) {ys : List Str} (h : ∀ y ∈ ys, y.length ≤ b) : (Txt.join a ys).length ≤ ys.length * b + ys.length ∧ (ys.map (·.length)).sum ≤ ys.length * b := by
  have hs : ∀ {l : List Str}, (∀ y ∈ l, y.length ≤ b) → (l.map (·.length)).sum ≤ l.length * b := by
    intro l
    induction l with
    | nil => intro _; simp
    | cons x r ih =>
      intro h
      have h1 := h x List.mem_cons_self
      have h2 := ih fun y hy => h y (List.mem_cons_of_mem _ hy)
      rw [List.map_cons, List.sum_cons, List.length_cons, Nat.succ_mul]
      omega
  refine ⟨?_, hs h⟩
  unfold Txt.join
  rw [PySem.StrLaws.glued_eq_join]
  cases ys with
  | nil => exact Nat.zero_le _
  | cons x r =>
    rw [PyProof.Rows.len_join_cons]
    have h1 := hs h
    have h2 : r.length * a.length ≤ r.length * 1 := Nat.mul_le_mul_left _ ha
    rw [List.length_cons] at h1 ⊢
    omega
theorem cutS_le (s : Str) (lo hi : Option Int) : (cutS s lo hi).length ≤ s.length := by
  unfold cutS Str.length
  rw [List.size_toArray]
  refine Nat.le_trans (List.length_take_le' ..) ?_
  rw [List.length_drop, Array.length_toList]
  exact Nat.sub_le _ _
/-- few short texts -/
def TL (ys : List Str) : Prop := ys.length ≤ 40 ∧ ∀ y ∈ ys, y.length ≤ 20
theorem TL.app {a b : List Str} (h1 : a.length + b.length ≤ 40) (h2 : ∀ y ∈ a, y.length ≤ 20) (h3 : ∀ y ∈ b, y.length ≤ 20) : TL (a ++ b) := ⟨by rw [List.length_append]; exact h1, fun y hy => (List.mem_append.mp hy).elim (h2 y) (h3 y)⟩
theorem TL.fits {ys : List Str} (h : TL ys) : (ys.map (·.length)).sum + ys.length * (" " : Str).length ≤ 16777216 ∧ (Txt.join " " ys).length ≤ 1000 := by
  have hb : (" " : Str).length = 1 := by decide +kernel
  obtain ⟨h1, h2⟩ := join_le (a := " ") (by rw [hb]; decide) h.2
  have h3 : ys.length * 20 ≤ 40 * 20 := Nat.mul_le_mul_right _ h.1
  have h4 := h.1
  rw [hb]
  omega
def f_sign : FSp := fun args m R => ∃ p : Addr, args = [.v (.ref p)] ∧ m p = some .box ∧ ∀ c : Nat, R (.d (.str ⟨#[c]⟩)) m
def f_bent04 : FSp := fun args m R => ∃ (p : Addr) (t : Str), args = [.v (.ref p), .d (.str t)] ∧ m p = some .box ∧ t.length ≤ 12 ∧ ∀ u : Str, u.length ≤ 1000 → R (.d (.str u)) m
def odd04 : List PyData := [.str "", .str "0", .str "9", .str "10", .str "01", .str "-1", .str "1,", .str "a", .str "1 1", .str "12", .str "+3", .str "3.0"]
theorem odd04_at {o : Nat} (h : o < 12) : ∃ u : Str, u.length ≤ 3 ∧ atI odd04 (o : Int) = some (.str u) := by
  have h1 : ∀ o : _root_.Fin 12, ∃ u ∈ [("" : Str), "0", "9", "10", "01", "-1", "1,", "a", "1 1", "12", "+3", "3.0"], u.length ≤ 3 ∧ odd04[o.val]? = some (.str u) := by
    intro o
    match o with
    | 0 => exact ⟨"", by simp, by decide +kernel, rfl⟩
    | 1 => exact ⟨"0", by simp, by decide +kernel, rfl⟩
    | 2 => exact ⟨"9", by simp, by decide +kernel, rfl⟩
    | 3 => exact ⟨"10", by simp, by decide +kernel, rfl⟩
    | 4 => exact ⟨"01", by simp, by decide +kernel, rfl⟩
    | 5 => exact ⟨"-1", by simp, by decide +kernel, rfl⟩
    | 6 => exact ⟨"1,", by simp, by decide +kernel, rfl⟩
    | 7 => exact ⟨"a", by simp, by decide +kernel, rfl⟩
    | 8 => exact ⟨"1 1", by simp, by decide +kernel, rfl⟩
    | 9 => exact ⟨"12", by simp, by decide +kernel, rfl⟩
    | 10 => exact ⟨"+3", by simp, by decide +kernel, rfl⟩
    | 11 => exact ⟨"3.0", by simp, by decide +kernel, rfl⟩
  obtain ⟨u, _, h2, h3⟩ := h1 ⟨o, h⟩
  exact ⟨u, h2, by rw [atI_nth]; exact h3⟩
theorem txs_set {ws : List Str} {i j : Nat} {a b : Str} : (((ws.map PyData.str).map Val.d).set i (.d (.str a))).set j (.d (.str b)) = (((ws.set i a).set j b).map PyData.str).map Val.d := by
  rw [List.map_set, List.map_set, List.map_set, List.map_set]
theorem txs_at {ws : List Str} {i : Nat} (h : i < ws.length) : ∃ w : Str, w ∈ ws ∧ ws[i]? = some w ∧ ((ws.map PyData.str).map Val.d)[i]? = some (.d (.str w)) ∧ atI (ws.map PyData.str) (i : Int) = some (.str w) :=
  ⟨ws[i], List.getElem_mem h, List.getElem?_eq_getElem h, by rw [List.getElem?_map, List.getElem?_map, List.getElem?_eq_getElem h]; rfl, by rw [atI_nth, List.getElem?_map, List.getElem?_eq_getElem h]; rfl⟩
theorem mem_set_le {ws : List Str} {i : Nat} {a : Str} {b : Nat} (h : ∀ w ∈ ws, w.length ≤ b) (ha : a.length ≤ b) : ∀ w ∈ ws.set i a, w.length ≤ b := fun w hw => by
  rcases List.mem_or_eq_of_mem_set hw with h1 | rfl
  · exact h w h1
  · exact ha
theorem cutD_txt (ws : List Str) (lo hi : Option Int) : ∃ us : List Str, cutD (ws.map PyData.str) lo hi = us.map PyData.str ∧ us.length ≤ ws.length ∧ ∀ u ∈ us, u ∈ ws := by
  unfold cutD
  rw [← List.map_drop, ← List.map_take]
  exact ⟨_, rfl, Nat.le_trans (List.length_take_le' ..) (by rw [List.length_drop]; exact Nat.sub_le _ _), fun u hu => List.mem_of_mem_drop (List.mem_of_mem_take hu)⟩
/-- what is answered to a text -/
def outT (t : Str) : PyData := match badAt 0 (Txt.split t " ") with
  | some i => .int (i : Int)
  | none => tupI ((Txt.split t " ").map valW)
theorem said_out {m : Mm} {R : Val → Mm → Prop} {t : Str} (h : t.length ≤ 100000) (q : R (.d (outT t)) m) : f_lawSaid04 [.d (.str t)] m R := by
  refine ⟨_, rfl, Or.inr ⟨t, rfl, h, fun i hi => ?_, fun hn => ?_⟩⟩
  · unfold outT at q
    rw [hi] at q
    exact q
  · unfold outT at q
    rw [hn] at q
    exact q
theorem read_out {m : Mm} {R : Val → Mm → Prop} {t : Str} (h : t.length ≤ 10000) (q : R (.d (outT t)) m) : f_lawRead [.d (.str t)] m R := by
  refine ⟨t, rfl, h, fun i hi => ?_, fun hn => ?_⟩
  · unfold outT at q
    rw [hi] at q
    exact q
  · unfold outT at q
    rw [hn] at q
    exact q
theorem out_none : outT "" = .int 0 ∧ outT "1 1 1 1 1 1" = .int 5 ∧ outT "1 " = .int 1 ∧ outT "10" = .int 0 := by
  have h : ∀ {t : Str} {i : Nat}, badAt 0 (Txt.split t " ") = some i → outT t = .int (i : Int) := fun h => by unfold outT; rw [h]
  exact ⟨h (i := 0) (by decide +kernel), h (i := 5) (by decide +kernel), h (i := 1) (by decide +kernel), h (i := 0) (by decide +kernel)⟩
theorem badAt_le : ∀ {i k : Nat} {ws : List Str}, badAt i ws = some k → k ≤ i + ws.length
  | _, _, [], h => by cases h
  | i, k, w :: ws, h => by
    unfold badAt at h
    split at h
    · cases h; exact Nat.le_add_right _ _
    · have := badAt_le h
      rw [List.length_cons]
      omega
theorem outT_sh {t : Str} (h : t.length ≤ 10000) : ShOk (outT t) := by
  unfold outT
  have h2 := PyProof.Rows.split_le t (" " : Str)
  cases hb : badAt 0 (Txt.split t " ") with
  | some i =>
    have h3 := badAt_le hb
    exact Or.inl ⟨_, _, sh_int (a := 40) (by show _ < 1099511627776; omega) (by decide) (by decide), by decide, by decide⟩
  | none =>
    obtain ⟨h4, h5⟩ := badAt_none hb (by decide)
    refine shOk_tupS (fun d hd => ?_) (by rw [List.length_map, List.length_map]; omega)
    obtain ⟨z, hz, rfl⟩ := List.mem_map.mp hd
    obtain ⟨w, hw, rfl⟩ := List.mem_map.mp hz
    obtain ⟨_, h6, h7, _⟩ := valW_ok (h5 w hw)
    exact (sh_small (by omega)).mono (by decide) (by decide)
theorem dg_signs : ∀ s : _root_.Fin 10, (dg (s.val : Int)).cps.toList.all (fun c => decide (c < 100)) = true := by decide +kernel
theorem showS_le {ss : List Int} (hs : Shares ss) : (showS ss).length ≤ 10 ∧ ShOk (.str (showS ss)) := by
  have h5 := hs.few
  have hb : (" " : Str).length = 1 := by decide +kernel
  have h1 := (join_le (a := " ") (b := 1) (by rw [hb]; decide) (ys := ss.map dg) (fun y hy => by
    obtain ⟨s, hs1, rfl⟩ := List.mem_map.mp hy
    exact Nat.le_of_eq (dg_ok (hs.each s hs1)).1)).1
  rw [List.length_map] at h1
  have h2 : (showS ss).length ≤ 10 := Nat.le_trans h1 (by omega)
  refine ⟨h2, Or.inl ⟨0, 2000, ⟨by simp only [PyData.hasDict], by simp only [PyData.depth]; exact Nat.le_refl 0, by simp only [PyData.showable], ?_⟩, by decide, by decide⟩⟩
  simp only [PyData.shown]
  refine Nat.le_trans (PySem.StrLaws.reprText_len _ fun c hc => ?_) (by omega)
  unfold showS Txt.join at hc
  rw [PySem.StrLaws.glued_eq_join] at hc
  rcases (PyProof.Rows.mem_join " " c (ss.map dg)).mp hc with ⟨w, hw, hc⟩ | ⟨_, hc⟩
  · obtain ⟨s, hs1, rfl⟩ := List.mem_map.mp hw
    have h3 := hs.each s hs1
    have h4 := List.all_eq_true.mp (dg_signs ⟨s.toNat, by omega⟩) c (by
      have e : ((s.toNat : Nat) : Int) = s := by omega
      rw [show (((⟨s.toNat, by omega⟩ : _root_.Fin 10).val : Nat) : Int) = s from e]
      exact hc)
    have h4 := of_decide_eq_true h4
    have : (100 : Nat) < 16 ^ 8 := by decide
    omega
  · have h6 : ∀ c ∈ (" " : Str).cps.toList, c < 100 := by decide +kernel
    have := h6 c hc
    have : (100 : Nat) < 16 ^ 8 := by decide
    omega
end DL
namespace Law
open PySem L2 DL
def topS (i : Nat) : Stmt := PySem.Challenge.pw_kindsgathered_k04_shares_written.main.body.getD i (.Pass ⟨0, 0, 0, 0⟩)
local macro_rules | `(tactic| walk_at "dl1") => `(tactic| first
  | with_reducible refine w_seq ?_
  | with_reducible refine w_asg ?_
  | with_reducible refine w_ret ?_
  | with_reducible refine w_drop ?_
  | with_reducible refine w_if ?_
  | with_reducible refine w_par ?_
  | with_reducible refine evt_B ?_
  | with_reducible refine evt_test ?_
  | with_reducible refine evt_and ?_
  | with_reducible refine evt_or ?_
  | with_reducible refine evt_not ?_
  | with_reducible refine evt_yes ?_
  | with_reducible refine ev_lstMul ?_
  | with_reducible refine ev_op ?_
  | with_reducible refine ev_un ?_
  | with_reducible refine ev_callB ?_
  | with_reducible refine ev_call ?_
  | with_reducible refine eva_cons ?_
  | with_reducible refine eva_nil ?_
  | with_reducible refine evo_none ?_
  | with_reducible refine evo_some ?_
  | with_reducible refine ev_slL ?_
  | with_reducible refine ev_slT ?_
  | with_reducible refine ev_and ?_
  | with_reducible refine ev_or ?_
  | with_reducible refine ev_not ?_
  | with_reducible refine ev_chain ?_
  | with_reducible refine ev_tup ?_
  | with_reducible refine ev_if ?_
  | (refine ev_varTN rfl ?_)
  | (refine ev_varT rfl ?_)
  | (refine ev_var rfl (fun h => nomatch h) ?_)
  | with_reducible refine ev_cI ?_
  | with_reducible refine ev_cB ?_
  | with_reducible refine ev_cS ?_
  | with_reducible refine ev_cN ?_
  | with_reducible refine ev_cTy ?_)
local macro_rules | `(tactic| walk_at "dl2") => `(tactic| first
  | with_reducible refine o2_addI ?_
  | with_reducible refine o2_sub ?_
  | with_reducible refine o2_lt ?_
  | with_reducible refine o2_le ?_
  | with_reducible refine o2_gt ?_
  | with_reducible refine o2_ge ?_
  | with_reducible refine o2_eqI ?_
  | with_reducible refine o2_neI ?_
  | with_reducible refine o2_neS ?_
  | with_reducible refine o2_eqS ?_
  | with_reducible refine o1_neg ?_
  | with_reducible refine o2_isB ?_
  | with_reducible refine o2_isNotB ?_
  | with_reducible refine o2_inN ?_
  | with_reducible refine o2_notInN ?_
  | with_reducible refine on_abs ?_
  | with_reducible refine on_max ?_
  | with_reducible refine on_min ?_
  | with_reducible refine o2_ixF0 ?_
  | with_reducible refine o2_ixF1 ?_
  | with_reducible refine on_lenI ?_
  | with_reducible refine on_lenN ?_
  | with_reducible refine on_sumI ?_
  | with_reducible refine on_lenT ?_
  | with_reducible refine on_lenL ?_
  | with_reducible refine on_lenS ?_
  | with_reducible refine on_tupL ?_
  | with_reducible refine on_tupT ?_
  | with_reducible refine on_lstT ?_
  | with_reducible refine on_isiTup ?_
  | with_reducible refine on_isiInt ?_
  | with_reducible refine on_isiBool ?_
  | with_reducible refine on_isiStr ?_
  | with_reducible refine on_isiList ?_
  | with_reducible refine on_isiDict ?_
  | with_reducible refine on_sumL ?_
  | with_reducible refine on_sumT ?_
  | with_reducible refine on_all ?_
  | with_reducible refine on_any ?_
  | refine ⟨_, rfl, ?_⟩
  | refine ⟨_, _, rfl, ?_⟩
  | refine ⟨[], rfl, Nat.le_of_ble_eq_true rfl, ?_⟩
  | refine ⟨[_], rfl, Nat.le_of_ble_eq_true rfl, ?_⟩
  | refine ⟨[_, _], rfl, Nat.le_of_ble_eq_true rfl, ?_⟩
  | refine ⟨[_, _, _], rfl, Nat.le_of_ble_eq_true rfl, ?_⟩)
local macro_rules | `(tactic| walk_at "dl") => `(tactic| first | walk_at "dl1" | walk_at "dl2")
local macro_rules | `(tactic| walk_at "go") => `(tactic| repeat walk_at "dl")
section
variable {P : Program} {w : World} {K : PySem.W.Frag} {mg : Str → Option Value} {base : Heap}
variable {c_NoShares c_NoKind c_NoNumber c_NoNeeds c_TooMany c_NoText c_GatherError : Addr}
abbrev s_NoText_init : Stmt := inClass (topS 7) 0
theorem sc_NoText_init : FnScope ["self", "at"] ["self", "at"] (defScope s_NoText_init) := ⟨rfl, rfl, rfl, by decide +kernel, rfl, by decide +kernel, by decide +kernel⟩
theorem ok_own_NoText {a : Addr} {fd : FuncData} (F : Fun K "__init__" "NoText.__init__" s_NoText_init a fd) (g_GatherError : mg "GatherError" = some (.ref c_GatherError)) (r : ClX.CRead K c_GatherError (.type "type")) (vV : PySem.W.findCls K (.ref c_GatherError) (.type "type") "__init__" = some (.val (.builtin "ValueError.__init__")))
    (hg : mg "NoText" = some (.ref c_NoText)) (T : OexC K c_NoText) (hno : PySem.W.findIn K (.ref c_NoText) "at" = some none) (iC : PySem.W.findIn K (.ref c_NoText) "__init__" = some (some (.ref a))) (tI : PySem.W.typeIn K (.ref a) = some (.type "function")) : OxT P w K mg base 1 "NoText" c_NoText :=
  ⟨hg, T, hno, a, fd, iC, tI, init_ok F sc_NoText_init (fun cdv A outer s H E hr => pss_cons (ps_expr (pe_geinit (by rfl) g_GatherError r vV (pa_cons (pv 0) (pa_cons pe_str pa_nil)))) (pss_one (ps_ost (pv 0) (pv 1)))), F.binds (ps := ["self", "at"]) fun _ _ _ _ _ _ us hl => match us, hl with | [_, _], _ => rfl⟩
abbrev s_is_whole : Stmt := topS 9
theorem sc_is_whole : FnScope ["thing"] ["thing"] (defScope s_is_whole) := ⟨rfl, rfl, rfl, by decide +kernel, rfl, by decide +kernel, by decide +kernel⟩
theorem ok_is_whole {a : Addr} {fd : FuncData} (F : Fun K "is_whole" "is_whole" s_is_whole a fd) (hm : mg "is_whole" = some (.ref a)) (z_isinstance : mg "isinstance" = none) (z_bool : mg "bool" = none) (z_int : mg "int" = none) :
    Cl P w K mg base 1 "is_whole" f_isWhole := by
  refine ⟨a, fd, ["thing"], fn_ok F sc_is_whole (fun args m R h => ?_) (fun cdv A outer s H E hr => ⟨_, (pss_one (ps_ret (pe_and (pe_callB (kIsi K) (by rfl) z_isinstance (by decide +kernel) (pa_cons (pv 0) (pa_cons (pe_bltn (v := .ty "int") (by rfl) z_int (by decide +kernel) rfl) pa_nil))) (pe_one (pe_not (pe_callB (kIsi K) (by rfl) z_isinstance (by decide +kernel) (pa_cons (pv 0) (pa_cons (pe_bltn (v := .ty "bool") (by rfl) z_bool (by decide +kernel) rfl) pa_nil)))))))), fun args m R h => ?_⟩), hm, F.kp, F.binds (ps := ["thing"]) fun _ _ _ _ _ _ us hl => match us, hl with | [_], _ => rfl⟩
  ·
    obtain ⟨_, rfl, _⟩ := h; rfl
  ·
    obtain ⟨x, rfl, q⟩ := h
    repeat walk_at "dl"
    refine ⟨fun hc => ?_, fun hc => ?_⟩
    · repeat walk_at "dl"
      have e : (!isBoo x) = isInt x := by cases x <;> simp_all [isBoo, isInt, isIntB]
      rw [e]
      exact q
    · have e : isInt x = false := by cases x <;> simp_all [isInt, isIntB]
      rw [e] at q
      exact q
abbrev s__law_cell : Stmt := topS 20
theorem sc__law_cell : FnScope ["_law_script", "_law_k"] ["_law_script", "_law_k"] (defScope s__law_cell) := ⟨rfl, rfl, rfl, by decide +kernel, rfl, by decide +kernel, by decide +kernel⟩
theorem ok__law_cell {a : Addr} {fd : FuncData} (F : Fun K "_law_cell" "_law_cell" s__law_cell a fd) (hm : mg "_law_cell" = some (.ref a)) (z_len : mg "len" = none) :
    Cl P w K mg base 1 "_law_cell" f_cell := by
  refine ⟨a, fd, ["_law_script", "_law_k"], fn_ok F sc__law_cell (fun args m R h => ?_) (fun cdv A outer s H E hr => ⟨_, (pss_cons (ps_if (pt_cmpR oLt (pv 1) (pe_callB (kLen K) (by rfl) z_len (by decide +kernel) (pa_cons (pv 0) pa_nil)) (nomark _)) (pss_one (ps_ret (pe_ix (kIx K) (pv 0) (pv 1) (fun _ _ => rfl)))) pss_nil)
      (pss_one (ps_ret pe_int))), fun args m R h => ?_⟩), hm, F.kp, F.binds (ps := ["_law_script", "_law_k"]) fun _ _ _ _ _ _ us hl => match us, hl with | [_, _], _ => rfl⟩
  ·
    obtain ⟨_, _, rfl, _⟩ := h; rfl
  ·
    obtain ⟨ns, k, rfl, q⟩ := h
    repeat walk_at "dl"
    by_cases hk : (k : Int) < (ns.length : Int)
    · refine br_t (decide_eq_true hk) ?_
      repeat walk_at "dl"
      refine o2_ixS (List.getElem?_eq_getElem (by omega)) ?_
      exact q _
    · refine br_f (decide_eq_false hk) (w_next ?_)
      repeat walk_at "dl"
      exact q _
abbrev s__law_mix : Stmt := topS 21
theorem sc__law_mix : FnScope ["_law_cell_here", "_law_k", "_law_some", "_law_stir"] ["_law_cell_here", "_law_k"] (defScope s__law_mix) := ⟨rfl, rfl, rfl, by decide +kernel, rfl, by decide +kernel, by decide +kernel⟩
theorem ok__law_mix {a : Addr} {fd : FuncData} (F : Fun K "_law_mix" "_law_mix" s__law_mix a fd) (hm : mg "_law_mix" = some (.ref a)) :
    Cl P w K mg base 1 "_law_mix" f_mix := by
  refine ⟨a, fd, ["_law_cell_here", "_law_k"], fn_ok F sc__law_mix (fun args m R h => ?_) (fun cdv A outer s H E hr => ⟨_, (pss_cons (ps_set (i := 2) sc__law_mix.nd rfl (by first | exact Or.inl rfl | exact Or.inr rfl) (pe_lst (pa_cons pe_int (pa_cons pe_int (pa_cons pe_int (pa_cons pe_int (pa_cons pe_int (pa_cons pe_int (pa_cons pe_int (pa_cons pe_int (pa_cons pe_int (pa_cons pe_int (pa_cons pe_int (pa_cons pe_int (pa_cons pe_int pa_nil)))))))))))))))
      (pss_cons (ps_set (i := 3) sc__law_mix.nd rfl (by first | exact Or.inl rfl | exact Or.inr rfl) (pe_op (kMul K) (pe_op (kAdd K) (pe_op oMod (pv 0) pe_int) pe_int) (pe_ix (kIx K) (pv 2) (pe_op oMod (pv 1) pe_int) (fun _ _ => rfl))))
      (pss_cons (ps_set (i := 3) sc__law_mix.nd rfl (by first | exact Or.inl rfl | exact Or.inr rfl) (pe_op (kAdd K) (pe_op (kAdd K) (pv 3) (pe_op (kMul K) pe_int (pv 1))) (pe_op (kMul K) pe_int (pe_op oFdv (pv 1) pe_int))))
      (pss_cons (ps_set (i := 3) sc__law_mix.nd rfl (by first | exact Or.inl rfl | exact Or.inr rfl) (pe_op oMod (pv 3) pe_int))
      (pss_one (ps_ret (pe_op oFdv (pe_op oMod (pe_op (kAdd K) (pe_op (kMul K) (pv 3) (pv 3)) (pe_op (kMul K) pe_int (pv 1))) pe_int) pe_int))))))), fun args m R h => ?_⟩), hm, F.kp, F.binds (ps := ["_law_cell_here", "_law_k"]) fun _ _ _ _ _ _ us hl => match us, hl with | [_, _], _ => rfl⟩
  ·
    obtain ⟨_, _, rfl, _⟩ := h; rfl
  ·
    obtain ⟨c, k, rfl, hk, q⟩ := h
    refine w_seq (w_asg (ev_lstD ?_))
    iterate 27 walk_at "dl1"
    refine ⟨([48271, 69621, 16807, 39373, 30269, 40014, 40692, 50021, 61687, 71993, 83869, 95561, 30307] : List Int).map PyData.int, rfl, Nat.le_of_ble_eq_true rfl, ?_⟩
    obtain ⟨v, hv, hv0, hv1⟩ : ∃ v : Int, atI (([48271, 69621, 16807, 39373, 30269, 40014, 40692, 50021, 61687, 71993, 83869, 95561, 30307] : List Int).map PyData.int) ((k : Int) % 13) = some (.int v) ∧ 0 ≤ v ∧ v < 131072 := by
      have h13 : k % 13 < 13 := Nat.mod_lt k (by decide)
      have e : (k : Int) % 13 = ((k % 13 : Nat) : Int) := by omega
      rw [e, atI_nth, List.getElem?_map, List.getElem?_eq_getElem (by simpa using h13)]
      refine ⟨_, rfl, ?_⟩
      have hm := List.getElem_mem (l := ([48271, 69621, 16807, 39373, 30269, 40014, 40692, 50021, 61687, 71993, 83869, 95561, 30307] : List Int)) (n := k % 13) (by simpa using h13)
      revert hm
      generalize ([48271, 69621, 16807, 39373, 30269, 40014, 40692, 50021, 61687, 71993, 83869, 95561, 30307] : List Int)[k % 13] = w
      intro hm
      simp only [List.mem_cons, List.mem_nil_iff, or_false] at hm
      omega
    have hc := Int.emod_nonneg c (show (2147483647 : Int) ≠ 0 by decide)
    have hc2 := Int.emod_lt_of_pos c (show (0 : Int) < 2147483647 by decide)
    repeat walk_at "dl"
    refine o2_mod (by decide) ?_
    repeat walk_at "dl"
    refine o2_mod (by decide) ?_
    refine o2_ixL hv ?_
    refine o2_mulI (cmul_small (by omega) (by omega)) ?_
    repeat walk_at "dl"
    refine o2_mulI (cmul_small (by decide) (by omega)) ?_
    repeat walk_at "dl"
    refine o2_fdv (cdiv_small (by decide) (by decide)) ?_
    refine o2_mulI (cmul_small (by decide) (by omega)) ?_
    repeat walk_at "dl"
    refine o2_mod (by decide) ?_
    generalize hs : ((c % 2147483647 + 12345) * v + 977 * (k : Int) + 7919 * ((k : Int) / 13)) = S
    have h1 := Int.emod_nonneg S (show (1000000007 : Int) ≠ 0 by decide)
    have h2 := Int.emod_lt_of_pos S (show (0 : Int) < 1000000007 by decide)
    generalize ht : S % 1000000007 = T at *
    repeat walk_at "dl"
    refine o2_mulI (cmul_small (by omega) (by omega)) ?_
    repeat walk_at "dl"
    refine o2_mulI (cmul_small (by decide) (by omega)) ?_
    repeat walk_at "dl"
    refine o2_mod (by decide) ?_
    repeat walk_at "dl"
    refine o2_fdv (cdiv_small (by decide) (by decide)) ?_
    have h3 := Int.emod_nonneg (T * T + 48271 * (k : Int)) (show (1000000007 : Int) ≠ 0 by decide)
    have h4 := Int.emod_lt_of_pos (T * T + 48271 * (k : Int)) (show (0 : Int) < 1000000007 by decide)
    exact q _ (by omega) (by omega)
abbrev s__law_take : Stmt := topS 23
theorem sc__law_take : FnScope ["_law_box_here", "_law_many", "_law_left", "_law_digit"] ["_law_box_here", "_law_many"] (defScope s__law_take) := ⟨rfl, rfl, rfl, by decide +kernel, rfl, by decide +kernel, by decide +kernel⟩
theorem ok__law_take {a : Addr} {fd : FuncData} (F : Fun K "_law_take" "_law_take" s__law_take a fd) (hm : mg "_law_take" = some (.ref a)) (z_divmod : mg "divmod" = none) :
    Cl P w K mg base 1 "_law_take" f_take := by
  refine ⟨a, fd, ["_law_box_here", "_law_many"], fn_ok F sc__law_take (fun args m R h => ?_) (fun cdv A outer s H E hr => ⟨_, (pss_cons (ps_asg (pe_callB cDivmod (by rfl) z_divmod (by decide +kernel) (pa_cons (pe_ix (kIx K) (pv 0) pe_int (fun _ _ => rfl)) (pa_cons (pv 1) pa_nil))) (kgT K (pg_tup (n := 2) rfl (pgs_cons (pg_name (i := 2) sc__law_take.nd rfl (by first | exact Or.inl rfl | exact Or.inr rfl)) (pgs_cons (pg_name (i := 3) sc__law_take.nd rfl (by first | exact Or.inl rfl | exact Or.inr rfl)) pgs_nil)))))
      (pss_cons (ps_asg (pv 2) (pg_sub (pv 0) pe_int set_list))
      (pss_one (ps_ret (pv 3))))), fun args m R h => ?_⟩), hm, F.kp, F.binds (ps := ["_law_box_here", "_law_many"]) fun _ _ _ _ _ _ us hl => match us, hl with | [_, _], _ => rfl⟩
  ·
    obtain ⟨_, _, rfl, _⟩ := h; rfl
  ·
    obtain ⟨p, k, rfl, hp, hk, hb, q⟩ := h
    refine w_seq (w_asg2 ?_)
    repeat walk_at "dl"
    refine o2_ixB hp fun n => ?_
    repeat walk_at "dl"
    refine on_divmod (hb.cdiv hk (by decide)) ?_
    repeat walk_at "dl"
    refine w_setB (p := p) ?_
    repeat walk_at "dl"
    refine ⟨rfl, ?_⟩
    repeat walk_at "dl"
    refine ⟨rfl, hp, ?_⟩
    repeat walk_at "dl"
    exact q _ (Int.emod_nonneg n (by omega)) (Int.emod_lt_of_pos n hk)
abbrev s__law_whole : Stmt := topS 24
theorem sc__law_whole : FnScope ["_law_thing"] ["_law_thing"] (defScope s__law_whole) := ⟨rfl, rfl, rfl, by decide +kernel, rfl, by decide +kernel, by decide +kernel⟩
theorem ok__law_whole {a : Addr} {fd : FuncData} (F : Fun K "_law_whole" "_law_whole" s__law_whole a fd) (hm : mg "_law_whole" = some (.ref a)) (z_isinstance : mg "isinstance" = none) (z_bool : mg "bool" = none) (z_int : mg "int" = none) :
    ClD P w K mg base 1 "_law_whole" (okL K [c_NoShares, c_NoKind, c_NoNumber, c_NoNeeds, c_TooMany, c_NoText] c_GatherError) (fun _ _ _ => f_isWhole) := by
  refine ⟨a, fd, ["_law_thing"], fnD_ok F sc__law_whole (fun a D d args m R h => ?_) (fun cdv A outer s H E p D d hD hsee hr => ?_), hm, F.kp, F.binds (ps := ["_law_thing"]) fun _ _ _ _ _ _ us hl => match us, hl with | [_], _ => rfl⟩
  ·
    obtain ⟨_, rfl, _⟩ := h; rfl
  · obtain ⟨i0, hX⟩ := hD
    refine ⟨_, (pss_one (ps_ret (pe_and (pe_callB (kIsi K) (by rfl) z_isinstance (by decide +kernel) (pa_cons (pv 0) (pa_cons (pe_bltn (v := .ty "int") (by rfl) z_int (by decide +kernel) rfl) pa_nil))) (pe_one (pe_not (pe_callB (kIsi K) (by rfl) z_isinstance (by decide +kernel) (pa_cons (pv 0) (pa_cons (pe_bltn (v := .ty "bool") (by rfl) z_bool (by decide +kernel) rfl) pa_nil)))))))), fun args m R h => ?_⟩
    obtain ⟨x, rfl, q⟩ := h
    repeat walk_at "dl"
    refine ⟨fun hc => ?_, fun hc => ?_⟩
    · repeat walk_at "dl"
      have e : (!isBoo x) = isInt x := by cases x <;> simp_all [isBoo, isInt, isIntB]
      rw [e]
      exact q
    · have e : isInt x = false := by cases x <;> simp_all [isInt, isIntB]
      rw [e] at q
      exact q
abbrev s__law_marks : Stmt := topS 28
theorem sc__law_marks : FnScope ["_law_e", "_law_found"] ["_law_e"] (defScope s__law_marks) := ⟨rfl, rfl, rfl, by decide +kernel, rfl, by decide +kernel, by decide +kernel⟩
theorem ok__law_marks {a : Addr} {fd : FuncData} (F : Fun K "_law_marks" "_law_marks" s__law_marks a fd) (hm : mg "_law_marks" = some (.ref a)) (z_isinstance : mg "isinstance" = none) (z_ValueError : mg "ValueError" = none) (g_GatherError : mg "GatherError" = some (.ref c_GatherError)) (g_NoNeeds : mg "NoNeeds" = some (.ref c_NoNeeds)) (g_NoNumber : mg "NoNumber" = some (.ref c_NoNumber)) (g_NoKind : mg "NoKind" = some (.ref c_NoKind)) (g_NoShares : mg "NoShares" = some (.ref c_NoShares)) (g_NoText : mg "NoText" = some (.ref c_NoText)) (g_TooMany : mg "TooMany" = some (.ref c_TooMany)) :
    ClD P w K mg base 1 "_law_marks" (okL K [c_NoShares, c_NoKind, c_NoNumber, c_NoNeeds, c_TooMany, c_NoText] c_GatherError) (f_marks K [c_NoShares, c_NoKind, c_NoNumber, c_NoNeeds, c_TooMany, c_NoText] c_GatherError) := by
  refine ⟨a, fd, ["_law_e"], fnD_ok F sc__law_marks (fun a D d args m R h => ?_) (fun cdv A outer s H E p D d hD hsee hr => ?_), hm, F.kp, F.binds (ps := ["_law_e"]) fun _ _ _ _ _ _ us hl => match us, hl with | [_], _ => rfl⟩
  ·
    obtain ⟨_, _, _, rfl, _⟩ := h; rfl
  · obtain ⟨i0, hX⟩ := hD
    refine ⟨_, (pss_cons (ps_if (PW.pt (pw_or (pt_not (pt_val (pe_callB (kIsD K hsee hX.exc) (by rfl) z_isinstance (by decide +kernel) (pa_cons (pv 0) (pa_cons (pe_glob (v := V.ref c_GatherError) (by rfl) g_GatherError rfl) pa_nil))))) (pw_or1 (pt_not (pt_val (pe_callB (kIsD K hsee hX.exc) (by rfl) z_isinstance (by decide +kernel) (pa_cons (pv 0) (pa_cons (pe_bltn (v := .ty "ValueError") (by rfl) z_ValueError (by decide +kernel) rfl) pa_nil)))))))) (pss_one (ps_ret pe_str)) pss_nil)
      (pss_cons (ps_set (i := 1) sc__law_marks.nd rfl (by first | exact Or.inl rfl | exact Or.inr rfl) (pe_lst (pa_cons (pe_callB (kIsD K hsee hX.exc) (by rfl) z_isinstance (by decide +kernel) (pa_cons (pv 0) (pa_cons (pe_glob (v := V.ref c_NoShares) (by rfl) g_NoShares rfl) pa_nil))) (pa_cons (pe_callB (kIsD K hsee hX.exc) (by rfl) z_isinstance (by decide +kernel) (pa_cons (pv 0) (pa_cons (pe_glob (v := V.ref c_NoKind) (by rfl) g_NoKind rfl) pa_nil))) (pa_cons (pe_callB (kIsD K hsee hX.exc) (by rfl) z_isinstance (by decide +kernel) (pa_cons (pv 0) (pa_cons (pe_glob (v := V.ref c_NoNumber) (by rfl) g_NoNumber rfl) pa_nil))) (pa_cons (pe_callB (kIsD K hsee hX.exc) (by rfl) z_isinstance (by decide +kernel) (pa_cons (pv 0) (pa_cons (pe_glob (v := V.ref c_NoNeeds) (by rfl) g_NoNeeds rfl) pa_nil))) pa_nil))))))
      (pss_cons (ps_set (i := 1) sc__law_marks.nd rfl (by first | exact Or.inl rfl | exact Or.inr rfl) (pe_op (kAdd K) (pv 1) (pe_lst (pa_cons (pe_callB (kIsD K hsee hX.exc) (by rfl) z_isinstance (by decide +kernel) (pa_cons (pv 0) (pa_cons (pe_glob (v := V.ref c_TooMany) (by rfl) g_TooMany rfl) pa_nil))) (pa_cons (pe_callB (kIsD K hsee hX.exc) (by rfl) z_isinstance (by decide +kernel) (pa_cons (pv 0) (pa_cons (pe_glob (v := V.ref c_NoText) (by rfl) g_NoText rfl) pa_nil))) pa_nil)))))
      (pss_cons (ps_if (pt_cmpR (kNeH K hr) (kCntF K (pe_bm PySem.F.plainAttrs_list PySem.F.slot_list_count PySem.F.type_list_count mt_cntF (pv 1) (pa_cons pe_bl pa_nil))) pe_int (nomark _)) (pss_one (ps_ret pe_str)) pss_nil)
      (pss_one (ps_ret (pe_ix (kIx K) (pe_lst (pa_cons pe_str (pa_cons pe_str (pa_cons pe_str (pa_cons pe_str (pa_cons pe_str (pa_cons pe_str pa_nil))))))) (kIdxF K (pe_bm PySem.F.plainAttrs_list PySem.F.slot_list_index PySem.F.type_list_index mt_index (pv 1) (pa_cons pe_bl pa_nil))) (fun _ _ => rfl)))))))), fun args m R h => ?_⟩
    obtain ⟨z, hX', hcs, rfl, q⟩ := h
    refine w_seq (w_if ?_)
    refine evt_or (evt_not (evt_B (ev_callB (eva_cons (ev_var rfl (fun h => nomatch h) (eva_cons (ev_cV (eva_nil (on_isD relV_ref hX'.gt ⟨_, rfl, ?_⟩)))))))))
    refine br_f rfl ?_
    refine evt_not (evt_B (ev_callB (eva_cons (ev_var rfl (fun h => nomatch h) (eva_cons (ev_cV (eva_nil (on_isD relV_ty hX'.val ⟨_, rfl, ?_⟩))))))))
    refine br_f rfl (w_next ?_)
    refine w_seq (w_asg (ev_lstD ?_))
    refine eva_cons (ev_callB (eva_cons (ev_var rfl (fun h => nomatch h) (eva_cons (ev_cV (eva_nil (on_isD relV_ref (hX'.one 0 (by rw [hcs]; decide)) ?_)))))))
    refine eva_cons (ev_callB (eva_cons (ev_var rfl (fun h => nomatch h) (eva_cons (ev_cV (eva_nil (on_isD relV_ref (hX'.one 1 (by rw [hcs]; decide)) ?_)))))))
    refine eva_cons (ev_callB (eva_cons (ev_var rfl (fun h => nomatch h) (eva_cons (ev_cV (eva_nil (on_isD relV_ref (hX'.one 2 (by rw [hcs]; decide)) ?_)))))))
    refine eva_cons (ev_callB (eva_cons (ev_var rfl (fun h => nomatch h) (eva_cons (ev_cV (eva_nil (on_isD relV_ref (hX'.one 3 (by rw [hcs]; decide)) ?_)))))))
    refine eva_nil ⟨[_, _, _, _], rfl, by show 4 ≤ 100000; decide, ?_⟩
    refine w_seq (w_asg (ev_op (ev_var rfl (fun h => nomatch h) (ev_lstD ?_))))
    refine eva_cons (ev_callB (eva_cons (ev_var rfl (fun h => nomatch h) (eva_cons (ev_cV (eva_nil (on_isD relV_ref (hX'.one 4 (by rw [hcs]; decide)) ?_)))))))
    refine eva_cons (ev_callB (eva_cons (ev_var rfl (fun h => nomatch h) (eva_cons (ev_cV (eva_nil (on_isD relV_ref (hX'.one 5 (by rw [hcs]; decide)) ?_)))))))
    refine eva_nil ⟨[_, _], rfl, by show 2 ≤ 100000; decide, ?_⟩
    refine o2_addL (by show 4 + 2 ≤ 100000; decide) ?_
    refine w_seq (w_if ?_)
    walk_at "go"
    refine ev_cntB (ev_var rfl (fun h => nomatch h) ⟨[false, false, false, false, false, true], rfl, ?_⟩)
    walk_at "go"
    refine br_f rfl (w_next ?_)
    refine w_ret (ev_op (ev_lstD ?_))
    walk_at "go"
    refine ⟨[("shares" : Str), "kind", "number", "needs", "many", "text"].map PyData.str, rfl, by show 6 ≤ 100000; decide, ?_⟩
    refine ev_idxB (ev_var rfl (fun h => nomatch h) ⟨[false, false, false, false, false, true], rfl, ev_cB ⟨true, 5, rfl, rfl, fun i hi => ?_, ?_⟩⟩)
    · match i, hi with
      | 0, _ => rfl
      | 1, _ => rfl
      | 2, _ => rfl
      | 3, _ => rfl
      | 4, _ => rfl
    exact o2_ixL (d := .str "text") rfl q
abbrev s__law_read : Stmt := topS 29
theorem sc__law_read : FnScope ["_law_text", "_law_words", "_law_at", "_law_word"] ["_law_text"] (defScope s__law_read) := ⟨rfl, rfl, rfl, by decide +kernel, rfl, by decide +kernel, by decide +kernel⟩
theorem ok__law_read {a : Addr} {fd : FuncData} (F : Fun K "_law_read" "_law_read" s__law_read a fd) (hm : mg "_law_read" = some (.ref a)) (z_range : mg "range" = none) (z_len : mg "len" = none) (z_tuple : mg "tuple" = none) (z_int : mg "int" = none) :
    Cl P w K mg base 1 "_law_read" f_lawRead := by
  refine ⟨a, fd, ["_law_text"], fn_ok F sc__law_read (fun args m R h => ?_) (fun cdv A outer s H E hr => ⟨_, (pss_cons (ps_set (i := 1) sc__law_read.nd rfl (by first | exact Or.inl rfl | exact Or.inr rfl) (kSplit (pe_split (pv 0) pe_str)))
      (pss_cons (ps_for PassesOwn.never rfl (pi_range1 (by rfl) z_range (pa_cons (pe_callB (kLen K) (by rfl) z_len (by decide +kernel) (pa_cons (pv 1) pa_nil)) pa_nil)) (pg_name (i := 2) sc__law_read.nd rfl (by first | exact Or.inl rfl | exact Or.inr rfl)) (pss_one (ps_if (PW.pt (pw_or (pt_cmpR (kEq K hr) (pv 2) pe_int (nomark _)) (pw_or1 (pt_cmpR (oNotInS K) (pe_ix (kIx K) (pv 1) (pv 2) (fun _ _ => rfl)) (pe_lst (pa_cons pe_str (pa_cons pe_str (pa_cons pe_str (pa_cons pe_str (pa_cons pe_str (pa_cons pe_str (pa_cons pe_str (pa_cons pe_str (pa_cons pe_str pa_nil)))))))))) rfl)))) (pss_one (ps_ret (pv 2))) pss_nil)))
      (pss_one (ps_ret (pe_callTy (kTup K) (by rfl) z_tuple (by decide +kernel) (pa_cons (pe_lc (own := [("_law_word", 3)]) rfl sc__law_read.nd (kiL K (pv 1)) (blkOk_by (own := [("_law_word", 3)]) (N := ["_law_text", "_law_words", "_law_at", "_law_word"]) (sc := defScope s__law_read) (by decide +kernel)) (fun _ _ _ _ _ => (pg_name (i := 3) sc__law_read.nd rfl (by first | exact Or.inl rfl | exact Or.inr rfl))) (fun _ _ _ _ _ => pts_nil) (fun _ _ _ _ _ => (pe_callTy cInt (by rfl) z_int (by decide +kernel) (pa_cons (pv 3) pa_nil)))) pa_nil)))))), fun args m R h => ?_⟩), hm, F.kp, F.binds (ps := ["_law_text"]) fun _ _ _ _ _ _ us hl => match us, hl with | [_], _ => rfl⟩
  ·
    obtain ⟨_, rfl, _⟩ := h; rfl
  ·
    obtain ⟨t, rfl, hl, hno, hok⟩ := h
    have hcnt := PyProof.Rows.split_le t (" " : Str)
    refine w_seq (w_asg (ev_split (ev_var rfl (fun h => nomatch h) ⟨t, rfl, ev_cS ⟨_, rfl, by decide +kernel, by omega, ?_⟩⟩)))
    refine w_seq (w_forR1 (n := (Txt.split t " ").length) ?_ (by omega) (fun i r' m' => m' = m ∧ (∀ j u, j < i → (Txt.split t " ")[j]? = some u → okW u = true ∧ 0 + j ≠ 5) ∧ ∃ y2 y3, r' = [.d (.str t), .d (.list ((Txt.split t " ").map PyData.str)), y2, y3]) ⟨rfl, (fun j u hj => absurd hj (Nat.not_lt_zero j)), _, _, rfl⟩ ?_ ?_)
    · walk_at "go"
      exact ⟨by rw [List.length_map], rfl⟩
    · rintro i r' m' hi ⟨rfl, hpr, y2, y3, rfl⟩
      obtain ⟨w, hw⟩ : ∃ w, (Txt.split t " ")[i]? = some w := ⟨_, List.getElem?_eq_getElem hi⟩
      refine w_if ?_
      walk_at "go"
      by_cases h5 : i = 5
      · refine br_t (decide_eq_true (by omega)) (br_t rfl ?_)
        have h2 := hno _ (badAt_some (i := 0) hw hpr (Or.inl (by omega)))
        rw [Nat.zero_add] at h2
        exact w_ret (ev_var rfl (fun h => nomatch h) h2)
      refine br_f (decide_eq_false (by omega)) ?_
      walk_at "go"
      refine o2_ixL (d := .str w) (by rw [atI_nth, List.getElem?_map, hw]; rfl) ?_
      refine ev_lstD ?_
      walk_at "go"
      refine ⟨[("1" : Str), "2", "3", "4", "5", "6", "7", "8", "9"].map PyData.str, rfl, by show 9 ≤ 100000; decide, o2_inStrL (neg := true) ?_⟩
      rw [if_pos rfl, okW_mem]
      cases hwk : okW w with
      | false =>
        refine ⟨_, rfl, br_t rfl ?_⟩
        have h2 := hno _ (badAt_some (i := 0) hw hpr (Or.inr hwk))
        rw [Nat.zero_add] at h2
        exact w_ret (ev_var rfl (fun h => nomatch h) h2)
      | true =>
        refine ⟨_, rfl, br_f rfl (w_next ⟨rfl, fun j u hj hu => ?_, _, _, rfl⟩)⟩
        by_cases hji : j = i
        · subst hji
          rw [hw] at hu
          cases hu
          exact ⟨hwk, by omega⟩
        · exact hpr j u (by omega) hu
    rintro r' m' ⟨rfl, hpr, y2, y3, rfl⟩
    have hbn := badAt_all (i := 0) (ws := Txt.split t " ") fun j u hu => hpr j u (List.getElem?_eq_some_iff.mp hu).1 hu
    obtain ⟨_, hall⟩ := badAt_none hbn (by decide)
    refine w_ret (ev_callB (eva_cons ?_))
    refine ev_mapLf (xs := Txt.split t " ") (f := PyData.str) (ev_var rfl (fun h => nomatch h) ⟨rfl, rfl⟩) (by omega) (fun u => .int (valW u)) (fun u m7 hu hx => ?_) ?_
    · obtain ⟨v1, v2, v3, v4⟩ := valW_ok (hall u hu)
      have g1 := (dg_ok ⟨v2, v3⟩).1
      rw [← v4] at g1
      exact ev_callB (eva_cons (ev_var rfl (fun h => nomatch h) (eva_nil (on_intS v1 (by rw [g1]; decide) ⟨rfl, rfl⟩))))
    refine eva_nil (on_tupL ?_)
    have h2 := hok hbn
    unfold tupI at h2
    rw [List.map_map] at h2
    exact h2
abbrev s_is_shares : Stmt := topS 13
theorem sc_is_shares : FnScope ["thing", "one"] ["thing"] (defScope s_is_shares) := ⟨rfl, rfl, rfl, by decide +kernel, rfl, by decide +kernel, by decide +kernel⟩
theorem ok_is_shares {a : Addr} {fd : FuncData} (F : Fun K "is_shares" "is_shares" s_is_shares a fd) (hm : mg "is_shares" = some (.ref a)) (z_len : mg "len" = none) (z_isinstance : mg "isinstance" = none) (z_tuple : mg "tuple" = none) (z_all : mg "all" = none) (c_MOST_KINDS : ∃ t, mg "MOST_KINDS" = some (.int 5 t)) (c_MOST_SHARE : ∃ t, mg "MOST_SHARE" = some (.int 9 t)) (k_is_whole : Cl P w K mg base 1 "is_whole" f_isWhole) :
    Cl P w K mg base 2 "is_shares" f_isShares := by
  refine ⟨a, fd, ["thing"], fn_ok F sc_is_shares (fun args m R h => ?_) (fun cdv A outer s H E hr => ⟨_, (pss_cons (ps_if (PW.pt (pw_or (pt_not (pt_val (pe_callB (kIsi K) (by rfl) z_isinstance (by decide +kernel) (pa_cons (pv 0) (pa_cons (pe_bltn (v := .ty "tuple") (by rfl) z_tuple (by decide +kernel) rfl) pa_nil))))) (pw_or1 (pt_not (pt_chain oLe oLe pe_int (pe_callB (kLen K) (by rfl) z_len (by decide +kernel) (pa_cons (pv 0) pa_nil)) (pe_gi c_MOST_KINDS (by rfl))))))) (pss_one (ps_ret pe_bl)) pss_nil)
      (pss_one (ps_ret (pe_callB (kAll K) (by rfl) z_all (by decide +kernel) (pa_cons (pe_lc (own := [("one", 1)]) rfl sc_is_shares.nd (kiT K (pv 0)) (blkOk_by (own := [("one", 1)]) (N := ["thing", "one"]) (sc := defScope s_is_shares) (by decide +kernel)) (fun _ _ _ _ _ => (pg_name (i := 1) sc_is_shares.nd rfl (by first | exact Or.inl rfl | exact Or.inr rfl))) (fun _ _ _ _ _ => pts_nil) (fun _ _ _ _ _ => (pe_and (pe_cl k_is_whole hr (by decide) (by rfl) (pa_cons (pv 1) pa_nil)) (pe_one (pe_chain oLe oLe pe_int (pv 1) (pe_gi c_MOST_SHARE (by rfl))))))) pa_nil))))), fun args m R h => ?_⟩), hm, F.kp, F.binds (ps := ["thing"]) fun _ _ _ _ _ _ us hl => match us, hl with | [_], _ => rfl⟩
  ·
    obtain ⟨_, rfl, _⟩ := h; rfl
  ·
    obtain ⟨x, rfl, q⟩ := h
    repeat walk_at "dl"
    cases hx : isTup x with
    | false =>
      refine br_t rfl (br_t rfl ?_)
      repeat walk_at "dl"
      have e : isShares x = false := by cases x <;> first | rfl | cases hx
      rw [e] at q
      exact q
    | true =>
      obtain ⟨ds, rfl⟩ := tup_shape hx
      refine br_f rfl ?_
      repeat walk_at "dl"
      by_cases h1 : (1 : Int) ≤ (ds.length : Int)
      · refine br_t (decide_eq_true h1) ?_
        repeat walk_at "dl"
        by_cases h5 : (ds.length : Int) ≤ 5
        · rw [decide_eq_true h5]
          refine br_f rfl ?_
          refine w_next ?_
          repeat walk_at "dl"
          refine ev_mapT (ds := ds) ?_ (by omega) (fun d => .bool (okS d)) (fun i d m' hd hx => ?_) ?_
          · repeat walk_at "dl"
            exact ⟨rfl, rfl⟩
          · repeat walk_at "dl"
            cases hi : isInt d with
            | false =>
              refine br_f rfl ⟨?_, rfl⟩
              cases d <;> first | rfl | cases hi
            | true =>
              obtain ⟨i, rfl⟩ := int_shape hi
              refine br_t rfl ?_
              repeat walk_at "dl"
              by_cases g1 : (1 : Int) ≤ i
              · refine br_t (decide_eq_true g1) ?_
                repeat walk_at "dl"
                refine ⟨?_, rfl⟩
                show Val.d (.bool (decide (i ≤ 9))) = .d (.bool (decide (1 ≤ i) && decide (i ≤ 9)))
                rw [decide_eq_true g1, Bool.true_and]
              · refine br_f (decide_eq_false g1) ⟨?_, rfl⟩
                show Val.d (.bool false) = .d (.bool (decide (1 ≤ i) && decide (i ≤ 9)))
                rw [decide_eq_false g1, Bool.false_and]
          · repeat walk_at "dl"
            have e : (ds.map fun d => PyData.bool (okS d)) = (ds.map okS).map PyData.bool := by rw [List.map_map]; rfl
            rw [e]
            repeat walk_at "dl"
            have e : (ds.map okS).all id = isShares (.tuple ds) := by
              show _ = (decide (1 ≤ ds.length) && (decide (ds.length ≤ 5) && ds.all okS))
              rw [decide_eq_true (show 1 ≤ ds.length by omega), decide_eq_true (show ds.length ≤ 5 by omega), List.all_map]; rfl
            rw [e]
            exact q
        · rw [decide_eq_false h5]
          refine br_t rfl ?_
          repeat walk_at "dl"
          have e : isShares (.tuple ds) = false := by
            show (decide (1 ≤ ds.length) && (decide (ds.length ≤ 5) && ds.all okS)) = false
            rw [decide_eq_false (show ¬ ds.length ≤ 5 by omega), Bool.false_and, Bool.and_false]
          rw [e] at q
          exact q
      · refine br_f (decide_eq_false h1) ⟨_, rfl, br_t rfl ?_⟩
        repeat walk_at "dl"
        have e : isShares (.tuple ds) = false := by
          show (decide (1 ≤ ds.length) && (decide (ds.length ≤ 5) && ds.all okS)) = false
          rw [decide_eq_false (show ¬ 1 ≤ ds.length by omega), Bool.false_and]
        rw [e] at q
        exact q
abbrev s__law_box : Stmt := topS 22
theorem sc__law_box : FnScope ["_law_script", "_law_k", "_law_cell_here", "_law_number", "_law_j"] ["_law_script", "_law_k"] (defScope s__law_box) := ⟨rfl, rfl, rfl, by decide +kernel, rfl, by decide +kernel, by decide +kernel⟩
theorem ok__law_box {a : Addr} {fd : FuncData} (F : Fun K "_law_box" "_law_box" s__law_box a fd) (hm : mg "_law_box" = some (.ref a)) (z_abs : mg "abs" = none) (z_range : mg "range" = none) (k__law_cell : Cl P w K mg base 1 "_law_cell" f_cell) (k__law_mix : Cl P w K mg base 1 "_law_mix" f_mix) :
    Cl P w K mg base 2 "_law_box" f_box := by
  refine ⟨a, fd, ["_law_script", "_law_k"], fn_ok F sc__law_box (fun args m R h => ?_) (fun cdv A outer s H E hr => ⟨_, (pss_cons (ps_set (i := 2) sc__law_box.nd rfl (by first | exact Or.inl rfl | exact Or.inr rfl) (pe_cl k__law_cell hr (by decide) (by rfl) (pa_cons (pv 0) (pa_cons (pv 1) pa_nil))))
      (pss_cons (ps_if (pt_cmpR (kEq K hr) (pe_op oMod (pv 2) pe_int) pe_int (nomark _)) (pss_one (ps_ret (pe_lst (pa_cons (pe_op oFdv (pe_callB cAbs (by rfl) z_abs (by decide +kernel) (pa_cons (pv 2) pa_nil)) pe_int) pa_nil)))) pss_nil)
      (pss_cons (ps_set (i := 3) sc__law_box.nd rfl (by first | exact Or.inl rfl | exact Or.inr rfl) pe_int)
      (pss_cons (ps_for PassesOwn.never rfl (pi_range1 (by rfl) z_range (pa_cons pe_int pa_nil)) (pg_name (i := 4) sc__law_box.nd rfl (by first | exact Or.inl rfl | exact Or.inr rfl)) (pss_one (ps_set (i := 3) sc__law_box.nd rfl (by first | exact Or.inl rfl | exact Or.inr rfl) (pe_op (kAdd K) (pe_op (kMul K) (pv 3) pe_int) (pe_cl k__law_mix hr (by decide) (by rfl) (pa_cons (pv 2) (pa_cons (pv 4) pa_nil)))))))
      (pss_one (ps_ret (pe_lst (pa_cons (pv 3) pa_nil)))))))), fun args m R h => ?_⟩), hm, F.kp, F.binds (ps := ["_law_script", "_law_k"]) fun _ _ _ _ _ _ us hl => match us, hl with | [_, _], _ => rfl⟩
  ·
    obtain ⟨_, _, rfl, _⟩ := h; rfl
  ·
    obtain ⟨ns, k, rfl, q⟩ := h
    repeat walk_at "dl"
    intro z
    repeat walk_at "dl"
    refine o2_mod (by decide) ?_
    repeat walk_at "dl"
    by_cases hz : z % 2 = 0
    · refine br_t (decide_eq_true hz) (w_ret (ev_lstB ?_))
      repeat walk_at "dl"
      refine o2_fdv (cdiv_small (by decide) (by decide)) ?_
      repeat walk_at "dl"
      exact q
    · refine br_f (decide_eq_false hz) (w_next ?_)
      repeat walk_at "dl"
      refine w_forR1 (n := 40) ?_ (by decide) (fun i r' m' => m' = m ∧ ∃ (n : Int) (y : Val), r' = [.scr ns, .d (.int (k : Int)), .d (.int z), .d (.int n), y] ∧ 0 ≤ n ∧ Bt n (32 * i + 1)) ⟨rfl, 0, .any, rfl, by decide, bt_lit (n := 1) (by decide) (by omega)⟩ ?_ ?_
      · repeat walk_at "dl"
        exact ⟨rfl, rfl⟩
      · rintro i r' m' hi ⟨rfl, n, y, rfl, hn, hb⟩
        repeat walk_at "dl"
        refine o2_mulI (hb.cmul (b := 31) (bt_lit (n := 31) (by decide) (by decide)) (by omega)) ?_
        repeat walk_at "dl"
        refine ⟨by omega, fun w hw hw1 => ?_⟩
        repeat walk_at "dl"
        refine ⟨rfl, n * 142857143 + w, _, rfl, by omega, ?_⟩
        have h1 : Bt (n * 142857143) (32 * i + 1 + 28) := hb.mul (bt_lit (n := 28) (by decide) (Nat.le_refl _))
        exact (h1.add (bt_lit (i := w) (n := 30) (a := 32 * i + 30) (by
          have e : (2 : Nat) ^ 30 = 1073741824 := by decide
          rw [e]; omega) (by omega)) (c := 32 * i + 30) (by omega) (Nat.le_refl _)).mono (by omega)
      · rintro r' m' ⟨rfl, n, y, rfl, hn, hb⟩
        refine w_ret (ev_lstB ?_)
        repeat walk_at "dl"
        exact q
abbrev s__law_sign : Stmt := topS 25
theorem sc__law_sign : FnScope ["_law_box_here", "_law_row"] ["_law_box_here"] (defScope s__law_sign) := ⟨rfl, rfl, rfl, by decide +kernel, rfl, by decide +kernel, by decide +kernel⟩
theorem ok__law_sign {a : Addr} {fd : FuncData} (F : Fun K "_law_sign" "_law_sign" s__law_sign a fd) (hm : mg "_law_sign" = some (.ref a)) (z_len : mg "len" = none) (k__law_take : Cl P w K mg base 1 "_law_take" f_take) :
    Cl P w K mg base 2 "_law_sign" f_sign := by
  refine ⟨a, fd, ["_law_box_here"], fn_ok F sc__law_sign (fun args m R h => ?_) (fun cdv A outer s H E hr => ⟨_, (pss_cons (ps_set (i := 1) sc__law_sign.nd rfl (by first | exact Or.inl rfl | exact Or.inr rfl) pe_str)
      (pss_one (ps_ret (pe_ix (kIx K) (pv 1) (pe_cl k__law_take hr (by decide) (by rfl) (pa_cons (pv 0) (pa_cons (pe_callB (kLen K) (by rfl) z_len (by decide +kernel) (pa_cons (pv 1) pa_nil)) pa_nil))) (fun _ _ => rfl))))), fun args m R h => ?_⟩), hm, F.kp, F.binds (ps := ["_law_box_here"]) fun _ _ _ _ _ _ us hl => match us, hl with | [_], _ => rfl⟩
  ·
    obtain ⟨_, rfl, _⟩ := h; rfl
  ·
    obtain ⟨p, rfl, hp, q⟩ := h
    walk_at "go"
    refine on_lenX (by decide +kernel) ?_
    walk_at "go"
    refine ⟨hp, by decide +kernel, bt_lit (n := 8) (by decide +kernel) (by decide), fun z hz0 hz1 => ?_⟩
    obtain ⟨k, rfl⟩ : ∃ k : Nat, z = (k : Int) := ⟨z.toNat, by omega⟩
    exact o2_ixC (by decide +kernel) (by omega) q
abbrev s__law_drawn_shares : Stmt := topS 26
theorem sc__law_drawn_shares : FnScope ["_law_box_here", "_law_most", "_law_top", "_law_many", "_law_kind", "_law_place"] ["_law_box_here", "_law_most", "_law_top"] (defScope s__law_drawn_shares) := ⟨rfl, rfl, rfl, by decide +kernel, rfl, by decide +kernel, by decide +kernel⟩
theorem ok__law_drawn_shares {a : Addr} {fd : FuncData} (F : Fun K "_law_drawn_shares" "_law_drawn_shares" s__law_drawn_shares a fd) (hm : mg "_law_drawn_shares" = some (.ref a)) (z_tuple : mg "tuple" = none) (z_range : mg "range" = none) (k__law_take : Cl P w K mg base 1 "_law_take" f_take) :
    Cl P w K mg base 2 "_law_drawn_shares" f_drawnShares := by
  refine ⟨a, fd, ["_law_box_here", "_law_most", "_law_top"], fn_ok F sc__law_drawn_shares (fun args m R h => ?_) (fun cdv A outer s H E hr => ⟨_, (pss_cons (ps_set (i := 3) sc__law_drawn_shares.nd rfl (by first | exact Or.inl rfl | exact Or.inr rfl) (pe_op (kAdd K) pe_int (pe_cl k__law_take hr (by decide) (by rfl) (pa_cons (pv 0) (pa_cons (pv 1) pa_nil)))))
      (pss_cons (ps_set (i := 4) sc__law_drawn_shares.nd rfl (by first | exact Or.inl rfl | exact Or.inr rfl) (pe_cl k__law_take hr (by decide) (by rfl) (pa_cons (pv 0) (pa_cons pe_int pa_nil))))
      (pss_cons (ps_if (pt_cmpR (kEq K hr) (pv 4) pe_int (nomark _)) (pss_one (ps_ret (pe_op (kMul K) (pe_tup (pa_cons (pe_op (kAdd K) pe_int (pe_cl k__law_take hr (by decide) (by rfl) (pa_cons (pv 0) (pa_cons (pv 2) pa_nil)))) pa_nil)) (pv 3)))) pss_nil)
      (pss_one (ps_ret (pe_callTy (kTup K) (by rfl) z_tuple (by decide +kernel) (pa_cons (pe_lc (own := [("_law_place", 5)]) rfl sc__law_drawn_shares.nd (pi_range1 (by rfl) z_range (pa_cons (pv 3) pa_nil)) (blkOk_by (own := [("_law_place", 5)]) (N := ["_law_box_here", "_law_most", "_law_top", "_law_many", "_law_kind", "_law_place"]) (sc := defScope s__law_drawn_shares) (by decide +kernel)) (fun _ _ _ _ _ => (pg_name (i := 5) sc__law_drawn_shares.nd rfl (by first | exact Or.inl rfl | exact Or.inr rfl))) (fun _ _ _ _ _ => pts_nil) (fun _ _ _ _ _ => (pe_op (kAdd K) pe_int (pe_cl k__law_take hr (by decide) (by rfl) (pa_cons (pv 0) (pa_cons (pe_ix (kIx K) (pe_lst (pa_cons (pv 2) (pa_cons pe_int (pa_cons (pv 2) pa_nil)))) (pe_op oSub (pv 4) pe_int) (fun _ _ => rfl)) pa_nil)))))) pa_nil))))))), fun args m R h => ?_⟩), hm, F.kp, F.binds (ps := ["_law_box_here", "_law_most", "_law_top"]) fun _ _ _ _ _ _ us hl => match us, hl with | [_, _, _], _ => rfl⟩
  ·
    obtain ⟨_, _, _, rfl, _⟩ := h; rfl
  ·
    obtain ⟨p, a, b, rfl, hp, ha1, ha5, hb2, hb9, q⟩ := h
    repeat walk_at "dl"
    refine ⟨hp, by omega, bt_lit (n := 3) (by show _ < 8; omega) (by decide), fun n0 hn0 hn1 => ?_⟩
    obtain ⟨n, rfl⟩ : ∃ n : Nat, n0 = (n : Int) := ⟨n0.toNat, by omega⟩
    repeat walk_at "dl"
    refine ⟨hp, by decide, bt_lit (n := 3) (by decide) (by decide), fun kd hk0 hk1 => ?_⟩
    repeat walk_at "dl"
    have en : (1 : Int) + (n : Int) = ((n + 1 : Nat) : Int) := by omega
    by_cases hz : kd = 0
    · refine br_t (decide_eq_true hz) ?_
      repeat walk_at "dl"
      refine ⟨hp, by omega, bt_lit (n := 4) (by show _ < 16; omega) (by decide), fun s hs0 hs1 => ?_⟩
      repeat walk_at "dl"
      rw [en]
      refine o2_mulT (by simp) (by omega) (by omega) (Nat.le_of_ble_eq_true rfl) ?_
      have e : (PyData.tuple (List.replicate (n + 1) [PyData.int (1 + s)]).flatten) = tupI (List.replicate (n + 1) (1 + s)) := by
        unfold tupI
        congr 1
        rw [List.map_replicate]
        induction (n + 1) with
        | zero => rfl
        | succ k ih => rw [List.replicate_succ, List.replicate_succ, List.flatten_cons, ih]; rfl
      rw [e]
      refine q _ ⟨by rw [List.length_replicate]; omega, by rw [List.length_replicate]; omega, fun x hx => ?_⟩ (by rw [List.length_replicate]; omega)
      rw [List.eq_of_mem_replicate hx]
      omega
    · refine br_f (decide_eq_false hz) (w_next ?_)
      repeat walk_at "dl"
      refine ev_anyR1 (n := n + 1) ?_ (by omega) (fun _ y => ∃ s : Int, y = .int s ∧ 1 ≤ s ∧ s ≤ 9) (fun i m' hi hx => ?_) fun ds hl hds => ?_
      · repeat walk_at "dl"
        exact ⟨by rw [en], rfl⟩
      · have hv : ∃ v : Int, atI ([PyData.int b, .int 2, .int b] : List PyData) (kd - 1) = some (.int v) ∧ 2 ≤ v ∧ v ≤ 9 := by
          have h3 : kd = 1 ∨ kd = 2 ∨ kd = 3 := by omega
          rcases h3 with rfl | rfl | rfl
          · exact ⟨b, rfl, hb2, hb9⟩
          · exact ⟨2, rfl, by decide, by decide⟩
          · exact ⟨b, rfl, hb2, hb9⟩
        obtain ⟨v, hv1, hv2, hv3⟩ := hv
        iterate 6 walk_at "dl"
        refine ev_op (ev_lstD ?_)
        repeat walk_at "dl"
        refine o2_ixL hv1 ?_
        repeat walk_at "dl"
        refine ⟨hx p _ hp, by omega, bt_lit (n := 4) (by show _ < 16; omega) (by decide), fun s hs0 hs1 => ?_⟩
        repeat walk_at "dl"
        exact ⟨⟨_, rfl, 1 + s, rfl, by omega, by omega⟩, rfl⟩
      · repeat walk_at "dl"
        obtain ⟨ss, hss, hl2⟩ : ∃ ss : List Int, ds = ss.map PyData.int ∧ ∀ s ∈ ss, 1 ≤ s ∧ s ≤ 9 := by
          refine ⟨ds.map intOf, ?_, fun s hs => ?_⟩
          · rw [List.map_map]
            refine (List.map_id ds).symm.trans (List.map_congr_left fun d hd => ?_)
            obtain ⟨i, hi⟩ := List.getElem?_of_mem hd
            obtain ⟨s, rfl, _⟩ := hds i d hi
            rfl
          · obtain ⟨d, hd, rfl⟩ := List.mem_map.mp hs
            obtain ⟨i, hi⟩ := List.getElem?_of_mem hd
            obtain ⟨s, rfl, h1⟩ := hds i d hi
            exact h1
        subst hss
        rw [List.length_map] at hl
        exact q ss ⟨by omega, by omega, hl2⟩ (by omega)
abbrev s__law_odd : Stmt := topS 27
theorem sc__law_odd : FnScope ["_law_box_here", "_law_some"] ["_law_box_here"] (defScope s__law_odd) := ⟨rfl, rfl, rfl, by decide +kernel, rfl, by decide +kernel, by decide +kernel⟩
theorem ok__law_odd {a : Addr} {fd : FuncData} (F : Fun K "_law_odd" "_law_odd" s__law_odd a fd) (hm : mg "_law_odd" = some (.ref a)) (k__law_take : Cl P w K mg base 1 "_law_take" f_take) :
    Cl P w K mg base 2 "_law_odd" f_odd := by
  refine ⟨a, fd, ["_law_box_here"], fn_ok F sc__law_odd (fun args m R h => ?_) (fun cdv A outer s H E hr => ⟨_, (pss_cons (ps_set (i := 1) sc__law_odd.nd rfl (by first | exact Or.inl rfl | exact Or.inr rfl) (pe_lst (pa_cons pe_non (pa_cons pe_bl (pa_cons pe_bl (pa_cons (pe_un oNeg pe_int) (pa_cons pe_int (pa_cons pe_int (pa_cons pe_str (pa_cons pe_str (pa_cons (pe_tup pa_nil) (pa_cons (pe_lst pa_nil) (pa_cons (pe_tup (pa_cons pe_int pa_nil)) (pa_cons (pe_lst (pa_cons pe_int pa_nil)) (pa_cons (pe_tup (pa_cons pe_int (pa_cons pe_int pa_nil))) (pa_cons (pe_disp (pps_cons pe_str pe_int pps_nil) rfl rfl (fun h => nomatch h) (by decide)) (pa_cons pe_dnewT (pa_cons (pe_op oPow pe_int pe_int) (pa_cons (pe_tup (pa_cons pe_int (pa_cons pe_int pa_nil))) (pa_cons (pe_tup (pa_cons pe_int (pa_cons pe_int pa_nil))) pa_nil))))))))))))))))))))
      (pss_one (ps_ret (pe_ix (kIx K) (pe_op (kAdd K) (pv 1) (pe_lst (pa_cons (pe_tup (pa_cons (pe_tup (pa_cons pe_int (pa_cons pe_int pa_nil))) pa_nil)) (pa_cons (pe_tup (pa_cons pe_int (pa_cons pe_int pa_nil))) (pa_cons (pe_tup (pa_cons pe_int (pa_cons (pe_un oNeg pe_int) pa_nil))) (pa_cons (pe_tup (pa_cons pe_bl (pa_cons pe_int pa_nil))) (pa_cons (pe_tup (pa_cons pe_int (pa_cons pe_int (pa_cons pe_int pa_nil)))) (pa_cons (pe_tup (pa_cons (pe_lst (pa_cons pe_int pa_nil)) pa_nil)) pa_nil)))))))) (pe_cl k__law_take hr (by decide) (by rfl) (pa_cons (pv 0) (pa_cons pe_int pa_nil))) (fun _ _ => rfl))))), fun args m R h => ?_⟩), hm, F.kp, F.binds (ps := ["_law_box_here"]) fun _ _ _ _ _ _ us hl => match us, hl with | [_], _ => rfl⟩
  ·
    obtain ⟨_, rfl, _⟩ := h; rfl
  ·
    obtain ⟨p, rfl, hp, q⟩ := h
    refine w_seq (w_asg (ev_lstD ?_))
    walk_at "go"
    refine ev_lstD (eva_nil ⟨[], rfl, by decide, ?_⟩)
    walk_at "go"
    refine ev_lstD (eva_cons (ev_cI (eva_nil ⟨[_], rfl, by decide, ?_⟩)))
    walk_at "go"
    refine ev_dispS ?_
    walk_at "go"
    refine ev_dnewD ?_
    walk_at "go"
    refine o2_pow ⟨by decide, by decide, by decide⟩ ?_
    walk_at "go"
    refine ⟨oddA, rfl, by decide, ?_⟩
    refine w_ret (ev_op (ev_op (ev_var rfl (fun h => nomatch h) (ev_lstD ?_))))
    walk_at "go"
    refine ev_lstD (eva_cons (ev_cI (eva_nil ⟨[_], rfl, by decide, ?_⟩)))
    walk_at "go"
    refine ⟨oddB, rfl, by decide, ?_⟩
    refine o2_addL (by decide) ?_
    walk_at "go"
    refine ⟨hp, by decide, bt_lit (n := 5) (by decide) (by decide), fun z hz0 hz1 => ?_⟩
    obtain ⟨k, rfl⟩ : ∃ k : Nat, z = (k : Int) := ⟨z.toNat, by omega⟩
    have hk : k < oddL.length := by show k < 24; omega
    refine o2_ixL (d := oddL[k]) (by rw [atI_nth]; exact List.getElem?_eq_getElem hk) ?_
    exact q _ (List.getElem_mem hk)
abbrev s_need_shares : Stmt := topS 14
theorem sc_need_shares : FnScope ["shares"] ["shares"] (defScope s_need_shares) := ⟨rfl, rfl, rfl, by decide +kernel, rfl, by decide +kernel, by decide +kernel⟩
theorem ok_need_shares {a : Addr} {fd : FuncData} (F : Fun K "need_shares" "need_shares" s_need_shares a fd) (hm : mg "need_shares" = some (.ref a)) (k_is_shares : Cl P w K mg base 2 "is_shares" f_isShares) :
    Cl P w K mg base 3 "need_shares" f_needShares := by
  refine ⟨a, fd, ["shares"], fn_ok F sc_need_shares (fun args m R h => ?_) (fun cdv A outer s H E hr => ⟨_, (pss_one (ps_if (pt_not (pt_val (pe_cl k_is_shares hr (by decide) (by rfl) (pa_cons (pv 0) pa_nil)))) (pss_one ps_never) pss_nil)), fun args m R h => ?_⟩), hm, F.kp, F.binds (ps := ["shares"]) fun _ _ _ _ _ _ us hl => match us, hl with | [_], _ => rfl⟩
  ·
    obtain ⟨_, rfl, _⟩ := h; rfl
  ·
    obtain ⟨x, rfl, hx, q⟩ := h
    repeat walk_at "dl"
    rw [hx]
    refine br_f rfl ?_
    exact w_next q
abbrev s_read : Stmt := topS 18
theorem sc_read : FnScope ["text", "found", "at", "word"] ["text"] (defScope s_read) := ⟨rfl, rfl, rfl, by decide +kernel, rfl, by decide +kernel, by decide +kernel⟩
theorem ok_read {a : Addr} {fd : FuncData} (F : Fun K "read" "read" s_read a fd) (hm : mg "read" = some (.ref a)) (z_isinstance : mg "isinstance" = none) (z_str : mg "str" = none) (z_enumerate : mg "enumerate" = none) (z_len : mg "len" = none) (z_int : mg "int" = none) (z_tuple : mg "tuple" = none) (c_FIGURES : ∃ t, mg "FIGURES" = some (.str "123456789" t)) (c_MOST_KINDS : ∃ t, mg "MOST_KINDS" = some (.int 5 t)) (o_NoText : OxT P w K mg base 1 "NoText" c_NoText) :
    ClY P w K mg base 3 "read" (f_readY c_NoText) := by
  refine ⟨a, fd, ["text"], fnY_ok F sc_read (fun args m R X h => ?_) (fun cdv A outer s H E hr => ⟨_, (pss_cons (ps_if (pt_not (pt_val (pe_callB (kIsi K) (by rfl) z_isinstance (by decide +kernel) (pa_cons (pv 0) (pa_cons (pe_bltn (v := .ty "str") (by rfl) z_str (by decide +kernel) rfl) pa_nil))))) (pss_one (ps_rfO o_NoText hr (by decide) (by rfl) (L2N.takes_of rfl rfl rfl rfl) pe_int)) pss_nil)
      (pss_cons (ps_set (i := 1) sc_read.nd rfl (by first | exact Or.inl rfl | exact Or.inr rfl) (pe_lst pa_nil))
      (pss_cons (ps_for (L2.passes_of rfl) rfl (kiE K (pi_enum (by rfl) z_enumerate (pa_cons (kSplit (pe_split (pv 0) pe_str)) pa_nil))) (kgT K (pg_tup (n := 2) rfl (pgs_cons (pg_name (i := 2) sc_read.nd rfl (by first | exact Or.inl rfl | exact Or.inr rfl)) (pgs_cons (pg_name (i := 3) sc_read.nd rfl (by first | exact Or.inl rfl | exact Or.inr rfl)) pgs_nil)))) (pss_cons (ps_if (PW.pt (pw_or (pt_cmpR (kEq K hr) (pv 2) (pe_gi c_MOST_KINDS (by rfl)) (nomark _)) (pw_or (pt_cmpR (kNe K hr) (pe_callB (kLen K) (by rfl) z_len (by decide +kernel) (pa_cons (pv 3) pa_nil)) pe_int (nomark _)) (pw_or1 (pt_cmpR oNotInStr (pv 3) (pe_gs c_FIGURES (by rfl)) rfl))))) (pss_one (ps_rfO o_NoText hr (by decide) (by rfl) (L2N.takes_of rfl rfl rfl rfl) (pv 2))) pss_nil)
      (PSs.nox (pss_one (ps_expr (kBM K (pe_bm PySem.F.plainAttrs_list PySem.F.slot_list_append PySem.F.type_list_append mt_append (pv 1) (pa_cons (pe_callTy cInt (by rfl) z_int (by decide +kernel) (pa_cons (pv 3) pa_nil)) pa_nil))))))))
      (PSs.nox (pss_one (ps_ret (pe_callTy (kTup K) (by rfl) z_tuple (by decide +kernel) (pa_cons (pv 1) pa_nil)))))))), fun args m R X h G0 hT => ?_⟩), hm, F.kp, F.binds (ps := ["text"]) fun _ _ _ _ _ _ us hl => match us, hl with | [_], _ => rfl⟩
  ·
    obtain ⟨_, rfl, _⟩ := h; rfl
  ·
    obtain ⟨d, rfl, hc⟩ := h
    refine wx_seq (wx_if ?_)
    walk_at "go"
    rcases hc with ⟨hns, hX⟩ | ⟨t, rfl, hl, hno, hok⟩
    · refine br_t (by rw [hns]; rfl) ?_
      exact wy_raise o_NoText.T o_NoText.hno (hT _) (ev_cI ⟨0, rfl, hX⟩)
    refine br_f rfl (wx_next ?_)
    refine wx_seq (wx_asg (.of (ev_lstM (eva_nil ⟨by decide, fun l hl2 => ?_⟩))))
    refine wx_seq (wx_forE (xs := Txt.split t " ") (f := PyData.str) ?_ (fun i r' m' => m' = put m l (.lst ((((Txt.split t " ").take i).map valW).map fun z => Val.d (.int z))) ∧ (∀ j u, j < i → (Txt.split t " ")[j]? = some u → okW u = true ∧ 0 + j ≠ 5) ∧ ∃ y2 y3, r' = [.d (.str t), .v (.ref l), y2, y3]) ⟨rfl, (fun j u hj => absurd hj (Nat.not_lt_zero j)), _, _, rfl⟩ ?_ ?_)
    · refine eva_cons (ev_split (ev_var rfl (fun h => nomatch h) ⟨t, rfl, ev_cS ⟨_, rfl, by decide +kernel, hl, eva_nil ⟨rfl, rfl⟩⟩⟩))
    · rintro i w r' m' hi ⟨rfl, hpr, y2, y3, rfl⟩
      have hfail : (i = 5 ∨ okW w = false) → X c_NoText (i : Int) m := fun hc => by
        have h1 := badAt_some (i := 0) hi hpr (by rcases hc with e | e; exact Or.inl (by omega); exact Or.inr e)
        have h2 := hno _ h1
        rw [Nat.zero_add] at h2
        exact h2
      have hil := (List.getElem?_eq_some_iff.mp hi).1
      have hi5 : i ≤ 5 := by
        refine Nat.le_of_not_lt fun h => ?_
        have h6 : (Txt.split t " ")[5]? = some (Txt.split t " ")[5] := List.getElem?_eq_getElem (by omega)
        exact (hpr 5 _ h h6).2 rfl
      have hrz : (i = 5 ∨ okW w = false) → Wx K G0 (tRaiseO K c_NoText (tVar 2) fun cls d x H => E cls d H) [.d (.str t), .v (.ref l), .d (.int (i : Int)), .d (.str w)] (put m l (.lst ((((Txt.split t " ").take i).map valW).map fun z => Val.d (.int z)))) (fun r1 m1 => Wx K G0 (tDrop (tBM K "list" rAppend (tVar 1) (tCons (tCB rIntA (tCons (tVar 3) tNil)) tNil))) r1 m1 (fun r' m' => m' = put m l (.lst ((((Txt.split t " ").take (i + 1)).map valW).map fun z => Val.d (.int z))) ∧ (∀ j u, j < i + 1 → (Txt.split t " ")[j]? = some u → okW u = true ∧ 0 + j ≠ 5) ∧ ∃ y2 y3, r' = [.d (.str t), .v (.ref l), y2, y3]) R) R := fun hc =>
        wy_raise o_NoText.T o_NoText.hno (hT _) (ev_forget (ev_var rfl (fun h => nomatch h) ⟨m, put_less hl2, _, rfl, hfail hc⟩))
      refine wx_seq (wx_if ?_)
      walk_at "go"
      by_cases h5 : i = 5
      · exact br_t (decide_eq_true (by omega)) (br_t rfl (hrz (Or.inl h5)))
      refine br_f (decide_eq_false (by omega)) ?_
      by_cases hw : okW w = true
      · obtain ⟨v1, v2, v3, v4⟩ := valW_ok hw
        obtain ⟨g1, g2, g3, g4⟩ := dg_ok ⟨v2, v3⟩
        rw [← v4] at g1 g2 g3 g4
        walk_at "go"
        refine on_lenX (by rw [g1]; decide) ?_
        rw [g1]
        walk_at "go"
        refine br_f rfl ?_
        walk_at "go"
        refine o2_notInStr ?_
        rw [g2]
        walk_at "go"
        refine br_f rfl (wx_next ?_)
        refine .of (w_drop (ev_app (p := l) (rs := ((((Txt.split t " ").take i).map valW).map fun z => Val.d (.int z))) ?_))
        walk_at "go"
        refine ⟨rfl, put_same, ?_⟩
        walk_at "go"
        refine on_intS v1 (by rw [g1]; decide) ?_
        refine ⟨put_same, by rw [List.length_map, List.length_map, List.length_take]; omega, ?_, ?_, _, _, rfl⟩
        · rw [put_put, take_one hi, List.map_append, List.map_append]
          rfl
        · intro j u hj hu
          by_cases hji : j = i
          · subst hji
            rw [hi] at hu
            cases hu
            exact ⟨hw, by omega⟩
          · exact hpr j u (by omega) hu
      · have hwf : okW w = false := by
          cases h : okW w with
          | true => exact absurd h hw
          | false => rfl
        have hwl : w.length ≤ 100000 := Nat.le_trans (PyProof.Rows.part_short (List.mem_of_getElem? hi)) hl
        walk_at "go"
        refine on_lenX hwl ?_
        walk_at "go"
        by_cases h1 : w.length = 1
        · refine br_f (by rw [h1]; rfl) ?_
          walk_at "go"
          refine o2_notInStr ?_
          have hocc : (Builtin.Str.occurrences ("123456789" : Str) w 0 (Str.ofString "123456789").length 1).isEmpty = true := by
            unfold okW at hwf
            rw [decide_eq_true h1, Bool.true_and] at hwf
            simpa using hwf
          rw [hocc]
          exact ⟨_, rfl, br_t rfl (hrz (Or.inr hwf))⟩
        · exact br_t (by simp; omega) (br_t rfl (hrz (Or.inr hwf)))
    rintro r' m' ⟨rfl, hpr, y2, y3, rfl⟩
    rw [List.take_length]
    have hbn := badAt_all (i := 0) (ws := Txt.split t " ") fun j u hu => hpr j u (List.getElem?_eq_some_iff.mp hu).1 hu
    refine .of (w_freeze (i := 1) (ds := ((Txt.split t " ").map valW).map PyData.int) rfl (put_same.trans (by rw [List.map_map (g := Val.d)]; rfl)) ?_)
    rw [del_put hl2]
    walk_at "go"
    exact hok hbn
abbrev s__law_bent : Stmt := topS 31
theorem sc__law_bent : FnScope ["_law_box_here", "_law_text", "_law_words", "_law_at", "_law_to", "_law_where", "_law_mark", "_law_kind", "_law_other", "_law_odd_here", "_law_some"] ["_law_box_here", "_law_text"] (defScope s__law_bent) := ⟨rfl, rfl, rfl, by decide +kernel, rfl, by decide +kernel, by decide +kernel⟩
theorem ok__law_bent {a : Addr} {fd : FuncData} (F : Fun K "_law_bent" "_law_bent" s__law_bent a fd) (hm : mg "_law_bent" = some (.ref a)) (z_len : mg "len" = none) (z_int : mg "int" = none) (z_list : mg "list" = none) (k__law_take : Cl P w K mg base 1 "_law_take" f_take) (k__law_sign : Cl P w K mg base 2 "_law_sign" f_sign) :
    Cl P w K mg base 3 "_law_bent" f_bent04 := by
  refine ⟨a, fd, ["_law_box_here", "_law_text"], fn_ok F sc__law_bent (fun args m R h => ?_) (fun cdv A outer s H E hr => ⟨_, (pss_cons (ps_set (i := 2) sc__law_bent.nd rfl (by first | exact Or.inl rfl | exact Or.inr rfl) (kSplit (pe_split (pv 1) pe_str)))
      (pss_cons (ps_set (i := 3) sc__law_bent.nd rfl (by first | exact Or.inl rfl | exact Or.inr rfl) (pe_cl k__law_take hr (by decide) (by rfl) (pa_cons (pv 0) (pa_cons (pe_callB (kLen K) (by rfl) z_len (by decide +kernel) (pa_cons (pv 2) pa_nil)) pa_nil))))
      (pss_cons (ps_set (i := 4) sc__law_bent.nd rfl (by first | exact Or.inl rfl | exact Or.inr rfl) (pe_cl k__law_take hr (by decide) (by rfl) (pa_cons (pv 0) (pa_cons (pe_callB (kLen K) (by rfl) z_len (by decide +kernel) (pa_cons (pv 2) pa_nil)) pa_nil))))
      (pss_cons (ps_set (i := 5) sc__law_bent.nd rfl (by first | exact Or.inl rfl | exact Or.inr rfl) (pe_cl k__law_take hr (by decide) (by rfl) (pa_cons (pv 0) (pa_cons (pe_op (kAdd K) (pe_callB (kLen K) (by rfl) z_len (by decide +kernel) (pa_cons (pv 1) pa_nil)) pe_int) pa_nil))))
      (pss_cons (ps_set (i := 6) sc__law_bent.nd rfl (by first | exact Or.inl rfl | exact Or.inr rfl) (pe_cl k__law_sign hr (by decide) (by rfl) (pa_cons (pv 0) pa_nil)))
      (pss_cons (ps_set (i := 7) sc__law_bent.nd rfl (by first | exact Or.inl rfl | exact Or.inr rfl) (pe_cl k__law_take hr (by decide) (by rfl) (pa_cons (pv 0) (pa_cons pe_int pa_nil))))
      (pss_cons (ps_if (pt_cmpR oLt (pv 7) pe_int (nomark _)) (pss_one (ps_ret (pe_op (kAdd K) (pe_op (kAdd K) (pe_slice sl_str (pv 1) po_none (po_some (pv 5))) (pe_ix (kIx K) (pe_lst (pa_cons (pv 6) (pa_cons pe_str (pa_cons (pv 6) pa_nil)))) (pv 7) (fun _ _ => rfl))) (pe_slice sl_str (pv 1) (po_some (pe_op (kAdd K) (pv 5) (pe_callTy cInt (by rfl) z_int (by decide +kernel) (pa_cons (pe_cmpR oGt (pv 7) pe_int (nomark _)) pa_nil)))) po_none)))) pss_nil)
      (pss_cons (ps_set (i := 8) sc__law_bent.nd rfl (by first | exact Or.inl rfl | exact Or.inr rfl) (pe_callTy (kLst K) (by rfl) z_list (by decide +kernel) (pa_cons (pv 2) pa_nil)))
      (pss_cons (ps_asg (pe_tup (pa_cons (pe_ix (kIx K) (pv 8) (pv 4) (fun _ _ => rfl)) (pa_cons (pe_ix (kIx K) (pv 8) (pv 3) (fun _ _ => rfl)) pa_nil))) (kgT K (pg_tup (n := 2) rfl (pgs_cons (pg_sub (pv 8) (pv 3) set_list) (pgs_cons (pg_sub (pv 8) (pv 4) set_list) pgs_nil)))))
      (pss_cons (ps_set (i := 9) sc__law_bent.nd rfl (by first | exact Or.inl rfl | exact Or.inr rfl) (pe_ix (kIx K) (pe_lst (pa_cons pe_str (pa_cons pe_str (pa_cons pe_str (pa_cons pe_str (pa_cons pe_str (pa_cons pe_str (pa_cons pe_str (pa_cons pe_str (pa_cons pe_str (pa_cons pe_str (pa_cons pe_str (pa_cons pe_str pa_nil))))))))))))) (pe_cl k__law_take hr (by decide) (by rfl) (pa_cons (pv 0) (pa_cons pe_int pa_nil))) (fun _ _ => rfl)))
      (pss_cons (ps_set (i := 10) sc__law_bent.nd rfl (by first | exact Or.inl rfl | exact Or.inr rfl) (pe_lst (pa_cons (pe_op (kAdd K) (pe_slice (kSlL K) (pv 2) po_none (po_some (pv 3))) (pe_slice (kSlL K) (pv 2) (po_some (pe_op (kAdd K) (pv 3) pe_int)) po_none)) (pa_cons (pe_op (kAdd K) (pe_op (kAdd K) (pe_slice (kSlL K) (pv 2) po_none (po_some (pv 3))) (pe_lst (pa_cons (pe_ix (kIx K) (pv 2) (pv 3) (fun _ _ => rfl)) pa_nil))) (pe_slice (kSlL K) (pv 2) (po_some (pv 3)) po_none)) (pa_cons (pv 8) pa_nil)))))
      (pss_one (ps_ret (kJoin K (pe_join pe_str (pe_ix (kIx K) (pe_op (kAdd K) (pv 10) (pe_lst (pa_cons (pe_op (kAdd K) (pe_op (kAdd K) (pe_slice (kSlL K) (pv 2) po_none (po_some (pv 3))) (pe_lst (pa_cons (pv 9) pa_nil))) (pe_slice (kSlL K) (pv 2) (po_some (pv 3)) po_none)) (pa_cons (pe_op (kAdd K) (pe_op (kAdd K) (pe_slice (kSlL K) (pv 2) po_none (po_some (pv 3))) (pe_lst (pa_cons (pv 9) pa_nil))) (pe_slice (kSlL K) (pv 2) (po_some (pe_op (kAdd K) (pv 3) pe_int)) po_none)) pa_nil)))) (pe_op oSub (pv 7) pe_int) (fun _ _ => rfl))))))))))))))))), fun args m R h => ?_⟩), hm, F.kp, F.binds (ps := ["_law_box_here", "_law_text"]) fun _ _ _ _ _ _ us hl => match us, hl with | [_, _], _ => rfl⟩
  ·
    obtain ⟨_, _, rfl, _⟩ := h; rfl
  ·
    obtain ⟨p, t, rfl, hp, ht, q⟩ := h
    have hn0 := split_pos t
    have hn1 := PyProof.Rows.split_le t (" " : Str)
    have hw : ∀ w ∈ Txt.split t " ", w.length ≤ 20 := fun w hw => by have := PyProof.Rows.part_short hw; omega
    refine w_seq (w_asg (ev_split (ev_var rfl (fun h => nomatch h) ⟨t, rfl, ev_cS ⟨_, rfl, by decide +kernel, by omega, ?_⟩⟩)))
    generalize hws : Txt.split t " " = ws at *
    have hbt : ∀ k : Nat, k ≤ 14 → Bt (k : Int) 8000 := fun k hk => bt_lit (n := 4) (by show _ < 16; omega) (by decide)
    walk_at "go"
    rw [List.length_map]
    refine ⟨hp, by omega, hbt _ (by omega), fun z hz0 hz1 => ?_⟩
    obtain ⟨i, rfl⟩ : ∃ k : Nat, z = (k : Int) := ⟨z.toNat, by omega⟩
    walk_at "go"
    rw [List.length_map]
    refine ⟨hp, by omega, hbt _ (by omega), fun z hy0 hy1 => ?_⟩
    obtain ⟨j, rfl⟩ : ∃ k : Nat, z = (k : Int) := ⟨z.toNat, by omega⟩
    walk_at "go"
    refine on_lenX (by omega) ?_
    walk_at "go"
    refine ⟨hp, by omega, hbt (t.length + 1) (by omega), fun z hv0 hv1 => ?_⟩
    obtain ⟨v, rfl⟩ : ∃ k : Nat, z = (k : Int) := ⟨z.toNat, by omega⟩
    walk_at "go"
    refine ⟨hp, fun c => ?_⟩
    walk_at "go"
    refine ⟨hp, by decide, bt_lit (n := 4) (by decide) (by decide), fun z hk0 hk1 => ?_⟩
    obtain ⟨k, rfl⟩ : ∃ k : Nat, z = (k : Int) := ⟨z.toNat, by omega⟩
    walk_at "go"
    by_cases hk3 : k < 3
    · refine br_t (decide_eq_true (by omega)) ?_
      obtain ⟨s1, hs1, hat⟩ : ∃ s1 : Str, s1.length ≤ 1 ∧ atI [PyData.str ⟨#[c]⟩, .str "", .str ⟨#[c]⟩] (k : Int) = some (.str s1) := by
        match k, hk3 with
        | 0, _ => exact ⟨⟨#[c]⟩, Nat.le_refl 1, rfl⟩
        | 1, _ => exact ⟨"", by decide, rfl⟩
        | 2, _ => exact ⟨⟨#[c]⟩, Nat.le_refl 1, rfl⟩
      have ht2 : ∀ lo hi, (cutS t lo hi).length ≤ 12 := fun lo hi => Nat.le_trans (cutS_le t lo hi) ht
      refine w_ret (ev_op (ev_op (ev_slS (ev_var rfl (fun h => nomatch h) ⟨t, rfl, by omega, ?_⟩))))
      walk_at "go"
      refine ev_lstD ?_
      walk_at "go"
      refine o2_ixL (d := .str s1) hat ?_
      refine o2_addS (by have := ht2 none (some (v : Int)); omega) ?_
      refine ev_slS (ev_var rfl (fun h => nomatch h) ⟨t, rfl, by omega, ?_⟩)
      walk_at "go"
      refine on_intB ?_
      refine o2_addI ?_
      walk_at "go"
      have h1 := ht2 none (some (v : Int))
      have h2 := ht2 (some ((v : Int) + if decide ((0 : Int) < (k : Int)) = true then 1 else 0)) none
      refine o2_addS (by rw [PySem.Str.length_append]; omega) (q _ ?_)
      rw [PySem.Str.length_append, PySem.Str.length_append]
      omega
    refine br_f (decide_eq_false (by omega)) (w_next ?_)
    obtain ⟨wi, hwi, hwi2, hwi3, hwi4⟩ := txs_at (ws := ws) (i := i) (by omega)
    obtain ⟨wj, hwj, hwj2, hwj3, hwj4⟩ := txs_at (ws := ws) (i := j) (by omega)
    refine w_seq (w_asg (ev_callB (eva_cons (ev_var rfl (fun h => nomatch h) (eva_nil (on_lstLM fun b hb => ?_))))))
    refine w_seq (w_asg2S (ev_tup ?_))
    walk_at "go"
    refine o2_ixM put_same hwj3 ?_
    walk_at "go"
    refine o2_ixM put_same hwi3 ?_
    walk_at "dl1"
    refine ⟨[_, _], rfl, by show 2 ≤ 100000; decide, _, _, rfl, ?_⟩
    refine ev_var rfl (fun h => nomatch h) ⟨b, rfl, ?_⟩
    walk_at "go"
    refine ⟨i, _, rfl, put_same, by rw [List.length_map, List.length_map]; omega, ?_⟩
    refine ev_var rfl (fun h => nomatch h) ⟨b, rfl, ?_⟩
    walk_at "go"
    refine ⟨j, _, rfl, put_same, by rw [List.length_set, List.length_map, List.length_map]; omega, ?_⟩
    rw [put_put, put_put, txs_set]
    refine w_freeze (i := 8) (p := b) (ds := ((ws.set i wj).set j wi).map PyData.str) rfl put_same ?_
    rw [del_put hb]
    show Wp K _ [.v (.ref p), .d (.str t), .d (.list (ws.map PyData.str)), .d (.int (i : Int)), .d (.int (j : Int)), .d (.int (v : Int)), .d (.str ⟨#[c]⟩), .d (.int (k : Int)), .d (.list (((ws.set i wj).set j wi).map PyData.str)), .any, .any] m _ _
    walk_at "go"
    refine ev_lstD ?_
    walk_at "go"
    refine ⟨odd04, rfl, by decide, ?_⟩
    walk_at "go"
    refine ⟨hp, by decide, bt_lit (n := 4) (by decide) (by decide), fun z ho0 ho1 => ?_⟩
    obtain ⟨o, rfl⟩ : ∃ k : Nat, z = (k : Int) := ⟨z.toNat, by omega⟩
    obtain ⟨od, hod, hato⟩ := odd04_at (o := o) (by omega)
    refine o2_ixL (d := .str od) hato ?_
    walk_at "go"
    obtain ⟨A1, hA, hA2, hA3⟩ := cutD_txt ws none (some (i : Int))
    obtain ⟨B1, hB, hB2, hB3⟩ := cutD_txt ws (some ((i : Int) + 1)) none
    obtain ⟨C1, hC, hC2, hC3⟩ := cutD_txt ws (some (i : Int)) none
    have hz : ∀ (u : List Str), u.length ≤ ws.length → (u.map PyData.str).length ≤ 14 := fun u h => by rw [List.length_map]; omega
    refine ev_lstD ?_
    walk_at "go"
    rw [hA, hB]
    refine o2_addL (by have := hz A1 hA2; have := hz B1 hB2; omega) ?_
    walk_at "go"
    refine ev_lstD ?_
    walk_at "go"
    refine o2_ixL (d := .str wi) hwi4 ?_
    refine eva_nil ⟨[_], rfl, by show 1 ≤ 100000; decide, ?_⟩
    rw [hA]
    refine o2_addL (by have := hz A1 hA2; show _ + 1 ≤ 100000; omega) ?_
    walk_at "go"
    rw [hC]
    refine o2_addL (by have := hz A1 hA2; have := hz C1 hC2; rw [List.length_append]; show _ + 1 + _ ≤ 100000; omega) ?_
    walk_at "go"
    have h3 : ∀ (u : Str), u.length ≤ 20 → ∀ y ∈ [u], y.length ≤ 20 := fun u hu y hy => by rw [List.mem_singleton.mp hy]; exact hu
    have hA4 : ∀ y ∈ A1, y.length ≤ 20 := fun y hy => hw y (hA3 y hy)
    have hB4 : ∀ y ∈ B1, y.length ≤ 20 := fun y hy => hw y (hB3 y hy)
    have hC4 : ∀ y ∈ C1, y.length ≤ 20 := fun y hy => hw y (hC3 y hy)
    have hm3 : ∀ (u : Str) (X : List Str), u.length ≤ 20 → X.length ≤ ws.length → (∀ y ∈ X, y.length ≤ 20) → TL ((A1 ++ [u]) ++ X) := fun u X hu hX hX2 => TL.app (by rw [List.length_append]; show _ + 1 + _ ≤ 40; omega) (fun y hy => (List.mem_append.mp hy).elim (hA4 y) (h3 u hu y)) hX2
    obtain ⟨ys, hys, hat5⟩ : ∃ ys : List Str, TL ys ∧ atI [PyData.list (A1.map PyData.str ++ B1.map PyData.str), .list (A1.map PyData.str ++ [.str wi] ++ C1.map PyData.str), .list (((ws.set i wj).set j wi).map PyData.str), .list (A1.map PyData.str ++ [.str od] ++ C1.map PyData.str), .list (A1.map PyData.str ++ [.str od] ++ B1.map PyData.str)] ((k : Int) - 3) = some (.list (ys.map PyData.str)) := by
      have h8 : k = 3 ∨ k = 4 ∨ k = 5 ∨ k = 6 ∨ k = 7 := by omega
      rcases h8 with rfl | rfl | rfl | rfl | rfl
      · exact ⟨A1 ++ B1, TL.app (by omega) hA4 hB4, by rw [List.map_append]; rfl⟩
      · exact ⟨A1 ++ [wi] ++ C1, hm3 wi C1 (hw _ hwi) hC2 hC4, by rw [List.map_append, List.map_append]; rfl⟩
      · exact ⟨(ws.set i wj).set j wi, ⟨by rw [List.length_set, List.length_set]; omega, mem_set_le (mem_set_le hw (hw _ hwj)) (hw _ hwi)⟩, rfl⟩
      · exact ⟨A1 ++ [od] ++ C1, hm3 od C1 (by omega) hC2 hC4, by rw [List.map_append, List.map_append]; rfl⟩
      · exact ⟨A1 ++ [od] ++ B1, hm3 od B1 (by omega) hB2 hB4, by rw [List.map_append, List.map_append]; rfl⟩
    refine ev_join (a := " ") (ys := ys) (ev_cS ⟨rfl, ?_⟩)
    refine ev_op (ev_op (ev_var rfl (fun h => nomatch h) (ev_lstD ?_)))
    walk_at "go"
    refine ev_lstD ?_
    walk_at "go"
    rw [hA]
    refine o2_addL (by have := hz A1 hA2; show _ + 1 ≤ 100000; omega) ?_
    walk_at "go"
    rw [hC]
    refine o2_addL (by have := hz A1 hA2; have := hz C1 hC2; rw [List.length_append]; show _ + 1 + _ ≤ 100000; omega) ?_
    walk_at "go"
    refine ev_lstD ?_
    walk_at "go"
    rw [hA]
    refine o2_addL (by have := hz A1 hA2; show _ + 1 ≤ 100000; omega) ?_
    walk_at "go"
    rw [hB]
    refine o2_addL (by have := hz A1 hA2; have := hz B1 hB2; rw [List.length_append]; show _ + 1 + _ ≤ 100000; omega) ?_
    refine eva_nil ⟨[_, _], rfl, by show 2 ≤ 100000; decide, ?_⟩
    refine o2_addL (by show 3 + 2 ≤ 100000; decide) ?_
    walk_at "go"
    refine o2_ixL (d := .list (ys.map PyData.str)) hat5 ?_
    exact ⟨rfl, hys.fits.1, q _ hys.fits.2⟩
abbrev s_show : Stmt := topS 17
theorem sc_show : FnScope ["shares", "one"] ["shares"] (defScope s_show) := ⟨rfl, rfl, rfl, by decide +kernel, rfl, by decide +kernel, by decide +kernel⟩
theorem ok_show {a : Addr} {fd : FuncData} (F : Fun K "show" "show" s_show a fd) (hm : mg "show" = some (.ref a)) (z_str : mg "str" = none) (k_need_shares : Cl P w K mg base 3 "need_shares" f_needShares) :
    Cl P w K mg base 4 "show" f_show := by
  refine ⟨a, fd, ["shares"], fn_ok F sc_show (fun args m R h => ?_) (fun cdv A outer s H E hr => ⟨_, (pss_cons (ps_expr (pe_cl k_need_shares hr (by decide) (by rfl) (pa_cons (pv 0) pa_nil)))
      (pss_one (ps_ret (kJoin K (pe_join pe_str (pe_lc (own := [("one", 1)]) rfl sc_show.nd (kiT K (pv 0)) (blkOk_by (own := [("one", 1)]) (N := ["shares", "one"]) (sc := defScope s_show) (by decide +kernel)) (fun _ _ _ _ _ => (pg_name (i := 1) sc_show.nd rfl (by first | exact Or.inl rfl | exact Or.inr rfl))) (fun _ _ _ _ _ => pts_nil) (fun _ _ _ _ _ => (pe_callTy cStr (by rfl) z_str (by decide +kernel) (pa_cons (pv 1) pa_nil))))))))), fun args m R h => ?_⟩), hm, F.kp, F.binds (ps := ["shares"]) fun _ _ _ _ _ _ us hl => match us, hl with | [_], _ => rfl⟩
  ·
    obtain ⟨_, rfl, _⟩ := h; rfl
  ·
    obtain ⟨ss, rfl, hs, q⟩ := h
    have hf := hs.few
    walk_at "go"
    refine ⟨isShares_of hs, ?_⟩
    refine w_ret (ev_join (a := " ") (ys := ss.map dg) ?_)
    walk_at "go"
    refine ⟨rfl, ?_⟩
    refine ev_mapTf (xs := ss) (f := PyData.int) ?_ (by omega) (fun s => .str (dg s)) (fun s m2 hs1 hx => ?_) ?_
    · walk_at "go"
      exact ⟨rfl, rfl⟩
    · have h9 := hs.each s hs1
      walk_at "go"
      refine on_str (a := 8) (bt_lit (n := 8) (by show _ < 256; omega) (by decide)) (by decide) (by decide) ⟨rfl, rfl⟩
    · refine ⟨by rw [List.map_map]; rfl, ?_, q⟩
      rw [dg_lens hs.each, List.length_map]
      have e : (Str.ofString " ").length = 1 := by decide +kernel
      rw [e]
      omega
abbrev s__law_said : Stmt := topS 30
theorem sc__law_said : FnScope ["_law_thing", "_law_e"] ["_law_thing"] (defScope s__law_said) := ⟨rfl, rfl, rfl, by decide +kernel, rfl, by decide +kernel, by decide +kernel⟩
theorem ok__law_said {a : Addr} {fd : FuncData} (F : Fun K "_law_said" "_law_said" s__law_said a fd) (hm : mg "_law_said" = some (.ref a)) (k__law_whole : ClD P w K mg base 1 "_law_whole" (okL K [c_NoShares, c_NoKind, c_NoNumber, c_NoNeeds, c_TooMany, c_NoText] c_GatherError) (fun _ _ _ => f_isWhole)) (k__law_marks : ClD P w K mg base 1 "_law_marks" (okL K [c_NoShares, c_NoKind, c_NoNumber, c_NoNeeds, c_TooMany, c_NoText] c_GatherError) (f_marks K [c_NoShares, c_NoKind, c_NoNumber, c_NoNeeds, c_TooMany, c_NoText] c_GatherError)) (y_read : ClY P w K mg base 3 "read" (f_readY c_NoText)) (g_GatherError : mg "GatherError" = some (.ref c_GatherError)) (o_NoText : OxT P w K mg base 1 "NoText" c_NoText) (e_NoText : XL K [c_NoShares, c_NoKind, c_NoNumber, c_NoNeeds, c_TooMany, c_NoText] c_GatherError 5 c_NoText) :
    Cl P w K mg base 4 "_law_said" f_lawSaid04 := by
  refine ⟨a, fd, ["_law_thing"], fn_ok F sc__law_said (fun args m R h => ?_) (fun cdv A outer s H E hr => ⟨_, (pss_one (L2N.ps_try_as (i := 1) rfl rfl sc__law_said.nd rfl rfl ⟨by rfl, by decide, .inl g_GatherError⟩ takesN0 (fun W pn xe tk _ => (pss_one (ps_ret (pe_clY y_read hr (by decide) (by rfl) tk (pa_cons (pv 0) pa_nil))))) (fun a oe cls d pn hz hf => pss_hasD fun dd hd => (pss_cons (ps_if (PW.pt (pw_and (pt_cmpR (kEqH K (roomM hr)) (pe_clD k__law_marks (roomM hr) (by decide) (sees_suiteD hz hf hd) (by rfl) (pa_cons (pv 1) pa_nil)) pe_str (nomark _)) (pw_and1 (pt_val (pe_clD k__law_whole (roomM hr) (by decide) (sees_suiteD hz hf hd) (by rfl) (pa_cons (pe_atN e_NoText.exc o_NoText.hno hz hf hd (pv 1)) pa_nil)))))) (pss_one (ps_ret (pe_atN e_NoText.exc o_NoText.hno hz hf hd (pv 1)))) pss_nil)
      (pss_one (ps_ret (pe_clD k__law_marks (roomM hr) (by decide) (sees_suiteD hz hf hd) (by rfl) (pa_cons (pv 1) pa_nil)))))))), fun args m R h => ?_⟩), hm, F.kp, F.binds (ps := ["_law_thing"]) fun _ _ _ _ _ _ us hl => match us, hl with | [_], _ => rfl⟩
  ·
    obtain ⟨_, rfl, _⟩ := h; rfl
  ·
    obtain ⟨d, rfl, hc⟩ := h
    refine w_tryZ (tb := fun W => tRet (tCallS (spY K (f_readY c_NoText)) (WE W) (tCons (tVar 0) tNil))) (fun C z m' => C = c_NoText ∧ m' = m ∧ R (.d (.int z)) m) (fun W G0 hW => ?_) ?_
    · refine wx_ret (evy_call hW ?_)
      refine eva_cons (ev_var rfl (fun h => nomatch h) (eva_nil ⟨d, rfl, ?_⟩))
      rcases hc with ⟨h1, h2⟩ | ⟨t, rfl, hl, h1, h2⟩
      · exact Or.inl ⟨h1, rfl, rfl, h2⟩
      · exact Or.inr ⟨t, rfl, hl, fun i hi => ⟨rfl, rfl, h1 i hi⟩, h2⟩
    rintro C z m' ⟨rfl, rfl, q⟩
    refine ⟨e_NoText.em, fun a2 d2 => w_hasD ?_⟩
    refine w_seq (w_if ?_)
    walk_at "go"
    refine ev_callD ⟨5, e_NoText⟩ (eva_cons (ev_var rfl (fun h => nomatch h) (eva_nil ⟨z, e_NoText, rfl, rfl, ?_⟩)))
    walk_at "go"
    refine br_t rfl ?_
    refine evt_B (ev_callD ⟨5, e_NoText⟩ (eva_cons (ev_atN (ev_var rfl (fun h => nomatch h) ⟨rfl, eva_nil ⟨_, rfl, ?_⟩⟩))))
    refine ⟨_, rfl, br_t rfl ?_⟩
    exact w_ret (ev_atN (ev_var rfl (fun h => nomatch h) ⟨rfl, q⟩))
abbrev s_law : Stmt := topS 32
theorem sc_law : FnScope ["_law_script", "_law_k", "_law_box_here", "_law_shares", "_law_text", "_law_some", "_law_odd_here", "_law_one", "_law_lap"] ["_law_script"] (defScope s_law) := ⟨rfl, rfl, rfl, by decide +kernel, rfl, by decide +kernel, by decide +kernel⟩
theorem ok_law {a : Addr} {fd : FuncData} (F : Fun K "law" "law" s_law a fd) (z_range : mg "range" = none) (z_max : mg "max" = none) (z_min : mg "min" = none) (z_len : mg "len" = none) (z_str : mg "str" = none) (z_repr : mg "repr" = none) (z_isinstance : mg "isinstance" = none) (k__law_said : Cl P w K mg base 4 "_law_said" f_lawSaid04) (k__law_box : Cl P w K mg base 2 "_law_box" f_box) (k__law_drawn_shares : Cl P w K mg base 2 "_law_drawn_shares" f_drawnShares) (k_show : Cl P w K mg base 4 "show" f_show) (k__law_bent : Cl P w K mg base 3 "_law_bent" f_bent04) (k__law_read : Cl P w K mg base 1 "_law_read" f_lawRead) (k__law_odd : Cl P w K mg base 2 "_law_odd" f_odd) :
    FnG P w K mg base 5 a fd ["_law_script"] (spD K f_law) := by
  refine fnG_ok F sc_law (fun args m R h => ?_) (fun cdv A outer s H E hg hr => ⟨_, (pss_cons (ps_if (PW.pt (pw_or (pt_cmpR (kNe K hr) (pe_cl k__law_said hr (by decide) (by rfl) (pa_cons pe_str pa_nil)) pe_int (nomark _)) (pw_or (pt_cmpR (kNe K hr) (pe_cl k__law_said hr (by decide) (by rfl) (pa_cons pe_str pa_nil)) pe_int (nomark _)) (pw_or (pt_cmpR (kNe K hr) (pe_cl k__law_said hr (by decide) (by rfl) (pa_cons pe_str pa_nil)) pe_int (nomark _)) (pw_or1 (pt_cmpR (kNe K hr) (pe_cl k__law_said hr (by decide) (by rfl) (pa_cons pe_str pa_nil)) pe_int (nomark _))))))) (pss_one (ps_ret pe_bl)) pss_nil)
      (pss_cons (ps_for PassesOwn.never rfl (pi_range1 (by rfl) z_range (pa_cons (pe_callB (cMax rfl) (by rfl) z_max (by decide +kernel) (pa_cons pe_int (pa_cons (pe_callB (cMin rfl) (by rfl) z_min (by decide +kernel) (pa_cons (pe_callB (kLen K) (by rfl) z_len (by decide +kernel) (pa_cons (pv 0) pa_nil)) (pa_cons pe_int pa_nil))) pa_nil))) pa_nil)) (pg_name (i := 1) sc_law.nd rfl (by first | exact Or.inl rfl | exact Or.inr rfl)) (pss_cons (ps_set (i := 2) sc_law.nd rfl (by first | exact Or.inl rfl | exact Or.inr rfl) (pe_cl k__law_box hr (by decide) (by rfl) (pa_cons (pv 0) (pa_cons (pv 1) pa_nil))))
      (pss_cons (ps_set (i := 3) sc_law.nd rfl (by first | exact Or.inl rfl | exact Or.inr rfl) (pe_cl k__law_drawn_shares hr (by decide) (by rfl) (pa_cons (pv 2) (pa_cons pe_int (pa_cons pe_int pa_nil)))))
      (pss_cons (ps_set (i := 4) sc_law.nd rfl (by first | exact Or.inl rfl | exact Or.inr rfl) (kJoin K (pe_join pe_str (pe_lc (own := [("_law_one", 7)]) rfl sc_law.nd (kiT K (pv 3)) (blkOk_by (own := [("_law_one", 7)]) (N := ["_law_script", "_law_k", "_law_box_here", "_law_shares", "_law_text", "_law_some", "_law_odd_here", "_law_one", "_law_lap"]) (sc := defScope s_law) (by decide +kernel)) (fun _ _ _ _ _ => (pg_name (i := 7) sc_law.nd rfl (by first | exact Or.inl rfl | exact Or.inr rfl))) (fun _ _ _ _ _ => pts_nil) (fun _ _ _ _ _ => (pe_callTy cStr (by rfl) z_str (by decide +kernel) (pa_cons (pv 7) pa_nil)))))))
      (pss_cons (ps_if (pt_cmpR (kNe K hr) (pe_callB (kReprX K hr hg) (by rfl) z_repr (by decide +kernel) (pa_cons (pe_cl k_show hr (by decide) (by rfl) (pa_cons (pv 3) pa_nil)) pa_nil)) (pe_callB (kReprX K hr hg) (by rfl) z_repr (by decide +kernel) (pa_cons (pv 4) pa_nil)) (nomark _)) (pss_one (ps_ret pe_bl)) pss_nil)
      (pss_cons (ps_for PassesOwn.never rfl (kiL K (pe_op (kAdd K) (pe_lst (pa_cons (pv 4) (pa_cons (pe_op (kAdd K) (pv 4) pe_str) (pa_cons (pe_op (kAdd K) pe_str (pv 4)) pa_nil)))) (pe_lc (own := [("_law_lap", 8)]) rfl sc_law.nd (pi_range1 (by rfl) z_range (pa_cons pe_int pa_nil)) (blkOk_by (own := [("_law_lap", 8)]) (N := ["_law_script", "_law_k", "_law_box_here", "_law_shares", "_law_text", "_law_some", "_law_odd_here", "_law_one", "_law_lap"]) (sc := defScope s_law) (by decide +kernel)) (fun _ _ _ _ _ => (pg_name (i := 8) sc_law.nd rfl (by first | exact Or.inl rfl | exact Or.inr rfl))) (fun _ _ _ _ _ => pts_nil) (fun _ _ _ _ _ => (pe_cl k__law_bent hr (by decide) (by rfl) (pa_cons (pv 2) (pa_cons (pv 4) pa_nil))))))) (pg_name (i := 5) sc_law.nd rfl (by first | exact Or.inl rfl | exact Or.inr rfl)) (pss_one (ps_if (pt_cmpR (kNe K hr) (pe_callB (kReprX K hr hg) (by rfl) z_repr (by decide +kernel) (pa_cons (pe_cl k__law_said hr (by decide) (by rfl) (pa_cons (pv 5) pa_nil)) pa_nil)) (pe_callB (kReprX K hr hg) (by rfl) z_repr (by decide +kernel) (pa_cons (pe_cl k__law_read hr (by decide) (by rfl) (pa_cons (pv 5) pa_nil)) pa_nil)) (nomark _)) (pss_one (ps_ret pe_bl)) pss_nil)))
      (pss_cons (ps_set (i := 6) sc_law.nd rfl (by first | exact Or.inl rfl | exact Or.inr rfl) (pe_cl k__law_odd hr (by decide) (by rfl) (pa_cons (pv 2) pa_nil)))
      (pss_one (ps_if (PW.pt (pw_or (PW.pt (pw_and (pt_not (pt_val (pe_callB (kIsi K) (by rfl) z_isinstance (by decide +kernel) (pa_cons (pv 6) (pa_cons (pe_bltn (v := .ty "str") (by rfl) z_str (by decide +kernel) rfl) pa_nil))))) (pw_and1 (pt_cmpR (kNe K hr) (pe_callB (kReprX K hr hg) (by rfl) z_repr (by decide +kernel) (pa_cons (pe_cl k__law_said hr (by decide) (by rfl) (pa_cons (pv 6) pa_nil)) pa_nil)) pe_str (nomark _))))) (pw_or1 (pt_cmpR (kNe K hr) (pe_callB (kReprX K hr hg) (by rfl) z_repr (by decide +kernel) (pa_cons (pe_cl k__law_said hr (by decide) (by rfl) (pa_cons (pe_lst (pa_cons (pv 4) pa_nil)) pa_nil)) pa_nil)) pe_str (nomark _))))) (pss_one (ps_ret pe_bl)) pss_nil)))))))))
      (pss_one (ps_ret pe_bl)))), fun args m R h => ?_⟩)
  ·
    obtain ⟨_, rfl, _⟩ := h; rfl
  ·
    obtain ⟨ns, rfl, q⟩ := h
    obtain ⟨o1, o2, o3, o4⟩ := out_none
    refine w_seq (w_if (evt_or ?_))
    refine evt_test (ev_op (ev_call (eva_cons (ev_cS (eva_nil (said_out (by decide +kernel) ?_))))))
    rw [o1]
    walk_at "go"
    refine br_f rfl (evt_or ?_)
    refine evt_test (ev_op (ev_call (eva_cons (ev_cS (eva_nil (said_out (by decide +kernel) ?_))))))
    rw [o2]
    walk_at "go"
    refine br_f rfl (evt_or ?_)
    refine evt_test (ev_op (ev_call (eva_cons (ev_cS (eva_nil (said_out (by decide +kernel) ?_))))))
    rw [o3]
    walk_at "go"
    refine br_f rfl ?_
    refine evt_test (ev_op (ev_call (eva_cons (ev_cS (eva_nil (said_out (by decide +kernel) ?_))))))
    rw [o4]
    walk_at "go"
    refine br_f rfl (w_next ?_)
    obtain ⟨n, hn, hn6⟩ : ∃ n : Nat, max (1 : Int) (min (ns.length : Int) 6) = (n : Int) ∧ n ≤ 6 := ⟨(max (1 : Int) (min (ns.length : Int) 6)).toNat, by omega, by omega⟩
    refine w_seq (w_forR1 (n := n) ?_ (by omega) (fun i r' m' => ∃ y1 y2 y3 y4 y5 y6 y7 y8, r' = [.scr ns, y1, y2, y3, y4, y5, y6, y7, y8]) ⟨_, _, _, _, _, _, _, _, rfl⟩ ?_ ?_)
    · walk_at "go"
      exact ⟨by rw [hn], rfl⟩
    · rintro i r' m' hi ⟨y1, y2, y3, y4, y5, y6, y7, y8, rfl⟩
      walk_at "go"
      intro p hp
      have hpb := put_same (m := m') (a := p) (o := .box)
      generalize put m' p .box = M at *
      walk_at "go"
      refine ⟨p, 5, 9, rfl, hpb, by decide, by decide, by decide, by decide, fun ss hs hl => ?_⟩
      have hf := hs.few
      obtain ⟨hsl, hsh⟩ := showS_le hs
      refine w_seq (w_asg (ev_join (a := " ") (ys := ss.map dg) (ev_cS ⟨rfl, ?_⟩)))
      refine ev_mapTf (xs := ss) (f := PyData.int) ?_ (by omega) (fun s => .str (dg s)) (fun s m2 hs1 hx => ?_) ?_
      · walk_at "go"
        exact ⟨rfl, rfl⟩
      · have h9 := hs.each s hs1
        walk_at "go"
        refine on_str (a := 8) (bt_lit (n := 8) (by show _ < 256; omega) (by decide)) (by decide) (by decide) ⟨rfl, rfl⟩
      refine ⟨by rw [List.map_map]; rfl, ?_, ?_⟩
      · rw [dg_lens hs.each, List.length_map]
        have e : (Str.ofString " ").length = 1 := by decide +kernel
        rw [e]
        omega
      rw [show Txt.join (Str.ofString " ") (ss.map dg) = showS ss from rfl]
      walk_at "go"
      refine ⟨hs, ?_⟩
      walk_at "go"
      refine on_showA hsh ?_
      walk_at "go"
      refine on_showA hsh ?_
      walk_at "go"
      refine br_f (by simp) (w_next ?_)
      refine w_seq (w_forLA (fun l => ∀ d ∈ l, ∃ u : Str, d = .str u ∧ u.length ≤ 10000) ?_ (fun ds j r3 m3 => m3 = M ∧ ∃ z5, r3 = [.scr ns, .d (.int (i : Int)), .v (.ref p), .d (tupI ss), .d (.str (showS ss)), z5, y6, y7, y8]) (fun ds hds => ⟨rfl, _, rfl⟩) ?_ ?_)
      · refine ev_op (ev_lstD ?_)
        have e1 : (Str.ofString " ").length = 1 := by decide +kernel
        walk_at "go"
        refine o2_addS (by rw [e1]; omega) ?_
        walk_at "go"
        refine o2_addS (by rw [e1]; omega) ?_
        walk_at "go"
        refine ev_lcR1 (n := 5) ?_ (by omega) (fun i acc => acc.length = i ∧ ∀ d ∈ acc, ∃ u : Str, d = .str u ∧ u.length ≤ 10000) ⟨rfl, fun _ h => nomatch h⟩ (fun i m2 acc hi hx hw => evt_yes ⟨rfl, fun _ => ?_, (fun g => nomatch g)⟩) (fun acc hw => ?_)
        · walk_at "go"
          exact ⟨rfl, rfl⟩
        · refine ev_call (eva_cons (ev_var rfl (fun h => nomatch h) (eva_cons (ev_var rfl (fun h => nomatch h) (eva_nil ⟨p, showS ss, rfl, hx _ _ hpb, by omega, fun u hu => ⟨rfl, .str u, rfl, by rw [List.length_append, hw.1]; rfl, fun d hd => ?_⟩⟩)))))
          rcases List.mem_append.mp hd with h1 | h1
          · exact hw.2 d h1
          · exact ⟨u, List.mem_singleton.mp h1, by omega⟩
        · refine o2_addL (by rw [hw.1]; show 3 + 5 ≤ 100000; decide) ⟨rfl, _, rfl, fun d hd => ?_⟩
          rcases List.mem_append.mp hd with h1 | h1
          · simp only [List.mem_cons, List.not_mem_nil, or_false] at h1
            rcases h1 with rfl | rfl | rfl
            · exact ⟨_, rfl, by omega⟩
            · exact ⟨_, rfl, by rw [PySem.Str.length_append, e1]; omega⟩
            · exact ⟨_, rfl, by rw [PySem.Str.length_append, e1]; omega⟩
          · exact hw.2 d h1
      · rintro ds j d r3 m3 hds hd ⟨rfl, z5, rfl⟩
        obtain ⟨u, rfl, hu⟩ := hds d (List.mem_of_getElem? hd)
        refine w_if (evt_test (ev_op (ev_callB (eva_cons (ev_call (eva_cons (ev_var rfl (fun h => nomatch h) (eva_nil (said_out (by omega) ?_)))))))))
        refine eva_nil (on_showA (outT_sh hu) ?_)
        refine ev_callB (eva_cons (ev_call (eva_cons (ev_var rfl (fun h => nomatch h) (eva_nil (read_out hu ?_))))))
        refine eva_nil (on_showA (outT_sh hu) ?_)
        walk_at "go"
        refine br_f (by simp) (w_next ⟨rfl, _, rfl⟩)
      rintro ds r3 m3 hds ⟨rfl, z5, rfl⟩
      walk_at "go"
      refine ⟨hpb, fun o ho => ?_⟩
      walk_at "go"
      have sh0 : ShOk (.int 0) := Or.inl ⟨_, _, sh_small (i := 0) (by decide), by decide, by decide⟩
      by_cases hso : isStrD o = true
      · refine br_f (by rw [hso]; rfl) (br_f rfl ?_)
        refine evt_test (ev_op (ev_callB (eva_cons (ev_call (eva_cons (ev_lstD (eva_cons (ev_var rfl (fun h => nomatch h) (eva_nil ⟨[.str (showS ss)], rfl, by show 1 ≤ 100000; decide, eva_nil ⟨_, rfl, Or.inl ⟨rfl, eva_nil (on_showA sh0 ?_)⟩⟩⟩)))))))))
        walk_at "go"
        refine br_f (by decide +kernel) (w_next ⟨_, _, _, _, _, _, _, _, rfl⟩)
      · have hso2 : isStrD o = false := by
          cases h : isStrD o with
          | true => exact absurd h hso
          | false => rfl
        refine br_t (by rw [hso2]; rfl) ?_
        refine evt_test (ev_op (ev_callB (eva_cons (ev_call (eva_cons (ev_var rfl (fun h => nomatch h) (eva_nil ⟨_, rfl, Or.inl ⟨hso2, eva_nil (on_showA sh0 ?_)⟩⟩)))))))
        walk_at "go"
        refine br_f (by decide +kernel) ?_
        refine evt_test (ev_op (ev_callB (eva_cons (ev_call (eva_cons (ev_lstD (eva_cons (ev_var rfl (fun h => nomatch h) (eva_nil ⟨[.str (showS ss)], rfl, by show 1 ≤ 100000; decide, eva_nil ⟨_, rfl, Or.inl ⟨rfl, eva_nil (on_showA sh0 ?_)⟩⟩⟩)))))))))
        walk_at "go"
        refine br_f (by decide +kernel) (w_next ⟨_, _, _, _, _, _, _, _, rfl⟩)
    rintro r' m' ⟨y1, y2, y3, y4, y5, y6, y7, y8, rfl⟩
    walk_at "go"
    exact q _
end
theorem law_ends : ∀ ns : List Int, ns.length ≤ 63 → (∀ z ∈ ns, Builtin.Int.intBits z ≤ 1048576) → f_law [.scr ns] (fun _ => none) fun y _ => y = .d (.bool true) := fun ns _ _ => ⟨ns, rfl, fun _ => rfl⟩
section
variable {P : Program} {w : World} {K : PySem.W.Frag} {mg : Str → Option Value}
theorem all_mk {h : Heap} {fa : Addr} (X : K.In h) (G : h.Ns mainGlobals mg) (hfa : mg "law" = some (.ref fa))
    {od1 an1 : Option Addr} {sl1 : Array (Option Value)} {f1 : Addr} {oc1 kV1 dc1 pm1 cd1 ct1 : Value}
    (a1 : PySem.W.nsIn K mainGlobals "is_whole" = some (some (.ref f1))) (l1 : K.lookup f1 = some ⟨oc1, od1, .func (PySem.W.fnOf "is_whole" "is_whole" (defArgs s_is_whole) (defBody s_is_whole) (defScope s_is_whole) .none kV1 dc1 pm1 an1 cd1 ct1), sl1⟩) (c1 : PySem.W.codeIn K cd1 "is_whole" = true) (k1 : PySem.W.keepIn K (.ref f1) = true)
    {od2 an2 : Option Addr} {sl2 : Array (Option Value)} {f2 : Addr} {oc2 kV2 dc2 pm2 cd2 ct2 : Value}
    (a2 : PySem.W.nsIn K mainGlobals "_law_cell" = some (some (.ref f2))) (l2 : K.lookup f2 = some ⟨oc2, od2, .func (PySem.W.fnOf "_law_cell" "_law_cell" (defArgs s__law_cell) (defBody s__law_cell) (defScope s__law_cell) .none kV2 dc2 pm2 an2 cd2 ct2), sl2⟩) (c2 : PySem.W.codeIn K cd2 "_law_cell" = true) (k2 : PySem.W.keepIn K (.ref f2) = true)
    {od3 an3 : Option Addr} {sl3 : Array (Option Value)} {f3 : Addr} {oc3 kV3 dc3 pm3 cd3 ct3 : Value}
    (a3 : PySem.W.nsIn K mainGlobals "_law_mix" = some (some (.ref f3))) (l3 : K.lookup f3 = some ⟨oc3, od3, .func (PySem.W.fnOf "_law_mix" "_law_mix" (defArgs s__law_mix) (defBody s__law_mix) (defScope s__law_mix) .none kV3 dc3 pm3 an3 cd3 ct3), sl3⟩) (c3 : PySem.W.codeIn K cd3 "_law_mix" = true) (k3 : PySem.W.keepIn K (.ref f3) = true)
    {od4 an4 : Option Addr} {sl4 : Array (Option Value)} {f4 : Addr} {oc4 kV4 dc4 pm4 cd4 ct4 : Value}
    (a4 : PySem.W.nsIn K mainGlobals "_law_take" = some (some (.ref f4))) (l4 : K.lookup f4 = some ⟨oc4, od4, .func (PySem.W.fnOf "_law_take" "_law_take" (defArgs s__law_take) (defBody s__law_take) (defScope s__law_take) .none kV4 dc4 pm4 an4 cd4 ct4), sl4⟩) (c4 : PySem.W.codeIn K cd4 "_law_take" = true) (k4 : PySem.W.keepIn K (.ref f4) = true)
    {od5 an5 : Option Addr} {sl5 : Array (Option Value)} {f5 : Addr} {oc5 kV5 dc5 pm5 cd5 ct5 : Value}
    (a5 : PySem.W.nsIn K mainGlobals "_law_whole" = some (some (.ref f5))) (l5 : K.lookup f5 = some ⟨oc5, od5, .func (PySem.W.fnOf "_law_whole" "_law_whole" (defArgs s__law_whole) (defBody s__law_whole) (defScope s__law_whole) .none kV5 dc5 pm5 an5 cd5 ct5), sl5⟩) (c5 : PySem.W.codeIn K cd5 "_law_whole" = true) (k5 : PySem.W.keepIn K (.ref f5) = true)
    {od6 an6 : Option Addr} {sl6 : Array (Option Value)} {f6 : Addr} {oc6 kV6 dc6 pm6 cd6 ct6 : Value}
    (a6 : PySem.W.nsIn K mainGlobals "_law_marks" = some (some (.ref f6))) (l6 : K.lookup f6 = some ⟨oc6, od6, .func (PySem.W.fnOf "_law_marks" "_law_marks" (defArgs s__law_marks) (defBody s__law_marks) (defScope s__law_marks) .none kV6 dc6 pm6 an6 cd6 ct6), sl6⟩) (c6 : PySem.W.codeIn K cd6 "_law_marks" = true) (k6 : PySem.W.keepIn K (.ref f6) = true)
    {od7 an7 : Option Addr} {sl7 : Array (Option Value)} {f7 : Addr} {oc7 kV7 dc7 pm7 cd7 ct7 : Value}
    (a7 : PySem.W.nsIn K mainGlobals "_law_read" = some (some (.ref f7))) (l7 : K.lookup f7 = some ⟨oc7, od7, .func (PySem.W.fnOf "_law_read" "_law_read" (defArgs s__law_read) (defBody s__law_read) (defScope s__law_read) .none kV7 dc7 pm7 an7 cd7 ct7), sl7⟩) (c7 : PySem.W.codeIn K cd7 "_law_read" = true) (k7 : PySem.W.keepIn K (.ref f7) = true)
    {od8 an8 : Option Addr} {sl8 : Array (Option Value)} {f8 : Addr} {oc8 kV8 dc8 pm8 cd8 ct8 : Value}
    (a8 : PySem.W.nsIn K mainGlobals "is_shares" = some (some (.ref f8))) (l8 : K.lookup f8 = some ⟨oc8, od8, .func (PySem.W.fnOf "is_shares" "is_shares" (defArgs s_is_shares) (defBody s_is_shares) (defScope s_is_shares) .none kV8 dc8 pm8 an8 cd8 ct8), sl8⟩) (c8 : PySem.W.codeIn K cd8 "is_shares" = true) (k8 : PySem.W.keepIn K (.ref f8) = true)
    {od9 an9 : Option Addr} {sl9 : Array (Option Value)} {f9 : Addr} {oc9 kV9 dc9 pm9 cd9 ct9 : Value}
    (a9 : PySem.W.nsIn K mainGlobals "_law_box" = some (some (.ref f9))) (l9 : K.lookup f9 = some ⟨oc9, od9, .func (PySem.W.fnOf "_law_box" "_law_box" (defArgs s__law_box) (defBody s__law_box) (defScope s__law_box) .none kV9 dc9 pm9 an9 cd9 ct9), sl9⟩) (c9 : PySem.W.codeIn K cd9 "_law_box" = true) (k9 : PySem.W.keepIn K (.ref f9) = true)
    {od10 an10 : Option Addr} {sl10 : Array (Option Value)} {f10 : Addr} {oc10 kV10 dc10 pm10 cd10 ct10 : Value}
    (a10 : PySem.W.nsIn K mainGlobals "_law_sign" = some (some (.ref f10))) (l10 : K.lookup f10 = some ⟨oc10, od10, .func (PySem.W.fnOf "_law_sign" "_law_sign" (defArgs s__law_sign) (defBody s__law_sign) (defScope s__law_sign) .none kV10 dc10 pm10 an10 cd10 ct10), sl10⟩) (c10 : PySem.W.codeIn K cd10 "_law_sign" = true) (k10 : PySem.W.keepIn K (.ref f10) = true)
    {od11 an11 : Option Addr} {sl11 : Array (Option Value)} {f11 : Addr} {oc11 kV11 dc11 pm11 cd11 ct11 : Value}
    (a11 : PySem.W.nsIn K mainGlobals "_law_drawn_shares" = some (some (.ref f11))) (l11 : K.lookup f11 = some ⟨oc11, od11, .func (PySem.W.fnOf "_law_drawn_shares" "_law_drawn_shares" (defArgs s__law_drawn_shares) (defBody s__law_drawn_shares) (defScope s__law_drawn_shares) .none kV11 dc11 pm11 an11 cd11 ct11), sl11⟩) (c11 : PySem.W.codeIn K cd11 "_law_drawn_shares" = true) (k11 : PySem.W.keepIn K (.ref f11) = true)
    {od12 an12 : Option Addr} {sl12 : Array (Option Value)} {f12 : Addr} {oc12 kV12 dc12 pm12 cd12 ct12 : Value}
    (a12 : PySem.W.nsIn K mainGlobals "_law_odd" = some (some (.ref f12))) (l12 : K.lookup f12 = some ⟨oc12, od12, .func (PySem.W.fnOf "_law_odd" "_law_odd" (defArgs s__law_odd) (defBody s__law_odd) (defScope s__law_odd) .none kV12 dc12 pm12 an12 cd12 ct12), sl12⟩) (c12 : PySem.W.codeIn K cd12 "_law_odd" = true) (k12 : PySem.W.keepIn K (.ref f12) = true)
    {od13 an13 : Option Addr} {sl13 : Array (Option Value)} {f13 : Addr} {oc13 kV13 dc13 pm13 cd13 ct13 : Value}
    (a13 : PySem.W.nsIn K mainGlobals "need_shares" = some (some (.ref f13))) (l13 : K.lookup f13 = some ⟨oc13, od13, .func (PySem.W.fnOf "need_shares" "need_shares" (defArgs s_need_shares) (defBody s_need_shares) (defScope s_need_shares) .none kV13 dc13 pm13 an13 cd13 ct13), sl13⟩) (c13 : PySem.W.codeIn K cd13 "need_shares" = true) (k13 : PySem.W.keepIn K (.ref f13) = true)
    {od14 an14 : Option Addr} {sl14 : Array (Option Value)} {f14 : Addr} {oc14 kV14 dc14 pm14 cd14 ct14 : Value}
    (a14 : PySem.W.nsIn K mainGlobals "read" = some (some (.ref f14))) (l14 : K.lookup f14 = some ⟨oc14, od14, .func (PySem.W.fnOf "read" "read" (defArgs s_read) (defBody s_read) (defScope s_read) .none kV14 dc14 pm14 an14 cd14 ct14), sl14⟩) (c14 : PySem.W.codeIn K cd14 "read" = true) (k14 : PySem.W.keepIn K (.ref f14) = true)
    {od15 an15 : Option Addr} {sl15 : Array (Option Value)} {f15 : Addr} {oc15 kV15 dc15 pm15 cd15 ct15 : Value}
    (a15 : PySem.W.nsIn K mainGlobals "_law_bent" = some (some (.ref f15))) (l15 : K.lookup f15 = some ⟨oc15, od15, .func (PySem.W.fnOf "_law_bent" "_law_bent" (defArgs s__law_bent) (defBody s__law_bent) (defScope s__law_bent) .none kV15 dc15 pm15 an15 cd15 ct15), sl15⟩) (c15 : PySem.W.codeIn K cd15 "_law_bent" = true) (k15 : PySem.W.keepIn K (.ref f15) = true)
    {od16 an16 : Option Addr} {sl16 : Array (Option Value)} {f16 : Addr} {oc16 kV16 dc16 pm16 cd16 ct16 : Value}
    (a16 : PySem.W.nsIn K mainGlobals "show" = some (some (.ref f16))) (l16 : K.lookup f16 = some ⟨oc16, od16, .func (PySem.W.fnOf "show" "show" (defArgs s_show) (defBody s_show) (defScope s_show) .none kV16 dc16 pm16 an16 cd16 ct16), sl16⟩) (c16 : PySem.W.codeIn K cd16 "show" = true) (k16 : PySem.W.keepIn K (.ref f16) = true)
    {od17 an17 : Option Addr} {sl17 : Array (Option Value)} {f17 : Addr} {oc17 kV17 dc17 pm17 cd17 ct17 : Value}
    (a17 : PySem.W.nsIn K mainGlobals "_law_said" = some (some (.ref f17))) (l17 : K.lookup f17 = some ⟨oc17, od17, .func (PySem.W.fnOf "_law_said" "_law_said" (defArgs s__law_said) (defBody s__law_said) (defScope s__law_said) .none kV17 dc17 pm17 an17 cd17 ct17), sl17⟩) (c17 : PySem.W.codeIn K cd17 "_law_said" = true) (k17 : PySem.W.keepIn K (.ref f17) = true)
    {od18 an18 : Option Addr} {sl18 : Array (Option Value)} {f18 : Addr} {oc18 kV18 dc18 pm18 cd18 ct18 : Value}
    (a18 : PySem.W.nsIn K mainGlobals "law" = some (some (.ref f18))) (l18 : K.lookup f18 = some ⟨oc18, od18, .func (PySem.W.fnOf "law" "law" (defArgs s_law) (defBody s_law) (defScope s_law) .none kV18 dc18 pm18 an18 cd18 ct18), sl18⟩) (c18 : PySem.W.codeIn K cd18 "law" = true) (k18 : PySem.W.keepIn K (.ref f18) = true)
    (z_ValueError : PySem.W.nsIn K mainGlobals "ValueError" = some none)
    (z_abs : PySem.W.nsIn K mainGlobals "abs" = some none)
    (z_all : PySem.W.nsIn K mainGlobals "all" = some none)
    (z_bool : PySem.W.nsIn K mainGlobals "bool" = some none)
    (z_divmod : PySem.W.nsIn K mainGlobals "divmod" = some none)
    (z_enumerate : PySem.W.nsIn K mainGlobals "enumerate" = some none)
    (z_int : PySem.W.nsIn K mainGlobals "int" = some none)
    (z_isinstance : PySem.W.nsIn K mainGlobals "isinstance" = some none)
    (z_len : PySem.W.nsIn K mainGlobals "len" = some none)
    (z_list : PySem.W.nsIn K mainGlobals "list" = some none)
    (z_max : PySem.W.nsIn K mainGlobals "max" = some none)
    (z_min : PySem.W.nsIn K mainGlobals "min" = some none)
    (z_range : PySem.W.nsIn K mainGlobals "range" = some none)
    (z_repr : PySem.W.nsIn K mainGlobals "repr" = some none)
    (z_str : PySem.W.nsIn K mainGlobals "str" = some none)
    (z_tuple : PySem.W.nsIn K mainGlobals "tuple" = some none)
    {t_FIGURES : Tok} (g_FIGURES : PySem.W.nsIn K mainGlobals "FIGURES" = some (some (.str "123456789" t_FIGURES)))
    {t_MOST_KINDS : Tok} (g_MOST_KINDS : PySem.W.nsIn K mainGlobals "MOST_KINDS" = some (some (.int 5 t_MOST_KINDS)))
    {t_MOST_SHARE : Tok} (g_MOST_SHARE : PySem.W.nsIn K mainGlobals "MOST_SHARE" = some (some (.int 9 t_MOST_SHARE)))
    {c_GatherError : Addr} (n_GatherError : PySem.W.nsIn K mainGlobals "GatherError" = some (some (.ref c_GatherError)))
    {c_NoKind : Addr} (n_NoKind : PySem.W.nsIn K mainGlobals "NoKind" = some (some (.ref c_NoKind)))
    {c_NoNeeds : Addr} (n_NoNeeds : PySem.W.nsIn K mainGlobals "NoNeeds" = some (some (.ref c_NoNeeds)))
    {c_NoNumber : Addr} (n_NoNumber : PySem.W.nsIn K mainGlobals "NoNumber" = some (some (.ref c_NoNumber)))
    {c_NoShares : Addr} (n_NoShares : PySem.W.nsIn K mainGlobals "NoShares" = some (some (.ref c_NoShares)))
    {c_NoText : Addr} (n_NoText : PySem.W.nsIn K mainGlobals "NoText" = some (some (.ref c_NoText)))
    {c_TooMany : Addr} (n_TooMany : PySem.W.nsIn K mainGlobals "TooMany" = some (some (.ref c_TooMany)))
    {nm_NoText q_NoText : Str} {N_NoText : Addr} {bs_NoTextx bm_NoText : List Value} {sn_NoText : List Str} {sub_NoText : List Value} {ab_NoText : Bool} {col_NoText : Option Bool} {dd_NoText : Option Addr} {k0_NoText k1_NoText k2_NoText k3_NoText k5_NoText : Option Value} (ox_NoText : K.lookup c_NoText = some (PySem.excClassObj nm_NoText q_NoText c_NoText N_NoText bs_NoTextx bm_NoText true sn_NoText sub_NoText ab_NoText col_NoText dd_NoText k0_NoText k1_NoText k2_NoText k3_NoText k5_NoText "ValueError.__new__")) (rv_NoText : PySem.HandSPX.refsVE bm_NoText = true) (sa_NoText : PySem.W.findIn K (.ref c_NoText) "__setattr__" = some (some (.builtin "object.__setattr__"))) (bs_NoText : PySem.W.subIn K (.ref c_NoText) (.type "BaseException") = some true) (ty_NoText : PySem.W.typeIn K (.ref c_NoText) = some (.type "type")) (kp_NoText : PySem.W.keepIn K (.ref c_NoText) = true) (at_NoText : PySem.W.findIn K (.ref c_NoText) "at" = some none)
    (rd_NoText : PySem.W.readsIn K c_GatherError (.type "type") = true) (rg_NoText : PySem.W.specialIn K (.ref c_GatherError) "__getattribute__" = some (some (.builtin "type.__getattribute__"))) (vv_NoText : PySem.W.findCls K (.ref c_GatherError) (.type "type") "__init__" = some (.val (.builtin "ValueError.__init__")))
    {odONoText anONoText : Option Addr} {slONoText : Array (Option Value)} {fONoText : Addr} {ocONoText kVONoText dcONoText pmONoText cdONoText ctONoText : Value}
    (aONoText : PySem.W.findIn K (.ref c_NoText) "__init__" = some (some (.ref fONoText))) (iONoText : PySem.W.typeIn K (.ref fONoText) = some (.type "function")) (lONoText : K.lookup fONoText = some ⟨ocONoText, odONoText, .func (PySem.W.fnOf "__init__" "NoText.__init__" (defArgs s_NoText_init) (defBody s_NoText_init) (defScope s_NoText_init) .none kVONoText dcONoText pmONoText anONoText cdONoText ctONoText), slONoText⟩) (cONoText : PySem.W.codeIn K cdONoText "NoText.__init__" = true) (kONoText : PySem.W.keepIn K (.ref fONoText) = true)
    (xg_NoText : PySem.W.findIn K (.ref c_NoText) "__getattribute__" = some (some (.builtin "BaseException.__getattribute__")))
    (xk_NoText : PySem.W.findIn K (.ref c_NoText) "__getattr__" = some none)
    (xs_NoText : PySem.W.subIn K (.ref c_NoText) (.type "BaseException") = some true)
    (xd_NoText : PySem.W.hasDictIn K c_NoText = true)
    (xa_NoText : PySem.W.findIn K (.ref c_NoText) "__class__" = some (some (.builtin "object.__class__")))
    (xm_NoText : PySem.W.mroIn K c_NoText (.type "object") = some true)
    (kv_NoText : PySem.W.kitOne K (.ref c_NoText) (.type "ValueError") = some true)
    (kg_NoText : PySem.W.kitOne K (.ref c_NoText) (.ref c_GatherError) = some true)
    (em_NoText : PySem.W.exmOne K (.ref c_NoText) (.ref c_GatherError) = some true)
    (ko0_NoText : PySem.W.kitOne K (.ref c_NoText) (.ref c_NoShares) = some false)
    (ko1_NoText : PySem.W.kitOne K (.ref c_NoText) (.ref c_NoKind) = some false)
    (ko2_NoText : PySem.W.kitOne K (.ref c_NoText) (.ref c_NoNumber) = some false)
    (ko3_NoText : PySem.W.kitOne K (.ref c_NoText) (.ref c_NoNeeds) = some false)
    (ko4_NoText : PySem.W.kitOne K (.ref c_NoText) (.ref c_TooMany) = some false)
    (ko5_NoText : PySem.W.kitOne K (.ref c_NoText) (.ref c_NoText) = some true)
    (x_n : PySem.W.specialIn K (.builtin "object.__class__") "__get__" = some (some (.builtin "getset_descriptor.__get__"))) (x_t : PySem.W.takesIn K (.builtin "object.__class__") = some true)
    : ∃ fd : FuncData, (∀ (s : Shared) (v : Value), BindsTo s fd ⟨[v], []⟩ [("_law_script", v)]) ∧ ∀ base : Heap, K.In base → base.Ns mainGlobals mg → FnG P w K mg base 5 fa fd ["_law_script"] (spD K f_law) := by
  have e := hfa.symm.trans (PySem.W.mg_of X G a18)
  cases e
  have y_ValueError := PySem.W.mg_none_of X G z_ValueError
  have y_abs := PySem.W.mg_none_of X G z_abs
  have y_all := PySem.W.mg_none_of X G z_all
  have y_bool := PySem.W.mg_none_of X G z_bool
  have y_divmod := PySem.W.mg_none_of X G z_divmod
  have y_enumerate := PySem.W.mg_none_of X G z_enumerate
  have y_int := PySem.W.mg_none_of X G z_int
  have y_isinstance := PySem.W.mg_none_of X G z_isinstance
  have y_len := PySem.W.mg_none_of X G z_len
  have y_list := PySem.W.mg_none_of X G z_list
  have y_max := PySem.W.mg_none_of X G z_max
  have y_min := PySem.W.mg_none_of X G z_min
  have y_range := PySem.W.mg_none_of X G z_range
  have y_repr := PySem.W.mg_none_of X G z_repr
  have y_str := PySem.W.mg_none_of X G z_str
  have y_tuple := PySem.W.mg_none_of X G z_tuple
  have x_FIGURES : ∃ t, mg "FIGURES" = some (.str "123456789" t) := ⟨_, PySem.W.mg_of X G g_FIGURES⟩
  have x_MOST_KINDS : ∃ t, mg "MOST_KINDS" = some (.int 5 t) := ⟨_, PySem.W.mg_of X G g_MOST_KINDS⟩
  have x_MOST_SHARE : ∃ t, mg "MOST_SHARE" = some (.int 9 t) := ⟨_, PySem.W.mg_of X G g_MOST_SHARE⟩
  have y_GatherError : mg "GatherError" = some (.ref c_GatherError) := PySem.W.mg_of X G n_GatherError
  have y_NoKind : mg "NoKind" = some (.ref c_NoKind) := PySem.W.mg_of X G n_NoKind
  have y_NoNeeds : mg "NoNeeds" = some (.ref c_NoNeeds) := PySem.W.mg_of X G n_NoNeeds
  have y_NoNumber : mg "NoNumber" = some (.ref c_NoNumber) := PySem.W.mg_of X G n_NoNumber
  have y_NoShares : mg "NoShares" = some (.ref c_NoShares) := PySem.W.mg_of X G n_NoShares
  have y_NoText : mg "NoText" = some (.ref c_NoText) := PySem.W.mg_of X G n_NoText
  have y_TooMany : mg "TooMany" = some (.ref c_TooMany) := PySem.W.mg_of X G n_TooMany
  have w_NoText : DL.XL K [c_NoShares, c_NoKind, c_NoNumber, c_NoNeeds, c_TooMany, c_NoText] c_GatherError 5 c_NoText := ⟨⟨xg_NoText, xk_NoText, xs_NoText, xd_NoText, xa_NoText, x_n, x_t, xm_NoText⟩, fun j hj => match j, hj with | 0, _ => ko0_NoText | 1, _ => ko1_NoText | 2, _ => ko2_NoText | 3, _ => ko3_NoText | 4, _ => ko4_NoText | 5, _ => ko5_NoText, kg_NoText, kv_NoText, em_NoText⟩
  have F1 := fun_mk (st := s_is_whole) l1 c1 k1
  have F2 := fun_mk (st := s__law_cell) l2 c2 k2
  have F3 := fun_mk (st := s__law_mix) l3 c3 k3
  have F4 := fun_mk (st := s__law_take) l4 c4 k4
  have F5 := fun_mk (st := s__law_whole) l5 c5 k5
  have F6 := fun_mk (st := s__law_marks) l6 c6 k6
  have F7 := fun_mk (st := s__law_read) l7 c7 k7
  have F8 := fun_mk (st := s_is_shares) l8 c8 k8
  have F9 := fun_mk (st := s__law_box) l9 c9 k9
  have F10 := fun_mk (st := s__law_sign) l10 c10 k10
  have F11 := fun_mk (st := s__law_drawn_shares) l11 c11 k11
  have F12 := fun_mk (st := s__law_odd) l12 c12 k12
  have F13 := fun_mk (st := s_need_shares) l13 c13 k13
  have F14 := fun_mk (st := s_read) l14 c14 k14
  have F15 := fun_mk (st := s__law_bent) l15 c15 k15
  have F16 := fun_mk (st := s_show) l16 c16 k16
  have F17 := fun_mk (st := s__law_said) l17 c17 k17
  have F18 := fun_mk (st := s_law) l18 c18 k18
  refine ⟨PySem.W.fnOf "law" "law" (defArgs s_law) (defBody s_law) (defScope s_law) .none kV18 dc18 pm18 an18 cd18 ct18, fun s v => .of_eq rfl, fun base _ _ => ?_⟩
  have o_NoText : DL.OxT P w K mg base 1 "NoText" c_NoText := ok_own_NoText (fun_mk (st := s_NoText_init) lONoText cONoText kONoText) y_GatherError ⟨rd_NoText, rg_NoText⟩ vv_NoText y_NoText (DL.oexC_of ox_NoText rv_NoText sa_NoText bs_NoText ty_NoText kp_NoText) at_NoText aONoText iONoText
  have C1 : Cl P w K mg base 1 "is_whole" f_isWhole := ok_is_whole (P := P) (w := w) (base := base) F1 (PySem.W.mg_of X G a1) y_isinstance y_bool y_int
  have C2 : Cl P w K mg base 1 "_law_cell" f_cell := ok__law_cell (P := P) (w := w) (base := base) F2 (PySem.W.mg_of X G a2) y_len
  have C3 : Cl P w K mg base 1 "_law_mix" f_mix := ok__law_mix (P := P) (w := w) (base := base) F3 (PySem.W.mg_of X G a3) 
  have C4 : Cl P w K mg base 1 "_law_take" f_take := ok__law_take (P := P) (w := w) (base := base) F4 (PySem.W.mg_of X G a4) y_divmod
  have C5 : ClD P w K mg base 1 "_law_whole" (okL K [c_NoShares, c_NoKind, c_NoNumber, c_NoNeeds, c_TooMany, c_NoText] c_GatherError) (fun _ _ _ => f_isWhole) := ok__law_whole (P := P) (w := w) (base := base) F5 (PySem.W.mg_of X G a5) y_isinstance y_bool y_int
  have C6 : ClD P w K mg base 1 "_law_marks" (okL K [c_NoShares, c_NoKind, c_NoNumber, c_NoNeeds, c_TooMany, c_NoText] c_GatherError) (f_marks K [c_NoShares, c_NoKind, c_NoNumber, c_NoNeeds, c_TooMany, c_NoText] c_GatherError) := ok__law_marks (P := P) (w := w) (base := base) F6 (PySem.W.mg_of X G a6) y_isinstance y_ValueError y_GatherError y_NoNeeds y_NoNumber y_NoKind y_NoShares y_NoText y_TooMany
  have C7 : Cl P w K mg base 1 "_law_read" f_lawRead := ok__law_read (P := P) (w := w) (base := base) F7 (PySem.W.mg_of X G a7) y_range y_len y_tuple y_int
  have C8 : Cl P w K mg base 2 "is_shares" f_isShares := ok_is_shares (P := P) (w := w) (base := base) F8 (PySem.W.mg_of X G a8) y_len y_isinstance y_tuple y_all x_MOST_KINDS x_MOST_SHARE C1
  have C9 : Cl P w K mg base 2 "_law_box" f_box := ok__law_box (P := P) (w := w) (base := base) F9 (PySem.W.mg_of X G a9) y_abs y_range C2 C3
  have C10 : Cl P w K mg base 2 "_law_sign" f_sign := ok__law_sign (P := P) (w := w) (base := base) F10 (PySem.W.mg_of X G a10) y_len C4
  have C11 : Cl P w K mg base 2 "_law_drawn_shares" f_drawnShares := ok__law_drawn_shares (P := P) (w := w) (base := base) F11 (PySem.W.mg_of X G a11) y_tuple y_range C4
  have C12 : Cl P w K mg base 2 "_law_odd" f_odd := ok__law_odd (P := P) (w := w) (base := base) F12 (PySem.W.mg_of X G a12) C4
  have C13 : Cl P w K mg base 3 "need_shares" f_needShares := ok_need_shares (P := P) (w := w) (base := base) F13 (PySem.W.mg_of X G a13) C8
  have C14 : ClY P w K mg base 3 "read" (f_readY c_NoText) := ok_read (P := P) (w := w) (base := base) F14 (PySem.W.mg_of X G a14) y_isinstance y_str y_enumerate y_len y_int y_tuple x_FIGURES x_MOST_KINDS o_NoText
  have C15 : Cl P w K mg base 3 "_law_bent" f_bent04 := ok__law_bent (P := P) (w := w) (base := base) F15 (PySem.W.mg_of X G a15) y_len y_int y_list C4 C10
  have C16 : Cl P w K mg base 4 "show" f_show := ok_show (P := P) (w := w) (base := base) F16 (PySem.W.mg_of X G a16) y_str C13
  have C17 : Cl P w K mg base 4 "_law_said" f_lawSaid04 := ok__law_said (P := P) (w := w) (base := base) F17 (PySem.W.mg_of X G a17) C5 C6 C14 y_GatherError o_NoText w_NoText
  exact ok_law F18 y_range y_max y_min y_len y_str y_repr y_isinstance C17 C9 C11 C16 C15 C7 C12
end
end Law
open PySem PySem.W PyProof.Rows
set_option maxRecDepth 100000 in
set_option maxHeartbeats 0 in
theorem PySem.Challenge.cw_kindsgathered_k04_shares_written_holds : PySem.Challenge.rw_kindsgathered_k04_shares_written.Holds := by
  w_on; o_law; k_head; (case hw => w_witness2)
  k_fill
  refine DL.walkG (l := PySem.Challenge.rw_kindsgathered_k04_shares_written) (n := 63) (k := 5) (x := "_law_script") (sp := DL.f_law) rfl (by decide) rfl ⟨rfl, by decide, by decide⟩ (fun w h Y => PySem.W.kIn_of Y) ?F Law.law_ends
  case F =>
    intro w mg fa h KX G hmg
    refine' Law.all_mk KX G hmg ?a1 ?l1 ?c1 ?k1 ?a2 ?l2 ?c2 ?k2 ?a3 ?l3 ?c3 ?k3 ?a4 ?l4 ?c4 ?k4 ?a5 ?l5 ?c5 ?k5 ?a6 ?l6 ?c6 ?k6 ?a7 ?l7 ?c7 ?k7 ?a8 ?l8 ?c8 ?k8 ?a9 ?l9 ?c9 ?k9 ?a10 ?l10 ?c10 ?k10 ?a11 ?l11 ?c11 ?k11 ?a12 ?l12 ?c12 ?k12 ?a13 ?l13 ?c13 ?k13 ?a14 ?l14 ?c14 ?k14 ?a15 ?l15 ?c15 ?k15 ?a16 ?l16 ?c16 ?k16 ?a17 ?l17 ?c17 ?k17 ?a18 ?l18 ?c18 ?k18 ?z_ValueError ?z_abs ?z_all ?z_bool ?z_divmod ?z_enumerate ?z_int ?z_isinstance ?z_len ?z_list ?z_max ?z_min ?z_range ?z_repr ?z_str ?z_tuple ?g_FIGURES ?g_MOST_KINDS ?g_MOST_SHARE ?n_GatherError ?n_NoKind ?n_NoNeeds ?n_NoNumber ?n_NoShares ?n_NoText ?n_TooMany ?ox_NoText ?rv_NoText ?sa_NoText ?bs_NoText ?ty_NoText ?kp_NoText ?at_NoText ?rd_NoText ?rg_NoText ?vv_NoText ?aONoText ?iONoText ?lONoText ?cONoText ?kONoText ?xg_NoText ?xk_NoText ?xs_NoText ?xd_NoText ?xa_NoText ?xm_NoText ?kv_NoText ?kg_NoText ?em_NoText ?ko0_NoText ?ko1_NoText ?ko2_NoText ?ko3_NoText ?ko4_NoText ?ko5_NoText ?x_n ?x_t
    (case a1 => k_is)
    (case l1 => k_is)
    (case c1 => k_is)
    (case k1 => k_is)
    (case a2 => k_is)
    (case l2 => k_is)
    (case c2 => k_is)
    (case k2 => k_is)
    (case a3 => k_is)
    (case l3 => k_is)
    (case c3 => k_is)
    (case k3 => k_is)
    (case a4 => k_is)
    (case l4 => k_is)
    (case c4 => k_is)
    (case k4 => k_is)
    (case a5 => k_is)
    (case l5 => k_is)
    (case c5 => k_is)
    (case k5 => k_is)
    (case a6 => k_is)
    (case l6 => k_is)
    (case c6 => k_is)
    (case k6 => k_is)
    (case a7 => k_is)
    (case l7 => k_is)
    (case c7 => k_is)
    (case k7 => k_is)
    (case a8 => k_is)
    (case l8 => k_is)
    (case c8 => k_is)
    (case k8 => k_is)
    (case a9 => k_is)
    (case l9 => k_is)
    (case c9 => k_is)
    (case k9 => k_is)
    (case a10 => k_is)
    (case l10 => k_is)
    (case c10 => k_is)
    (case k10 => k_is)
    (case a11 => k_is)
    (case l11 => k_is)
    (case c11 => k_is)
    (case k11 => k_is)
    (case a12 => k_is)
    (case l12 => k_is)
    (case c12 => k_is)
    (case k12 => k_is)
    (case a13 => k_is)
    (case l13 => k_is)
    (case c13 => k_is)
    (case k13 => k_is)
    (case a14 => k_is)
    (case l14 => k_is)
    (case c14 => k_is)
    (case k14 => k_is)
    (case a15 => k_is)
    (case l15 => k_is)
    (case c15 => k_is)
    (case k15 => k_is)
    (case a16 => k_is)
    (case l16 => k_is)
    (case c16 => k_is)
    (case k16 => k_is)
    (case a17 => k_is)
    (case l17 => k_is)
    (case c17 => k_is)
    (case k17 => k_is)
    (case a18 => k_is)
    (case l18 => k_is)
    (case c18 => k_is)
    (case k18 => k_is)
    (case z_ValueError => k_is)
    (case z_abs => k_is)
    (case z_all => k_is)
    (case z_bool => k_is)
    (case z_divmod => k_is)
    (case z_enumerate => k_is)
    (case z_int => k_is)
    (case z_isinstance => k_is)
    (case z_len => k_is)
    (case z_list => k_is)
    (case z_max => k_is)
    (case z_min => k_is)
    (case z_range => k_is)
    (case z_repr => k_is)
    (case z_str => k_is)
    (case z_tuple => k_is)
    (case g_FIGURES => k_is)
    (case g_MOST_KINDS => k_is)
    (case g_MOST_SHARE => k_is)
    (case n_GatherError => k_is)
    (case n_NoKind => k_is)
    (case n_NoNeeds => k_is)
    (case n_NoNumber => k_is)
    (case n_NoShares => k_is)
    (case n_NoText => k_is)
    (case n_TooMany => k_is)
    (case ox_NoText => k_is)
    (case rv_NoText => decide +kernel)
    (case sa_NoText => k_is)
    (case bs_NoText => k_is)
    (case ty_NoText => k_is)
    (case kp_NoText => k_is)
    (case at_NoText => k_is)
    (case rd_NoText => k_is)
    (case rg_NoText => k_is)
    (case vv_NoText => k_is)
    (case aONoText => k_is)
    (case iONoText => k_is)
    (case lONoText => k_is)
    (case cONoText => k_is)
    (case kONoText => k_is)
    (case xg_NoText => k_is)
    (case xk_NoText => k_is)
    (case xs_NoText => k_is)
    (case xd_NoText => k_is)
    (case xa_NoText => k_is)
    (case xm_NoText => k_is)
    (case kv_NoText => kit_is)
    (case kg_NoText => kit_is)
    (case em_NoText => kts_exm)
    (case ko0_NoText => kit_is)
    (case ko1_NoText => kit_is)
    (case ko2_NoText => kit_is)
    (case ko3_NoText => kit_is)
    (case ko4_NoText => kit_is)
    (case ko5_NoText => kit_is)
    (case x_n => k_is)
    (case x_t => k_is)
