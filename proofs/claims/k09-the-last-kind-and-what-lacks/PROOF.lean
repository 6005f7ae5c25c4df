import PyProof.Rows.All
import Wide.All
import OpenK.AllK
import Wide.FinOn
import HandS.ForMost
import HandS.ForExc
import HandS.IsInst
import HandS.Wide
import HandS.TupAny
import HandS.TupMul
import HandS.Conv
import HandS.Deep
import PyProof.ReprRoads
import PyProof.SumWalkG
import PyProof.WalksMore
import HandS.EndBits
import PyProof.ReprLen
import HandS.TupLe
import HandS.Text
import HandS.StrSplit
import HandS.Iter
import HandS.Walk
import HandS.TryOnly
import KE.SortKeyHeap
import HandS.SortKw
import KE.KDictDisplayH
import HandS.SortInts
import PySem.Challenge.RW_kindsgathered_k09_the_last_kind_and_what
set_option Elab.async false
set_option linter.all false
set_option maxRecDepth 100000
set_option maxHeartbeats 4000000
namespace DL
open PySem L2
/-! data behind values -/
def keyD : Key → PyData
  | .inl i => .int i
  | .inr x => .str x
mutual
def Rp (K : PySem.W.Frag) (G : Hp) : PyData → V → Prop
  | .none, v => v = .non
  | .bool b, v => v = .bl b
  | .int i, v => v = .int i
  | .str s, v => v = .str s
  | .list ds, v => ∃ a xs, v = .ref a ∧ Rd G a (.lst xs) ∧ RpAll K G ds xs
  | .tuple ds, v => ∃ a xs, v = .ref a ∧ SqT K G a xs ∧ RpAll K G ds xs
  | .dict kvs, v => ∃ a, v = .ref a ∧ ((∃ es, G a = some (.dT es) ∧ RpT K G kvs es) ∨ (∃ es, G a = some (.dK es) ∧ RpK K G kvs es))
def RpAll (K : PySem.W.Frag) (G : Hp) : List PyData → List V → Prop
  | [], xs => xs = []
  | d :: ds, xs => ∃ x r, xs = x :: r ∧ Rp K G d x ∧ RpAll K G ds r
def RpT (K : PySem.W.Frag) (G : Hp) : List (PyData × PyData) → List (List Key × V) → Prop
  | [], es => es = []
  | (k, d) :: r, es => ∃ ks v t, es = (ks, v) :: t ∧ k = .tuple (ks.map keyD) ∧ Rp K G d v ∧ RpT K G r t
def RpK (K : PySem.W.Frag) (G : Hp) : List (PyData × PyData) → List (Key × V) → Prop
  | [], es => es = []
  | (k, d) :: r, es => ∃ ks v t, es = (ks, v) :: t ∧ k = keyD ks ∧ Rp K G d v ∧ RpK K G r t
end
def Le (G G' : Hp) : Prop := ∀ a o, G a = some o → G' a = some o
theorem Le.refl (G : Hp) : Le G G := fun _ _ h => h
theorem Le.trans {G G1 G2 : Hp} (a : Le G G1) (b : Le G1 G2) : Le G G2 := fun x o h => b x o (a x o h)
theorem Le.new {G : Hp} {p : Addr} {o : HO} (h : G p = none) : Le G (upd G p o) := fun a u e => by
  rw [upd_ne (ne_of_none e h)]; exact e
theorem Le.rd {G G' : Hp} {a : Addr} {u : HO} (e : Le G G') (h : Rd G a u) : Rd G' a u := by
  rcases h with h | ⟨o, h⟩
  · exact Or.inl (e a _ h)
  · exact Or.inr ⟨o, e a _ h⟩
theorem Le.sqL {K : PySem.W.Frag} {G G' : Hp} {a : Addr} {xs : List V} (e : Le G G') (h : SqL K G a xs) : SqL K G' a xs := by
  rcases h with h | h
  · exact Or.inl (e.rd h)
  · exact Or.inr h
theorem Le.sqT {K : PySem.W.Frag} {G G' : Hp} {a : Addr} {xs : List V} (e : Le G G') (h : SqT K G a xs) : SqT K G' a xs := by
  rcases h with h | h
  · exact Or.inl (e.rd h)
  · exact Or.inr h
mutual
theorem Rp.mono {K : PySem.W.Frag} {G G' : Hp} (e : Le G G') : ∀ (d : PyData) (v : V), Rp K G d v → Rp K G' d v
  | .none, v, h => by rw [Rp] at h ⊢; exact h
  | .bool b, v, h => by rw [Rp] at h ⊢; exact h
  | .int i, v, h => by rw [Rp] at h ⊢; exact h
  | .str s, v, h => by rw [Rp] at h ⊢; exact h
  | .list ds, v, h => by
    rw [Rp] at h ⊢
    obtain ⟨a, xs, h1, h2, h3⟩ := h
    exact ⟨a, xs, h1, e.rd h2, RpAll.mono e ds xs h3⟩
  | .tuple ds, v, h => by
    rw [Rp] at h ⊢
    obtain ⟨a, xs, h1, h2, h3⟩ := h
    exact ⟨a, xs, h1, e.sqT h2, RpAll.mono e ds xs h3⟩
  | .dict kvs, v, h => by
    rw [Rp] at h ⊢
    obtain ⟨a, h1, h2⟩ := h
    refine ⟨a, h1, ?_⟩
    rcases h2 with ⟨es, h3, h4⟩ | ⟨es, h3, h4⟩
    · exact Or.inl ⟨es, e _ _ h3, RpT.mono e kvs es h4⟩
    · exact Or.inr ⟨es, e _ _ h3, RpK.mono e kvs es h4⟩
theorem RpAll.mono {K : PySem.W.Frag} {G G' : Hp} (e : Le G G') : ∀ (ds : List PyData) (xs : List V), RpAll K G ds xs → RpAll K G' ds xs
  | [], xs, h => by rw [RpAll] at h ⊢; exact h
  | d :: ds, xs, h => by
    rw [RpAll] at h ⊢
    obtain ⟨x, r, h1, h2, h3⟩ := h
    exact ⟨x, r, h1, Rp.mono e d x h2, RpAll.mono e ds r h3⟩
theorem RpT.mono {K : PySem.W.Frag} {G G' : Hp} (e : Le G G') : ∀ (kvs : List (PyData × PyData)) (es : List (List Key × V)), RpT K G kvs es → RpT K G' kvs es
  | [], es, h => by rw [RpT] at h ⊢; exact h
  | (k, d) :: r, es, h => by
    rw [RpT] at h ⊢
    obtain ⟨ks, v, t, h1, h2, h3, h4⟩ := h
    exact ⟨ks, v, t, h1, h2, Rp.mono e d v h3, RpT.mono e r t h4⟩
theorem RpK.mono {K : PySem.W.Frag} {G G' : Hp} (e : Le G G') : ∀ (kvs : List (PyData × PyData)) (es : List (Key × V)), RpK K G kvs es → RpK K G' kvs es
  | [], es, h => by rw [RpK] at h ⊢; exact h
  | (k, d) :: r, es, h => by
    rw [RpK] at h ⊢
    obtain ⟨ks, v, t, h1, h2, h3, h4⟩ := h
    exact ⟨ks, v, t, h1, h2, Rp.mono e d v h3, RpK.mono e r t h4⟩
end
section
variable {K : PySem.W.Frag} {G : Hp} {v : V}
theorem rp_none : Rp K G .none v ↔ v = .non := by rw [Rp]
theorem rp_bool {b : Bool} : Rp K G (.bool b) v ↔ v = .bl b := by rw [Rp]
theorem rp_int {i : Int} : Rp K G (.int i) v ↔ v = .int i := by rw [Rp]
theorem rp_str {s : Str} : Rp K G (.str s) v ↔ v = .str s := by rw [Rp]
theorem rp_list {ds : List PyData} : Rp K G (.list ds) v ↔ ∃ a xs, v = .ref a ∧ Rd G a (.lst xs) ∧ RpAll K G ds xs := by rw [Rp]
theorem rp_tuple {ds : List PyData} : Rp K G (.tuple ds) v ↔ ∃ a xs, v = .ref a ∧ SqT K G a xs ∧ RpAll K G ds xs := by rw [Rp]
theorem rpa_nil {xs : List V} : RpAll K G [] xs ↔ xs = [] := by rw [RpAll]
theorem rpa_cons {d : PyData} {ds : List PyData} {xs : List V} : RpAll K G (d :: ds) xs ↔ ∃ x r, xs = x :: r ∧ Rp K G d x ∧ RpAll K G ds r := by rw [RpAll]
end
theorem RpAll.length {K : PySem.W.Frag} {G : Hp} : ∀ {ds : List PyData} {xs : List V}, RpAll K G ds xs → xs.length = ds.length
  | [], xs, h => by rw [RpAll] at h; rw [h]; rfl
  | d :: ds, xs, h => by
    rw [RpAll] at h
    obtain ⟨x, r, h1, _, h3⟩ := h
    rw [h1, List.length_cons, List.length_cons, RpAll.length h3]
theorem RpAll.get {K : PySem.W.Frag} {G : Hp} : ∀ {ds : List PyData} {xs : List V} {i : Nat} {x : V}, RpAll K G ds xs → xs[i]? = some x → ∃ d, ds[i]? = some d ∧ Rp K G d x
  | [], xs, i, x, h, e => by rw [RpAll] at h; subst h; simp at e
  | d :: ds, xs, 0, x, h, e => by
    rw [RpAll] at h
    obtain ⟨y, r, h1, h2, _⟩ := h
    subst h1
    simp at e
    subst e
    exact ⟨d, rfl, h2⟩
  | d :: ds, xs, i + 1, x, h, e => by
    rw [RpAll] at h
    obtain ⟨y, r, h1, _, h3⟩ := h
    subst h1
    obtain ⟨z, h4, h5⟩ := RpAll.get (i := i) (x := x) h3 (by simpa using e)
    exact ⟨z, by simpa using h4, h5⟩
theorem RpAll.at {K : PySem.W.Frag} {G : Hp} : ∀ {ds : List PyData} {xs : List V} {i : Nat} {d : PyData}, RpAll K G ds xs → ds[i]? = some d → ∃ x, xs[i]? = some x ∧ Rp K G d x
  | [], xs, i, d, h, e => by simp at e
  | d0 :: ds, xs, 0, d, h, e => by
    rw [RpAll] at h
    obtain ⟨y, r, h1, h2, _⟩ := h
    subst h1
    simp at e
    subst e
    exact ⟨y, rfl, h2⟩
  | d0 :: ds, xs, i + 1, d, h, e => by
    rw [RpAll] at h
    obtain ⟨y, r, h1, _, h3⟩ := h
    subst h1
    obtain ⟨z, h4, h5⟩ := RpAll.at (i := i) (d := d) h3 (by simpa using e)
    exact ⟨z, by simpa using h4, h5⟩
theorem RpAll.append {K : PySem.W.Frag} {G : Hp} : ∀ {ds es : List PyData} {xs ys : List V}, RpAll K G ds xs → RpAll K G es ys → RpAll K G (ds ++ es) (xs ++ ys)
  | [], es, xs, ys, h, g => by rw [RpAll] at h; subst h; exact g
  | d :: ds, es, xs, ys, h, g => by
    rw [RpAll] at h
    obtain ⟨y, r, h1, h2, h3⟩ := h
    subst h1
    rw [List.cons_append, List.cons_append, RpAll]
    exact ⟨y, r ++ ys, rfl, h2, RpAll.append h3 g⟩
theorem RpAll.ints {K : PySem.W.Frag} {G : Hp} : ∀ {ns : List Int} {xs : List V}, RpAll K G (ns.map PyData.int) xs → xs = ns.map V.int
  | [], xs, h => by rw [List.map_nil, RpAll] at h; rw [h]; rfl
  | n :: ns, xs, h => by
    rw [List.map_cons, RpAll] at h
    obtain ⟨y, r, h1, h2, h3⟩ := h
    rw [Rp] at h2
    rw [h1, h2, RpAll.ints h3]; rfl
theorem RpAll.bools {K : PySem.W.Frag} {G : Hp} : ∀ {ns : List Bool} {xs : List V}, RpAll K G (ns.map PyData.bool) xs → xs = ns.map V.bl
  | [], xs, h => by rw [List.map_nil, RpAll] at h; rw [h]; rfl
  | n :: ns, xs, h => by
    rw [List.map_cons, RpAll] at h
    obtain ⟨y, r, h1, h2, h3⟩ := h
    rw [Rp] at h2
    rw [h1, h2, RpAll.bools h3]; rfl
theorem rpa_ints {K : PySem.W.Frag} {G : Hp} : ∀ (ns : List Int), RpAll K G (ns.map PyData.int) (ns.map V.int)
  | [] => by rw [List.map_nil, RpAll]; rfl
  | n :: ns => by
    rw [List.map_cons, List.map_cons, RpAll]
    exact ⟨_, _, rfl, by rw [Rp], rpa_ints ns⟩
/-! values at this level -/
inductive Val where
  | d (x : PyData)
  | v (w : V)
  | scr (ns : List Int)
  | any
  /-- a tuple of ints, made by the code itself -/
  | t (ns : List Int)
  /-- a list of such tuples, that stays as it is -/
  | lt (nss : List (List Int))
  /-- a pair of such a tuple and data -/
  | p (ns : List Int) (x : PyData)
  /-- a tuple of ints without attributes of its own -/
  | f (ns : List Int)
  /-- any other thing that stays as it is, by what is true of it -/
  | g (P : Hp → V → Prop)
def TAll (G : Hp) : List (List Int) → List V → Prop
  | [], xs => xs = []
  | ns :: r, xs => ∃ b t, xs = .ref b :: t ∧ G b = some (.tup (ns.map V.int)) ∧ TAll G r t
theorem TAll.mono {G G' : Hp} (e : Le G G') : ∀ {nss : List (List Int)} {xs : List V}, TAll G nss xs → TAll G' nss xs
  | [], xs, h => h
  | ns :: r, xs, h => by
    obtain ⟨b, t, h1, h2, h3⟩ := h
    exact ⟨b, t, h1, e _ _ h2, TAll.mono e h3⟩
theorem TAll.all {K : PySem.W.Frag} {G : Hp} : ∀ {nss : List (List Int)} {xs : List V}, TAll G nss xs → RpAll K G (nss.map fun ns => .tuple (ns.map PyData.int)) xs
  | [], xs, h => by rw [List.map_nil, RpAll]; exact h
  | ns :: r, xs, h => by
    obtain ⟨b, t, h1, h2, h3⟩ := h
    rw [List.map_cons, RpAll]
    exact ⟨_, t, h1, rp_tuple.mpr ⟨b, _, rfl, SqT.of h2, rpa_ints ns⟩, TAll.all h3⟩
inductive VR (K : PySem.W.Frag) (G : Hp) : Val → V → Prop
  | d {x : PyData} {v : V} (h : Rp K G x v) : VR K G (.d x) v
  | v {w : V} : VR K G (.v w) w
  | scr {ns : List Int} {a : Addr} (h : SqL K G a (ns.map V.int)) : VR K G (.scr ns) (.ref a)
  | any {v : V} : VR K G .any v
  | t {ns : List Int} {a : Addr} (h : G a = some (.tup (ns.map V.int))) : VR K G (.t ns) (.ref a)
  | lt {nss : List (List Int)} {a : Addr} {xs : List V} (h : Rd G a (.lst xs)) (h2 : TAll G nss xs) : VR K G (.lt nss) (.ref a)
  | p {ns : List Int} {x : PyData} {a b : Addr} {w : V} (h : G a = some (.tup [.ref b, w])) (h2 : G b = some (.tup (ns.map V.int))) (h3 : Rp K G x w) : VR K G (.p ns x) (.ref a)
  | f {ns : List Int} {a : Addr} {o : Obj} (h : G a = some (.frz o (.tup (ns.map V.int)))) (h1 : o.cls = .type "tuple") (h2 : o.dict = none) : VR K G (.f ns) (.ref a)
  | g {P : Hp → V → Prop} {v : V} (h : P G v) (h1 : ∀ G G', Le G G' → P G v → P G' v) : VR K G (.g P) v
theorem VR.mono {K : PySem.W.Frag} {G G' : Hp} (e : Le G G') {r : Val} {v : V} (h : VR K G r v) : VR K G' r v := by
  cases h with
  | d h => exact .d (Rp.mono e _ v h)
  | v => exact .v
  | scr h => exact .scr (e.sqL h)
  | any => exact .any
  | t h => exact .t (e _ _ h)
  | lt h h2 => exact .lt (e.rd h) (h2.mono e)
  | p h h2 h3 => exact .p (e _ _ h) (e _ _ h2) (Rp.mono e _ _ h3)
  | f h h1 h2 => exact .f (e _ _ h) h1 h2
  | g h h1 => exact .g (h1 _ _ e h) h1
theorem VR.rp {K : PySem.W.Frag} {G : Hp} {x : PyData} {v : V} (h : VR K G (.d x) v) : Rp K G x v := by
  cases h with
  | d h => exact h
theorem VR.eq {K : PySem.W.Frag} {G : Hp} {w v : V} (h : VR K G (.v w) v) : v = w := by
  cases h with
  | v => rfl
def VRs (K : PySem.W.Frag) (G : Hp) : List Val → List V → Prop
  | [], xs => xs = []
  | r :: rs, xs => ∃ x t, xs = x :: t ∧ VR K G r x ∧ VRs K G rs t
theorem VRs.mono {K : PySem.W.Frag} {G G' : Hp} (e : Le G G') : ∀ {rs : List Val} {xs : List V}, VRs K G rs xs → VRs K G' rs xs
  | [], xs, h => h
  | r :: rs, xs, h => by
    obtain ⟨x, t, h1, h2, h3⟩ := h
    exact ⟨x, t, h1, h2.mono e, VRs.mono e h3⟩
theorem VRs.length {K : PySem.W.Frag} {G : Hp} : ∀ {rs : List Val} {xs : List V}, VRs K G rs xs → xs.length = rs.length
  | [], xs, h => by
    have h : xs = [] := h
    rw [h]; rfl
  | r :: rs, xs, h => by
    obtain ⟨x, t, h1, _, h3⟩ := h
    rw [h1, List.length_cons, List.length_cons, VRs.length h3]
theorem VRs.ofAll {K : PySem.W.Frag} {G : Hp} : ∀ {ds : List PyData} {xs : List V}, RpAll K G ds xs → VRs K G (ds.map Val.d) xs
  | [], xs, h => by rw [RpAll] at h; exact h
  | d :: ds, xs, h => by
    rw [RpAll] at h
    obtain ⟨x, r, h1, h2, h3⟩ := h
    exact ⟨x, r, h1, .d h2, VRs.ofAll h3⟩
theorem VRs.toAll {K : PySem.W.Frag} {G : Hp} : ∀ {ds : List PyData} {xs : List V}, VRs K G (ds.map Val.d) xs → RpAll K G ds xs
  | [], xs, h => by rw [RpAll]; exact h
  | d :: ds, xs, h => by
    obtain ⟨x, r, h1, h2, h3⟩ := h
    rw [RpAll]
    exact ⟨x, r, h1, h2.rp, VRs.toAll h3⟩
theorem VRs.append {K : PySem.W.Frag} {G : Hp} : ∀ {rs ss : List Val} {xs ys : List V}, VRs K G rs xs → VRs K G ss ys → VRs K G (rs ++ ss) (xs ++ ys)
  | [], ss, xs, ys, h, g => by
    have h : xs = [] := h
    subst h; exact g
  | r :: rs, ss, xs, ys, h, g => by
    obtain ⟨x, t, h1, h2, h3⟩ := h
    subst h1
    exact ⟨x, t ++ ys, rfl, h2, VRs.append h3 g⟩
/-! slots -/
def Sl (K : PySem.W.Frag) (G : Hp) : List Val → St → Prop
  | [], s => s = []
  | r :: rs, s => ∃ x t, s = x :: t ∧ (r = .any ∨ ∃ v, x = some v ∧ VR K G r v) ∧ Sl K G rs t
theorem Sl.mono {K : PySem.W.Frag} {G G' : Hp} (e : Le G G') : ∀ {rs : List Val} {s : St}, Sl K G rs s → Sl K G' rs s
  | [], s, h => h
  | r :: rs, s, h => by
    obtain ⟨x, t, h1, h2, h3⟩ := h
    refine ⟨x, t, h1, ?_, Sl.mono e h3⟩
    rcases h2 with h2 | ⟨v, h2, h4⟩
    · exact Or.inl h2
    · exact Or.inr ⟨v, h2, h4.mono e⟩
theorem Sl.get {K : PySem.W.Frag} {G : Hp} : ∀ {rs : List Val} {s : St} {i : Nat} {r : Val}, Sl K G rs s → rs[i]? = some r → r ≠ .any → ∃ v, s[i]? = some (some v) ∧ VR K G r v
  | [], s, i, r, h, e, _ => by simp at e
  | r0 :: rs, s, 0, r, h, e, n => by
    obtain ⟨x, t, h1, h2, h3⟩ := h
    subst h1
    have e : r0 = r := by simpa using e
    subst e
    rcases h2 with h2 | ⟨v, h2, h4⟩
    · exact absurd h2 n
    · exact ⟨v, by rw [h2]; rfl, h4⟩
  | r0 :: rs, s, i + 1, r, h, e, n => by
    obtain ⟨x, t, h1, h2, h3⟩ := h
    subst h1
    obtain ⟨v, h5, h6⟩ := Sl.get (i := i) (r := r) h3 (by simpa using e) n
    exact ⟨v, by simpa using h5, h6⟩
theorem Sl.set {K : PySem.W.Frag} {G : Hp} {r : Val} {v : V} (hv : VR K G r v) : ∀ {rs : List Val} {s : St} (i : Nat), Sl K G rs s → Sl K G (rs.set i r) (s.set i (some v))
  | [], s, i, h => by
    have h : s = [] := h
    subst h; exact rfl
  | r0 :: rs, s, 0, h => by
    obtain ⟨x, t, h1, h2, h3⟩ := h
    subst h1
    exact ⟨some v, t, rfl, Or.inr ⟨v, rfl, hv⟩, h3⟩
  | r0 :: rs, s, i + 1, h => by
    obtain ⟨x, t, h1, h2, h3⟩ := h
    subst h1
    exact ⟨x, t.set i (some v), rfl, h2, Sl.set hv i h3⟩
theorem Sl.length {K : PySem.W.Frag} {G : Hp} : ∀ {rs : List Val} {s : St}, Sl K G rs s → s.length = rs.length
  | [], s, h => by
    have h : s = [] := h
    rw [h]; rfl
  | r :: rs, s, h => by
    obtain ⟨x, t, h1, _, h3⟩ := h
    rw [h1, List.length_cons, List.length_cons, Sl.length h3]
theorem Sl.anys {K : PySem.W.Frag} {G : Hp} : ∀ (n : Nat), Sl K G (List.replicate n .any) (List.replicate n none)
  | 0 => rfl
  | n + 1 => ⟨none, List.replicate n none, rfl, Or.inl rfl, Sl.anys n⟩
theorem Sl.start {K : PySem.W.Frag} {G : Hp} : ∀ {rs : List Val} {vs : List V} (n : Nat), VRs K G rs vs → Sl K G (rs ++ List.replicate n .any) (vs.map some ++ List.replicate n none)
  | [], vs, n, h => by
    have h : vs = [] := h
    subst h; exact Sl.anys n
  | r :: rs, vs, n, h => by
    obtain ⟨x, t, h1, h2, h3⟩ := h
    subst h1
    exact ⟨some x, _, rfl, Or.inr ⟨x, rfl, h2⟩, Sl.start n h3⟩
/-! what may change -/
inductive MO where
  | lst (rs : List Val)
  | dT (kvs : List (List Key × Val))
  | dK (kvs : List (Key × Val))
  /-- a dict that is being walked -/
  | lk (od : Obj) (es : List (List Key × V)) (kvs : List (List Key × Val))
  /-- a list of one whole number -/
  | box
  /-- any other thing, by what is true of it -/
  | g (P : Hp → Hp → Addr → Prop)
abbrev Mm := Addr → Option MO
def put (m : Mm) (a : Addr) (o : MO) : Mm := fun b => if b = a then some o else m b
def del (m : Mm) (a : Addr) : Mm := fun b => if b = a then none else m b
theorem put_same {m : Mm} {a : Addr} {o : MO} : put m a o a = some o := by unfold put; rw [if_pos rfl]
theorem put_ne {m : Mm} {a b : Addr} {o : MO} (h : b ≠ a) : put m a o b = m b := by unfold put; rw [if_neg h]
theorem put_put {m : Mm} {a : Addr} {o u : MO} : put (put m a o) a u = put m a u := by
  funext b; unfold put; split <;> rfl
theorem put_comm {m : Mm} {a b : Addr} {o u : MO} (h : a ≠ b) : put (put m a o) b u = put (put m b u) a o := by
  funext c; unfold put
  by_cases h1 : c = b
  · rw [if_pos h1]
    by_cases h2 : c = a
    · exact absurd (h2.symm.trans h1) h
    · rw [if_neg h2, if_pos h1]
  · rw [if_neg h1]
    by_cases h2 : c = a
    · rw [if_pos h2, if_pos h2]
    · rw [if_neg h2, if_neg h2, if_neg h1]
theorem ne_of_get {m : Mm} {a b : Addr} {o : MO} (h : m a = some o) (g : m b = none) : a ≠ b := fun e => by
  rw [e, g] at h; cases h
def KVs (K : PySem.W.Frag) (G : Hp) {α : Type} : List (α × Val) → List (α × V) → Prop
  | [], es => es = []
  | (k, r) :: t, es => ∃ v u, es = (k, v) :: u ∧ VR K G r v ∧ KVs K G t u
theorem KVs.mono {K : PySem.W.Frag} {G G' : Hp} {α : Type} (e : Le G G') : ∀ {kvs : List (α × Val)} {es : List (α × V)}, KVs K G kvs es → KVs K G' kvs es
  | [], es, h => h
  | (k, r) :: t, es, h => by
    obtain ⟨v, u, h1, h2, h3⟩ := h
    exact ⟨v, u, h1, h2.mono e, KVs.mono e h3⟩
def MR (K : PySem.W.Frag) (G H : Hp) (a : Addr) : MO → Prop
  | .lst rs => ∃ xs, H a = some (.lst xs) ∧ VRs K G rs xs
  | .dT kvs => ∃ es, H a = some (.dT es) ∧ KVs K G kvs es
  | .dK kvs => ∃ es, H a = some (.dK es) ∧ KVs K G kvs es
  | .lk od es kvs => H a = some (.frz od (.dT es)) ∧ KVs K G kvs es
  | .box => ∃ n : Int, H a = some (.lst [.int n])
  | .g P => P G H a ∧ (∀ G G' H H' : Hp, Le G G' → H' a = H a → P G H a → P G' H' a) ∧ (∃ u, H a = some u) ∧ ∀ xs, H a ≠ some (.tup xs)
theorem MR.some {K : PySem.W.Frag} {G H : Hp} {a : Addr} {o : MO} (h : MR K G H a o) : ∃ u, H a = some u := by
  cases o with
  | lst rs => obtain ⟨xs, h, _⟩ := h; exact ⟨_, h⟩
  | dT kvs => obtain ⟨xs, h, _⟩ := h; exact ⟨_, h⟩
  | dK kvs => obtain ⟨xs, h, _⟩ := h; exact ⟨_, h⟩
  | lk od es kvs => exact ⟨_, h.1⟩
  | box => obtain ⟨n, h⟩ := h; exact ⟨_, h⟩
  | g P => exact h.2.2.1
theorem MR.mono {K : PySem.W.Frag} {G G' H H' : Hp} {a : Addr} {o : MO} (e : Le G G') (hh : H' a = H a) (h : MR K G H a o) : MR K G' H' a o := by
  cases o with
  | lst rs => obtain ⟨xs, h, g⟩ := h; exact ⟨xs, hh.trans h, g.mono e⟩
  | dT kvs => obtain ⟨xs, h, g⟩ := h; exact ⟨xs, hh.trans h, g.mono e⟩
  | dK kvs => obtain ⟨xs, h, g⟩ := h; exact ⟨xs, hh.trans h, g.mono e⟩
  | lk od es kvs => exact ⟨hh.trans h.1, h.2.mono e⟩
  | box => obtain ⟨n, h⟩ := h; exact ⟨n, hh.trans h⟩
  | g P => obtain ⟨h1, h2, h3, h4⟩ := h; exact ⟨h2 _ _ _ _ e hh h1, h2, by rw [hh]; exact h3, by rw [hh]; exact h4⟩
structure Sta (K : PySem.W.Frag) (m : Mm) (H G : Hp) : Prop where
  sub : ∀ a o, G a = some o → H a = some o
  mem : ∀ a o, m a = some o → MR K G H a o
  dis : ∀ a o, m a = some o → G a = none
section
variable {K : PySem.W.Frag} {m : Mm} {H G : Hp} {p : Addr} {o : HO}
theorem Sta.free (S : Sta K m H G) (h : H p = none) : G p = none := by
  cases e : G p with
  | none => rfl
  | some u => rw [S.sub p u e] at h; cases h
theorem Sta.freeM (S : Sta K m H G) (h : H p = none) : m p = none := by
  cases e : m p with
  | none => rfl
  | some u =>
    obtain ⟨x, hx⟩ := (S.mem p u e).some
    rw [hx] at h; cases h
/-- a new thing that stays as it is -/
theorem Sta.fix (S : Sta K m H G) (h : H p = none) : Sta K m (upd H p o) (upd G p o) := by
  have hg := S.free h
  have hm := S.freeM h
  refine ⟨fun a u e => ?_, fun a u e => ?_, fun a u e => ?_⟩
  · by_cases ha : a = p
    · subst ha; rw [upd_same] at e ⊢; exact e
    · rw [upd_ne ha] at e ⊢; exact S.sub a u e
  · have ha : a ≠ p := ne_of_get e hm
    exact (S.mem a u e).mono (Le.new hg) (upd_ne ha)
  · have ha : a ≠ p := ne_of_get e hm
    rw [upd_ne ha]; exact S.dis a u e
/-- a new thing that may change -/
theorem Sta.new {u : MO} (S : Sta K m H G) (h : H p = none) (hu : MR K G (upd H p o) p u) : Sta K (put m p u) (upd H p o) G := by
  have hg := S.free h
  refine ⟨fun a w e => ?_, fun a w e => ?_, fun a w e => ?_⟩
  · rw [upd_ne (ne_of_none e hg)]; exact S.sub a w e
  · by_cases ha : a = p
    · subst ha; rw [put_same] at e; cases e; exact hu
    · rw [put_ne ha] at e
      exact (S.mem a w e).mono (Le.refl G) (upd_ne ha)
  · by_cases ha : a = p
    · subst ha; exact hg
    · rw [put_ne ha] at e; exact S.dis a w e
/-- a thing changed -/
theorem Sta.chg {u w : MO} (S : Sta K m H G) (h : m p = some w) (hu : MR K G (upd H p o) p u) : Sta K (put m p u) (upd H p o) G := by
  have hg := S.dis p w h
  refine ⟨fun a w e => ?_, fun a w e => ?_, fun a w e => ?_⟩
  · rw [upd_ne (ne_of_none e hg)]; exact S.sub a w e
  · by_cases ha : a = p
    · subst ha; rw [put_same] at e; cases e; exact hu
    · rw [put_ne ha] at e
      exact (S.mem a w e).mono (Le.refl G) (upd_ne ha)
  · by_cases ha : a = p
    · subst ha; exact hg
    · rw [put_ne ha] at e; exact S.dis a w e
/-- from now on it stays as it is -/
theorem Sta.freeze {u : MO} (S : Sta K m H G) (h : m p = some u) (ho : H p = some o) : Sta K (del m p) H (upd G p o) := by
  have hg := S.dis p u h
  refine ⟨fun a w e => ?_, fun a w e => ?_, fun a w e => ?_⟩
  · by_cases ha : a = p
    · subst ha; rw [upd_same] at e; cases e; exact ho
    · rw [upd_ne ha] at e; exact S.sub a w e
  · by_cases ha : a = p
    · subst ha; unfold del at e; rw [if_pos rfl] at e; cases e
    · unfold del at e; rw [if_neg ha] at e
      exact (S.mem a w e).mono (Le.new hg) rfl
  · by_cases ha : a = p
    · subst ha; unfold del at e; rw [if_pos rfl] at e; cases e
    · unfold del at e; rw [if_neg ha] at e
      rw [upd_ne ha]; exact S.dis a w e
/-- less told of what may change -/
theorem Sta.less {m' : Mm} (S : Sta K m H G) (h : ∀ a o, m' a = some o → m a = some o) : Sta K m' H G :=
  ⟨S.sub, fun a o e => S.mem a o (h a o e), fun a o e => S.dis a o (h a o e)⟩
theorem Sta.sqL {a : Addr} {xs : List V} (S : Sta K m H G) (h : SqL K G a xs) : SqL K H a xs := Le.sqL S.sub h
theorem Sta.sqT {a : Addr} {xs : List V} (S : Sta K m H G) (h : SqT K G a xs) : SqT K H a xs := Le.sqT S.sub h
end
/-! what code does, at this level -/
def Ev (K : PySem.W.Frag) (t : TE) (r : List Val) (m : Mm) (Q : Val → Mm → Prop) : Prop :=
  ∀ σ H G, Sta K m H G → Sl K G r σ → ∀ R : VK, (∀ v H' G' x m', Q x m' → Sta K m' H' G' → Le G G' → VR K G' x v → R v H') → t σ H R
def EvT (K : PySem.W.Frag) (t : TT) (r : List Val) (m : Mm) (Q : Bool → Mm → Prop) : Prop :=
  ∀ σ H G, Sta K m H G → Sl K G r σ → ∀ R : Bool → Hp → Prop, (∀ H' G' b m', Q b m' → Sta K m' H' G' → Le G G' → R b H') → t σ H R
def EvA (K : PySem.W.Frag) (t : TA) (r : List Val) (m : Mm) (Q : List Val → Mm → Prop) : Prop :=
  ∀ σ H G, Sta K m H G → Sl K G r σ → ∀ R : List V → Hp → Prop, (∀ vs H' G' xs m', Q xs m' → Sta K m' H' G' → Le G G' → VRs K G' xs vs → R vs H') → t σ H R
def Op2 (K : PySem.W.Frag) (f : R2) (x y : Val) (m : Mm) (Q : Val → Mm → Prop) : Prop :=
  ∀ H G v w, Sta K m H G → VR K G x v → VR K G y w → ∀ R : VK, (∀ v H' G' x m', Q x m' → Sta K m' H' G' → Le G G' → VR K G' x v → R v H') → f v w H R
def Op1 (K : PySem.W.Frag) (f : V → Hp → VK → Prop) (x : Val) (m : Mm) (Q : Val → Mm → Prop) : Prop :=
  ∀ H G v, Sta K m H G → VR K G x v → ∀ R : VK, (∀ v H' G' x m', Q x m' → Sta K m' H' G' → Le G G' → VR K G' x v → R v H') → f v H R
def OpN (K : PySem.W.Frag) (f : List V → Hp → VK → Prop) (xs : List Val) (m : Mm) (Q : Val → Mm → Prop) : Prop :=
  ∀ H G vs, Sta K m H G → VRs K G xs vs → ∀ R : VK, (∀ v H' G' x m', Q x m' → Sta K m' H' G' → Le G G' → VR K G' x v → R v H') → f vs H R
def Wp (K : PySem.W.Frag) (t : TS) (r : List Val) (m : Mm) (N : List Val → Mm → Prop) (E : Val → Mm → Prop) : Prop :=
  ∀ σ H G (D : Ends), Sta K m H G → Sl K G r σ → (∀ σ' H' G' r' m', N r' m' → Sta K m' H' G' → Le G G' → Sl K G' r' σ' → D.nx σ' H') →
    (∀ v H' G' x m', E x m' → Sta K m' H' G' → Le G G' → VR K G' x v → D.rt v H') → t D σ H
section
variable {K : PySem.W.Frag} {r : List Val} {m : Mm} {Q : Val → Mm → Prop} {ta tb tc te : TE} {tt tu : TT}
theorem Ev.imp {Q' : Val → Mm → Prop} (h : Ev K te r m Q) (i : ∀ x m', Q x m' → Q' x m') : Ev K te r m Q' := fun σ H G S L R q =>
  h σ H G S L R fun v H' G' x m' hq => q v H' G' x m' (i x m' hq)
theorem EvT.imp {Q Q' : Bool → Mm → Prop} (h : EvT K tt r m Q) (i : ∀ x m', Q x m' → Q' x m') : EvT K tt r m Q' := fun σ H G S L R q =>
  h σ H G S L R fun H' G' x m' hq => q H' G' x m' (i x m' hq)
theorem EvA.imp {t : TA} {Q Q' : List Val → Mm → Prop} (h : EvA K t r m Q) (i : ∀ x m', Q x m' → Q' x m') : EvA K t r m Q' := fun σ H G S L R q =>
  h σ H G S L R fun v H' G' x m' hq => q v H' G' x m' (i x m' hq)
theorem ev_var {i : Nat} {x : Val} (h : r[i]? = some x) (n : x ≠ .any) (q : Q x m) : Ev K (tVar i) r m Q := fun σ H G S L R k => by
  obtain ⟨v, h1, h2⟩ := L.get h n
  exact ⟨v, h1, k v H G x m q S (Le.refl G) h2⟩
theorem ev_cI {i : Int} (q : Q (.d (.int i)) m) : Ev K (tC (.int i)) r m Q := fun σ H G S L R k => k _ H G _ m q S (Le.refl G) (.d (rp_int.mpr rfl))
theorem ev_cB {i : Bool} (q : Q (.d (.bool i)) m) : Ev K (tC (.bl i)) r m Q := fun σ H G S L R k => k _ H G _ m q S (Le.refl G) (.d (rp_bool.mpr rfl))
theorem ev_cS {i : Str} (q : Q (.d (.str i)) m) : Ev K (tC (.str i)) r m Q := fun σ H G S L R k => k _ H G _ m q S (Le.refl G) (.d (rp_str.mpr rfl))
theorem ev_cN (q : Q (.d .none) m) : Ev K (tC .non) r m Q := fun σ H G S L R k => k _ H G _ m q S (Le.refl G) (.d (rp_none.mpr rfl))
theorem ev_cV {v : V} (q : Q (.v v) m) : Ev K (tC v) r m Q := fun σ H G S L R k => k _ H G _ m q S (Le.refl G) .v
/-- a constant of the module that is data -/
theorem ev_cG {v : V} {x : PyData} (hv : ∀ G, Rp K G x v) (q : Q (.d x) m) : Ev K (tC v) r m Q := fun σ H G S L R k => k _ H G _ m q S (Le.refl G) (.d (hv G))
theorem ev_op {f : R2} (h : Ev K ta r m fun x m1 => Ev K tb r m1 fun y m2 => Op2 K f x y m2 Q) : Ev K (tOp f ta tb) r m Q := fun σ H G S L R k =>
  h σ H G S L _ fun v H1 G1 x m1 h1 S1 e1 r1 => h1 σ H1 G1 S1 (L.mono e1) _ fun w H2 G2 y m2 h2 S2 e2 r2 =>
    h2 H2 G2 v w S2 (r1.mono e2) r2 R fun v' H3 G3 z m3 h3 S3 e3 r3 => k v' H3 G3 z m3 h3 S3 (e1.trans (e2.trans e3)) r3
theorem ev_un {f : V → Hp → VK → Prop} (h : Ev K ta r m fun x m1 => Op1 K f x m1 Q) : Ev K (tUn f ta) r m Q := fun σ H G S L R k =>
  h σ H G S L _ fun v H1 G1 x m1 h1 S1 e1 r1 => h1 H1 G1 v S1 r1 R fun v' H3 G3 z m3 h3 S3 e3 r3 => k v' H3 G3 z m3 h3 S3 (e1.trans e3) r3
theorem eva_nil {Q : List Val → Mm → Prop} (q : Q [] m) : EvA K tNil r m Q := fun σ H G S L R k => k [] H G [] m q S (Le.refl G) rfl
theorem eva_cons {tr : TA} {Q : List Val → Mm → Prop} (h : Ev K ta r m fun x m1 => EvA K tr r m1 fun xs m2 => Q (x :: xs) m2) : EvA K (tCons ta tr) r m Q := fun σ H G S L R k =>
  h σ H G S L _ fun v H1 G1 x m1 h1 S1 e1 r1 => h1 σ H1 G1 S1 (L.mono e1) _ fun vs H2 G2 xs m2 h2 S2 e2 r2 =>
    k (v :: vs) H2 G2 (x :: xs) m2 h2 S2 (e1.trans e2) ⟨v, vs, rfl, r1.mono e2, r2⟩
theorem ev_callB {f : List V → Hp → VK → Prop} {t : TA} (h : EvA K t r m fun xs m1 => OpN K f xs m1 Q) : Ev K (tCB f t) r m Q := fun σ H G S L R k =>
  h σ H G S L _ fun vs H1 G1 xs m1 h1 S1 e1 r1 => h1 H1 G1 vs S1 r1 R fun v' H3 G3 z m3 h3 S3 e3 r3 => k v' H3 G3 z m3 h3 S3 (e1.trans e3) r3
theorem ev_if (h : EvT K tt r m fun b m1 => (b = true → Ev K ta r m1 Q) ∧ (b = false → Ev K tb r m1 Q)) : Ev K (tIf tt ta tb) r m Q := fun σ H G S L R k =>
  h σ H G S L _ fun H1 G1 b m1 h1 S1 e1 => by
    cases b with
    | true =>
      show ta σ H1 R
      exact h1.1 rfl σ H1 G1 S1 (L.mono e1) R fun v' H3 G3 z m3 h3 S3 e3 r3 => k v' H3 G3 z m3 h3 S3 (e1.trans e3) r3
    | false =>
      show tb σ H1 R
      exact h1.2 rfl σ H1 G1 S1 (L.mono e1) R fun v' H3 G3 z m3 h3 S3 e3 r3 => k v' H3 G3 z m3 h3 S3 (e1.trans e3) r3
theorem evt_test {Q : Bool → Mm → Prop} (h : Ev K te r m fun x m1 => ∃ b, x = .d (.bool b) ∧ Q b m1) : EvT K (tTest te) r m Q := fun σ H G S L R k =>
  h σ H G S L _ fun v H1 G1 x m1 ⟨b, hx, hb⟩ S1 e1 r1 => by
    subst hx
    exact ⟨b, rp_bool.mp r1.rp, k H1 G1 b m1 hb S1 e1⟩
theorem evt_B {Q : Bool → Mm → Prop} (h : Ev K te r m fun x m1 => ∃ b, x = .d (.bool b) ∧ Q b m1) : EvT K (tB te) r m Q := fun σ H G S L R k =>
  h σ H G S L _ fun v H1 G1 x m1 ⟨b, hx, hb⟩ S1 e1 r1 => by
    subst hx
    exact ⟨b, rp_bool.mp r1.rp, k H1 G1 b m1 hb S1 e1⟩
theorem evt_and {Q : Bool → Mm → Prop} (h : EvT K tt r m fun b m1 => (b = true → EvT K tu r m1 Q) ∧ (b = false → Q false m1)) : EvT K (tAnd tt tu) r m Q := fun σ H G S L R k =>
  h σ H G S L _ fun H1 G1 b m1 h1 S1 e1 => by
    cases b with
    | true =>
      show tu σ H1 R
      exact h1.1 rfl σ H1 G1 S1 (L.mono e1) R fun H3 G3 z m3 h3 S3 e3 => k H3 G3 z m3 h3 S3 (e1.trans e3)
    | false =>
      show R false H1
      exact k H1 G1 false m1 (h1.2 rfl) S1 e1
theorem evt_or {Q : Bool → Mm → Prop} (h : EvT K tt r m fun b m1 => (b = true → Q true m1) ∧ (b = false → EvT K tu r m1 Q)) : EvT K (tOr tt tu) r m Q := fun σ H G S L R k =>
  h σ H G S L _ fun H1 G1 b m1 h1 S1 e1 => by
    cases b with
    | false =>
      show tu σ H1 R
      exact h1.2 rfl σ H1 G1 S1 (L.mono e1) R fun H3 G3 z m3 h3 S3 e3 => k H3 G3 z m3 h3 S3 (e1.trans e3)
    | true =>
      show R true H1
      exact k H1 G1 true m1 (h1.1 rfl) S1 e1
theorem evt_not {Q : Bool → Mm → Prop} (h : EvT K tt r m fun b m1 => Q (!b) m1) : EvT K (tNot tt) r m Q := fun σ H G S L R k =>
  h σ H G S L _ fun H1 G1 b m1 h1 S1 e1 => k H1 G1 (!b) m1 h1 S1 e1
theorem ev_and (h : Ev K ta r m fun x m1 => ∃ b, x = .d (.bool b) ∧ (b = true → Ev K tb r m1 Q) ∧ (b = false → Q (.d (.bool false)) m1)) : Ev K (tAndV ta tb) r m Q := fun σ H G S L R k =>
  h σ H G S L _ fun v H1 G1 x m1 ⟨b, hx, h1, h2⟩ S1 e1 r1 => by
    subst hx
    refine ⟨b, rp_bool.mp r1.rp, ?_⟩
    cases b with
    | true =>
      show tb σ H1 R
      exact h1 rfl σ H1 G1 S1 (L.mono e1) R fun v' H3 G3 z m3 h3 S3 e3 r3 => k v' H3 G3 z m3 h3 S3 (e1.trans e3) r3
    | false =>
      show R (.bl false) H1
      exact k _ H1 G1 _ m1 (h2 rfl) S1 e1 (.d (rp_bool.mpr rfl))
theorem ev_or (h : Ev K ta r m fun x m1 => ∃ b, x = .d (.bool b) ∧ (b = true → Q (.d (.bool true)) m1) ∧ (b = false → Ev K tb r m1 Q)) : Ev K (tOrV ta tb) r m Q := fun σ H G S L R k =>
  h σ H G S L _ fun v H1 G1 x m1 ⟨b, hx, h1, h2⟩ S1 e1 r1 => by
    subst hx
    refine ⟨b, rp_bool.mp r1.rp, ?_⟩
    cases b with
    | false =>
      show tb σ H1 R
      exact h2 rfl σ H1 G1 S1 (L.mono e1) R fun v' H3 G3 z m3 h3 S3 e3 r3 => k v' H3 G3 z m3 h3 S3 (e1.trans e3) r3
    | true =>
      show R (.bl true) H1
      exact k _ H1 G1 _ m1 (h1 rfl) S1 e1 (.d (rp_bool.mpr rfl))
theorem ev_not (h : Ev K ta r m fun x m1 => ∃ b, x = .d (.bool b) ∧ Q (.d (.bool (!b))) m1) : Ev K (tNotV ta) r m Q := fun σ H G S L R k =>
  h σ H G S L _ fun v H1 G1 x m1 ⟨b, hx, h1⟩ S1 e1 r1 => by
    subst hx
    exact ⟨b, rp_bool.mp r1.rp, k _ H1 G1 _ m1 h1 S1 e1 (.d (rp_bool.mpr rfl))⟩
theorem ev_chain {f g : R2} (h : Ev K ta r m fun x m1 => Ev K tb r m1 fun y m2 => Op2 K f x y m2 fun z m3 => ∃ b, z = .d (.bool b) ∧ (b = true → Ev K tc r m3 fun w m4 => Op2 K g y w m4 Q) ∧ (b = false → Q (.d (.bool false)) m3)) :
    Ev K (tChain f g ta tb tc) r m Q := fun σ H G S L R k =>
  h σ H G S L _ fun v H1 G1 x m1 h1 S1 e1 r1 => h1 σ H1 G1 S1 (L.mono e1) _ fun w H2 G2 y m2 h2 S2 e2 r2 =>
    h2 H2 G2 v w S2 (r1.mono e2) r2 _ fun v' H3 G3 z m3 ⟨b, hz, h3, h4⟩ S3 e3 r3 => by
      subst hz
      refine ⟨b, rp_bool.mp r3.rp, ?_⟩
      cases b with
      | true =>
        show tc σ H3 _
        exact h3 rfl σ H3 G3 S3 (L.mono (e1.trans (e2.trans e3))) _ fun u H4 G4 q m4 h5 S4 e4 r4 =>
          h5 H4 G4 w u S4 (r2.mono (e3.trans e4)) r4 R fun v5 H5 G5 z5 m5 q5 S5 e5 r5 => k v5 H5 G5 z5 m5 q5 S5 (e1.trans (e2.trans (e3.trans (e4.trans e5)))) r5
      | false =>
        show R (.bl false) H3
        exact k _ H3 G3 _ m3 (h4 rfl) S3 (e1.trans (e2.trans e3)) (.d (rp_bool.mpr rfl))
/-- a tuple -/
theorem ev_tup {t : TA} (h : EvA K t r m fun xs m1 => ∃ ds : List PyData, xs = ds.map Val.d ∧ ds.length ≤ 100000 ∧ Q (.d (.tuple ds)) m1) : Ev K (tTup t) r m Q := fun σ H G S L R k =>
  h σ H G S L _ fun vs H1 G1 xs m1 ⟨ds, hx, hl, q⟩ S1 e1 r1 => by
    subst hx
    have hA := r1.toAll
    refine ⟨by rw [hA.length]; exact Nat.le_trans hl (by decide), fun p hp => ?_⟩
    have hg := S1.free hp
    exact k (.ref p) _ (upd G1 p (.tup vs)) _ m1 q (S1.fix hp) (e1.trans (Le.new hg)) (.d <| rp_tuple.mpr ⟨p, vs, rfl, SqT.of upd_same, RpAll.mono (Le.new hg) ds vs hA⟩)
/-- a list that stays as it is -/
theorem ev_lstD {t : TA} (h : EvA K t r m fun xs m1 => ∃ ds : List PyData, xs = ds.map Val.d ∧ ds.length ≤ 100000 ∧ Q (.d (.list ds)) m1) : Ev K (tLst t) r m Q := fun σ H G S L R k =>
  h σ H G S L _ fun vs H1 G1 xs m1 ⟨ds, hx, hl, q⟩ S1 e1 r1 => by
    subst hx
    have hA := r1.toAll
    refine ⟨by rw [hA.length]; exact Nat.le_trans hl (by decide), fun p hp => ?_⟩
    have hg := S1.free hp
    exact k (.ref p) _ (upd G1 p (.lst vs)) _ m1 q (S1.fix hp) (e1.trans (Le.new hg)) (.d <| rp_list.mpr ⟨p, vs, rfl, Rd.of upd_same, RpAll.mono (Le.new hg) ds vs hA⟩)
/-! statements -/
variable {N : List Val → Mm → Prop} {E : Val → Mm → Prop} {t u : TS}
theorem Wp.imp {N' : List Val → Mm → Prop} {E' : Val → Mm → Prop} (h : Wp K t r m N E) (i : ∀ x m', N x m' → N' x m') (j : ∀ x m', E x m' → E' x m') : Wp K t r m N' E' := fun σ H G D S L a b =>
  h σ H G D S L (fun σ' H' G' r' m' hq => a σ' H' G' r' m' (i _ _ hq)) (fun v H' G' x m' hq => b v H' G' x m' (j _ _ hq))
theorem w_next (q : N r m) : Wp K tNext r m N E := fun σ H G D S L a b => a σ H G r m q S (Le.refl G) L
theorem w_seq (h : Wp K t r m (fun r1 m1 => Wp K u r1 m1 N E) E) : Wp K (tSeq t u) r m N E := fun σ H G D S L a b =>
  h σ H G { D with nx := u D } S L (fun σ1 H1 G1 r1 m1 h1 S1 e1 L1 => h1 σ1 H1 G1 D S1 L1 (fun σ2 H2 G2 r2 m2 n2 S2 e2 L2 => a σ2 H2 G2 r2 m2 n2 S2 (e1.trans e2) L2)
    (fun v H2 G2 x m2 n2 S2 e2 L2 => b v H2 G2 x m2 n2 S2 (e1.trans e2) L2)) b
theorem w_asg {i : Nat} (h : Ev K te r m fun x m1 => N (r.set i x) m1) : Wp K (tAsg te (gName i)) r m N E := fun σ H G D S L a b =>
  h σ H G S L _ fun v H1 G1 x m1 q S1 e1 r1 => a (σ.set i (some v)) H1 G1 (r.set i x) m1 q S1 e1 ((L.mono e1).set r1 i)
theorem w_drop (h : Ev K te r m fun _ m1 => N r m1) : Wp K (tDrop te) r m N E := fun σ H G D S L a b =>
  h σ H G S L _ fun v H1 G1 x m1 q S1 e1 r1 => a σ H1 G1 r m1 q S1 e1 (L.mono e1)
theorem w_ret (h : Ev K te r m E) : Wp K (tRet te) r m N E := fun σ H G D S L a b => h σ H G S L _ b
theorem w_if (h : EvT K tt r m fun c m1 => (c = true → Wp K t r m1 N E) ∧ (c = false → Wp K u r m1 N E)) : Wp K (tIfS tt t u) r m N E := fun σ H G D S L a b =>
  h σ H G S L _ fun H1 G1 c m1 h1 S1 e1 => by
    cases c with
    | true =>
      show t D σ H1
      exact h1.1 rfl σ H1 G1 D S1 (L.mono e1) (fun σ2 H2 G2 r2 m2 n2 S2 e2 L2 => a σ2 H2 G2 r2 m2 n2 S2 (e1.trans e2) L2) (fun v H2 G2 x m2 n2 S2 e2 L2 => b v H2 G2 x m2 n2 S2 (e1.trans e2) L2)
    | false =>
      show u D σ H1
      exact h1.2 rfl σ H1 G1 D S1 (L.mono e1) (fun σ2 H2 G2 r2 m2 n2 S2 e2 L2 => a σ2 H2 G2 r2 m2 n2 S2 (e1.trans e2) L2) (fun v H2 G2 x m2 n2 S2 e2 L2 => b v H2 G2 x m2 n2 S2 (e1.trans e2) L2)
/-- a, b = .. of one tuple -/
theorem w_asg2 {i j : Nat} (h : Ev K te r m fun x m1 => ∃ d1 d2, x = .d (.tuple [d1, d2]) ∧ N ((r.set i (.d d1)).set j (.d d2)) m1) : Wp K (tAsg te (gTup K 2 (gCons (gName i) (gCons (gName j) gNil)))) r m N E := fun σ H G D S L a b =>
  h σ H G S L _ fun v H1 G1 x m1 ⟨d1, d2, hx, q⟩ S1 e1 r1 => by
    subst hx
    obtain ⟨p, xs, hv, hs, hA⟩ := rp_tuple.mp r1.rp
    have hl := hA.length
    obtain ⟨x1, t1, rfl, a1, hA⟩ := rpa_cons.mp hA
    obtain ⟨x2, t2, rfl, a2, hA⟩ := rpa_cons.mp hA
    obtain rfl := rpa_nil.mp hA
    refine ⟨p, _, hv, S1.sqT hs, rfl, x1, [x2], rfl, x2, [], rfl, rfl, ?_⟩
    exact a _ H1 G1 _ m1 q S1 e1 (((L.mono e1).set (r := .d d1) (.d a1) i).set (r := .d d2) (.d a2) j)
/-- a, b = e, f -/
theorem w_par {i j : Nat} {ta : TA} (h : EvA K ta r m fun xs m1 => ∃ x y, xs = [x, y] ∧ N ((r.set i x).set j y) m1) : Wp K (tPar i j ta) r m N E := fun σ H G D S L a b =>
  h σ H G S L _ fun vs H1 G1 xs m1 ⟨x, y, hx, q⟩ S1 e1 r1 => by
    subst hx
    obtain ⟨v1, t1, rfl, a1, t2⟩ := r1
    obtain ⟨v2, t2, rfl, a2, t3⟩ := t2
    have t3 : t2 = [] := t3
    subst t3
    exact ⟨v1, v2, rfl, a _ H1 G1 _ m1 q S1 e1 (((L.mono e1).set a1 i).set a2 j)⟩
theorem w_while {tt : TT} (W : Nat → List Val → Mm → Prop) (n0 : Nat) (h0 : W n0 r m)
    (hs : ∀ n r' m', W n r' m' → EvT K tt r' m' fun c m1 => (c = true → Wp K t r' m1 (fun r2 m2 => ∃ n', n' < n ∧ W n' r2 m2) E) ∧ (c = false → N r' m1)) : Wp K (tWhile tt t) r m N E := fun σ H G D S L a b => by
  refine ⟨fun n σ' H' => ∃ G' r' m', W n r' m' ∧ Sta K m' H' G' ∧ Le G G' ∧ Sl K G' r' σ', ⟨n0, G, r, m, h0, S, Le.refl G, L⟩, ?_⟩
  rintro n σ1 H1 ⟨G1, r1, m1, hw, S1, e1, L1⟩
  refine hs n r1 m1 hw σ1 H1 G1 S1 L1 _ fun H2 G2 c m2 h2 S2 e2 => ?_
  cases c with
  | true =>
    refine ⟨fun σ' H' => ∃ n', n' < n ∧ ∃ G' r' m', W n' r' m' ∧ Sta K m' H' G' ∧ Le G G' ∧ Sl K G' r' σ', fun σ' H' h => h, ?_⟩
    exact h2.1 rfl σ1 H2 G2 _ S2 (L1.mono e2) (fun σ3 H3 G3 r3 m3 ⟨n', hn, hw'⟩ S3 e3 L3 => ⟨n', hn, G3, r3, m3, hw', S3, e1.trans (e2.trans e3), L3⟩)
      (fun v H3 G3 x m3 n3 S3 e3 L3 => b v H3 G3 x m3 n3 S3 (e1.trans (e2.trans e3)) L3)
  | false => exact a σ1 H2 G2 r1 m2 (h2.2 rfl) S2 (e1.trans e2) (L1.mono e2)
theorem w_forTA {tl : TE} {j : Nat} (P : List PyData → Prop) (h : Ev K tl r m fun x m1 => m1 = m ∧ ∃ ds, x = .d (.tuple ds) ∧ P ds) (W : List PyData → Nat → List Val → Mm → Prop) (h0 : ∀ ds, P ds → W ds 0 r m)
    (hs : ∀ (ds : List PyData) (i : Nat) (d : PyData) r' m', P ds → ds[i]? = some d → W ds i r' m' → Wp K t (r'.set j (.d d)) m' (W ds (i + 1)) E) (hd : ∀ (ds : List PyData) r' m', P ds → W ds ds.length r' m' → N r' m') : Wp K (tFor (iTup K tl) (gName j) t) r m N E := fun σ H G D S L a b =>
  h σ H G S L _ fun v H1 G1 x m1 ⟨hm, ds, hx, hP⟩ S1 e1 r1 => by
    subst hx hm
    obtain ⟨p, xs, hv, hs1, hA⟩ := rp_tuple.mp r1.rp
    refine ⟨p, hv, ⟨xs, S1.sqT hs1⟩, for_tup (xs := xs) (fun i σ' H' => ∃ G' r' m', W ds i r' m' ∧ Sta K m' H' G' ∧ Le G1 G' ∧ Sl K G' r' σ') ⟨G1, r, _, h0 ds hP, S1, Le.refl G1, L.mono e1⟩ ?_ ?_ ?_⟩
    · rintro i σ' H' hi ⟨G', r', m', _, S', e', _⟩
      exact S'.sqT (e'.sqT hs1)
    · rintro i y σ' H' hy ⟨G', r', m', hw, S', e', L'⟩
      obtain ⟨d, hd1, hd2⟩ := hA.get hy
      refine hs ds i d r' m' hP hd1 hw (σ'.set j (some y)) H' G' _ S' (L'.set (r := .d d) (.d (Rp.mono e' d y hd2)) j) (fun σ3 H3 G3 r3 m3 h3 S3 e3 L3 => ⟨G3, r3, m3, h3, S3, e'.trans e3, L3⟩) (fun v H3 G3 x m3 n3 S3 e3 L3 => b v H3 G3 x m3 n3 S3 (e1.trans (e'.trans e3)) L3)
    · rintro σ' H' ⟨G', r', m', hw, S', e', L'⟩
      rw [hA.length] at hw
      exact a σ' H' G' r' m' (hd ds r' m' hP hw) S' (e1.trans e') L'
theorem w_forT {tl : TE} {j : Nat} {ds : List PyData} (h : Ev K tl r m fun x m1 => x = .d (.tuple ds) ∧ m1 = m) (W : Nat → List Val → Mm → Prop) (h0 : W 0 r m)
    (hs : ∀ (i : Nat) (d : PyData) r' m', ds[i]? = some d → W i r' m' → Wp K t (r'.set j (.d d)) m' (W (i + 1)) E) (hd : ∀ r' m', W ds.length r' m' → N r' m') : Wp K (tFor (iTup K tl) (gName j) t) r m N E :=
  w_forTA (fun l => l = ds) (h.imp fun x m' e => ⟨e.2, ds, e.1, rfl⟩) (fun _ => W) (fun _ _ => h0) (fun l i d r' m' e hd hw => hs i d r' m' (by rw [← e]; exact hd) hw) (fun l r' m' e hw => hd r' m' (by rw [← e]; exact hw))
theorem w_forLA {tl : TE} {j : Nat} (P : List PyData → Prop) (h : Ev K tl r m fun x m1 => m1 = m ∧ ∃ ds, x = .d (.list ds) ∧ P ds) (W : List PyData → Nat → List Val → Mm → Prop) (h0 : ∀ ds, P ds → W ds 0 r m)
    (hs : ∀ (ds : List PyData) (i : Nat) (d : PyData) r' m', P ds → ds[i]? = some d → W ds i r' m' → Wp K t (r'.set j (.d d)) m' (W ds (i + 1)) E) (hd : ∀ (ds : List PyData) r' m', P ds → W ds ds.length r' m' → N r' m') : Wp K (tFor (iList K tl) (gName j) t) r m N E := fun σ H G D S L a b =>
  h σ H G S L _ fun v H1 G1 x m1 ⟨hm, ds, hx, hP⟩ S1 e1 r1 => by
    subst hx hm
    obtain ⟨p, xs, hv, hs1, hA⟩ := rp_list.mp r1.rp
    have hs1 : SqL K G1 p xs := Or.inl hs1
    refine ⟨p, hv, ⟨xs, S1.sqL hs1⟩, for_list (xs := xs) (fun i σ' H' => ∃ G' r' m', W ds i r' m' ∧ Sta K m' H' G' ∧ Le G1 G' ∧ Sl K G' r' σ') ⟨G1, r, _, h0 ds hP, S1, Le.refl G1, L.mono e1⟩ ?_ ?_ ?_⟩
    · rintro i σ' H' hi ⟨G', r', m', _, S', e', _⟩
      exact S'.sqL (e'.sqL hs1)
    · rintro i y σ' H' hy ⟨G', r', m', hw, S', e', L'⟩
      obtain ⟨d, hd1, hd2⟩ := hA.get hy
      refine hs ds i d r' m' hP hd1 hw (σ'.set j (some y)) H' G' _ S' (L'.set (r := .d d) (.d (Rp.mono e' d y hd2)) j) (fun σ3 H3 G3 r3 m3 h3 S3 e3 L3 => ⟨G3, r3, m3, h3, S3, e'.trans e3, L3⟩) (fun v H3 G3 x m3 n3 S3 e3 L3 => b v H3 G3 x m3 n3 S3 (e1.trans (e'.trans e3)) L3)
    · rintro σ' H' ⟨G', r', m', hw, S', e', L'⟩
      rw [hA.length] at hw
      exact a σ' H' G' r' m' (hd ds r' m' hP hw) S' (e1.trans e') L'
theorem w_forR1 {ta : TA} {j : Nat} {n : Nat} (h : EvA K ta r m fun xs m1 => xs = [.d (.int (n : Int))] ∧ m1 = m) (hn : n ≤ 100000) (W : Nat → List Val → Mm → Prop) (h0 : W 0 r m)
    (hs : ∀ (i : Nat) r' m', i < n → W i r' m' → Wp K t (r'.set j (.d (.int (i : Int)))) m' (W (i + 1)) E) (hd : ∀ r' m', W n r' m' → N r' m') : Wp K (tFor (iRng1 ta) (gName j) t) r m N E := fun σ H G D S L a b =>
  h σ H G S L _ fun vs H1 G1 xs m1 ⟨hx, hm⟩ S1 e1 r1 => by
    subst hx hm
    obtain ⟨v1, t1, rfl, a1, t2⟩ := r1
    have t2 : t1 = [] := t2
    subst t2
    have a1 : v1 = .int (n : Int) := rp_int.mp a1.rp
    subst a1
    have en : ((n : Int)).toNat = n := by omega
    refine ⟨(n : Int), rfl, by omega, by omega, ?_⟩
    rw [en]
    refine for_range (lo := 0) (n := n) (fun i σ' H' => ∃ G' r' m', W i r' m' ∧ Sta K m' H' G' ∧ Le G1 G' ∧ Sl K G' r' σ') ⟨G1, r, _, h0, S1, Le.refl G1, L.mono e1⟩ ?_ ?_
    · rintro i σ' H' hi ⟨G', r', m', hw, S', e', L'⟩
      rw [Int.zero_add]
      refine hs i r' m' hi hw (σ'.set j (some (.int (i : Int)))) H' G' _ S' (L'.set (r := .d (.int (i : Int))) (.d (rp_int.mpr rfl)) j) (fun σ3 H3 G3 r3 m3 h3 S3 e3 L3 => ⟨G3, r3, m3, h3, S3, e'.trans e3, L3⟩) (fun v H3 G3 x m3 n3 S3 e3 L3 => b v H3 G3 x m3 n3 S3 (e1.trans (e'.trans e3)) L3)
    · rintro σ' H' ⟨G', r', m', hw, S', e', L'⟩
      exact a σ' H' G' r' m' (hd r' m' hw) S' (e1.trans e') L'
end
/-! what a def does, at this level -/
abbrev FSp := List Val → Mm → (Val → Mm → Prop) → Prop
def spD (K : PySem.W.Frag) (f : FSp) : Sp := fun vs H Q _ => ∃ m G args R, Sta K m H G ∧ VRs K G args vs ∧ f args m R ∧ ∀ v H' G' x m', R x m' → Sta K m' H' G' → Le G G' → VR K G' x v → Q v H'
theorem ev_call {K : PySem.W.Frag} {f : FSp} {t : TA} {E : XK} {r : List Val} {m : Mm} {Q : Val → Mm → Prop} (h : EvA K t r m fun xs m1 => f xs m1 Q) : Ev K (tCall (spD K f) [] E t) r m Q := fun σ H G S L R k =>
  h σ H G S L _ fun vs H1 G1 xs m1 h1 S1 e1 r1 => by
    rw [List.append_nil]
    exact ⟨m1, G1, xs, Q, S1, r1, h1, fun v' H3 G3 z m3 h3 S3 e3 r3 => k v' H3 G3 z m3 h3 S3 (e1.trans e3) r3⟩
section
variable {P : Program} {w : World} {K : PySem.W.Frag} {mg : Str → Option Value} {base : Heap}
theorem fn_ok {x qual : Str} {st : Stmt} {f : Addr} {fd : FuncData} {N ps : List Str} {k : Nat} {sp : FSp} (F : Fun K x qual st f fd) (S : FnScope N ps (defScope st)) (hl : ∀ args m R, sp args m R → args.length = ps.length)
    (hb : ∀ (cdv : Value) (A : Around) (outer : List Env) (s : Shared) (H : Hp) (E : XK), Room k (A.deeper (PyProof.Rows.envOfC qual (defScope st) s.heap.objs.size f cdv)) →
      ∃ t, PSs (cxOf CX0 P w K mg base N qual (defScope st) f cdv A outer s H E).nox (defBody st) t ∧
        ∀ args m R, sp args m R → Wp K t (args ++ List.replicate (N.length - args.length) .any) m (fun _ m' => R (.d .none) m') R) : FnOk P w K mg base CX0 (k + 1) f fd ps (spD K sp) := by
  refine F.ok S (fun vs H Q E h => ?_) (fun cdv A outer s H vs Q E hr h => ?_)
  · obtain ⟨m, G, args, R, S1, r1, h1, _⟩ := h
    rw [r1.length]; exact hl args m R h1
  · obtain ⟨m, G, args, R, S1, r1, h1, k1⟩ := h
    obtain ⟨t, ht, hw⟩ := hb cdv A outer s H E hr
    refine ⟨t, ht, ?_⟩
    refine hw args m R h1 _ H G _ S1 ?_ (fun σ' H' G' r' m' hn S' e' L' => ?_) (fun v H' G' x m' hn S' e' L' => k1 v H' G' x m' hn S' e' L')
    · unfold L2.start
      rw [r1.length]
      exact Sl.start _ r1
    · exact k1 .non H' G' (.d .none) m' hn S' e' (.d (rp_none.mpr rfl))
end
end DL
namespace DL
open PySem L2
/-! rules of the layer below, joined -/
section
variable {X : Cx}
/-- list + list, as they may be read -/
def rCatR : R2 := fun x y H Q => ∃ l b xs zs, x = .ref l ∧ y = .ref b ∧ Rd H l (.lst xs) ∧ Rd H b (.lst zs) ∧ xs.length + zs.length ≤ sizeLine ∧ ∀ p, H p = none → Q (.ref p) (upd H p (.lst (xs ++ zs)))
theorem rd_list {pins : List (Addr × Obj)} {σ : L2.St} {H : Hp} {s : Shared} {l : Addr} {xs : List V} (I : Inv X pins σ H s) (h : Rd H l (.lst xs)) :
    xs.length ≤ sizeLine ∧ ∃ (its : List Value) (n : Nat), Vals xs its ∧ xs.length = its.length ∧ s.heap.get? l = some { cls := .type "list", data := .seq its.toArray n } := by
  obtain ⟨z, its, n, r, e⟩ := h.ok I.hok
  exact ⟨z, its, n, r, r.length, e⟩
theorem op_catR : OpR X (binaryOp .Add) rCatR := by
  intro pins s σ H x y v u Q I rx ry h
  obtain ⟨l, b, xs, zs, rfl, rfl, hH, hB, hz, q⟩ := h
  cases rx
  cases ry
  obtain ⟨z1, its1, n1, r1, hl1, e1⟩ := rd_list I hH
  obtain ⟨z2, its2, n2, r2, hl2, e2⟩ := rd_list I hB
  refine PySem.P.add_list e1 e2 ?_ (by rw [List.size_toArray, List.size_toArray, ← hl1, ← hl2]; exact hz)
  have ea : its1.toArray ++ its2.toArray = (its1 ++ its2).toArray := by simp
  rw [ea]
  exact ⟨.ref _, _, I.lnew (t' := s.toks) (r1.append r2) (by rw [List.length_append]; exact hz), rfl, q _ I.fresh⟩
def rAddI : R2 := rI0 fun i j => .int (i + j)
def rAddS : R2 := fun x y H Q => ∃ i j, x = .str i ∧ y = .str j ∧ i.length + j.length ≤ sizeLine ∧ Q (.str (i ++ j)) H
def rAdd (K : PySem.W.Frag) : R2 := fun x y H Q => rAddI x y H Q ∨ (rCatA K x y H Q ∨ (rCatR x y H Q ∨ rAddS x y H Q))
theorem oAdd : OpR X (binaryOp .Add) (rAdd X.K) := (op_add).or (op_catA.or (op_catR.or op_add_str))
def rSub : R2 := rI0 fun i j => .int (i - j)
theorem oSub : OpR X (binaryOp .Sub) rSub := op_sub
def rMulI : R2 := rI CMulW fun i j => .int (i * j)
def rFdv : R2 := rI CDivW fun i j => .int (i / j)
theorem oFdv : OpR X (binaryOp .FloorDiv) rFdv := op_fdivW
def rMod : R2 := rI (fun _ j => 0 < j) fun i j => .int (i % j)
theorem oMod : OpR X (binaryOp .Mod) rMod := op_mod
def rLt : R2 := rI0 fun i j => .bl (decide (i < j))
def rLe : R2 := rI0 fun i j => .bl (decide (i ≤ j))
def rGt : R2 := rI0 fun i j => .bl (decide (j < i))
def rGe : R2 := rI0 fun i j => .bl (decide (j ≤ i))
theorem oLt : OpR X (compareOp .Lt) rLt := op_lt
theorem oLe : OpR X (compareOp .LtE) rLe := op_le
theorem oGt : OpR X (compareOp .Gt) rGt := op_gt
def rEqA (K : PySem.W.Frag) : R2 := fun x y H Q => rEq x y H Q ∨ rEqD K x y H Q
def rNeA (K : PySem.W.Frag) : R2 := fun x y H Q => rNe x y H Q ∨ rNeD K x y H Q
theorem oEq {k : Nat} (hr : Room k X.A) : OpR X (compareOp .Eq) (rEqA X.K) := op_eq.or (op_eqD hr.units)
theorem oNe {k : Nat} (hr : Room k X.A) : OpR X (compareOp .NotEq) (rNeA X.K) := op_ne.or (op_neD hr.units)
def rNeg : V → Hp → VK → Prop := rU fun i => .int (-i)
/-! a tuple so many times: once it is the same one -/
theorem mul_tuple1 {l : Addr} {items : Array Value} {n : Nat} {dd : Option Addr} {sl : Array (Option Value)} {u : Tok} :
    Meets (Builtin.«tuple.__mul__» ⟨[.ref l, .int 1 u], []⟩) (fun _ R s => s.heap.get? l = some { cls := .type "tuple", dict := dd, data := .seq items n, slots := sl } ∧ R (.ok (.ret (Value.ref l))) s) :=
  .of_wp fun prog w A R s h => by
    obtain ⟨hp, g, d, tk, os⟩ := s
    obtain ⟨hl, h⟩ := h
    have f1 := AutoSeq1.idx_int
    wp_walk using wpAny_loadPart' hl
    repeat (first
      | (refine wpAny_ite_false (by decide) ?_; wp_walk using wpAny_loadPart' hl)
      | (refine wpAny_ite_true (by simp) ?_; wp_walk using wpAny_loadPart' hl))
    exact ⟨_, rfl, h⟩
def rRepT1 (K : PySem.W.Frag) : R2 := fun x y H Q => ∃ l xs, x = .ref l ∧ y = .int 1 ∧ SqT K H l xs ∧ Q (.ref l) H
theorem op_repT1 : OpR X (binaryOp .Mult) (rRepT1 X.K) := by
  intro pins s σ H x y v u Q I rx ry h
  obtain ⟨l, xs, rfl, rfl, hT, q⟩ := h
  cases rx
  obtain ⟨t, rfl⟩ := ry
  obtain ⟨its, r, ⟨⟨cls, dd, data, sl⟩, ho, hc, n, hd⟩, hs⟩ := I.tuple hT
  simp only at hc hd
  subst hc hd
  refine wpAny_binaryOp_repeat_ref (T := "tuple") (U := "int") (by decide) ⟨_, ho, rfl⟩ (fun s' => typeIs_int s' 1 t) noFill_tuple_mul PySem.F.fills_int_mul PySem.F.slot_int_rmul repeat_tuple PySem.F.slot_int_index.lookup
    (call_meets PySem.F.slot_int_rmul (typeIs_int s 1 t) PySem.F.entry_int_rmul (PySem.F.args_int_rmul_2 _ _) (int_rmul_tuple 1 t l its.toArray n dd sl)
      ⟨ho, rfl, ⟨_, ho, rfl⟩, call_meets PySem.F.slot_tuple_mul ⟨_, ho, rfl⟩ PySem.F.entry_tuple_mul (PySem.F.args_tuple_mul_2 _ _) mul_tuple1 ⟨ho, ?_⟩⟩)
  exact ⟨.ref l, H, I, rfl, q⟩
def rMul (K : PySem.W.Frag) : R2 := fun x y H Q => rMulI x y H Q ∨ (rRepT K x y H Q ∨ (rRepT1 K x y H Q ∨ rRep x y H Q))
theorem oMul : OpR X (binaryOp .Mult) (rMul X.K) := op_mulW.or (op_repT.or (op_repT1.or op_rep))
/-! sum of a tuple -/
def rSumT (K : PySem.W.Frag) : List V → Hp → VK → Prop := fun vs H Q => ∃ (a : Addr) (ns : List Int), vs = [V.ref a] ∧ SqT K H a (ns.map V.int) ∧ Q (.int ns.sum) H
theorem presum_take (ns : List Int) : ∀ k, preSum (fun i => ns.getD i 0) k = (ns.take k).sum
  | 0 => by simp [preSum]
  | k + 1 => by
    have ih := presum_take ns k
    by_cases h : k < ns.length
    · rw [List.take_succ_eq_append_getElem h, List.sum_append]
      simp only [preSum, ih, List.sum_cons, List.sum_nil, Int.add_zero]
      rw [List.getD_eq_getElem?_getD, List.getElem?_eq_getElem h]; rfl
    · rw [List.take_of_length_le (by omega)] at ih ⊢
      simp only [preSum, ih]
      rw [List.getD_eq_getElem?_getD, List.getElem?_eq_none (by omega)]; simp
theorem cr_sumT (hc : X.calm = true) : CallR X (.builtin "sum") (rSumT X.K) := by
  intro pins s σ H vs us Q I r h
  obtain ⟨a, ns, rfl, hs, q⟩ := h
  obtain ⟨its, rv, ht, _⟩ := I.tuple hs
  rw [Vals.ref1 r]
  have hlt : a < s.heap.objs.size := ht.lt
  refine call_sum_walkG (wpAny_pyIter_tuple ht ?_)
  refine ⟨s.heap.objs.size, [s.heap.objs.size, a], [s.heap.objs.size], its.toArray.size, _, _, fun i => ns.getD i 0, rfl, Walks.tuple (A := X.A.in1) (I.ok.hd hc) s.heap.objs.size a (Nat.ne_of_lt hlt) its.toArray, ⟨⟨_, Heap.get?_push_size _ rfl, rfl, rfl⟩, ?_⟩, ?_, ?_, ?_⟩
  · obtain ⟨o, h1, h2⟩ := ht
    exact ⟨o, Heap.get?_push_of_some _ h1, h2⟩
  · intro b hb
    have hsz : (s.heap.push { cls := .type "tuple_iterator", data := .fields #[.ref a, .int 0 0] }).objs.size = s.heap.objs.size + 1 := Heap.size_push ..
    show b < (s.heap.push { cls := .type "tuple_iterator", data := .fields #[.ref a, .int 0 0] }).objs.size
    rw [hsz]
    rcases List.mem_cons.mp hb with e | e
    · rw [e]; exact Nat.lt_succ_self _
    · rw [List.mem_singleton.mp e]; exact Nat.lt_succ_of_lt hlt
  · intro i v hv
    have hv : its[i]? = some v := by simpa using hv
    have hlen := rv.length
    have hil : i < its.length := (List.getElem?_eq_some_iff.mp hv).1
    rw [List.length_map] at hlen
    have hx : (ns.map V.int)[i]? = some (.int (ns.getD i 0)) := by
      rw [List.getElem?_map, List.getD_eq_getElem?_getD, List.getElem?_eq_getElem (by omega)]; rfl
    obtain ⟨u, h1, h2⟩ := rv.get hx
    rw [hv] at h1
    cases h1
    exact h2
  · intro h' tk t' hk
    have hlen := rv.length
    rw [List.length_map] at hlen
    have e : preSum (fun i => ns.getD i 0) its.toArray.size = ns.sum := by
      rw [presum_take, List.size_toArray, List.take_of_length_le (by omega)]
    rw [e]
    refine ⟨.int ns.sum, H, I.kept (fun b o e => hk b o (fun hb => ?_) (Heap.get?_push_of_some _ e)), ⟨_, rfl⟩, q⟩
    have hb : b = s.heap.objs.size := by simpa using hb
    subst hb
    exact absurd (Heap.lt_size e) (Nat.lt_irrefl _)
def rSumA (K : PySem.W.Frag) : List V → Hp → VK → Prop := fun vs H Q => rSum K vs H Q ∨ rSumT K vs H Q
theorem cSum (hc : X.calm = true) : CallR X (.builtin "sum") (rSumA X.K) := (cr_sum hc).or (cr_sumT hc)
theorem cAll (hc : X.calm = true) : CallR X (.builtin "all") (rAll X.K) := cr_all hc
def rAbs : List V → Hp → VK → Prop := fun xs H Q => ∃ i, xs = [.int i] ∧ Q (.int (if i < 0 then -i else i)) H
theorem cAbs : CallR X (.builtin "abs") rAbs := call_abs
def rMax2 : List V → Hp → VK → Prop := fun xs H Q => ∃ i j, xs = [.int i, .int j] ∧ Q (.int (if j > i then j else i)) H
def rMin2 : List V → Hp → VK → Prop := fun xs H Q => ∃ i j, xs = [.int i, .int j] ∧ Q (.int (if j < i then j else i)) H
theorem cMax (hc : X.calm = true) : CallR X (.builtin "max") rMax2 := call_max2 hc
theorem cMin (hc : X.calm = true) : CallR X (.builtin "min") rMin2 := call_min2 hc
def rLenQ (K : PySem.W.Frag) : List V → Hp → VK → Prop := fun xs H Q => ∃ p ys, xs = [.ref p] ∧ (SqL K H p ys ∨ SqT K H p ys) ∧ Q (.int ys.length) H
def rLenS : List V → Hp → VK → Prop := fun xs H Q => ∃ z, xs = [.str z] ∧ z.length ≤ sizeLine ∧ Q (.int z.length) H
def rLen (K : PySem.W.Frag) : List V → Hp → VK → Prop := fun vs H Q => rLenQ K vs H Q ∨ rLenS vs H Q
theorem cLen : CallR X (.builtin "len") (rLen X.K) := call_len_seq.or call_len_str
def rTupO (K : PySem.W.Frag) : List V → Hp → VK → Prop := fun xs H Q => ∃ p ys, xs = [.ref p] ∧ ((SqL K H p ys ∧ ∀ l, H l = none → Q (.ref l) (upd H l (.tup ys))) ∨ (SqT K H p ys ∧ Q (.ref p) H))
theorem cTup : CallR X (.type "tuple") (rTupO X.K) := call_tuple_of
def rLstO (K : PySem.W.Frag) : List V → Hp → VK → Prop := fun xs H Q => ∃ p ys, xs = [.ref p] ∧ (SqL K H p ys ∨ SqT K H p ys) ∧ ∀ l, H l = none → Q (.ref l) (upd H l (.lst ys))
theorem cIsi : CallR X (.builtin "isinstance") (rIsi X.K) := call_isi
def rDivmod : List V → Hp → VK → Prop := fun xs H Q => ∃ i j, xs = [.int i, .int j] ∧ CDivW i j ∧ ∀ p, H p = none → Q (.ref p) (upd H p (.tup [.int (i / j), .int (i % j)]))
theorem cDivmod : CallR X (.builtin "divmod") rDivmod := by
  intro pins s σ H xs us Q I r h
  obtain ⟨i, j, rfl, ⟨h1, h2⟩, q⟩ := h
  obtain ⟨u, w', rfl, ⟨t, rfl⟩, ⟨t', rfl⟩⟩ := vals2 r
  refine PyProof.Rows.divmod_int (by omega) ?_ (.inl (PyProof.noPylong_of_log2 h2))
  rw [Int.fdiv_eq_ediv_of_nonneg i (by omega), Int.fmod_eq_emod_of_nonneg i (by omega)]
  have hn : H s.heap.objs.size = none := I.hok.fresh (Nat.le_refl _)
  refine ⟨.ref s.heap.objs.size, _, ?_, rfl, q _ hn⟩
  refine I.laid (fun b o e => Heap.get?_push_of_some _ e) (Nat.le_refl _) ⟨by rw [sizeLine_eq]; show 2 ≤ 16777216; decide, [.int (i / j) s.toks, .int (i % j) (s.toks + 1)], .cons ⟨_, rfl⟩ (.cons ⟨_, rfl⟩ .nil), ?_⟩
  exact ⟨_, Heap.get?_push_size s.heap rfl, rfl, 0, rfl⟩
/-! repr of data -/
mutual
theorem rp_dp {K : PySem.W.Frag} {G : Hp} : ∀ (d : PyData) (v : V), d.hasDict = false → Rp K G d v → Dp K G v d
  | .none, v, _, h => by rw [rp_none.mp h]; exact .non
  | .bool b, v, _, h => by rw [rp_bool.mp h]; exact .bl b
  | .int i, v, _, h => by rw [rp_int.mp h]; exact .int i
  | .str s, v, _, h => by rw [rp_str.mp h]; exact .str s
  | .list ds, v, n, h => by
    obtain ⟨a, xs, rfl, h2, h3⟩ := rp_list.mp h
    exact .lst (Or.inl h2) (rp_dpAll ds xs (by simpa [PyData.hasDict] using n) h3)
  | .tuple ds, v, n, h => by
    obtain ⟨a, xs, rfl, h2, h3⟩ := rp_tuple.mp h
    exact .tup h2 (rp_dpAll ds xs (by simpa [PyData.hasDict] using n) h3)
  | .dict kvs, v, n, h => by simp [PyData.hasDict] at n
theorem rp_dpAll {K : PySem.W.Frag} {G : Hp} : ∀ (ds : List PyData) (xs : List V), PyData.hasDictAll ds = false → RpAll K G ds xs → DpAll K G xs ds
  | [], xs, _, h => by rw [rpa_nil.mp h]; exact .nil
  | d :: ds, xs, n, h => by
    obtain ⟨x, r, rfl, h2, h3⟩ := rpa_cons.mp h
    have n : d.hasDict = false ∧ PyData.hasDictAll ds = false := by simpa [PyData.hasDictAll] using n
    exact .cons (rp_dp d x n.1 h2) (rp_dpAll ds r n.2 h3)
end
def rRepr (K : PySem.W.Frag) : List V → Hp → VK → Prop := fun xs H Q => ∃ x d, xs = [x] ∧ Rp K H d x ∧ d.hasDict = false ∧ d.depth ≤ 64 ∧ d.showable = true ∧ d.shown.length ≤ sizeLine ∧ Q (.str d.shown) H
theorem repr_leaf {pins : List (Addr × Obj)} {σ : L2.St} {H : Hp} {s : Shared} {Q : VK} {u : Value} {as : List Addr} {d : PyData} (I : Inv X pins σ H s) (r : Reads s.heap u d as) (h0 : d.hasDict = false) (hg : X.A.guards = some []) (hu : X.A.units + 65 < cLine)
    (h1 : d.depth ≤ 64) (h2 : d.showable = true) (h3 : d.shown.length ≤ sizeLine) (q : Q (.str d.shown) H) : wpAny (model X.prog X.w) X.A (call (.builtin "repr") [u]) (EP X pins σ Q) X.xe s := by
  cases r with
  | none =>
    simp only [PyData.shown] at q
    exact PySem.P.repr_of_none ⟨.str _, H, I.tok _, ⟨_, rfl⟩, q⟩
  | bool b =>
    simp only [PyData.shown] at q
    exact PySem.P.repr_of_bool ⟨.str _, H, I.tok _, ⟨_, rfl⟩, q⟩
  | int i t =>
    simp only [PyData.shown] at q
    exact PySem.P.repr_of_int (by simpa [PyData.showable] using h2) ⟨.str _, H, I.tok _, ⟨_, rfl⟩, q⟩
  | str x t =>
    simp only [PyData.shown] at q h3
    exact PySem.P.repr_of_str ⟨.str _, H, I.tok _, ⟨_, rfl⟩, q⟩ h3
  | list a1 a2 a3 a4 =>
    exact repr_of_reads' (.list a1 a2 a3 a4) h2 (PyData.noDict_hsm h0) hg (by omega) (fun _ _ e => e) (fun h' u tk hk => ⟨.str _, H, I.kept hk, ⟨_, rfl⟩, q⟩) h3
  | tuple a1 a2 a3 a4 =>
    exact repr_of_reads' (.tuple a1 a2 a3 a4) h2 (PyData.noDict_hsm h0) hg (by omega) (fun _ _ e => e) (fun h' u tk hk => ⟨.str _, H, I.kept hk, ⟨_, rfl⟩, q⟩) h3
  | dict a1 a2 a3 a4 a5 => simp [PyData.hasDict] at h0
theorem cRepr {k : Nat} (hr : Room k X.A) (hg : X.A.guards = some []) : CallR X (.builtin "repr") (rRepr X.K) := by
  intro pins s σ H xs us Q I r h
  obtain ⟨x, d, rfl, hd, h0, h1, h2, h3, q⟩ := h
  obtain ⟨u, rfl, rx⟩ := vals1 r
  obtain ⟨as, rd⟩ := Dp.reads I d x u (rp_dp d x h0 hd) rx
  have := hr.un
  exact repr_leaf I rd h0 hg (by omega) h1 h2 h3 q
end
end DL
namespace DL
open PySem L2
section
variable {K : PySem.W.Frag} {m : Mm} {Q : Val → Mm → Prop}
/-! operators upon ints -/
theorem int_of {G : Hp} {i : Int} {v : V} (h : VR K G (.d (.int i)) v) : v = .int i := rp_int.mp h.rp
theorem bool_of {G : Hp} {i : Bool} {v : V} (h : VR K G (.d (.bool i)) v) : v = .bl i := rp_bool.mp h.rp
theorem str_of {G : Hp} {i : Str} {v : V} (h : VR K G (.d (.str i)) v) : v = .str i := rp_str.mp h.rp
theorem vr_int {G : Hp} {i : Int} : VR K G (.d (.int i)) (.int i) := .d (rp_int.mpr rfl)
theorem vr_bool {G : Hp} {i : Bool} : VR K G (.d (.bool i)) (.bl i) := .d (rp_bool.mpr rfl)
theorem vr_str {G : Hp} {i : Str} : VR K G (.d (.str i)) (.str i) := .d (rp_str.mpr rfl)
theorem o2_I0 {g : Int → Int → Int} {i j : Int} (q : Q (.d (.int (g i j))) m) : Op2 K (rI0 fun i j => .int (g i j)) (.d (.int i)) (.d (.int j)) m Q := fun H G v w S a b R k => by
  rw [int_of a, int_of b]
  exact ⟨i, j, rfl, rfl, k _ H G _ m q S (Le.refl G) vr_int⟩
theorem o2_B0 {g : Int → Int → Bool} {i j : Int} (q : Q (.d (.bool (g i j))) m) : Op2 K (rI0 fun i j => .bl (g i j)) (.d (.int i)) (.d (.int j)) m Q := fun H G v w S a b R k => by
  rw [int_of a, int_of b]
  exact ⟨i, j, rfl, rfl, k _ H G _ m q S (Le.refl G) vr_bool⟩
theorem o2_I {C : Int → Int → Prop} {g : Int → Int → Int} {i j : Int} (c : C i j) (q : Q (.d (.int (g i j))) m) : Op2 K (rI C fun i j => .int (g i j)) (.d (.int i)) (.d (.int j)) m Q := fun H G v w S a b R k => by
  rw [int_of a, int_of b]
  exact ⟨i, j, rfl, rfl, c, k _ H G _ m q S (Le.refl G) vr_int⟩
theorem o2_addI {i j : Int} (q : Q (.d (.int (i + j))) m) : Op2 K (rAdd K) (.d (.int i)) (.d (.int j)) m Q := fun H G v w S a b R k => Or.inl (o2_I0 (g := fun i j => i + j) q H G v w S a b R k)
theorem o2_sub {i j : Int} (q : Q (.d (.int (i - j))) m) : Op2 K rSub (.d (.int i)) (.d (.int j)) m Q := o2_I0 (g := fun i j => i - j) q
theorem o2_mulI {i j : Int} (c : CMulW i j) (q : Q (.d (.int (i * j))) m) : Op2 K (rMul K) (.d (.int i)) (.d (.int j)) m Q := fun H G v w S a b R k => Or.inl (o2_I (C := CMulW) (g := fun i j => i * j) c q H G v w S a b R k)
theorem o2_fdv {i j : Int} (c : CDivW i j) (q : Q (.d (.int (i / j))) m) : Op2 K rFdv (.d (.int i)) (.d (.int j)) m Q := o2_I (C := CDivW) (g := fun i j => i / j) c q
theorem o2_mod {i j : Int} (c : 0 < j) (q : Q (.d (.int (i % j))) m) : Op2 K rMod (.d (.int i)) (.d (.int j)) m Q := o2_I (C := fun _ j => 0 < j) (g := fun i j => i % j) c q
theorem o2_lt {i j : Int} (q : Q (.d (.bool (decide (i < j)))) m) : Op2 K rLt (.d (.int i)) (.d (.int j)) m Q := o2_B0 (g := fun i j => decide (i < j)) q
theorem o2_le {i j : Int} (q : Q (.d (.bool (decide (i ≤ j)))) m) : Op2 K rLe (.d (.int i)) (.d (.int j)) m Q := o2_B0 (g := fun i j => decide (i ≤ j)) q
theorem o2_gt {i j : Int} (q : Q (.d (.bool (decide (j < i)))) m) : Op2 K rGt (.d (.int i)) (.d (.int j)) m Q := o2_B0 (g := fun i j => decide (j < i)) q
theorem o2_ge {i j : Int} (q : Q (.d (.bool (decide (j ≤ i)))) m) : Op2 K rGe (.d (.int i)) (.d (.int j)) m Q := o2_B0 (g := fun i j => decide (j ≤ i)) q
theorem o1_neg {i : Int} (q : Q (.d (.int (-i))) m) : Op1 K rNeg (.d (.int i)) m Q := fun H G v S a R k => by
  rw [int_of a]
  exact ⟨i, rfl, k _ H G _ m q S (Le.refl G) vr_int⟩
/-! == of data -/
theorem dp_of {H G : Hp} {x : PyData} {v : V} (S : Sta K m H G) (h : SeqAt.shaped x = true) (a : VR K G (.d x) v) : Dp K H v x := by
  have h : (x.canLay0 && decide (x.depth ≤ 64)) = true := h
  rw [Bool.and_eq_true] at h
  exact rp_dp x v (PyData.hasDict_of_canLay x h.1) (Rp.mono S.sub x v a.rp)
theorem o2_eq {x y : PyData} (hx : SeqAt.shaped x = true) (hy : SeqAt.shaped y = true) (q : Q (.d (.bool (PyData.eqv x y))) m) : Op2 K (rEqA K) (.d x) (.d y) m Q := fun H G v w S a b R k =>
  Or.inr ⟨x, y, dp_of S hx a, dp_of S hy b, hx, hy, k _ H G _ m q S (Le.refl G) vr_bool⟩
theorem o2_ne {x y : PyData} (hx : SeqAt.shaped x = true) (hy : SeqAt.shaped y = true) (q : Q (.d (.bool (!PyData.eqv x y))) m) : Op2 K (rNeA K) (.d x) (.d y) m Q := fun H G v w S a b R k =>
  Or.inr ⟨x, y, dp_of S hx a, dp_of S hy b, hx, hy, k _ H G _ m q S (Le.refl G) vr_bool⟩
theorem shaped_int (i : Int) : SeqAt.shaped (.int i) = true := by simp [SeqAt.shaped, PyData.canLay0, PyData.depth]
theorem eqv_int (i j : Int) : PyData.eqv (.int i) (.int j) = decide (i = j) := by
  simp only [PyData.eqv]; exact Bool.beq_eq_decide_eq i j
theorem o2_eqI {i j : Int} (q : Q (.d (.bool (decide (i = j)))) m) : Op2 K (rEqA K) (.d (.int i)) (.d (.int j)) m Q := o2_eq (shaped_int i) (shaped_int j) (by rw [eqv_int]; exact q)
theorem o2_neI {i j : Int} (q : Q (.d (.bool (!decide (i = j)))) m) : Op2 K (rNeA K) (.d (.int i)) (.d (.int j)) m Q := o2_ne (shaped_int i) (shaped_int j) (by rw [eqv_int]; exact q)
/-! texts -/
theorem o2_eqS {x y : Str} (q : Q (.d (.bool (decide (x = y)))) m) : Op2 K (rEqA K) (.d (.str x)) (.d (.str y)) m Q := fun H G v w S a b R k => by
  rw [str_of a, str_of b]
  refine Or.inl ⟨rfl, ?_⟩
  rw [dec_str, Bool.beq_eq_decide_eq]
  exact k _ H G _ m q S (Le.refl G) vr_bool
theorem o2_neS {x y : Str} (q : Q (.d (.bool (!decide (x = y)))) m) : Op2 K (rNeA K) (.d (.str x)) (.d (.str y)) m Q := fun H G v w S a b R k => by
  rw [str_of a, str_of b]
  refine Or.inl ⟨rfl, ?_⟩
  rw [dec_str, Bool.beq_eq_decide_eq]
  exact k _ H G _ m q S (Le.refl G) vr_bool
/-! items -/
theorem atI_nth {α : Type} (xs : List α) (i : Nat) : atI xs (i : Int) = xs[i]? := by
  unfold atI ixN
  rw [if_pos (Int.natCast_nonneg i)]
  by_cases h : i < xs.length
  · rw [if_pos (by omega), show ((i : Int)).toNat = i by omega]; rfl
  · rw [if_neg (by omega), List.getElem?_eq_none (by omega)]; rfl
theorem RpAll.atI {G : Hp} {ds : List PyData} {xs : List V} {i : Int} {d : PyData} (h : RpAll K G ds xs) (e : L2.atI ds i = some d) : ∃ x, L2.atI xs i = some x ∧ Rp K G d x := by
  unfold L2.atI at e ⊢
  rw [h.length]
  cases hj : ixN ds.length i with
  | none => rw [hj] at e; cases e
  | some j =>
    rw [hj] at e
    exact h.at e
theorem VRs.atI {G : Hp} : ∀ {rs : List Val} {xs : List V} {i : Nat} {r : Val}, VRs K G rs xs → rs[i]? = some r → ∃ x, xs[i]? = some x ∧ VR K G r x
  | [], xs, i, r, h, e => by simp at e
  | r0 :: rs, xs, 0, r, h, e => by
    obtain ⟨y, t, h1, h2, _⟩ := h
    subst h1
    have e : r0 = r := by simpa using e
    subst e
    exact ⟨y, rfl, h2⟩
  | r0 :: rs, xs, i + 1, r, h, e => by
    obtain ⟨y, t, h1, _, h3⟩ := h
    subst h1
    obtain ⟨z, h4, h5⟩ := VRs.atI (i := i) (r := r) h3 (by simpa using e)
    exact ⟨z, by simpa using h4, h5⟩
theorem o2_ixT {ds : List PyData} {i : Int} {d : PyData} (h : atI ds i = some d) (q : Q (.d d) m) : Op2 K (rIx K) (.d (.tuple ds)) (.d (.int i)) m Q := fun H G v w S a b R k => by
  rw [int_of b]
  obtain ⟨p, xs, hv, h2, h3⟩ := rp_tuple.mp a.rp
  obtain ⟨x, h4, h5⟩ := h3.atI h
  exact Or.inr (Or.inl ⟨p, xs, i, x, hv, rfl, S.sqT h2, h4, k _ H G _ m q S (Le.refl G) (.d h5)⟩)
theorem o2_ixL {ds : List PyData} {i : Int} {d : PyData} (h : atI ds i = some d) (q : Q (.d d) m) : Op2 K (rIx K) (.d (.list ds)) (.d (.int i)) m Q := fun H G v w S a b R k => by
  rw [int_of b]
  obtain ⟨p, xs, hv, h2, h3⟩ := rp_list.mp a.rp
  obtain ⟨x, h4, h5⟩ := h3.atI h
  exact Or.inl ⟨p, xs, i, x, hv, rfl, Or.inl (Le.rd S.sub h2), h4, k _ H G _ m q S (Le.refl G) (.d h5)⟩
theorem o2_ixB {p : Addr} (hm : m p = some .box) (q : ∀ n : Int, Q (.d (.int n)) m) : Op2 K (rIx K) (.v (.ref p)) (.d (.int 0)) m Q := fun H G v w S a b R k => by
  rw [int_of b]
  obtain ⟨n, h2⟩ := S.mem p _ hm
  exact Or.inl ⟨p, [.int n], 0, .int n, a.eq, rfl, Or.inl (Or.inl h2), rfl, k _ H G _ m (q n) S (Le.refl G) vr_int⟩
theorem o2_ixS {ns : List Int} {i : Nat} {n : Int} (h : ns[i]? = some n) (q : Q (.d (.int n)) m) : Op2 K (rIx K) (.scr ns) (.d (.int (i : Int))) m Q := fun H G v w S a b R k => by
  rw [int_of b]
  cases a with
  | scr h2 =>
    exact Or.inl ⟨_, _, i, .int n, rfl, rfl, S.sqL h2, by rw [atI_nth, List.getElem?_map, h]; rfl, k _ H G _ m q S (Le.refl G) vr_int⟩
/-! built-ins -/
theorem vrs1 {G : Hp} {x : Val} {vs : List V} (h : VRs K G [x] vs) : ∃ v, vs = [v] ∧ VR K G x v := by
  obtain ⟨v, t, h1, h2, h3⟩ := h
  have h3 : t = [] := h3
  exact ⟨v, by rw [h1, h3], h2⟩
theorem vrs2 {G : Hp} {x y : Val} {vs : List V} (h : VRs K G [x, y] vs) : ∃ v w, vs = [v, w] ∧ VR K G x v ∧ VR K G y w := by
  obtain ⟨v, t, h1, h2, h3⟩ := h
  obtain ⟨w, h4, h5⟩ := vrs1 h3
  exact ⟨v, w, by rw [h1, h4], h2, h5⟩
theorem on_abs {i : Int} (q : Q (.d (.int (i.natAbs : Int))) m) : OpN K rAbs [.d (.int i)] m Q := fun H G vs S a R k => by
  obtain ⟨v, rfl, h⟩ := vrs1 a
  rw [int_of h]
  refine ⟨i, rfl, ?_⟩
  have e : (if i < 0 then -i else i) = (i.natAbs : Int) := by split <;> omega
  rw [e]
  exact k _ H G _ m q S (Le.refl G) vr_int
theorem on_max {i j : Int} (q : Q (.d (.int (max i j))) m) : OpN K rMax2 [.d (.int i), .d (.int j)] m Q := fun H G vs S a R k => by
  obtain ⟨v, w, rfl, h1, h2⟩ := vrs2 a
  rw [int_of h1, int_of h2]
  refine ⟨i, j, rfl, ?_⟩
  have e : (if j > i then j else i) = max i j := by split <;> omega
  rw [e]
  exact k _ H G _ m q S (Le.refl G) vr_int
theorem on_min {i j : Int} (q : Q (.d (.int (min i j))) m) : OpN K rMin2 [.d (.int i), .d (.int j)] m Q := fun H G vs S a R k => by
  obtain ⟨v, w, rfl, h1, h2⟩ := vrs2 a
  rw [int_of h1, int_of h2]
  refine ⟨i, j, rfl, ?_⟩
  have e : (if j < i then j else i) = min i j := by split <;> omega
  rw [e]
  exact k _ H G _ m q S (Le.refl G) vr_int
theorem on_lenT {ds : List PyData} (q : Q (.d (.int (ds.length : Int))) m) : OpN K (rLen K) [.d (.tuple ds)] m Q := fun H G vs S a R k => by
  obtain ⟨v, rfl, h⟩ := vrs1 a
  obtain ⟨p, xs, hv, h2, h3⟩ := rp_tuple.mp h.rp
  refine Or.inl ⟨p, xs, by rw [hv], Or.inr (S.sqT h2), ?_⟩
  rw [h3.length]
  exact k _ H G _ m q S (Le.refl G) vr_int
theorem on_lenL {ds : List PyData} (q : Q (.d (.int (ds.length : Int))) m) : OpN K (rLen K) [.d (.list ds)] m Q := fun H G vs S a R k => by
  obtain ⟨v, rfl, h⟩ := vrs1 a
  obtain ⟨p, xs, hv, h2, h3⟩ := rp_list.mp h.rp
  refine Or.inl ⟨p, xs, by rw [hv], Or.inl (Or.inl (Le.rd S.sub h2)), ?_⟩
  rw [h3.length]
  exact k _ H G _ m q S (Le.refl G) vr_int
theorem on_lenS {ns : List Int} (q : Q (.d (.int (ns.length : Int))) m) : OpN K (rLen K) [.scr ns] m Q := fun H G vs S a R k => by
  obtain ⟨v, rfl, h⟩ := vrs1 a
  cases h with
  | scr h2 =>
    refine Or.inl ⟨_, _, rfl, Or.inl (S.sqL h2), ?_⟩
    rw [List.length_map]
    exact k _ H G _ m q S (Le.refl G) vr_int
theorem on_sumL {ns : List Int} (q : Q (.d (.int ns.sum)) m) : OpN K (rSumA K) [.d (.list (ns.map PyData.int))] m Q := fun H G vs S a R k => by
  obtain ⟨v, rfl, h⟩ := vrs1 a
  obtain ⟨p, xs, hv, h2, h3⟩ := rp_list.mp h.rp
  rw [h3.ints] at h2
  exact Or.inl ⟨p, ns, by rw [hv], Or.inl (Le.rd S.sub h2), k _ H G _ m q S (Le.refl G) vr_int⟩
theorem on_sumT {ns : List Int} (q : Q (.d (.int ns.sum)) m) : OpN K (rSumA K) [.d (.tuple (ns.map PyData.int))] m Q := fun H G vs S a R k => by
  obtain ⟨v, rfl, h⟩ := vrs1 a
  obtain ⟨p, xs, hv, h2, h3⟩ := rp_tuple.mp h.rp
  rw [h3.ints] at h2
  exact Or.inr ⟨p, ns, by rw [hv], S.sqT h2, k _ H G _ m q S (Le.refl G) vr_int⟩
theorem on_all {bs : List Bool} (q : Q (.d (.bool (bs.all id))) m) : OpN K (rAll K) [.d (.list (bs.map PyData.bool))] m Q := fun H G vs S a R k => by
  obtain ⟨v, rfl, h⟩ := vrs1 a
  obtain ⟨p, xs, hv, h2, h3⟩ := rp_list.mp h.rp
  rw [h3.bools] at h2
  exact ⟨p, bs, by rw [hv], Or.inl (Le.rd S.sub h2), k _ H G _ m q S (Le.refl G) vr_bool⟩
theorem on_any {bs : List Bool} (q : Q (.d (.bool (bs.any id))) m) : OpN K (rAny K) [.d (.list (bs.map PyData.bool))] m Q := fun H G vs S a R k => by
  obtain ⟨v, rfl, h⟩ := vrs1 a
  obtain ⟨p, xs, hv, h2, h3⟩ := rp_list.mp h.rp
  rw [h3.bools] at h2
  exact ⟨p, bs, by rw [hv], Or.inl (Le.rd S.sub h2), k _ H G _ m q S (Le.refl G) vr_bool⟩
theorem on_tupL {ds : List PyData} (q : Q (.d (.tuple ds)) m) : OpN K (rTupO K) [.d (.list ds)] m Q := fun H G vs S a R k => by
  obtain ⟨v, rfl, h⟩ := vrs1 a
  obtain ⟨p, xs, hv, h2, h3⟩ := rp_list.mp h.rp
  refine ⟨p, xs, by rw [hv], Or.inl ⟨Or.inl (Le.rd S.sub h2), fun l hl => ?_⟩⟩
  have hg := S.free hl
  exact k _ _ (upd G l (.tup xs)) _ m q (S.fix hl) (Le.new hg) (.d (rp_tuple.mpr ⟨l, xs, rfl, SqT.of upd_same, RpAll.mono (Le.new hg) ds xs h3⟩))
theorem on_tupT {ds : List PyData} (q : Q (.d (.tuple ds)) m) : OpN K (rTupO K) [.d (.tuple ds)] m Q := fun H G vs S a R k => by
  obtain ⟨v, rfl, h⟩ := vrs1 a
  obtain ⟨p, xs, hv, h2, h3⟩ := rp_tuple.mp h.rp
  exact ⟨p, xs, by rw [hv], Or.inr ⟨S.sqT h2, by rw [← hv]; exact k _ H G _ m q S (Le.refl G) h⟩⟩
theorem on_lstT {ds : List PyData} (q : Q (.d (.list ds)) m) : OpN K (rLstO K) [.d (.tuple ds)] m Q := fun H G vs S a R k => by
  obtain ⟨v, rfl, h⟩ := vrs1 a
  obtain ⟨p, xs, hv, h2, h3⟩ := rp_tuple.mp h.rp
  refine ⟨p, xs, by rw [hv], Or.inr (S.sqT h2), fun l hl => ?_⟩
  have hg := S.free hl
  exact k _ _ (upd G l (.lst xs)) _ m q (S.fix hl) (Le.new hg) (.d (rp_list.mpr ⟨l, xs, rfl, Rd.of upd_same, RpAll.mono (Le.new hg) ds xs h3⟩))
theorem on_divmod {i j : Int} (c : CDivW i j) (q : Q (.d (.tuple [.int (i / j), .int (i % j)])) m) : OpN K rDivmod [.d (.int i), .d (.int j)] m Q := fun H G vs S a R k => by
  obtain ⟨v, w, rfl, h1, h2⟩ := vrs2 a
  rw [int_of h1, int_of h2]
  refine ⟨i, j, rfl, c, fun p hp => ?_⟩
  have hg := S.free hp
  exact k _ _ (upd G p (.tup [.int (i / j), .int (i % j)])) _ m q (S.fix hp) (Le.new hg) (.d (rp_tuple.mpr ⟨p, _, rfl, SqT.of upd_same, rpa_ints [i / j, i % j]⟩))
/-! isinstance -/
def tyN : PyData → String
  | .none => "NoneType" | .bool _ => "bool" | .int _ => "int" | .str _ => "str" | .list _ => "list" | .tuple _ => "tuple" | .dict _ => "dict"
theorem ty_of {H G : Hp} {x : PyData} {v : V} (S : Sta K m H G) (a : Rp K G x v) : TyX K H v (.type (tyN x)) := by
  cases x with
  | none => rw [rp_none.mp a]; exact .base .non
  | bool b => rw [rp_bool.mp a]; exact .base (.bl b)
  | int b => rw [rp_int.mp a]; exact .base (.int b)
  | str b => rw [rp_str.mp a]; exact .base (.str b)
  | list ds =>
    obtain ⟨p, xs, rfl, h2, _⟩ := rp_list.mp a
    rcases Le.rd S.sub h2 with h | ⟨o, h⟩
    · exact .base (.lst h)
    · exact .base (.frz h)
  | tuple ds =>
    obtain ⟨p, xs, rfl, h2, _⟩ := rp_tuple.mp a
    rcases S.sqT h2 with (h | ⟨o, h⟩) | ⟨o, its, n, h, hc, _⟩
    · exact .base (.tup h)
    · exact .fTuple h
    · exact .kTuple h hc
  | dict kvs =>
    rw [Rp] at a
    obtain ⟨p, rfl, ⟨es, h, _⟩ | ⟨es, h, _⟩⟩ := a
    · exact .base (.dT (S.sub _ _ h))
    · exact .base (.dK (S.sub _ _ h))
theorem on_isi {x : PyData} {T : String} {b : Bool} (hb : kitB (tyN x) T = some b) (q : Q (.d (.bool b)) m) : OpN K (rIsi K) [.d x, .v (.ty T)] m Q := fun H G vs S a R k => by
  obtain ⟨v, w, rfl, h1, h2⟩ := vrs2 a
  rw [h2.eq]
  exact ⟨v, .ty T, _, _, b, rfl, .ty T, ty_of S h1.rp, kit_ty hb, k _ H G _ m q S (Le.refl G) vr_bool⟩
def isTup : PyData → Bool | .tuple _ => true | _ => false
def isIntB : PyData → Bool | .int _ => true | .bool _ => true | _ => false
def isBoo : PyData → Bool | .bool _ => true | _ => false
def isStrD : PyData → Bool | .str _ => true | _ => false
def isLst : PyData → Bool | .list _ => true | _ => false
def isDct : PyData → Bool | .dict _ => true | _ => false
theorem on_isiTup {x : PyData} (q : Q (.d (.bool (isTup x))) m) : OpN K (rIsi K) [.d x, .v (.ty "tuple")] m Q := on_isi (by cases x <;> (simp only [tyN, isTup, isIntB, isBoo, isStrD, isLst, isDct]; decide +kernel)) q
theorem on_isiInt {x : PyData} (q : Q (.d (.bool (isIntB x))) m) : OpN K (rIsi K) [.d x, .v (.ty "int")] m Q := on_isi (by cases x <;> (simp only [tyN, isTup, isIntB, isBoo, isStrD, isLst, isDct]; decide +kernel)) q
theorem on_isiBool {x : PyData} (q : Q (.d (.bool (isBoo x))) m) : OpN K (rIsi K) [.d x, .v (.ty "bool")] m Q := on_isi (by cases x <;> (simp only [tyN, isTup, isIntB, isBoo, isStrD, isLst, isDct]; decide +kernel)) q
theorem on_isiStr {x : PyData} (q : Q (.d (.bool (isStrD x))) m) : OpN K (rIsi K) [.d x, .v (.ty "str")] m Q := on_isi (by cases x <;> (simp only [tyN, isTup, isIntB, isBoo, isStrD, isLst, isDct]; decide +kernel)) q
theorem on_isiList {x : PyData} (q : Q (.d (.bool (isLst x))) m) : OpN K (rIsi K) [.d x, .v (.ty "list")] m Q := on_isi (by cases x <;> (simp only [tyN, isTup, isIntB, isBoo, isStrD, isLst, isDct]; decide +kernel)) q
theorem on_isiDict {x : PyData} (q : Q (.d (.bool (isDct x))) m) : OpN K (rIsi K) [.d x, .v (.ty "dict")] m Q := on_isi (by cases x <;> (simp only [tyN, isTup, isIntB, isBoo, isStrD, isLst, isDct]; decide +kernel)) q
/-! repr -/
theorem on_repr {x : PyData} (h0 : x.hasDict = false) (h1 : x.depth ≤ 64) (h2 : x.showable = true) (h3 : x.shown.length ≤ sizeLine) (q : Q (.d (.str x.shown)) m) : OpN K (rRepr K) [.d x] m Q := fun H G vs S a R k => by
  obtain ⟨v, rfl, h⟩ := vrs1 a
  exact ⟨v, x, rfl, Rp.mono S.sub x v h.rp, h0, h1, h2, h3, k _ H G _ m q S (Le.refl G) vr_str⟩
/-! + of tuples and lists, * -/
theorem nil_of_all {G : Hp} {ds : List PyData} (h : RpAll K G ds []) : ds = [] := by
  cases ds with
  | nil => rfl
  | cons d r =>
    obtain ⟨x, t, h1, _⟩ := rpa_cons.mp h
    cases h1
theorem o2_addT {ds es : List PyData} (hz : ds.length + es.length ≤ 100000) (q : Q (.d (.tuple (ds ++ es))) m) : Op2 K (rAdd K) (.d (.tuple ds)) (.d (.tuple es)) m Q := fun H G v w S a b R k => by
  obtain ⟨p, xs, rfl, h2, h3⟩ := rp_tuple.mp a.rp
  obtain ⟨p', ys, rfl, h4, h5⟩ := rp_tuple.mp b.rp
  refine Or.inr (Or.inl ⟨p, p', xs, ys, rfl, rfl, S.sqT h2, S.sqT h4, ?_, fun e => ?_, fun _ e => ?_, fun _ _ l hl => ?_⟩)
  · rw [h3.length, h5.length]; exact Nat.le_trans hz (by decide)
  · subst e
    have e := nil_of_all h3
    subst e
    exact k _ H G _ m q S (Le.refl G) b
  · subst e
    have e := nil_of_all h5
    subst e
    rw [List.append_nil] at q
    exact k _ H G _ m q S (Le.refl G) a
  · have hg := S.free hl
    exact k _ _ (upd G l (.tup (xs ++ ys))) _ m q (S.fix hl) (Le.new hg) (.d (rp_tuple.mpr ⟨l, _, rfl, SqT.of upd_same, RpAll.mono (Le.new hg) _ _ (h3.append h5)⟩))
theorem RpAll.rep {G : Hp} {ds : List PyData} {xs : List V} (h : RpAll K G ds xs) : ∀ n : Nat, RpAll K G (List.replicate n ds).flatten (List.replicate n xs).flatten
  | 0 => rpa_nil.mpr rfl
  | n + 1 => by
    rw [List.replicate_succ, List.replicate_succ, List.flatten_cons, List.flatten_cons]
    exact h.append (RpAll.rep h n)
theorem o2_mulT {ds : List PyData} {n : Nat} (h0 : ds ≠ []) (h1 : 1 ≤ n) (h2 : n ≤ 1000) (h3 : ds.length ≤ 1000) (q : Q (.d (.tuple (List.replicate n ds).flatten)) m) : Op2 K (rMul K) (.d (.tuple ds)) (.d (.int (n : Int))) m Q := fun H G v w S a b R k => by
  rw [int_of b]
  obtain ⟨p, xs, rfl, g2, g3⟩ := rp_tuple.mp a.rp
  by_cases e : n = 1
  · subst e
    have e : (List.replicate 1 ds).flatten = ds := by simp
    rw [e] at q
    exact Or.inr (Or.inr (Or.inl ⟨p, xs, rfl, rfl, S.sqT g2, k _ H G _ m q S (Le.refl G) a⟩))
  · refine Or.inr (Or.inl ⟨p, (n : Int), xs, rfl, rfl, S.sqT g2, fun e => ?_, by omega, by omega, by rw [g3.length]; exact h3, fun l hl => ?_⟩)
    · subst e; exact h0 (nil_of_all g3)
    · have hg := S.free hl
      have en : ((n : Int)).toNat = n := by omega
      rw [en]
      exact k _ _ (upd G l _) _ m q (S.fix hl) (Le.new hg) (.d (rp_tuple.mpr ⟨l, _, rfl, SqT.of upd_same, RpAll.mono (Le.new hg) _ _ (g3.rep n)⟩))
end
/-! list(range), tuple(range) -/
section
variable {K : PySem.W.Frag} {r : List Val} {m : Mm} {Q : Val → Mm → Prop} {ta tb tc te : TE} {tt : TT}
theorem rgok {a n : Nat} (h : a + n ≤ 100000) : RgOk (a : Int) ((a + n : Nat) : Int) := RgOk.of_le (by omega) (by omega) (by omega) (by omega)
/-! comprehensions -/
def Ext (m m' : Mm) : Prop := ∀ a o, m a = some o → m' a = some o
theorem Ext.refl (m : Mm) : Ext m m := fun _ _ h => h
/-- one turn's end: the list so far stands at D -/
def LcW (K : PySem.W.Frag) (m : Mm) (G : Hp) (D : Addr) (W : Nat → List PyData → Prop) (i : Nat) (H' : Hp) : Prop :=
  ∃ G' acc, W i acc ∧ acc.length ≤ i ∧ Sta K (put m D (.lst (acc.map Val.d))) H' G' ∧ Le G G'
theorem lc_turn {G : Hp} {D : Addr} {W : Nat → List PyData → Prop} {i : Nat} {σ : L2.St} {H' : Hp} {r' : List Val} (hm : m D = none) (hi : i < 100000) (L : ∀ G', Le G G' → Sl K G' r' σ)
    (hs : ∀ m' acc, Ext m m' → W i acc → EvT K tt r' m' fun b m2 => m2 = m' ∧ (b = true → Ev K te r' m' fun x m3 => m3 = m' ∧ ∃ y, x = .d y ∧ W (i + 1) (acc ++ [y])) ∧ (b = false → W (i + 1) acc))
    (h : LcW K m G D W i H') : tt σ H' fun b H3 => if b = true then te σ H3 fun y H4 => ∃ acc, H4 D = some (.lst acc) ∧ acc.length < sizeLine ∧ LcW K m G D W (i + 1) (upd H4 D (.lst (acc ++ [y]))) else LcW K m G D W (i + 1) H3 := by
  obtain ⟨G', acc, hw, hl, S, e⟩ := h
  have hx : Ext m (put m D (.lst (acc.map Val.d))) := fun a o ha => by
    rw [put_ne (ne_of_get ha hm)]; exact ha
  refine hs _ acc hx hw σ H' G' S (L G' e) _ fun H3 G3 b m3 ⟨e3, h1, h2⟩ S3 l3 => ?_
  subst e3
  cases b with
  | true =>
    show te σ H3 _
    refine h1 rfl σ H3 G3 S3 (L G3 (e.trans l3)) _ fun v H4 G4 x m4 ⟨e4, y, hy, hw'⟩ S4 l4 r4 => ?_
    subst e4 hy
    obtain ⟨xs, g1, g2⟩ := S4.mem D _ put_same
    have hlen := g2.length
    rw [List.length_map] at hlen
    refine ⟨xs, g1, Nat.lt_of_lt_of_le (show xs.length < 100000 by omega) (by decide), G4, acc ++ [y], hw', by rw [List.length_append]; show acc.length + 1 ≤ i + 1; omega, ?_, e.trans (l3.trans l4)⟩
    have S5 := S4.chg (u := .lst ((acc ++ [y]).map Val.d)) (o := .lst (xs ++ [v])) put_same ⟨_, upd_same, by
      rw [List.map_append]
      exact g2.append ⟨v, [], rfl, r4, rfl⟩⟩
    rw [put_put] at S5
    exact S5
  | false =>
    show LcW K m G D W (i + 1) H3
    exact ⟨G3, acc, h2 rfl, by omega, S3, e.trans l3⟩
theorem wipe1 (σ : L2.St) (j : Nat) (x : V) : wipe ((wipe σ [j]).set j (some x)) [j] = wipe σ [j] := by
  show ((σ.set j none).set j (some x)).set j none = σ.set j none
  rw [List.set_set, List.set_set]
theorem sl_in {G : Hp} {σ : L2.St} {j : Nat} {d : PyData} {x : V} (L : Sl K G r σ) {G' : Hp} (e : Le G G') (h : Rp K G' d x) : Sl K G' (r.set j (.d d)) ((wipe σ [j]).set j (some x)) := by
  have := (L.mono e).set (r := .d d) (.d h) j
  show Sl K G' (r.set j (.d d)) ((σ.set j none).set j (some x))
  rw [List.set_set]
  exact this
theorem lc_end {G : Hp} {D : Addr} {W : Nat → List PyData → Prop} {n : Nat} {H' : Hp} {R : VK} (hm : m D = none) (h : LcW K m G D W n H') (hd : ∀ acc, W n acc → Q (.d (.list acc)) m)
    (k : ∀ v H' G' x m', Q x m' → Sta K m' H' G' → Le G G' → VR K G' x v → R v H') : R (.ref D) H' := by
  obtain ⟨G', acc, hw, hl, S, e⟩ := h
  obtain ⟨xs, g1, g2⟩ := S.mem D _ put_same
  have hg := S.dis D _ put_same
  have S2 := S.freeze put_same g1
  have e2 : del (put m D (.lst (acc.map Val.d))) D = m := by
    funext b
    unfold del put
    by_cases hb : b = D
    · rw [if_pos hb, hb, hm]
    · rw [if_neg hb, if_neg hb]
  rw [e2] at S2
  exact k _ H' _ _ m (hd acc hw) S2 (e.trans (Le.new hg)) (.d (rp_list.mpr ⟨D, xs, rfl, Rd.of upd_same, RpAll.mono (Le.new hg) acc xs g2.toAll⟩))
theorem lc_start {H G : Hp} {D : Addr} {W : Nat → List PyData → Prop} (S : Sta K m H G) (hD : H D = none) (h0 : W 0 []) : LcW K m G D W 0 (upd H D (.lst [])) :=
  ⟨G, [], h0, Nat.le_refl _, S.new hD ⟨[], upd_same, rfl⟩, Le.refl G⟩
theorem ev_lcT {tl : TE} {j : Nat} {ds : List PyData} (h : Ev K tl r m fun x m1 => x = .d (.tuple ds) ∧ m1 = m) (hn : ds.length ≤ 100000) (W : Nat → List PyData → Prop) (h0 : W 0 [])
    (hs : ∀ i d m' acc, ds[i]? = some d → Ext m m' → W i acc → EvT K tt (r.set j (.d d)) m' fun b m2 => m2 = m' ∧ (b = true → Ev K te (r.set j (.d d)) m' fun x m3 => m3 = m' ∧ ∃ y, x = .d y ∧ W (i + 1) (acc ++ [y])) ∧ (b = false → W (i + 1) acc))
    (hd : ∀ acc, W ds.length acc → Q (.d (.list acc)) m) : Ev K (tLc (iTup K tl) (gName j) tt te [j]) r m Q := fun σ H G S L R k =>
  h σ H G S L _ fun v H1 G1 x m1 ⟨hx, hm⟩ S1 e1 r1 => by
    subst hx hm
    obtain ⟨p, xs, hv, hs1, hA⟩ := rp_tuple.mp r1.rp
    refine ⟨p, hv, ⟨xs, S1.sqT hs1⟩, fun D hD => ?_⟩
    have hmD := S1.freeM hD
    refine lc_tup (xs := xs) (LcW K m1 G1 D W) (lc_start S1 hD h0) ?_ ?_ ?_
    · rintro i H' hi ⟨G', acc, _, _, S', e'⟩
      exact S'.sqT (e'.sqT hs1)
    · intro i y H' hy hP
      obtain ⟨d, hd1, hd2⟩ := hA.get hy
      have hi : i < 100000 := by
        have := (List.getElem?_eq_some_iff.mp hy).1
        rw [hA.length] at this
        omega
      exact ⟨wipe1 σ j y, lc_turn hmD hi (fun G' e' => sl_in (L.mono e1) e' (Rp.mono e' d y hd2)) (fun m' acc hx hw => hs i d m' acc hd1 hx hw) hP⟩
    · intro H' hP
      rw [hA.length] at hP
      exact lc_end hmD hP hd fun v H' G' x m' q S' e' r' => k v H' G' x m' q S' (e1.trans e') r'
theorem ev_lcR1 {ta : TA} {j : Nat} {n : Nat} (h : EvA K ta r m fun xs m1 => xs = [.d (.int (n : Int))] ∧ m1 = m) (hn : n ≤ 100000) (W : Nat → List PyData → Prop) (h0 : W 0 [])
    (hs : ∀ (i : Nat) m' acc, i < n → Ext m m' → W i acc → EvT K tt (r.set j (.d (.int (i : Int)))) m' fun b m2 => m2 = m' ∧ (b = true → Ev K te (r.set j (.d (.int (i : Int)))) m' fun x m3 => m3 = m' ∧ ∃ y, x = .d y ∧ W (i + 1) (acc ++ [y])) ∧ (b = false → W (i + 1) acc))
    (hd : ∀ acc, W n acc → Q (.d (.list acc)) m) : Ev K (tLc (iRng1 ta) (gName j) tt te [j]) r m Q := fun σ H G S L R k =>
  h σ H G S L _ fun vs H1 G1 xs m1 ⟨hx, hm⟩ S1 e1 r1 => by
    subst hx hm
    obtain ⟨v1, rfl, a1⟩ := vrs1 r1
    have a1 := int_of a1
    subst a1
    have en : ((n : Int)).toNat = n := by omega
    refine ⟨(n : Int), rfl, by omega, by omega, ?_⟩
    rw [en]
    intro D hD
    have hmD := S1.freeM hD
    refine lc_range (lo := 0) (n := n) (LcW K m1 G1 D W) (lc_start S1 hD h0) ?_ ?_
    · intro i H' hi hP
      rw [Int.zero_add]
      exact ⟨wipe1 σ j _, lc_turn hmD (by omega) (fun G' e' => sl_in (L.mono e1) e' (rp_int.mpr rfl)) (fun m' acc hx hw => hs i m' acc hi hx hw) hP⟩
    · intro H' hP
      exact lc_end hmD hP hd fun v H' G' x m' q S' e' r' => k v H' G' x m' q S' (e1.trans e') r'
theorem ev_cTy {T : String} (q : Q (.v (.ty T)) m) : Ev K (tC (.ty T)) r m Q := ev_cV q
theorem evt_yes {Q : Bool → Mm → Prop} (q : Q true m) : EvT K tYes r m Q := fun σ H G S L R k => k H G true m q S (Le.refl G)
/-! a[i] = e -/
variable {N : List Val → Mm → Prop} {E : Val → Mm → Prop}
theorem w_setB {to ti : TE} {p : Addr} (h : Ev K te r m fun x m1 => ∃ n : Int, x = .d (.int n) ∧ Ev K to r m1 fun y m2 => y = .v (.ref p) ∧ Ev K ti r m2 fun z m3 => z = .d (.int 0) ∧ m3 p = some .box ∧ N r m3) :
    Wp K (tAsg te (gSub to ti rSetL)) r m N E := fun σ H G D S L a b =>
  h σ H G S L _ fun v H1 G1 x m1 ⟨n, hx, h1⟩ S1 e1 r1 => h1 σ H1 G1 S1 (L.mono e1) _ fun w H2 G2 y m2 ⟨hy, h2⟩ S2 e2 r2 => h2 σ H2 G2 S2 (L.mono (e1.trans e2)) _ fun u H3 G3 z m3 ⟨hz, hb, q⟩ S3 e3 r3 => by
    subst hx hy hz
    have a1 := int_of r1
    have a2 := r2.eq
    have a3 := int_of r3
    subst a1 a2 a3
    obtain ⟨n0, g1⟩ := S3.mem p _ hb
    refine ⟨p, [.int n0], 0, 0, rfl, rfl, g1, rfl, ?_⟩
    have S4 := S3.chg (u := .box) (o := .lst [.int n]) hb ⟨n, upd_same⟩
    have e4 : put m3 p .box = m3 := by
      funext c
      unfold put
      by_cases hc : c = p
      · rw [if_pos hc, hc, hb]
      · rw [if_neg hc]
    rw [e4] at S4
    exact a σ _ G3 r m3 q S4 (e1.trans (e2.trans e3)) (L.mono (e1.trans (e2.trans e3)))
/-- a box made -/
theorem ev_lstB {t : TA} (h : EvA K t r m fun xs m1 => ∃ n : Int, xs = [.d (.int n)] ∧ ∀ p, m1 p = none → Q (.v (.ref p)) (put m1 p .box)) : Ev K (tLst t) r m Q := fun σ H G S L R k =>
  h σ H G S L _ fun vs H1 G1 xs m1 ⟨n, hx, q⟩ S1 e1 r1 => by
    subst hx
    obtain ⟨v1, rfl, a1⟩ := vrs1 r1
    have a1 := int_of a1
    subst a1
    refine ⟨by rw [sizeLine_eq]; show 1 ≤ 16777216; decide, fun p hp => ?_⟩
    exact k (.ref p) _ G1 _ _ (q p (S1.freeM hp)) (S1.new hp ⟨n, upd_same⟩) e1 .v
/-! what grew is data from now on -/
end
end DL
namespace DL
open PySem L2
/-- a def of the text that keeps a word of this level -/
structure Cl (P : Program) (w : World) (K : PySem.W.Frag) (mg : Str → Option Value) (base : Heap) (k : Nat) (x : Str) (sp : FSp) : Prop where
  ex : ∃ f fd ps, FnOk P w K mg base CX0 k f fd ps (spD K sp) ∧ mg x = some (.ref f) ∧ PySem.W.keepIn K (.ref f) = true ∧ Binds K fd ps []
section
variable {X : Cx} {k j n0 : Nat} {x : Str} {sp : FSp} {e : Expr} {es : List Expr} {t : TA} {p pos : Pos} {P : Program} {w : World} {K : PySem.W.Frag} {mg : Str → Option Value} {base : Heap}
theorem pe_cl (c : Cl P w K mg base k x sp) (hr : Room j X.A) (hk : k ≤ j) (hg : Gl X x) (ha : PA X (e :: es) t) (hP : X.prog = P := by rfl) (hw : X.w = w := by rfl) (hK : X.K = K := by rfl) (hmg : X.mg = mg := by rfl) (hbs : X.base = base := by rfl)
    (hdb : (x == ("__debug__" : Str)) = false := by decide)
    (he : starEach (e :: es) X.env = (false, eval e X.env) :: starEach es X.env := by rfl) (hpl : (backTo pos (starEach es X.env)).any (·.1) = false := by rfl) :
    PE X (.Call (.Name x p) (e :: es) [] pos) (tCall (spD K sp) [] E0 t) := by
  subst hP hw hK hmg hbs
  obtain ⟨f, fd, ps, F, hm, hkp, hb⟩ := c.ex
  exact pe_call F (hr.mono hk) hg hm hkp hb .nil pass0 ha hdb he hpl
theorem pe_gi {i : Int} (h : ∃ t, mg x = some (.int i t)) (hg : Gl X x) (hmg : X.mg = mg := by rfl) (hd : (x == ("__debug__" : Str)) = false := by decide) : PE X (.Name x pos) (tC (.int i)) := by
  subst hmg
  obtain ⟨t, h⟩ := h
  exact pe_glob hg h ⟨_, rfl⟩ hd
/-! the joined rules, the written part by name -/
theorem kAdd (K : PySem.W.Frag) (h : X.K = K := by rfl) : OpR X (binaryOp .Add) (rAdd K) := h ▸ oAdd
theorem kMul (K : PySem.W.Frag) (h : X.K = K := by rfl) : OpR X (binaryOp .Mult) (rMul K) := h ▸ oMul
theorem kEq (K : PySem.W.Frag) (hr : Room j X.A) (h : X.K = K := by rfl) : OpR X (compareOp .Eq) (rEqA K) := h ▸ oEq hr
theorem kNe (K : PySem.W.Frag) (hr : Room j X.A) (h : X.K = K := by rfl) : OpR X (compareOp .NotEq) (rNeA K) := h ▸ oNe hr
theorem kIx (K : PySem.W.Frag) (h : X.K = K := by rfl) : IxR X (rIx K) := h ▸ ix_seq
theorem kLen (K : PySem.W.Frag) (h : X.K = K := by rfl) : CallR X (.builtin "len") (rLen K) := h ▸ cLen
theorem kSum (K : PySem.W.Frag) (hc : X.calm = true := by rfl) (h : X.K = K := by rfl) : CallR X (.builtin "sum") (rSumA K) := h ▸ cSum hc
theorem kAll (K : PySem.W.Frag) (hc : X.calm = true := by rfl) (h : X.K = K := by rfl) : CallR X (.builtin "all") (rAll K) := h ▸ cAll hc
theorem kTup (K : PySem.W.Frag) (h : X.K = K := by rfl) : CallR X (.type "tuple") (rTupO K) := h ▸ cTup
theorem kIsi (K : PySem.W.Frag) (h : X.K = K := by rfl) : CallR X (.builtin "isinstance") (rIsi K) := h ▸ cIsi
theorem kRepr (K : PySem.W.Frag) (hr : Room j X.A) (hg : X.A.guards = some []) (h : X.K = K := by rfl) : CallR X (.builtin "repr") (rRepr K) := h ▸ cRepr hr hg
theorem kgT (K : PySem.W.Frag) {tg : Expr} {t : TGs} (hp : PG X tg (gTup X.K n0 t)) (h : X.K = K := by rfl) : PG X tg (gTup K n0 t) := h ▸ hp
theorem kiT (K : PySem.W.Frag) {tg l : Expr} {tl : TE} (hl : PE X l tl) (h : X.K = K := by rfl) : PI X tg l (iTup K tl) := h ▸ pi_tup hl
theorem kiL (K : PySem.W.Frag) {tg l : Expr} {tl : TE} (hl : PE X l tl) (h : X.K = K := by rfl) : PI X tg l (iList K tl) := h ▸ pi_list hl
end
/-! defs that want to know that nothing is being shown around them -/
structure FnG (P : Program) (w : World) (K : PySem.W.Frag) (mg : Str → Option Value) (base : Heap) (k : Nat) (f : Addr) (fd : FuncData) (ps : List Str) (sp : Sp) : Prop where
  len : ∀ vs H Q E, sp vs H Q E → vs.length = ps.length
  run : ∀ (A : Around) (outer : List Env) (s : Shared) (H : Hp) (args : Args) (us : List Value) (vs : List V) (Q : VK) (E : XK), A.guards = some [] → Room k A →
    Env0 P w K mg base A outer s H → BindsTo s fd args (ps.zip us) → Vals vs us → sp vs H Q E → codeAny (model P w) A (.call (.ref f) args) (CR CX0 outer P w H s Q E) s
section
variable {P : Program} {w : World} {K : PySem.W.Frag} {mg : Str → Option Value} {base : Heap}
theorem deeper_guards (A : Around) (env : Env) : (A.deeper env).guards = A.guards := by
  first
    | rfl
    | simp [Around.deeper]
theorem fnG_of {x qual : Str} {st : Stmt} {f : Addr} {fd : FuncData} {N ps : List Str} {k : Nat} {sp : Sp} (F : Fun K x qual st f fd) (S : FnScope N ps (defScope st)) (len : ∀ vs H Q E, sp vs H Q E → vs.length = ps.length)
    (hbody : ∀ (cdv : Value) (A : Around) (outer : List Env) (s : Shared) (H : Hp) (vs : List V) (Q : VK) (E : XK), (A.deeper (PyProof.Rows.envOfC qual (defScope st) s.heap.objs.size f cdv)).guards = some [] →
      Room k (A.deeper (PyProof.Rows.envOfC qual (defScope st) s.heap.objs.size f cdv)) → sp vs H Q E →
      ∃ t, PSs (cxOf CX0 P w K mg base N qual (defScope st) f cdv A outer s H E).nox (defBody st) t ∧ t { nx := fun _ H' => Q .non H', rt := Q } (L2.start N vs) H) : FnG P w K mg base (k + 1) f fd ps sp := by
  obtain ⟨oc, od, kV, doc, pm, an, cdv, ct, osl, rfl, lk, hcd⟩ := F.ex
  refine ⟨len, fun A outer s H args us vs Q E hgd hr e0 hb r hsp => ?_⟩
  have hl := len _ _ _ _ hsp
  have KX : K.In s.heap := e0.mod.kin.keeps fun b o e => (e0.bs b o e).1
  have lim : s.heap.NoLimit := e0.mod.nolimit.keeps fun b o e => (e0.bs b o e).1
  refine codeAny_call_function hr.depth (KX _ _ lk) rfl S.co S.gen rfl (PySem.W.codeRec_of KX hcd) (hb _ _ _ _ ?_)
  refine wpAny_newFunctionEnv_cells S.kind (fun y hy => ?_) fun env he s1 z => ?_
  · obtain ⟨n, v⟩ := y
    rcases S.par n (List.of_mem_zip hy).1 with q | q
    · exact Or.inl q
    · exact Or.inr ⟨q, PySem.W.cellsFrom_some _ _ _ (.inl q)⟩
  subst he
  refine ⟨lim.keeps z.toInCall.keep, codeAny_func ?_⟩
  obtain ⟨t, ht, hq⟩ := hbody cdv A outer s H vs Q E ((deeper_guards A _).trans hgd) (hr.deeper _) hsp
  have ht := ht.nox
  have I : Inv (cxOf CX0 P w K mg base N qual (defScope st) f cdv A outer s H E) [] (L2.start N vs) H s1 := inv_start S hr.hd e0 hl r z
  refine wpAny_mono (ht.run [] s1 (L2.start N vs) H _ I hq) (fun fl s' hs => ?_) fun e s' hs => hs
  cases fl with
  | ret u =>
    obtain ⟨v, σ', H', J, rv, q⟩ := hs
    exact ⟨v, H', J.os, J.bare, J.base, J.hok, rv, q⟩
  | next =>
    obtain ⟨σ', H', J, q⟩ := hs
    exact ⟨.non, H', J.os, J.bare, J.base, J.hok, rfl, q⟩
  | brk =>
    obtain ⟨_, _, _, q⟩ := hs
    exact q.elim
  | cont =>
    obtain ⟨_, _, _, q⟩ := hs
    exact q.elim
theorem fnG_ok {x qual : Str} {st : Stmt} {f : Addr} {fd : FuncData} {N ps : List Str} {k : Nat} {sp : FSp} (F : Fun K x qual st f fd) (S : FnScope N ps (defScope st)) (hl : ∀ args m R, sp args m R → args.length = ps.length)
    (hb : ∀ (cdv : Value) (A : Around) (outer : List Env) (s : Shared) (H : Hp) (E : XK), (A.deeper (PyProof.Rows.envOfC qual (defScope st) s.heap.objs.size f cdv)).guards = some [] →
      Room k (A.deeper (PyProof.Rows.envOfC qual (defScope st) s.heap.objs.size f cdv)) →
      ∃ t, PSs (cxOf CX0 P w K mg base N qual (defScope st) f cdv A outer s H E).nox (defBody st) t ∧
        ∀ args m R, sp args m R → Wp K t (args ++ List.replicate (N.length - args.length) .any) m (fun _ m' => R (.d .none) m') R) : FnG P w K mg base (k + 1) f fd ps (spD K sp) := by
  refine fnG_of F S (fun vs H Q E h => ?_) (fun cdv A outer s H vs Q E hg hr h => ?_)
  · obtain ⟨m, G, args, R, S1, r1, h1, _⟩ := h
    rw [r1.length]; exact hl args m R h1
  · obtain ⟨m, G, args, R, S1, r1, h1, k1⟩ := h
    obtain ⟨t, ht, hw⟩ := hb cdv A outer s H E hg hr
    refine ⟨t, ht, ?_⟩
    refine hw args m R h1 _ H G _ S1 ?_ (fun σ' H' G' r' m' hn S' e' L' => ?_) (fun v H' G' x m' hn S' e' L' => k1 v H' G' x m' hn S' e' L')
    · unfold L2.start
      rw [r1.length]
      exact Sl.start _ r1
    · exact k1 .non H' G' (.d .none) m' hn S' e' (.d (rp_none.mpr rfl))
end
end DL
namespace DL
open PySem L2
section
variable {P : Program} {w : World} {K : PySem.W.Frag} {mg mb : Str → Option Value} {k : Nat} {fa a : Addr} {fd : FuncData} {x : Str} {sp : FSp} {s1 : Shared} {vs : List Value} {ns : List Int}
/-- what the law's def is asked at the heap behind the top: the script alone is known -/
theorem law_core (KX : K.In s1.heap) (hns : s1.heap.Ns mainGlobals mg) (hb : s1.heap.Ns builtinsNs mb) (hbb : ∀ x : Str, x ≠ "__name__" → mb x = bootBuiltins x) (hlim : s1.heap.NoLimit) (hgs : s1.gens = #[])
    (ha : s1.heap.get? a = some { cls := .type "list", data := .seq vs.toArray }) (hr : Room k callerA)
    (F : ∀ base : Heap, K.In base → base.Ns mainGlobals mg → FnG P w K mg base k fa fd [x] (spD K sp)) (hbind : ∀ (s : Shared) (u : Value), BindsTo s fd ⟨[u], []⟩ [(x, u)])
    (hsp : sp [.scr ns] (fun _ => none) fun y _ => y = .d (.bool true))
    (H : Hp) (hO : Only H) (hS : SqL K H a (ns.map V.int)) (hok : HOk P w H s1.heap) (hA : ∀ b, H b ≠ none → b = a) (hK : H a ≠ none → K.lookup a = none) :
    codeAny (model P w) callerA (.call (.ref fa) ⟨[.ref a], []⟩) (fun r s' => r = .ok (.ret (.bool true)) ∧ OldK s1.heap s'.heap ∧ s'.os = s1.os ∧ PyProof.Rows.AllBare s'.gens) s1 := by
  have baseOf : ∀ {b : Addr} {o : Obj}, s1.heap.get? b = some o → H b = none → (hidT s1.heap H).get? b = some o := hidT_get
  have free : ∀ {b : Addr} {o : Obj} {es : Array DictEntry} {ep : Nat}, s1.heap.get? b = some o → o.data = .dict es ep → H b = none := fun {b o es ep} e d => by
    cases q : H b with
    | none => rfl
    | some u =>
      obtain rfl : b = a := hA b fun z => by rw [q] at z; cases z
      rw [ha] at e
      cases e
      exact absurd d fun z => nomatch z
  have nsK : ∀ {b : Addr} {m : Str → Option Value}, s1.heap.Ns b m → (hidT s1.heap H).Ns b m := fun ⟨o, es, ep, e, d, z⟩ => ⟨o, es, ep, baseOf e (free e d), d, z⟩
  have kB : K.In (hidT s1.heap H) := fun b o e => baseOf (KX b o e) (by
    cases q : H b with
    | none => rfl
    | some u =>
      obtain rfl : b = a := hA b fun z => by rw [q] at z; cases z
      rw [hK fun z => by rw [q] at z; cases z] at e
      cases e)
  have e0 : Env0 P w K mg (hidT s1.heap H) callerA [] s1 H := by
    refine ⟨rfl, ⟨kB, nsK hns, ⟨mb, nsK hb, hbb⟩, ?_⟩, fun b o e => of_hidT e, Nat.le_of_eq (hidT_size _ _), trivial, fun b z => ?_, hok, .of_eq hgs⟩
    · obtain ⟨mc, z1, z2⟩ := hlim
      exact ⟨mc, nsK z1, z2⟩
    · exact nomatch (show b ∈ ([] : List Addr) from z)
  have hs : spD K sp [.ref a] H (fun v _ => v = .bl true) fun _ _ _ => False := by
    refine ⟨fun _ => none, H, [.scr ns], fun y _ => y = .d (.bool true), ⟨fun _ _ e => e, (fun _ _ e => nomatch e), (fun _ _ e => nomatch e)⟩, ⟨_, [], rfl, .scr hS, rfl⟩, hsp, ?_⟩
    intro v H' G' y m' hy _ _ hv
    subst hy
    exact rp_bool.mp hv.rp
  refine codeAny_mono ((F _ kB (nsK hns)).run callerA [] s1 H ⟨[.ref a], []⟩ [.ref a] [.ref a] _ _ rfl hr e0 (hbind s1 (.ref a)) (.cons rfl .nil) hs) fun r s' h => ?_
  cases r with
  | error e => exact False.elim h
  | ok fl =>
    cases fl with
    | next => exact False.elim h
    | brk => exact False.elim h
    | cont => exact False.elim h
    | ret u =>
      obtain ⟨v, H', os, bare, un, hok', rv, q⟩ := h
      have q : v = .bl true := q
      subst q
      obtain rfl : u = Value.bool true := rv
      refine ⟨rfl, OldK.of_keep fun b o e => ?_, os, bare⟩
      cases q : H b with
      | none => exact un.keep b o e q (fun z => nomatch (show b ∈ ([] : List Addr) from z)) (fun z => nomatch z)
      | some y =>
        rcases hO b with z | ⟨ob, xs, z⟩
        · rw [q] at z; cases z
        · obtain ⟨e1, _⟩ := hok b _ z
          obtain ⟨e2, _⟩ := hok' b _ (un.frzs b ob _ z)
          rw [e] at e1
          cases e1
          exact e2
theorem law_run (KX : K.In s1.heap) (hns : s1.heap.Ns mainGlobals mg) (hb : s1.heap.Ns builtinsNs mb) (hbb : ∀ x : Str, x ≠ "__name__" → mb x = bootBuiltins x) (hlim : s1.heap.NoLimit) (hgs : s1.gens = #[])
    (ha : s1.heap.get? a = some { cls := .type "list", data := .seq vs.toArray }) (hi : PyProof.Rows.IntsAre vs ns) (hl : ns.length ≤ sizeLine) (hr : Room k callerA)
    (F : ∀ base : Heap, K.In base → base.Ns mainGlobals mg → FnG P w K mg base k fa fd [x] (spD K sp)) (hbind : ∀ (s : Shared) (u : Value), BindsTo s fd ⟨[u], []⟩ [(x, u)])
    (hsp : sp [.scr ns] (fun _ => none) fun y _ => y = .d (.bool true)) :
    codeAny (model P w) callerA (.call (.ref fa) ⟨[.ref a], []⟩) (fun r s' => r = .ok (.ret (.bool true)) ∧ OldK s1.heap s'.heap ∧ s'.os = s1.os ∧ PyProof.Rows.AllBare s'.gens) s1 := by
  have rv := vals_ints hi
  have hlen := hi.length
  cases hk : K.lookup a with
  | some o =>
    have e := KX a o hk
    rw [ha] at e
    cases e
    refine law_core KX hns hb hbb hlim hgs ha hr F hbind hsp (fun _ => none) (fun _ => Or.inl rfl) (Or.inr ⟨_, vs.toArray, _, hk, rfl, rfl, rfl, ?_, ?_⟩) (fun b u z => nomatch (show (none : Option HO) = some u from z)) (fun b z => absurd rfl z) fun z => absurd rfl z
    · rw [List.size_toArray, hlen]; exact hl
    · simpa using rv
  | none =>
    refine law_core KX hns hb hbb hlim hgs ha hr F hbind hsp (fun b => if b = a then some (.frz { cls := .type "list", data := .seq vs.toArray } (.lst (ns.map V.int))) else none) (fun b => ?_) (Or.inl (Or.inr ⟨{ cls := .type "list", data := .seq vs.toArray }, if_pos rfl⟩)) (fun b u z => ?_) (fun b z => ?_) fun _ => hk
    · by_cases h : b = a
      · exact Or.inr ⟨_, _, if_pos h⟩
      · exact Or.inl (if_neg h)
    · by_cases h : b = a
      · have z := (if_pos h).symm.trans z
        cases z
        subst h
        exact ⟨ha, by rw [List.length_map]; exact hl, vs, _, rv, ha⟩
      · exact nomatch (if_neg h).symm.trans z
    · by_cases h : b = a
      · exact h
      · exact absurd (if_neg h) z
end
/-- from the law's def to the row -/
theorem walkG {l : PySem.W.OpenLaw} {n k : Nat} {q : Program} {loose : List Str} {XP : (Str → Option Value) → Heap → Prop} {YP : World → Heap → Prop} {d : DefRec} {K : Params → PySem.W.Frag} {sp : FSp} {x : Str}
    (hn : l.most = some n) (hn2 : n ≤ sizeLine) (hdf : d.params.defaults = []) (hr : Room k callerA) (hY : ∀ (w : World) (h : Heap), YP w h → (K w.params).In h)
    (F : ∀ (w : World) (mg : Str → Option Value) (fa : Addr) (h : Heap), (K w.params).In h → h.Ns mainGlobals mg → mg d.name = some (.ref fa) →
      ∃ fd : FuncData, (∀ (s : Shared) (u : Value), BindsTo s fd ⟨[u], []⟩ [(x, u)]) ∧
        ∀ base : Heap, (K w.params).In base → base.Ns mainGlobals mg → FnG l.prog w (K w.params) mg base k fa fd [x] (spD (K w.params) sp))
    (hsp : ∀ ns : List Int, ns.length ≤ n → (∀ z ∈ ns, Builtin.Int.intBits z ≤ 1048576) → sp [.scr ns] (fun _ => none) fun y _ => y = .d (.bool true)) :
    PySem.W.WalkO q loose XP YP l.row.toRowW d [] (fun f vs => PySem.call f vs) := by
  refine Att.attach_callB hn hdf fun w s0 s1 mg mb fa o pm cd doc a vs ns G Y ho hd hcd hmg hobj hints hlen hbits hg => ?_
  have KX := hY w _ Y
  obtain ⟨fd, hb, hF⟩ := F w mg fa _ KX G.T.g hmg
  exact law_run KX G.T.g G.T.b G.T.builtins G.T.nolimit hg hobj hints (Nat.le_trans hlen hn2) hr hF hb (hsp ns hlen hbits)
end DL
namespace DL
open PySem L2
/-! bits -/
def Bt (i : Int) (k : Nat) : Prop := i.natAbs < 2 ^ k
theorem Bt.mono {i : Int} {a b : Nat} (h : Bt i a) (hb : a ≤ b) : Bt i b := Nat.lt_of_lt_of_le h (Nat.pow_le_pow_right (by decide) hb)
theorem Bt.mul {i j : Int} {a b : Nat} (h : Bt i a) (g : Bt j b) : Bt (i * j) (a + b) := wide_lt h g
theorem Bt.add {i j : Int} {a b c : Nat} (h : Bt i a) (g : Bt j b) (h1 : a ≤ c) (h2 : b ≤ c) : Bt (i + j) (c + 1) := by
  have h := h.mono h1
  have g := g.mono h2
  unfold Bt at *
  rw [Nat.pow_succ]
  have : (i + j).natAbs ≤ i.natAbs + j.natAbs := Int.natAbs_add_le i j
  omega
theorem Bt.neg {i : Int} {a : Nat} (h : Bt i a) : Bt (-i) a := by
  unfold Bt at *; rw [Int.natAbs_neg]; exact h
theorem Bt.le {i j : Int} {a : Nat} (h : Bt j a) (hi : i.natAbs ≤ j.natAbs) : Bt i a := Nat.lt_of_le_of_lt hi h
theorem Bt.cmul {i j : Int} {a b : Nat} (h : Bt i a) (g : Bt j b) (c : a + b + 2 ≤ 1000000) : CMulW i j := wide_mul (h.mono (Nat.le_succ a)) (g.mono (Nat.le_succ b)) (Nat.succ_pos a) (Nat.succ_pos b) (by omega)
theorem Bt.cdiv {i j : Int} {b : Nat} (g : Bt j b) (h0 : 0 < j) (c : b < 9000) : CDivW i j := wide_div h0 (g.mono (Nat.le_succ b)) (Nat.succ_pos b) (by omega)
theorem cdiv_small {i j : Int} (h0 : 0 < j) (h : j < 1073741824) : CDivW i j := wide_div (b := 30) h0 (by
  have e : (2 : Nat) ^ 30 = 1073741824 := by decide
  rw [e]; omega) (by decide) (by decide)
theorem cmul_small {i j : Int} (h0 : i.natAbs < 18446744073709551616) (h : j.natAbs < 18446744073709551616) : CMulW i j := by
  have e : (2 : Nat) ^ 64 = 18446744073709551616 := by decide
  exact wide_mul (a := 64) (b := 64) (by rw [e]; exact h0) (by rw [e]; exact h) (by decide) (by decide) (by decide)
/-! fractions -/
def frac (q : Rat) : PyData := .tuple [.int q.num, .int (q.den : Int)]
theorem frac_mk (t : Int) (b : Nat) (hb : b ≠ 0) : frac (mkRat t b) = .tuple [.int (t / (Nat.gcd b t.natAbs : Nat)), .int ((b / Nat.gcd b t.natAbs : Nat) : Int)] := by
  unfold frac
  rw [Rat.num_mkRat, Rat.den_mkRat, if_neg hb, if_neg hb]
/-! ints of bounded size are shown -/
theorem log2_of_bt {i : Int} {a : Nat} (h : Bt i a) (h0 : 0 < a) : i.natAbs.log2 < a := PySem.Flt.log2_lt_of h0 h
theorem showable_int {i : Int} {a : Nat} (h : Bt i a) (h0 : 0 < a) (ha : a ≤ 1920) : (PyData.int i).showable = true := by
  simp only [PyData.showable]
  exact decide_eq_true (Nat.lt_of_lt_of_le (log2_of_bt h h0) ha)
/-! what may be shown: how deep, how long -/
structure Sh (d : PyData) (k n : Nat) : Prop where
  nd : d.hasDict = false
  dp : d.depth ≤ k
  sh : d.showable = true
  ln : d.shown.length ≤ n
theorem Sh.mono {d : PyData} {k n k' n' : Nat} (h : Sh d k n) (h1 : k ≤ k') (h2 : n ≤ n') : Sh d k' n' := ⟨h.nd, Nat.le_trans h.dp h1, h.sh, Nat.le_trans h.ln h2⟩
theorem sh_int {i : Int} {a : Nat} (h : Bt i a) (h0 : 0 < a) (ha : a ≤ 1920) : Sh (.int i) 0 (a + 1) := by
  refine ⟨by simp only [PyData.hasDict], by simp only [PyData.depth]; exact Nat.le_refl 0, showable_int h h0 ha, ?_⟩
  simp only [PyData.shown]
  rw [ofString_length]
  exact int_text_length_le h0 (log2_of_bt h h0)
theorem shAll {k n : Nat} : ∀ {ds : List PyData}, (∀ d ∈ ds, Sh d k n) → PyData.hasDictAll ds = false ∧ PyData.depthAll ds ≤ k ∧ PyData.showableAll ds = true ∧ ((PyData.shownAll ds).map (·.length)).sum ≤ n * ds.length ∧ (PyData.shownAll ds).length = ds.length
  | [], _ => ⟨by simp only [PyData.hasDictAll], by simp only [PyData.depthAll]; exact Nat.zero_le _, by simp only [PyData.showableAll], by simp [PyData.shownAll], by simp [PyData.shownAll]⟩
  | d :: ds, h => by
    have h1 := h d (List.mem_cons_self ..)
    obtain ⟨a, b, c, e, f⟩ := shAll (ds := ds) fun x hx => h x (List.mem_cons_of_mem _ hx)
    refine ⟨by simp only [PyData.hasDictAll, h1.nd, a]; rfl, ?_, by simp only [PyData.showableAll, h1.sh, c]; rfl, ?_, ?_⟩
    · simp only [PyData.depthAll]
      exact Nat.max_le.mpr ⟨h1.dp, b⟩
    · have := h1.ln
      simp only [PyData.shownAll, List.map_cons, List.sum_cons, List.length_cons]
      rw [Nat.mul_succ]
      omega
    · simp only [PyData.shownAll, List.length_cons, f]
theorem sh_tuple {ds : List PyData} {k n c : Nat} (h : ∀ d ∈ ds, Sh d k n) (hc : ds.length ≤ c) : Sh (.tuple ds) (k + 1) ((n + 2) * c + 3) := by
  obtain ⟨a, b, e, f, g⟩ := shAll h
  refine ⟨by simp only [PyData.hasDict, a], by simp only [PyData.depth]; omega, by simp only [PyData.showable, e], ?_⟩
  simp only [PyData.shown]
  have := tupleText_len_le (PyData.shownAll ds)
  have h1 : n * ds.length ≤ n * c := Nat.mul_le_mul_left n hc
  have h2 : (n + 2) * c = n * c + 2 * c := Nat.add_mul n 2 c
  omega
theorem on_show {K : PySem.W.Frag} {m : Mm} {Q : Val → Mm → Prop} {x : PyData} {k n : Nat} (h : Sh x k n) (h1 : k ≤ 64) (h2 : n ≤ 16777216) (q : Q (.d (.str x.shown)) m) : OpN K (rRepr K) [.d x] m Q :=
  on_repr h.nd (Nat.le_trans h.dp h1) h.sh (Nat.le_trans h.ln (by rw [sizeLine_eq]; exact h2)) q
/-- a fraction of small enough parts -/
def FrB (q : Rat) (a : Nat) : Prop := Bt q.num a ∧ Bt (q.den : Int) a
theorem sh_frac {q : Rat} {a : Nat} (h : FrB q a) (h0 : 0 < a) (ha : a ≤ 1920) : Sh (frac q) 1 4000 := by
  unfold frac
  refine (sh_tuple (ds := [.int q.num, .int (q.den : Int)]) (k := 0) (n := a + 1) (c := 2) (fun d hd => ?_) (Nat.le_refl 2)).mono (Nat.le_refl _) (by omega)
  rcases List.mem_cons.mp hd with e | hd
  · rw [e]; exact sh_int h.1 h0 ha
  · rw [List.mem_singleton.mp hd]; exact sh_int h.2 h0 ha
end DL
namespace DL
open PySem L2
theorem br_t {c : Bool} {A B : Prop} (h : c = true) (a : A) : (c = true → A) ∧ (c = false → B) := ⟨fun _ => a, fun g => by rw [h] at g; cases g⟩
theorem br_f {c : Bool} {A B : Prop} (h : c = false) (b : B) : (c = true → A) ∧ (c = false → B) := ⟨(fun g => by rw [h] at g; cases g), (fun _ => b)⟩
theorem take_one {α : Type} {ds : List α} {i : Nat} {d : α} (h : ds[i]? = some d) : ds.take (i + 1) = ds.take i ++ [d] := by
  rw [List.take_succ, h]; rfl
theorem range_one (i : Nat) : List.range (i + 1) = List.range i ++ [i] := List.range_succ
section
variable {K : PySem.W.Frag} {r : List Val} {m : Mm} {Q : Val → Mm → Prop} {te tl : TE} {tt : TT} {j : Nat} {ds : List PyData}
theorem ev_mapT (h : Ev K tl r m fun x m1 => x = .d (.tuple ds) ∧ m1 = m) (hn : ds.length ≤ 100000) (f : PyData → PyData)
    (hs : ∀ (i : Nat) (d : PyData) m', ds[i]? = some d → Ext m m' → Ev K te (r.set j (.d d)) m' fun x m3 => x = .d (f d) ∧ m3 = m') (q : Q (.d (.list (ds.map f))) m) : Ev K (tLc (iTup K tl) (gName j) tYes te [j]) r m Q :=
  ev_lcT h hn (fun i acc => acc = (ds.take i).map f) (by simp) (fun i d m' acc hd hx hw => evt_yes ⟨rfl, fun _ => (hs i d m' hd hx).imp fun x m3 e => ⟨e.2, f d, e.1, by rw [hw, take_one hd, List.map_append]; rfl⟩, (fun g => nomatch g)⟩)
    (fun acc hw => by rw [hw, List.take_length]; exact q)
/-- drawn items: each may be any that P allows -/
theorem ev_anyR1 {ta : TA} {n : Nat} (h : EvA K ta r m fun xs m1 => xs = [.d (.int (n : Int))] ∧ m1 = m) (hn : n ≤ 100000) (P : Nat → PyData → Prop)
    (hs : ∀ i m', i < n → Ext m m' → Ev K te (r.set j (.d (.int (i : Int)))) m' fun x m3 => (∃ y, x = .d y ∧ P i y) ∧ m3 = m') (q : ∀ ds : List PyData, ds.length = n → (∀ (i : Nat) (d : PyData), ds[i]? = some d → P i d) → Q (.d (.list ds)) m) : Ev K (tLc (iRng1 ta) (gName j) tYes te [j]) r m Q :=
  ev_lcR1 h hn (fun i acc => acc.length = i ∧ ∀ (k : Nat) (d : PyData), acc[k]? = some d → P k d) ⟨rfl, fun k d hk => by simp at hk⟩ (fun i m' acc hi hx hw => evt_yes ⟨rfl, fun _ => (hs i m' hi hx).imp fun x m3 e => ⟨e.2, by
      obtain ⟨y, hy, hp⟩ := e.1
      refine ⟨y, hy, by rw [List.length_append, hw.1]; rfl, fun k d hk => ?_⟩
      by_cases hki : k < i
      · rw [List.getElem?_append_left (by omega)] at hk
        exact hw.2 k d hk
      · have e2 : k = i := by
          have := (List.getElem?_eq_some_iff.mp hk).1
          rw [List.length_append, hw.1] at this
          simp at this
          omega
        subst e2
        rw [List.getElem?_append_right (by omega), hw.1] at hk
        simp at hk
        subst hk
        exact hp⟩, (fun g => nomatch g)⟩)
    (fun acc hw => q acc hw.1 hw.2)
end
end DL
namespace DL
open PySem L2
def f_gcd : FSp := fun args m R => ∃ a b : Nat, args = [.d (.int (a : Int)), .d (.int (b : Int))] ∧ R (.d (.int ((Nat.gcd a b : Nat) : Int))) m
def f_made : FSp := fun args m R => ∃ (t : Int) (b : Nat), args = [.d (.int t), .d (.int (b : Int))] ∧ 0 < b ∧ Bt (b : Int) 8000 ∧ R (.d (frac (mkRat t b))) m
def isInt : PyData → Bool
  | .int _ => true
  | _ => false
def f_isWhole : FSp := fun args m R => ∃ x, args = [.d x] ∧ R (.d (.bool (isInt x))) m
def okS : PyData → Bool
  | .int i => decide (1 ≤ i) && decide (i ≤ 9)
  | _ => false
def isShares : PyData → Bool
  | .tuple ds => decide (1 ≤ ds.length) && (decide (ds.length ≤ 5) && ds.all okS)
  | _ => false
structure Shares (ss : List Int) : Prop where
  pos : 1 ≤ ss.length
  few : ss.length ≤ 5
  each : ∀ s ∈ ss, 1 ≤ s ∧ s ≤ 9
def tupI (ns : List Int) : PyData := .tuple (ns.map PyData.int)
def tupN (ks : List Nat) : PyData := .tuple ((ks.map fun (k : Nat) => (k : Int)).map PyData.int)
theorem isShares_of {ss : List Int} (h : Shares ss) : isShares (tupI ss) = true := by
  unfold isShares tupI
  dsimp only
  rw [List.length_map, decide_eq_true h.pos, decide_eq_true h.few, Bool.true_and, Bool.true_and, List.all_eq_true]
  intro d hd
  obtain ⟨i, hi, rfl⟩ := List.mem_map.mp hd
  obtain ⟨a, b⟩ := h.each i hi
  show (decide (1 ≤ i) && decide (i ≤ 9)) = true
  rw [decide_eq_true a, decide_eq_true b]; rfl
theorem int_shape {d : PyData} (h : isInt d = true) : ∃ i, d = .int i := by
  cases d with
  | int i => exact ⟨i, rfl⟩
  | _ => cases h
theorem tup_shape {d : PyData} (h : isTup d = true) : ∃ ds, d = .tuple ds := by
  cases d with
  | tuple i => exact ⟨i, rfl⟩
  | _ => cases h
def f_isShares : FSp := fun args m R => ∃ x, args = [.d x] ∧ R (.d (.bool (isShares x))) m
def f_needShares : FSp := fun args m R => ∃ x, args = [.d x] ∧ isShares x = true ∧ R (.d .none) m
def intOf : PyData → Int
  | .int i => i
  | _ => 0
def sumP (ss : List Int) (ks : List Nat) : Int := (ks.map fun k => ss.getD k 0).sum
def f_sumPart : FSp := fun args m R => ∃ (ss : List Int) (ks : List Nat), args = [.d (tupI ss), .d (tupN ks)] ∧ ks.length ≤ 1000 ∧ (∀ k ∈ ks, k < ss.length) ∧ R (.d (.int (sumP ss ks))) m
theorem tupI_at {ss : List Int} {k : Nat} (h : k < ss.length) : atI (ss.map PyData.int) (k : Int) = some (.int (ss.getD k 0)) := by
  rw [atI_nth, List.getElem?_map, List.getD_eq_getElem?_getD, List.getElem?_eq_getElem h]; rfl
theorem shares_sum {ss : List Int} (h : Shares ss) : 1 ≤ ss.sum ∧ ss.sum ≤ 45 := by
  obtain ⟨h1, h2, h3⟩ := h
  match ss, h1, h2 with
  | [a], _, _ => have := h3 a (by simp); simp; omega
  | [a, b], _, _ => have := h3 a (by simp); have := h3 b (by simp); simp; omega
  | [a, b, c], _, _ => have := h3 a (by simp); have := h3 b (by simp); have := h3 c (by simp); simp; omega
  | [a, b, c, d], _, _ => have := h3 a (by simp); have := h3 b (by simp); have := h3 c (by simp); have := h3 d (by simp); simp; omega
  | [a, b, c, d, e], _, _ => have := h3 a (by simp); have := h3 b (by simp); have := h3 c (by simp); have := h3 d (by simp); have := h3 e (by simp); simp; omega
/-- some kinds of so many -/
structure Kinds (n : Nat) (ks : List Nat) : Prop where
  up : ks.Pairwise (· < ·)
  lt : ∀ k ∈ ks, k < n
theorem Kinds.len {n : Nat} {ks : List Nat} (h : Kinds n ks) : ks.length ≤ n := by
  have h1 : ks.Sublist (List.range n) := by
    have : ∀ (ks : List Nat) (m : Nat), ks.Pairwise (· < ·) → (∀ k ∈ ks, m ≤ k ∧ k < n) → ks.Sublist ((List.range n).drop m) := by
      intro ks
      induction ks with
      | nil => intro m _ _; exact List.nil_sublist _
      | cons k t ih =>
        intro m hp hl
        have hk := hl k (by simp)
        have hkn : k < (List.range n).length := by rw [List.length_range]; exact hk.2
        have hd : (List.range n).drop k = k :: (List.range n).drop (k + 1) := by
          rw [List.drop_eq_getElem_cons hkn, List.getElem_range]
        have h1 : (k :: t).Sublist ((List.range n).drop k) := by
          rw [hd]
          refine (ih (k + 1) (List.pairwise_cons.mp hp).2 fun x hx => ⟨?_, (hl x (by simp [hx])).2⟩).cons_cons k
          exact (List.pairwise_cons.mp hp).1 x hx
        refine h1.trans ?_
        have e : (List.range n).drop k = ((List.range n).drop m).drop (k - m) := by rw [List.drop_drop]; congr 1; omega
        rw [e]
        exact List.drop_sublist _ _
    exact this ks 0 h.up fun k hk => ⟨Nat.zero_le _, h.lt k hk⟩
  have := h1.length_le
  rw [List.length_range] at this
  exact this
theorem sumP_nonneg {ss : List Int} (h : Shares ss) : ∀ ks : List Nat, 0 ≤ sumP ss ks
  | [] => Int.le_refl 0
  | k :: t => by
    have ih := sumP_nonneg h t
    have e : sumP ss (k :: t) = ss.getD k 0 + sumP ss t := rfl
    have : 0 ≤ ss.getD k 0 := by
      rw [List.getD_eq_getElem?_getD]
      cases hk : ss[k]? with
      | none => decide
      | some s => have := h.each s (List.mem_of_getElem? hk); simp; omega
    omega
theorem getD_bounds {ss : List Int} (h : Shares ss) (k : Nat) : 0 ≤ ss.getD k 0 ∧ ss.getD k 0 ≤ 9 := by
  rw [List.getD_eq_getElem?_getD]
  cases hk : ss[k]? with
  | none => exact ⟨by decide, by decide⟩
  | some s => have := h.each s (List.mem_of_getElem? hk); simp; omega
theorem sumP_le9 {ss : List Int} (h : Shares ss) : ∀ ks : List Nat, sumP ss ks ≤ 9 * (ks.length : Int)
  | [] => Int.le_refl 0
  | k :: t => by
    have ih := sumP_le9 h t
    have e : sumP ss (k :: t) = ss.getD k 0 + sumP ss t := rfl
    have := getD_bounds h k
    rw [List.length_cons]
    omega
theorem sumP_le {ss : List Int} (h : Shares ss) {ks : List Nat} (hk : Kinds ss.length ks) : sumP ss ks ≤ 45 := by
  have := sumP_le9 h ks
  have := hk.len
  have := h.few
  omega
theorem frB_mk {t : Int} {b a : Nat} (h1 : Bt t a) (h2 : Bt (b : Int) a) (h0 : 0 < b) : FrB (mkRat t b) a := by
  refine ⟨?_, ?_⟩
  · rw [Rat.num_mkRat, if_neg (by omega)]
    refine h1.le ?_
    rw [Int.natAbs_ediv_of_dvd (Int.ofNat_dvd_left.mpr (Nat.gcd_dvd_right b t.natAbs)), Int.natAbs_natCast]
    exact Nat.div_le_self _ _
  · rw [Rat.den_mkRat, if_neg (by omega)]
    exact h2.le (by simp only [Int.natAbs_natCast]; exact Nat.div_le_self _ _)
theorem on_lenI {K : PySem.W.Frag} {m : Mm} {Q : Val → Mm → Prop} {ss : List Int} (q : Q (.d (.int (ss.length : Int))) m) : OpN K (rLen K) [.d (tupI ss)] m Q := on_lenT (by rw [List.length_map]; exact q)
theorem on_lenN {K : PySem.W.Frag} {m : Mm} {Q : Val → Mm → Prop} {ks : List Nat} (q : Q (.d (.int (ks.length : Int))) m) : OpN K (rLen K) [.d (tupN ks)] m Q := on_lenT (by rw [List.length_map, List.length_map]; exact q)
theorem on_sumI {K : PySem.W.Frag} {m : Mm} {Q : Val → Mm → Prop} {ss : List Int} (q : Q (.d (.int ss.sum)) m) : OpN K (rSumA K) [.d (tupI ss)] m Q := on_sumT q
/-! fractions reckoned -/
theorem o2_ixF0 {K : PySem.W.Frag} {m : Mm} {Q : Val → Mm → Prop} {q : Rat} (h : Q (.d (.int q.num)) m) : Op2 K (rIx K) (.d (frac q)) (.d (.int 0)) m Q := o2_ixT (d := .int q.num) rfl h
theorem o2_ixF1 {K : PySem.W.Frag} {m : Mm} {Q : Val → Mm → Prop} {q : Rat} (h : Q (.d (.int (q.den : Int))) m) : Op2 K (rIx K) (.d (frac q)) (.d (.int 1)) m Q := o2_ixT (d := .int (q.den : Int)) rfl h
def f_sumOf : FSp := fun args m R => ∃ p q : Rat, args = [.d (frac p), .d (frac q)] ∧ FrB p 3900 ∧ FrB q 3900 ∧ R (.d (frac (p + q))) m
theorem FrB.mono {q : Rat} {a b : Nat} (h : FrB q a) (hb : a ≤ b) : FrB q b := ⟨h.1.mono hb, h.2.mono hb⟩
theorem den_pos (q : Rat) : 0 < q.den := Nat.pos_of_ne_zero q.den_nz
theorem FrB.add {p q : Rat} {a b c : Nat} (h : FrB p a) (g : FrB q b) (hc : a + b + 1 ≤ c) : FrB (p + q) c := by
  rw [Rat.add_def']
  refine frB_mk (((h.1.mul g.2).add (g.1.mul h.2) (c := a + b) (Nat.le_refl _) (by omega)).mono hc) (Bt.mono (a := a + b) ?_ (by omega)) (Nat.mul_pos (den_pos p) (den_pos q))
  rw [Int.natCast_mul]
  exact h.2.mul g.2
theorem FrB.mul {p q : Rat} {a b c : Nat} (h : FrB p a) (g : FrB q b) (hc : a + b ≤ c) : FrB (p * q) c := by
  rw [Rat.mul_def']
  refine frB_mk ((h.1.mul g.1).mono hc) (Bt.mono (a := a + b) ?_ hc) (Nat.mul_pos (den_pos p) (den_pos q))
  rw [Int.natCast_mul]
  exact h.2.mul g.2
theorem FrB.neg {p : Rat} {a : Nat} (h : FrB p a) : FrB (-p) a := ⟨h.1.neg, h.2⟩
theorem frac_neg (q : Rat) : (.tuple [.int (0 - q.num), .int (q.den : Int)] : PyData) = frac (-q) := by
  unfold frac
  rw [Rat.neg_num, Rat.neg_den, Int.zero_sub]
/-! a law's own helpers -/
theorem bt_lit {i : Int} {n a : Nat} (h : i.natAbs < 2 ^ n) (ha : n ≤ a) : Bt i a := Bt.mono (show Bt i n from h) ha
def f_cell : FSp := fun args m R => ∃ (ns : List Int) (k : Nat), args = [.scr ns, .d (.int (k : Int))] ∧ ∀ z : Int, R (.d (.int z)) m
def f_mix : FSp := fun args m R => ∃ (c : Int) (k : Nat), args = [.d (.int c), .d (.int (k : Int))] ∧ k ≤ 1000 ∧ ∀ z : Int, 0 ≤ z → z < 1073741824 → R (.d (.int z)) m
def f_box : FSp := fun args m R => ∃ (ns : List Int) (k : Nat), args = [.scr ns, .d (.int (k : Int))] ∧ ∀ p, m p = none → R (.v (.ref p)) (put m p .box)
def f_take : FSp := fun args m R => ∃ (p : Addr) (k : Int), args = [.v (.ref p), .d (.int k)] ∧ m p = some .box ∧ 0 < k ∧ Bt k 8000 ∧ ∀ z : Int, 0 ≤ z → z < k → R (.d (.int z)) m
def f_drawnShares : FSp := fun args m R => ∃ (p : Addr) (a b : Int), args = [.v (.ref p), .d (.int a), .d (.int b)] ∧ m p = some .box ∧ 1 ≤ a ∧ a ≤ 5 ∧ 2 ≤ b ∧ b ≤ 9 ∧ ∀ ss : List Int, Shares ss → (ss.length : Int) ≤ a → R (.d (tupI ss)) m
def f_law : FSp := fun args m R => ∃ ns : List Int, args = [.scr ns] ∧ ∀ m', R (.d (.bool true)) m'
theorem kinds_all (n : Nat) : Kinds n (List.range n) := ⟨List.pairwise_lt_range, fun k hk => List.mem_range.mp hk⟩
end DL
namespace DL
open PySem L2
section
variable {K : PySem.W.Frag} {r : List Val} {m : Mm} {Q : Val → Mm → Prop} {ta tb tc te : TE} {tt : TT}
/-! a list that may change, so many times -/
theorem VRs.rep {G : Hp} {rs : List Val} {xs : List V} (h : VRs K G rs xs) : ∀ n : Nat, VRs K G (List.replicate n rs).flatten (List.replicate n xs).flatten
  | 0 => rfl
  | n + 1 => by
    rw [List.replicate_succ, List.replicate_succ, List.flatten_cons, List.flatten_cons]
    exact h.append (VRs.rep h n)
/-! parts -/
def EvO (K : PySem.W.Frag) (t : TO) (r : List Val) (m : Mm) (Q : Option Int → Mm → Prop) : Prop :=
  ∀ σ H G, Sta K m H G → Sl K G r σ → ∀ R : Option Int → Hp → Prop, (∀ H' G' x m', Q x m' → Sta K m' H' G' → Le G G' → R x H') → t σ H R
theorem evo_none {Q : Option Int → Mm → Prop} (q : Q none m) : EvO K tNoPart r m Q := fun σ H G S L R k => k H G none m q S (Le.refl G)
theorem evo_some {Q : Option Int → Mm → Prop} (h : Ev K te r m fun x m1 => ∃ i : Int, x = .d (.int i) ∧ Q (some i) m1) : EvO K (tPart te) r m Q := fun σ H G S L R k =>
  h σ H G S L _ fun v H1 G1 x m1 ⟨i, hx, q⟩ S1 e1 r1 => by
    subst hx
    exact ⟨i, int_of r1, k H1 G1 _ m1 q S1 e1⟩
def cutD (ds : List PyData) (lo hi : Option Int) : List PyData := (ds.drop (HT.sIx ds.length 0 lo)).take (HT.sIx ds.length ds.length hi - HT.sIx ds.length 0 lo)
theorem RpAll.drop {G : Hp} : ∀ {ds : List PyData} {xs : List V} (n : Nat), RpAll K G ds xs → RpAll K G (ds.drop n) (xs.drop n)
  | ds, xs, 0, h => h
  | [], xs, n + 1, h => by rw [rpa_nil.mp h]; exact rpa_nil.mpr rfl
  | d :: ds, xs, n + 1, h => by
    obtain ⟨x, r, rfl, h2, h3⟩ := rpa_cons.mp h
    exact RpAll.drop n h3
theorem RpAll.take {G : Hp} : ∀ {ds : List PyData} {xs : List V} (n : Nat), RpAll K G ds xs → RpAll K G (ds.take n) (xs.take n)
  | ds, xs, 0, h => rpa_nil.mpr rfl
  | [], xs, n + 1, h => by rw [rpa_nil.mp h]; exact rpa_nil.mpr rfl
  | d :: ds, xs, n + 1, h => by
    obtain ⟨x, r, rfl, h2, h3⟩ := rpa_cons.mp h
    exact rpa_cons.mpr ⟨x, r.take n, rfl, h2, RpAll.take n h3⟩
theorem RpAll.cut {G : Hp} {ds : List PyData} {xs : List V} (h : RpAll K G ds xs) (lo hi : Option Int) : RpAll K G (cutD ds lo hi) (cutV xs lo hi) := by
  unfold cutD cutV
  rw [h.length]
  exact RpAll.take _ (RpAll.drop _ h)
theorem ev_slL {tl th : TO} (h : Ev K te r m fun x m1 => ∃ ds, x = .d (.list ds) ∧ EvO K tl r m1 fun lo m2 => EvO K th r m2 fun hi m3 => Q (.d (.list (cutD ds lo hi))) m3) : Ev K (tSl (rSlL K) te tl th) r m Q := fun σ H G S L R k =>
  h σ H G S L _ fun v H1 G1 x m1 ⟨ds, hx, h1⟩ S1 e1 r1 => h1 σ H1 G1 S1 (L.mono e1) _ fun H2 G2 lo m2 h2 S2 e2 => h2 σ H2 G2 S2 (L.mono (e1.trans e2)) _ fun H3 G3 hi m3 q S3 e3 => by
    subst hx
    obtain ⟨p, xs, hv, g1, g2⟩ := rp_list.mp (Rp.mono (e2.trans e3) _ _ r1.rp)
    refine ⟨p, xs, hv, Or.inl (Le.rd S3.sub g1), fun l hl => ?_⟩
    have hg := S3.free hl
    exact k _ _ (upd G3 l _) _ m3 q (S3.fix hl) (e1.trans (e2.trans (e3.trans (Le.new hg)))) (.d (rp_list.mpr ⟨l, _, rfl, Rd.of upd_same, RpAll.mono (Le.new hg) _ _ (g2.cut lo hi)⟩))
theorem cut_whole {α : Type} (ds : List α) {a b : Nat} (h : a = 0 ∧ b = ds.length) : (ds.drop a).take (b - a) = ds := by
  rw [h.1, h.2, List.drop_zero, Nat.sub_zero, List.take_length]
theorem ev_slT {tl th : TO} (h : Ev K te r m fun x m1 => ∃ ds, x = .d (.tuple ds) ∧ EvO K tl r m1 fun lo m2 => EvO K th r m2 fun hi m3 => Q (.d (.tuple (cutD ds lo hi))) m3) : Ev K (tSl (rSlA K) te tl th) r m Q := fun σ H G S L R k =>
  h σ H G S L _ fun v H1 G1 x m1 ⟨ds, hx, h1⟩ S1 e1 r1 => h1 σ H1 G1 S1 (L.mono e1) _ fun H2 G2 lo m2 h2 S2 e2 => h2 σ H2 G2 S2 (L.mono (e1.trans e2)) _ fun H3 G3 hi m3 q S3 e3 => by
    subst hx
    obtain ⟨p, xs, hv, g1, g2⟩ := rp_tuple.mp (Rp.mono (e2.trans e3) _ _ r1.rp)
    refine ⟨p, xs, hv, S3.sqT g1, fun hw => ?_, fun _ l hl => ?_⟩
    · rw [g2.length] at hw
      have e : cutD ds lo hi = ds := cut_whole ds hw
      have q : Q (.d (.tuple (cutD ds lo hi))) m3 := q
      rw [e] at q
      exact k _ H3 G3 _ m3 q S3 (e1.trans (e2.trans e3)) (.d (rp_tuple.mpr ⟨p, xs, rfl, g1, g2⟩))
    · have hg := S3.free hl
      exact k _ _ (upd G3 l _) _ m3 q (S3.fix hl) (e1.trans (e2.trans (e3.trans (Le.new hg)))) (.d (rp_tuple.mpr ⟨l, _, rfl, SqT.of upd_same, RpAll.mono (Le.new hg) _ _ (g2.cut lo hi)⟩))
/-! truth, and what is the very same -/
def rIsBl : R2 := fun x y H Q => ∃ a b, x = .bl a ∧ y = .bl b ∧ Q (.bl (decide (a = b))) H
def rIsNotBl : R2 := fun x y H Q => ∃ a b, x = .bl a ∧ y = .bl b ∧ Q (.bl (!decide (a = b))) H
theorem o2_isB {a b : Bool} (q : Q (.d (.bool (decide (a = b)))) m) : Op2 K rIsBl (.d (.bool a)) (.d (.bool b)) m Q := fun H G v w S x y R k => by
  rw [bool_of x, bool_of y]
  exact ⟨a, b, rfl, rfl, k _ H G _ m q S (Le.refl G) vr_bool⟩
theorem o2_isNotB {a b : Bool} (q : Q (.d (.bool (!decide (a = b)))) m) : Op2 K rIsNotBl (.d (.bool a)) (.d (.bool b)) m Q := fun H G v w S x y R k => by
  rw [bool_of x, bool_of y]
  exact ⟨a, b, rfl, rfl, k _ H G _ m q S (Le.refl G) vr_bool⟩
/-! in -/
theorem oNotInS {X : Cx} (K : PySem.W.Frag) (h : X.K = K := by rfl) : OpR X (compareOp .NotIn) (rIn K true) := h ▸ op_notIn_seq
theorem inV_ints (i : Int) (ns : List Int) : inV (.int i) (ns.map V.int) = decide (i ∈ ns) := by
  unfold inV
  rw [List.any_map]
  induction ns with
  | nil => rfl
  | cons n ns ih =>
    rw [List.any_cons, ih]
    by_cases h : i = n
    · subst h; simp [eqV]
    · have h2 : ¬ n = i := fun e => h e.symm
      simp [eqV, h, h2]
theorem flat_ints (ns : List Int) : (ns.map V.int).all flatV = true := by
  rw [List.all_map, List.all_eq_true]; intro x _; rfl
theorem o2_inI {i : Int} {ns : List Int} {neg : Bool} (q : Q (.d (.bool (if neg then !decide (i ∈ ns) else decide (i ∈ ns)))) m) : Op2 K (rIn K neg) (.d (.int i)) (.d (.tuple (ns.map PyData.int))) m Q := fun H G v w S x y R k => by
  rw [int_of x]
  obtain ⟨p, xs, rfl, g1, g2⟩ := rp_tuple.mp y.rp
  rw [g2.ints] at g1
  refine ⟨p, _, rfl, Or.inr (S.sqT g1), rfl, flat_ints ns, ?_⟩
  rw [inV_ints]
  exact k _ H G _ m q S (Le.refl G) vr_bool
theorem mem_natI {k : Nat} {ks : List Nat} : ((k : Int) ∈ ks.map fun (k : Nat) => (k : Int)) ↔ k ∈ ks := by
  constructor
  · intro h
    obtain ⟨j, h1, h2⟩ := List.mem_map.mp h
    have : j = k := by omega
    rw [← this]; exact h1
  · intro h
    exact List.mem_map.mpr ⟨k, h, rfl⟩
theorem o2_inN {i : Nat} {ks : List Nat} (q : Q (.d (.bool (decide (i ∈ ks)))) m) : Op2 K (rIn K false) (.d (.int (i : Int))) (.d (tupN ks)) m Q := o2_inI (neg := false) (by
  have e : decide ((i : Int) ∈ ks.map fun (k : Nat) => (k : Int)) = decide (i ∈ ks) := decide_eq_decide.mpr mem_natI
  show Q (.d (.bool (decide ((i : Int) ∈ ks.map fun (k : Nat) => (k : Int))))) m
  rw [e]; exact q)
theorem o2_notInN {i : Nat} {ks : List Nat} (q : Q (.d (.bool (!decide (i ∈ ks)))) m) : Op2 K (rIn K true) (.d (.int (i : Int))) (.d (tupN ks)) m Q := o2_inI (neg := true) (by
  have e : decide ((i : Int) ∈ ks.map fun (k : Nat) => (k : Int)) = decide (i ∈ ks) := decide_eq_decide.mpr mem_natI
  show Q (.d (.bool (!decide ((i : Int) ∈ ks.map fun (k : Nat) => (k : Int))))) m
  rw [e]; exact q)
/-! xs[i] = e -/
variable {N : List Val → Mm → Prop} {E : Val → Mm → Prop} {t : TS}
theorem VRs.set {G : Hp} {y : Val} {v : V} (hv : VR K G y v) : ∀ {rs : List Val} {xs : List V} (i : Nat), VRs K G rs xs → VRs K G (rs.set i y) (xs.set i v)
  | [], xs, i, h => by
    have h : xs = [] := h
    subst h; exact rfl
  | r :: rs, xs, 0, h => by
    obtain ⟨x, t, rfl, h1, h2⟩ := h
    exact ⟨v, t, rfl, hv, h2⟩
  | r :: rs, xs, i + 1, h => by
    obtain ⟨x, t, rfl, h1, h2⟩ := h
    exact ⟨x, t.set i v, rfl, h1, VRs.set hv i h2⟩
end
/-! lists of one kind of thing -/
theorem map_at {α : Type} {f : α → PyData} {xs : List α} {i : Nat} {d : PyData} (h : (xs.map f)[i]? = some d) : ∃ x, xs[i]? = some x ∧ d = f x := by
  rw [List.getElem?_map] at h
  cases hx : xs[i]? with
  | none => rw [hx] at h; cases h
  | some x => rw [hx] at h; cases h; exact ⟨x, rfl, rfl⟩
section
variable {K : PySem.W.Frag} {r : List Val} {m : Mm} {Q : Val → Mm → Prop} {te tl : TE} {tt : TT} {j : Nat} {α : Type} {xs : List α} {f : α → PyData} {N : List Val → Mm → Prop} {E : Val → Mm → Prop} {t : TS}
theorem ev_filR1 {ta : TA} {n : Nat} (h : EvA K ta r m fun xs m1 => xs = [.d (.int (n : Int))] ∧ m1 = m) (hn : n ≤ 100000) (p : Nat → Bool) (g : Nat → PyData)
    (ht : ∀ (i : Nat) m', i < n → Ext m m' → EvT K tt (r.set j (.d (.int (i : Int)))) m' fun b m3 => b = p i ∧ m3 = m')
    (hs : ∀ (i : Nat) m', i < n → Ext m m' → p i = true → Ev K te (r.set j (.d (.int (i : Int)))) m' fun y m3 => y = .d (g i) ∧ m3 = m') (q : Q (.d (.list (((List.range n).filter p).map g))) m) : Ev K (tLc (iRng1 ta) (gName j) tt te [j]) r m Q :=
  ev_lcR1 h hn (fun i acc => acc = ((List.range i).filter p).map g) (by simp) (fun i m' acc hi hx hw => (ht i m' hi hx).imp fun b m2 e => ⟨e.2, fun hb => (hs i m' hi hx (e.1.symm.trans hb)).imp fun y m3 e2 => ⟨e2.2, g i, e2.1, by
      rw [hw, range_one, List.filter_append, List.map_append, List.filter_cons, if_pos (e.1.symm.trans hb)]; rfl⟩, fun hb => by
      rw [hw, range_one, List.filter_append, List.map_append, List.filter_cons, if_neg (by rw [← e.1, hb]; decide)]; simp⟩)
    (fun acc hw => by rw [hw]; exact q)
theorem w_forTf (h : Ev K tl r m fun x m1 => x = .d (.tuple (xs.map f)) ∧ m1 = m) (W : Nat → List Val → Mm → Prop) (h0 : W 0 r m)
    (hs : ∀ (i : Nat) (x : α) r' m', xs[i]? = some x → W i r' m' → Wp K t (r'.set j (.d (f x))) m' (W (i + 1)) E) (hd : ∀ r' m', W xs.length r' m' → N r' m') : Wp K (tFor (iTup K tl) (gName j) t) r m N E :=
  w_forT h W h0 (fun i d r' m' hd hw => by
    obtain ⟨x, h1, rfl⟩ := map_at hd
    exact hs i x r' m' h1 hw) (fun r' m' hw => hd r' m' (by rw [List.length_map] at hw; exact hw))
end
abbrev intN (k : Nat) : PyData := .int (k : Int)
theorem tupN_eq (ks : List Nat) : tupN ks = .tuple (ks.map intN) := by
  unfold tupN
  rw [List.map_map]; rfl
/-! less told of what may change -/
section
variable {K : PySem.W.Frag} {r : List Val} {m : Mm} {Q : Val → Mm → Prop} {te tb : TE} {N : List Val → Mm → Prop} {E : Val → Mm → Prop} {t : TS} {ta : TA}
theorem del_put {l : Addr} {o : MO} (h : m l = none) : del (put m l o) l = m := by
  funext b
  unfold del put
  by_cases hb : b = l
  · rw [if_pos hb, hb, h]
  · rw [if_neg hb, if_neg hb]
theorem put_less {l : Addr} {o : MO} (h : m l = none) : ∀ a u, m a = some u → put m l o a = some u := fun a u e => by
  rw [put_ne (ne_of_get e h)]; exact e
/-- [e, ..] * n: a list that may change -/
theorem ev_lstMul (h : EvA K ta r m fun xs m1 => ∃ ds : List PyData, xs = ds.map Val.d ∧ ds.length ≤ 100 ∧ Ev K tb r m1 fun y m2 => ∃ n : Nat, y = .d (.int (n : Int)) ∧ n ≤ 1000 ∧ ∀ l, m2 l = none → Q (.v (.ref l)) (put m2 l (.lst ((List.replicate n ds).flatten.map Val.d)))) : Ev K (tOp (rMul K) (tLst ta) tb) r m Q := fun σ H G S L R k =>
  h σ H G S L _ fun vs H1 G1 xs m1 ⟨ds, hx, hl, h1⟩ S1 e1 r1 => by
    subst hx
    have hA := r1.toAll
    refine ⟨by rw [hA.length]; exact Nat.le_trans hl (by decide), fun p hp => ?_⟩
    have hg := S1.free hp
    refine h1 σ _ (upd G1 p (.lst vs)) (S1.fix hp) (L.mono (e1.trans (Le.new hg))) _ fun w H2 G2 y m2 ⟨n, hy, hn, q⟩ S2 e2 r2 => ?_
    subst hy
    have r2 := int_of r2
    subst r2
    have en : ((n : Int)).toNat = n := by omega
    refine Or.inr (Or.inr (Or.inr ⟨p, (n : Int), vs, rfl, rfl, S2.sub _ _ (e2 _ _ upd_same), by omega, by omega, ?_, fun l hl => ?_⟩))
    · rw [en, hA.length]
      exact Nat.le_trans (Nat.mul_le_mul hl hn) (by decide)
    · rw [en]
      have hB : RpAll K G2 ds vs := RpAll.mono ((Le.new hg).trans e2) ds vs hA
      exact k _ _ G2 _ _ (q l (S2.freeM hl)) (S2.new hl ⟨_, upd_same, VRs.ofAll (hB.rep n)⟩) (e1.trans ((Le.new hg).trans e2)) .v
end
end DL
namespace DL
open PySem L2
def f_needNumber : FSp := fun args m R => ∃ i lo hi : Int, args = [.d (.int i), .d (.int lo), .d (.int hi)] ∧ lo ≤ i ∧ i ≤ hi ∧ R (.d .none) m
def f_raised : FSp := fun args m R => ∃ (b : Int) (n : Nat), args = [.d (.int b), .d (.int (n : Int))] ∧ n ≤ 100 ∧ Bt b 60 ∧ R (.d (.int (b ^ n))) m
theorem Bt.pow {b : Int} {a : Nat} (h : Bt b a) : ∀ n : Nat, Bt (b ^ n) (a * n + 1)
  | 0 => by rw [Int.pow_zero]; exact bt_lit (n := 1) (by decide) (by omega)
  | n + 1 => by
    rw [Int.pow_succ]
    exact ((h.pow n).mul h).mono (by rw [Nat.mul_succ]; omega)
/-- all some of so many -/
def allS : Nat → List (List Nat)
  | 0 => [[]]
  | n + 1 => allS n ++ (allS n).map fun s => s ++ [n]
theorem allS_len : ∀ n, (allS n).length = 2 ^ n
  | 0 => rfl
  | n + 1 => by rw [allS, List.length_append, List.length_map, allS_len n, Nat.pow_succ]; omega
theorem allS_mem : ∀ n, ∀ s ∈ allS n, s.length ≤ n ∧ ∀ k ∈ s, k < n
  | 0, s, h => by
    have : s = [] := by simpa [allS] using h
    subst this
    exact ⟨Nat.le_refl _, fun k hk => nomatch hk⟩
  | n + 1, s, h => by
    rw [allS] at h
    rcases List.mem_append.mp h with h | h
    · obtain ⟨a, b⟩ := allS_mem n s h
      exact ⟨by omega, fun k hk => by have := b k hk; omega⟩
    · obtain ⟨t, ht, rfl⟩ := List.mem_map.mp h
      obtain ⟨a, b⟩ := allS_mem n t ht
      refine ⟨by rw [List.length_append]; show t.length + 1 ≤ n + 1; omega, fun k hk => ?_⟩
      rcases List.mem_append.mp hk with hk | hk
      · have := b k hk; omega
      · rw [List.mem_singleton.mp hk]; omega
theorem tupN_snoc (s : List Nat) (n : Nat) : PyData.tuple ((s.map fun (k : Nat) => (k : Int)).map PyData.int ++ [.int (n : Int)]) = tupN (s ++ [n]) := by
  unfold tupN
  rw [List.map_append, List.map_append]; rfl
theorem o2_addNi {K : PySem.W.Frag} {m : Mm} {Q : Val → Mm → Prop} {s : List Nat} {n : Nat} (h : s.length ≤ 1000) (q : Q (.d (tupN (s ++ [n]))) m) : Op2 K (rAdd K) (.d (tupN s)) (.d (.tuple [.int (n : Int)])) m Q :=
  o2_addT (by rw [List.length_map, List.length_map]; show s.length + 1 ≤ 100000; omega) (by rw [tupN_snoc]; exact q)
/-! rows by turns -/
end DL
namespace DL
open PySem L2
/-! shares as a text -/
end DL
namespace DL
open PySem L2
theorem Kinds.sub {n : Nat} {ks : List Nat} (h : Kinds n ks) : ks.Sublist (List.range n) := by
  have : ∀ (ks : List Nat) (m : Nat), ks.Pairwise (· < ·) → (∀ k ∈ ks, m ≤ k ∧ k < n) → ks.Sublist ((List.range n).drop m) := by
    intro ks
    induction ks with
    | nil => intro m _ _; exact List.nil_sublist _
    | cons k t ih =>
      intro m hp hl
      have hk := hl k (by simp)
      have hkn : k < (List.range n).length := by rw [List.length_range]; exact hk.2
      have hd : (List.range n).drop k = k :: (List.range n).drop (k + 1) := by
        rw [List.drop_eq_getElem_cons hkn, List.getElem_range]
      have h1 : (k :: t).Sublist ((List.range n).drop k) := by
        rw [hd]
        refine (ih (k + 1) (List.pairwise_cons.mp hp).2 fun x hx => ⟨?_, (hl x (by simp [hx])).2⟩).cons_cons k
        exact (List.pairwise_cons.mp hp).1 x hx
      refine h1.trans ?_
      have e : (List.range n).drop k = ((List.range n).drop m).drop (k - m) := by rw [List.drop_drop]; congr 1; omega
      rw [e]
      exact List.drop_sublist _ _
  exact this ks 0 h.up fun k hk => ⟨Nat.zero_le _, h.lt k hk⟩
theorem sub_filter {ks l : List Nat} (h : ks.Sublist l) : l.Nodup → (l.filter fun k => decide (k ∈ ks)) = ks := by
  induction h with
  | slnil => intro _; rfl
  | @cons l1 l2 a h ih =>
    intro nd
    have nd := List.nodup_cons.mp nd
    have ha : a ∉ l1 := fun hm => nd.1 (h.subset hm)
    rw [List.filter_cons, if_neg (by simp [ha])]
    exact ih nd.2
  | @cons_cons l1 l2 a h ih =>
    intro nd
    have nd := List.nodup_cons.mp nd
    rw [List.filter_cons, if_pos (by simp)]
    congr 1
    refine Eq.trans ?_ (ih nd.2)
    refine List.filter_congr fun x hx => ?_
    have hxa : x ≠ a := fun e => nd.1 (e ▸ hx)
    simp [hxa]
theorem Kinds.filter_eq {n : Nat} {ks : List Nat} (h : Kinds n ks) : (List.range n).filter (fun k => decide (k ∈ ks)) = ks := sub_filter h.sub List.nodup_range
theorem sumP_cons (ss : List Int) (k : Nat) (ks : List Nat) : sumP ss (k :: ks) = ss.getD k 0 + sumP ss ks := rfl
theorem sumP_split (ss : List Int) (p : Nat → Bool) : ∀ l : List Nat, sumP ss (l.filter p) + sumP ss (l.filter fun k => !p k) = sumP ss l
  | [] => rfl
  | a :: l => by
    have ih := sumP_split ss p l
    rw [sumP_cons]
    cases h : p a with
    | true =>
      rw [List.filter_cons, List.filter_cons, if_pos h, if_neg (by rw [h]; decide), sumP_cons]; omega
    | false =>
      rw [List.filter_cons, List.filter_cons, if_neg (by rw [h]; decide), if_pos (by rw [h]; rfl), sumP_cons]; omega
theorem sumP_range (ss : List Int) : sumP ss (List.range ss.length) = ss.sum := by
  unfold sumP
  congr 1
  refine List.ext_getElem (by simp) fun i h1 h2 => ?_
  rw [List.getElem_map, List.getElem_range, List.getD_eq_getElem?_getD, List.getElem?_eq_getElem h2]; rfl
theorem nat_ne {t : Nat} (ht : 0 < t) : ((t : Nat) : Rat) ≠ 0 := by
  intro e
  have e2 : (((t : Nat) : Int) : Rat) = ((0 : Int) : Rat) := by rw [Rat.intCast_natCast]; exact e
  have e3 : ((t : Nat) : Int) = 0 := Rat.intCast_inj.mp e2
  omega
end DL
namespace DL
open PySem L2 PySem.W
end DL
namespace DL
open PySem L2
/-! a display of one pair, its key a tuple -/
section
variable {prog : Program} {w : World} {A : Around} {E : Value → Shared → Prop} {s : Shared}
theorem wpAny_Dict_one {κ : Type} [DecidableEq κ] {knd : HeapKind prog w κ} {env : Env} {k v : Expr} {pos : Pos} {Q : Value → Shared → Prop} (hu : knd.room A)
    (h : wpAny (model prog w) A (evalPairs (pairTrees [some k] [v] env pos)) (fun vs s₁ => ∃ ps, CarriesH knd s₁.heap vs ps ∧ s₁.heap.DictOfH knd s.heap.objs.size [] ∧
      ∀ h' tk, h'.DictOfH knd s.heap.objs.size (storedAllH [] ps) → Heap.SameBut s.heap.objs.size s₁.heap h' → Q (.ref s.heap.objs.size) { s₁ with heap := h', toks := tk }) E
      { s with heap := s.heap.push { cls := .type "dict", data := .dict #[] } }) :
    wpAny (model prog w) A (eval (.Dict [some k] [v] pos) env) Q E s := by
  have hn := pairTrees_length [some k] [v] env pos rfl rfl
  rw [arm_eval_Dict, zip_pairTrees [some k] [v] env pos rfl rfl, dictDisplay_pairs _ (fun e => by rw [e] at hn; cases hn) (by rw [hn]; show 1 < 17; decide)]
  exact wpAny_bind (wpAny_standAt (wpAny_bind (wpAny_subDictH (knd := knd) (Q := fun d s' => wpAny (model prog w) A (pure (Value.ref d)) Q E s') hu (by rw [hn]; show 1 ≤ 15; decide)
    (wpAny_mono h (fun vs s₁ h₁ => by obtain ⟨ps, hc, hm, hq⟩ := h₁; exact ⟨ps, hc, hm, fun h' tk a b => wpAny_pure (hq h' tk a b)⟩) fun _ _ e => e))))
end
def tDisp1 (tk tv : TE) : TE := fun σ H Q => ∀ p, H p = none → tk σ (upd H p (.dT [])) fun x H1 => tv σ H1 fun y H2 => ∃ (b : Addr) (k : List Key), x = .ref b ∧ H2 b = some (.tup (k.map kV)) ∧ H2 p = some (.dT []) ∧ Q (.ref p) (upd H2 p (.dT [(k, y)]))
theorem pe_disp1 {X : Cx} {pos : Pos} {k v : Expr} {tk tv : TE} {j : Nat} (hr : Room j X.A) (hk : PE X k tk) (hv : PE X v tv) : PE X (.Dict [some k] [v] pos) (tDisp1 tk tv) := by
  refine ⟨fun pins s σ H Q I q => ?_⟩
  have hn := I.hok.fresh (Nat.le_refl s.heap.objs.size)
  have hun := hr.un
  have I1 := I.laid (a := s.heap.objs.size) (o := .dT []) (h' := s.heap.push { cls := .type "dict", data := .dict #[] }) (t' := s.toks) (fun _ _ q => Heap.get?_push_of_some _ q) (Nat.le_refl _) (dt_empty s.heap I.big)
  refine wpAny_Dict_one (knd := tupleKind (mixKind X.prog X.w)) (show X.A.units < cLine by omega) ?_
  refine pairTrees_cons_walk (thn (hk.run pins _ σ _ _ I1 (q _ hn)) fun u s1 ⟨x, H1, I2, rx, q1⟩ => thn (hv.run pins s1 σ H1 _ I2 q1) fun u2 s2 ⟨y, H2, I3, ry, q2⟩ => pairTrees_nil_walk ?_)
  obtain ⟨b, ks, rfl, hb, hp, q3⟩ := q2
  cases rx
  obtain ⟨z, hd, xs, rel, dd⟩ := dt_of I3.hok hp
  cases rel
  refine ⟨[(ks, b, u2)], ⟨rfl, rfl, key_of I3.hok hb, trivial⟩, dd, fun h' tk dd' hs => ⟨.ref s.heap.objs.size, _, ?_, rfl, q3⟩⟩
  obtain ⟨qo, es, ep, hq, h2, h3, h4, _, h5⟩ := dd'
  refine d_write (t' := tk) I3 (by rw [hp]; exact True.intro) hs ⟨qo, hq⟩ ⟨by show 1 ≤ sizeLine; decide, hd, _, ?_, qo, es, ep, hq, h2, h3, h4, h5⟩
  refine .cons ⟨rfl, ?_, ry⟩ .nil
  have hne : b ≠ s.heap.objs.size := fun e => by rw [e, hp] at hb; cases hb
  show upd H2 s.heap.objs.size (.dT [(ks, y)]) b = _
  rw [upd_ne hne]
  exact hb
/-! dicts at the level of data -/
def getV {κ : Type} [DecidableEq κ] (kvs : List (κ × Val)) (k : κ) : Option Val := (kvs.find? fun kv => decide (kv.1 = k)).map (·.2)
def putV {κ : Type} [DecidableEq κ] (kvs : List (κ × Val)) (k : κ) (v : Val) : List (κ × Val) :=
  if (kvs.any fun kv => decide (kv.1 = k)) then kvs.map (fun kv => if kv.1 = k then (kv.1, v) else kv) else kvs ++ [(k, v)]
section
variable {K : PySem.W.Frag} {G : Hp} {κ : Type} [DecidableEq κ]
theorem KVs.len : ∀ {kvs : List (κ × Val)} {es : List (κ × V)}, KVs K G kvs es → es.length = kvs.length
  | [], es, h => by
    have h : es = [] := h
    rw [h]; rfl
  | (k, r) :: t, es, h => by
    obtain ⟨v, u, rfl, _, h3⟩ := h
    rw [List.length_cons, List.length_cons, KVs.len h3]
theorem KVs.get (k : κ) : ∀ {kvs : List (κ × Val)} {es : List (κ × V)}, KVs K G kvs es → (∀ r, getV kvs k = some r → ∃ v, valV es k = some v ∧ VR K G r v) ∧ (getV kvs k = none → valV es k = none)
  | [], es, h => by
    have h : es = [] := h
    subst h
    exact ⟨(fun r e => nomatch e), fun _ => rfl⟩
  | (j, x) :: t, es, h => by
    obtain ⟨v, u, rfl, h2, h3⟩ := h
    obtain ⟨ih1, ih2⟩ := KVs.get k h3
    by_cases e : j = k
    · have e1 : getV ((j, x) :: t) k = some x := by simp [getV, List.find?_cons, e]
      rw [e1, valV_pos (p := (j, v)) e]
      exact ⟨fun r hr => ⟨v, rfl, by cases hr; exact h2⟩, fun z => nomatch z⟩
    · have e1 : getV ((j, x) :: t) k = getV t k := by simp [getV, List.find?_cons, e]
      rw [e1, valV_neg (p := (j, v)) e]
      exact ⟨ih1, ih2⟩
theorem KVs.any (k : κ) : ∀ {kvs : List (κ × Val)} {es : List (κ × V)}, KVs K G kvs es → (es.any fun kv => decide (kv.1 = k)) = (kvs.any fun kv => decide (kv.1 = k))
  | [], es, h => by
    have h : es = [] := h
    subst h; rfl
  | (j, x) :: t, es, h => by
    obtain ⟨v, u, rfl, h2, h3⟩ := h
    rw [List.any_cons, List.any_cons, KVs.any k h3]
theorem KVs.repl (k : κ) {y : Val} {v : V} (hv : VR K G y v) : ∀ {kvs : List (κ × Val)} {es : List (κ × V)}, KVs K G kvs es → KVs K G (kvs.map fun kv => if kv.1 = k then (kv.1, y) else kv) (es.map fun kv => if kv.1 = k then (kv.1, v) else kv)
  | [], es, h => by
    have h : es = [] := h
    subst h; exact rfl
  | (j, x) :: t, es, h => by
    obtain ⟨w, u, rfl, h2, h3⟩ := h
    rw [List.map_cons, List.map_cons]
    by_cases e : j = k
    · simp only [e, if_true]
      exact ⟨v, _, rfl, hv, by simpa [e] using KVs.repl k hv h3⟩
    · simp only [e, if_false]
      exact ⟨w, _, rfl, h2, by simpa [e] using KVs.repl k hv h3⟩
theorem KVs.snoc (k : κ) {y : Val} {v : V} (hv : VR K G y v) : ∀ {kvs : List (κ × Val)} {es : List (κ × V)}, KVs K G kvs es → KVs K G (kvs ++ [(k, y)]) (es ++ [(k, v)])
  | [], es, h => by
    have h : es = [] := h
    subst h; exact ⟨v, [], rfl, hv, rfl⟩
  | (j, x) :: t, es, h => by
    obtain ⟨w, u, rfl, h2, h3⟩ := h
    exact ⟨w, u ++ [(k, v)], rfl, h2, KVs.snoc k hv h3⟩
theorem KVs.put (k : κ) {y : Val} {v : V} {kvs : List (κ × Val)} {es : List (κ × V)} (h : KVs K G kvs es) (hv : VR K G y v) : KVs K G (putV kvs k y) (putK es k v) := by
  unfold putV putK
  rw [h.any k]
  split
  · exact h.repl k hv
  · exact h.snoc k hv
theorem putV_new {kvs : List (κ × Val)} {k : κ} (y : Val) (h : ∀ p ∈ kvs, p.1 ≠ k) : putV kvs k y = kvs ++ [(k, y)] := by
  unfold putV
  rw [if_neg]
  intro e
  obtain ⟨p, h1, h2⟩ := List.any_eq_true.mp e
  exact h p h1 (of_decide_eq_true h2)
end
/-- a key of whole numbers -/
def kI (ns : List Int) : List Key := ns.map Sum.inl
theorem kI_kV (ns : List Int) : (kI ns).map kV = ns.map V.int := by
  unfold kI
  rw [List.map_map]; rfl
theorem kI_inj {a b : List Int} (h : kI a = kI b) : a = b := List.map_inj_right (fun _ _ e => Sum.inl.inj e) |>.mp h
section
variable {K : PySem.W.Frag} {r : List Val} {m : Mm} {Q : Val → Mm → Prop} {ta tb tc te td ty tv tx : TE} {tt : TT} {N : List Val → Mm → Prop} {E : Val → Mm → Prop} {t : TS}
/-- the dict at p, as it may be read -/
def Dat (m : Mm) (p : Addr) (kvs : List (List Key × Val)) : Prop := m p = some (.dT kvs) ∨ ∃ od es, m p = some (.lk od es kvs)
theorem Dat.rd {p : Addr} {kvs : List (List Key × Val)} {H G : Hp} (h : Dat m p kvs) (S : Sta K m H G) : ∃ es, Rd H p (.dT es) ∧ KVs K G kvs es := by
  rcases h with h | ⟨od, es, h⟩
  · obtain ⟨es, h1, h2⟩ := S.mem p _ h
    exact ⟨es, Or.inl h1, h2⟩
  · obtain ⟨h1, h2⟩ := S.mem p _ h
    exact ⟨es, Or.inr ⟨od, h1⟩, h2⟩
theorem t_of {G : Hp} {ns : List Int} {v : V} (h : VR K G (.t ns) v) : ∃ b, v = .ref b ∧ G b = some (.tup ((kI ns).map kV)) := by
  cases h with
  | t h => exact ⟨_, rfl, by rw [kI_kV]; exact h⟩
theorem t_d {G : Hp} {ns : List Int} {v : V} (h : VR K G (.t ns) v) : VR K G (.d (tupI ns)) v := by
  cases h with
  | t h => exact .d (rp_tuple.mpr ⟨_, _, rfl, SqT.of h, rpa_ints ns⟩)
theorem ev_t2d (h : Ev K te r m fun x m1 => ∃ ns, x = .t ns ∧ Q (.d (tupI ns)) m1) : Ev K te r m Q := fun σ H G S L R k =>
  h σ H G S L R fun v H1 G1 x m1 ⟨ns, hx, q⟩ S1 e1 r1 => by
    subst hx
    exact k v H1 G1 _ m1 q S1 e1 (t_d r1)
theorem ev_varT {i : Nat} {ns : List Int} (h : r[i]? = some (.t ns)) (q : Q (.d (tupI ns)) m) : Ev K (tVar i) r m Q := ev_t2d (ev_var h (fun z => nomatch z) ⟨ns, rfl, q⟩)
theorem ev_varTN {i : Nat} {ks : List Nat} (h : r[i]? = some (.t (ks.map fun (k : Nat) => (k : Int)))) (q : Q (.d (tupN ks)) m) : Ev K (tVar i) r m Q := ev_varT h q
theorem ev_dget (h : Ev K td r m fun x m1 => ∃ p, x = .v (.ref p) ∧ Ev K ty r m1 fun y m2 => ∃ ns kvs z, y = .t ns ∧ Dat m2 p kvs ∧ getV kvs (kI ns) = some z ∧ Q z m2) : Ev K (tDGet td ty) r m Q := fun σ H G S L R k =>
  h σ H G S L _ fun v H1 G1 x m1 ⟨p, hx, h1⟩ S1 e1 r1 => h1 σ H1 G1 S1 (L.mono e1) _ fun w H2 G2 y m2 ⟨ns, kvs, z, hy, hd, hg, q⟩ S2 e2 r2 => by
    subst hx hy
    have r1 := r1.eq
    subst r1
    obtain ⟨b, rfl, hb⟩ := t_of r2
    obtain ⟨es, g1, g2⟩ := hd.rd S2
    obtain ⟨u, hu, ru⟩ := (g2.get (kI ns)).1 z hg
    exact ⟨p, u, rfl, Or.inr ⟨es, kI ns, b, g1, rfl, S2.sub _ _ hb, hu.symm⟩, k u H2 G2 z m2 q S2 (e1.trans e2) ru⟩
theorem dat_isD {p : Addr} {kvs : List (List Key × Val)} {H G : Hp} (h : Dat m p kvs) (S : Sta K m H G) : IsD H p := by
  obtain ⟨es, h1, _⟩ := h.rd S
  exact Or.inr ⟨es, h1⟩
/-- d.get(k, e) -/
theorem ev_dget2 (h : Ev K td r m fun x m1 => ∃ p kvs, x = .v (.ref p) ∧ Dat m1 p kvs ∧ Ev K ty r m1 fun y m2 => ∃ ns, y = .t ns ∧ Ev K tx r m2 fun z m3 => ∃ kvs', Dat m3 p kvs' ∧ Q ((getV kvs' (kI ns)).getD z) m3) : Ev K (tDGet2 td ty tx) r m Q := fun σ H G S L R k =>
  h σ H G S L _ fun v H1 G1 x m1 ⟨p, kvs, hx, hd1, h1⟩ S1 e1 r1 => by
    subst hx
    have r1 := r1.eq
    subst r1
    refine ⟨p, rfl, dat_isD hd1 S1, ?_⟩
    refine h1 σ H1 G1 S1 (L.mono e1) _ fun w H2 G2 y m2 ⟨ns, hy, h2⟩ S2 e2 r2 => h2 σ H2 G2 S2 (L.mono (e1.trans e2)) _ fun u H3 G3 z m3 ⟨kvs', hd, q⟩ S3 e3 r3 => ?_
    subst hy
    obtain ⟨b, rfl, hb⟩ := t_of r2
    obtain ⟨es, g1, g2⟩ := hd.rd S3
    refine ⟨valV es (kI ns), Or.inr ⟨es, kI ns, b, g1, rfl, S3.sub _ _ (e3 _ _ hb), rfl⟩, ?_⟩
    have e0 := e1.trans (e2.trans e3)
    cases hg : getV kvs' (kI ns) with
    | none =>
      rw [hg] at q
      rw [(g2.get (kI ns)).2 hg]
      exact k _ H3 G3 _ m3 q S3 e0 r3
    | some y =>
      rw [hg] at q
      obtain ⟨u', hu, ru⟩ := (g2.get (kI ns)).1 y hg
      rw [hu]
      exact k _ H3 G3 _ m3 q S3 e0 ru
theorem ev_dnew (q : ∀ p, m p = none → Q (.v (.ref p)) (put m p (.dT []))) : Ev K tDNewT r m Q := fun σ H G S L R k p hp =>
  k (.ref p) _ G _ _ (q p (S.freeM hp)) (S.new hp ⟨[], upd_same, rfl⟩) (Le.refl G) .v
/-- {k: e} -/
theorem ev_disp1 (h : ∀ p, m p = none → Ev K ta r (put m p (.dT [])) fun x m1 => ∃ ns, x = .t ns ∧ Ev K tv r m1 fun y m2 => m2 p = some (.dT []) ∧ Q (.v (.ref p)) (put m2 p (.dT [(kI ns, y)]))) : Ev K (tDisp1 ta tv) r m Q := fun σ H G S L R k p hp =>
  h p (S.freeM hp) σ _ G (S.new hp ⟨[], upd_same, rfl⟩) L _ fun v H1 G1 x m1 ⟨ns, hx, h1⟩ S1 e1 r1 => h1 σ H1 G1 S1 (L.mono e1) _ fun w H2 G2 y m2 ⟨hm, q⟩ S2 e2 r2 => by
    subst hx
    obtain ⟨b, rfl, hb⟩ := t_of r1
    obtain ⟨es, g1, g2⟩ := S2.mem p _ hm
    have g2 : es = [] := g2
    subst g2
    exact ⟨b, kI ns, rfl, S2.sub _ _ (e2 _ _ hb), g1, k (.ref p) _ G2 _ _ q (S2.chg hm ⟨_, upd_same, w, [], rfl, r2, rfl⟩) (e1.trans e2) .v⟩
/-- d[k] = e -/
theorem w_dput (h : Ev K tv r m fun x m1 => Ev K td r m1 fun y m2 => ∃ p, y = .v (.ref p) ∧ Ev K ty r m2 fun z m3 => ∃ ns kvs, z = .t ns ∧ m3 p = some (.dT kvs) ∧ kvs.length < 100000 ∧ N r (put m3 p (.dT (putV kvs (kI ns) x)))) : Wp K (sDPut td ty tv) r m N E := fun σ H G D S L a b =>
  h σ H G S L _ fun v H1 G1 x m1 h1 S1 e1 r1 => h1 σ H1 G1 S1 (L.mono e1) _ fun w H2 G2 y m2 ⟨p, hy, h2⟩ S2 e2 r2 => h2 σ H2 G2 S2 (L.mono (e1.trans e2)) _ fun u H3 G3 z m3 ⟨ns, kvs, hz, hm, hl, q⟩ S3 e3 r3 => by
    subst hy hz
    have r2 := r2.eq
    subst r2
    obtain ⟨bk, rfl, hb⟩ := t_of r3
    obtain ⟨es, g1, g2⟩ := S3.mem p _ hm
    have hput : KVs K G3 (putV kvs (kI ns) x) (putK es (kI ns) v) := g2.put (kI ns) (r1.mono (e2.trans e3))
    refine ⟨p, upd H3 p (.dT (putK es (kI ns) v)), rfl, DPut.t g1 (S3.sub _ _ hb) (Nat.lt_of_lt_of_le (by rw [g2.len]; exact hl) (by decide)), ?_⟩
    exact a σ _ G3 r _ q (S3.chg hm ⟨_, upd_same, hput⟩) (e1.trans (e2.trans e3)) (L.mono (e1.trans (e2.trans e3)))
/-- a tuple that is there, taken as one that stays -/
theorem Sta.adopt {H G : Hp} {q : Addr} {xs : List V} (S : Sta K m H G) (h : H q = some (.tup xs)) : Sta K m H (upd G q (.tup xs)) ∧ Le G (upd G q (.tup xs)) := by
  have le : Le G (upd G q (.tup xs)) := fun a o e => by
    by_cases ha : a = q
    · subst ha
      have := S.sub _ _ e
      rw [h] at this
      cases this
      exact upd_same
    · rw [upd_ne ha]; exact e
  have hm : m q = none := by
    cases e : m q with
    | none => rfl
    | some o =>
      have hM := S.mem q o e
      cases o with
      | lst rs => obtain ⟨_, g, _⟩ := hM; rw [h] at g; cases g
      | dT rs => obtain ⟨_, g, _⟩ := hM; rw [h] at g; cases g
      | dK rs => obtain ⟨_, g, _⟩ := hM; rw [h] at g; cases g
      | lk a b c => obtain ⟨g, _⟩ := hM; rw [h] at g; cases g
      | box => obtain ⟨_, g⟩ := hM; rw [h] at g; cases g
      | g P => exact absurd h (hM.2.2.2 xs)
  refine ⟨⟨fun a o e => ?_, fun a o e => (S.mem a o e).mono le rfl, fun a o e => ?_⟩, le⟩
  · by_cases ha : a = q
    · subst ha; rw [upd_same] at e; cases e; exact h
    · rw [upd_ne ha] at e; exact S.sub a o e
  · rw [upd_ne (fun z => by rw [z, hm] at e; cases e)]; exact S.dis a o e
/-- for k in a dict -/
theorem w_forD {j : Nat} {p : Addr} {kvs : List (List Int × Val)} (hm : m p = some (.dT (kvs.map fun kv => (kI kv.1, kv.2))))
    (h : ∀ od es, Ev K td r (put m p (.lk od es (kvs.map fun kv => (kI kv.1, kv.2)))) fun x m1 => x = .v (.ref p) ∧ m1 = put m p (.lk od es (kvs.map fun kv => (kI kv.1, kv.2))))
    (W : Nat → List Val → Mm → Prop) (h0 : W 0 r m)
    (hs : ∀ (i : Nat) (k : List Int) (z : Val) r' m' od es, kvs[i]? = some (k, z) → W i r' m' → m' p = some (.dT (kvs.map fun kv => (kI kv.1, kv.2))) →
      Wp K t (r'.set j (.t k)) (put m' p (.lk od es (kvs.map fun kv => (kI kv.1, kv.2)))) (fun r2 m2 => m2 p = some (.lk od es (kvs.map fun kv => (kI kv.1, kv.2))) ∧ W (i + 1) r2 (put m2 p (.dT (kvs.map fun kv => (kI kv.1, kv.2))))) (fun x m2 => m2 p = some (.lk od es (kvs.map fun kv => (kI kv.1, kv.2))) ∧ E x (put m2 p (.dT (kvs.map fun kv => (kI kv.1, kv.2))))))
    (hd : ∀ r' m', W kvs.length r' m' → N r' m') : Wp K (tLock (tFor (iKeys td) (gName j) t)) r m N E := fun σ H G D S L a b => by
  generalize hkk : kvs.map (fun kv => (kI kv.1, kv.2)) = kk at *
  obtain ⟨es, g1, g2⟩ := S.mem p _ hm
  have hlen : es.length = kvs.length := by rw [g2.len, ← hkk, List.length_map]
  have keyAt : ∀ (i : Nat) (k : List Key) (v : V), es[i]? = some (k, v) → ∃ kz, kvs[i]? = some kz ∧ k = kI kz.1 := by
    have aux : ∀ (kk : List (List Key × Val)) (es : List (List Key × V)) (i : Nat) (k : List Key) (v : V), KVs K G kk es → es[i]? = some (k, v) → ∃ z, kk[i]? = some (k, z) := by
      intro kk
      induction kk with
      | nil => intro es i k v h e; have h : es = [] := h; subst h; simp at e
      | cons p t ih =>
        intro es i k v h e
        obtain ⟨k0, r0⟩ := p
        obtain ⟨v0, u, rfl, _, h3⟩ := h
        cases i with
        | zero => simp at e; exact ⟨r0, by simp [e.1]⟩
        | succ i => simpa using ih u i k v h3 (by simpa using e)
    intro i k v he
    obtain ⟨z, hz⟩ := aux kk es i k v g2 he
    rw [← hkk, List.getElem?_map] at hz
    cases hx : kvs[i]? with
    | none => rw [hx] at hz; cases hz
    | some kz => rw [hx] at hz; cases hz; exact ⟨kz, rfl, rfl⟩
  refine ⟨p, .dT es, g1, trivial, fun od => ?_⟩
  have S1 : Sta K (put m p (.lk od es kk)) (upd H p (.frz od (.dT es))) G := S.chg hm ⟨upd_same, g2⟩
  refine h od es σ _ G S1 L _ fun v H1 G1 x m1 ⟨hx, hm1⟩ S2 e1 r1 => ?_
  subst hx hm1
  have r1 := r1.eq
  subst r1
  obtain ⟨g3, g4⟩ := S2.mem p _ put_same
  have back : ∀ {m' : Mm} {H' G' : Hp}, Sta K m' H' G' → m' p = some (.lk od es kk) → Sta K (put m' p (.dT kk)) (upd H' p (.dT es)) G' := fun {m' H' G'} S' hm' => S'.chg hm' ⟨es, upd_same, (S'.mem p _ hm').2⟩
  refine ⟨p, od, rfl, Or.inr ⟨es, g3, for_it (walk_keysT (kvs := es)) (fun i σ' H' => ∃ G' r' m', W i r' (put m' p (.dT kk)) ∧ m' p = some (.lk od es kk) ∧ Sta K m' H' G' ∧ Le G G' ∧ Sl K G' r' σ') ⟨G1, r, _, ?_, put_same, S2, e1, L.mono e1⟩ ?_ ?_ ?_⟩⟩
  · rw [put_put]
    have e : put m p (.dT kk) = m := by
      funext c
      unfold put
      by_cases hc : c = p
      · rw [if_pos hc, hc, hm]
      · rw [if_neg hc]
    rw [e]; exact h0
  · rintro i σ' H' hi ⟨G', r', m', _, hm', S', _, _⟩
    exact (S'.mem p _ hm').1
  · rintro i y σ' H' H2 hi ⟨G', r', m', hw, hm', S', e', L'⟩ ⟨rfl, k, v, q, hk, rfl, hq⟩
    obtain ⟨⟨ki, z⟩, hkz, rfl⟩ := keyAt i k v hk
    rw [kI_kV] at hq
    obtain ⟨S3, e3⟩ := S'.adopt hq
    have hmm : put (put m' p (.dT kk)) p (.lk od es kk) = m' := by
      rw [put_put]
      funext c
      unfold put
      by_cases hc : c = p
      · rw [if_pos hc, hc, hm']
      · rw [if_neg hc]
    have hW := hs i ki z r' (put m' p (.dT kk)) od es hkz hw put_same
    rw [hmm] at hW
    refine hW (σ'.set j (some (.ref q))) _ _ _ S3 ((L'.mono e3).set (r := .t ki) (.t upd_same) j) (fun σ3 H3 G3 r3 m3 ⟨h3, hw3⟩ S3 e4 L3 => ⟨G3, r3, m3, hw3, h3, S3, e'.trans (e3.trans e4), L3⟩) (fun v H3 G3 x m3 ⟨h3, hE⟩ S3 e4 L3 => ?_)
    exact ⟨(S3.mem p _ h3).1, b v _ G3 x _ hE (back S3 h3) (e'.trans (e3.trans e4)) L3⟩
  · rintro σ' H' ⟨G', r', m', hw, hm', S', e', L'⟩
    rw [hlen] at hw
    exact ⟨(S'.mem p _ hm').1, a σ' _ G' r' _ (hd r' _ hw) (back S' hm') e' L'⟩
end
end DL
namespace DL
open PySem L2
section
variable {K : PySem.W.Frag} {r : List Val} {m : Mm} {Q : Val → Mm → Prop} {ta tb tc te tl : TE} {tt : TT} {N : List Val → Mm → Prop} {E : Val → Mm → Prop} {t : TS}
/-! tuples of ints that the code makes -/
theorem VRs.ints {G : Hp} : ∀ {ns : List Int} {xs : List V}, VRs K G (ns.map fun n => .d (.int n)) xs → xs = ns.map V.int
  | [], xs, h => h
  | n :: ns, xs, h => by
    obtain ⟨x, u, rfl, h1, h2⟩ := h
    rw [int_of h1, VRs.ints h2]; rfl
theorem ev_tupT {t : TA} (h : EvA K t r m fun xs m1 => ∃ ns : List Int, xs = ns.map (fun n => Val.d (.int n)) ∧ ns.length ≤ 100000 ∧ Q (.t ns) m1) : Ev K (tTup t) r m Q := fun σ H G S L R k =>
  h σ H G S L _ fun vs H1 G1 xs m1 ⟨ns, hx, hl, q⟩ S1 e1 r1 => by
    subst hx
    have hv := r1.ints
    subst hv
    refine ⟨by rw [List.length_map]; exact Nat.le_trans hl (by decide), fun p hp => ?_⟩
    have hg := S1.free hp
    exact k (.ref p) _ (upd G1 p _) _ m1 q (S1.fix hp) (e1.trans (Le.new hg)) (.t upd_same)
theorem on_tupLt {ns : List Int} (q : Q (.t ns) m) : OpN K (rTupO K) [.d (.list (ns.map PyData.int))] m Q := fun H G vs S a R k => by
  obtain ⟨v, rfl, h⟩ := vrs1 a
  obtain ⟨p, xs, hv, h2, h3⟩ := rp_list.mp h.rp
  have hx := h3.ints
  subst hx
  refine ⟨p, _, by rw [hv], Or.inl ⟨Or.inl (Le.rd S.sub h2), fun l hl => ?_⟩⟩
  have hg := S.free hl
  exact k _ _ (upd G l _) _ m q (S.fix hl) (Le.new hg) (.t upd_same)
theorem on_tupLtN {ks : List Nat} (q : Q (.t (ks.map fun (k : Nat) => (k : Int))) m) : OpN K (rTupO K) [.d (.list (ks.map intN))] m Q := by
  have e : ks.map intN = (ks.map fun (k : Nat) => (k : Int)).map PyData.int := by rw [List.map_map]; rfl
  rw [e]
  exact on_tupLt q
theorem ev_tupR1t {n : Nat} (hn : n ≤ 100000) (h : Ev K ta r m fun x m1 => x = .d (.int (n : Int)) ∧ Q (.t ((List.range n).map fun (k : Nat) => (k : Int))) m1) : Ev K (tTupRg (tRg1 ta)) r m Q := fun σ H G S L R k =>
  h σ H G S L _ fun v H1 G1 x m1 ⟨hx, q⟩ S1 e1 r1 => by
    subst hx
    rw [int_of r1]
    have e : (n : Int) = ((0 + n : Nat) : Int) := by omega
    refine ⟨(n : Int), rfl, by rw [e]; exact rgok (a := 0) (n := n) (by omega), fun p hp => ?_⟩
    have hg := S1.free hp
    have e2 : rgV 0 (n : Int) = ((List.range n).map fun (k : Nat) => (k : Int)).map V.int := by
      unfold rgV
      rw [show ((n : Int) - 0).toNat = n by omega, List.map_map]
      exact List.map_congr_left fun i _ => by show V.int (0 + (i : Int)) = V.int (i : Int); rw [Int.zero_add]
    rw [e2]
    exact k _ _ (upd G1 p _) _ m1 q (S1.fix hp) (e1.trans (Le.new hg)) (.t upd_same)
theorem o2_addTt {a b : List Int} (hz : a.length + b.length ≤ 100000) (q : Q (.t (a ++ b)) m) : Op2 K (rAdd K) (.t a) (.t b) m Q := fun H G v w S x y R k => by
  cases x with
  | @t _ p h1 =>
    cases y with
    | @t _ p' h2 =>
      refine Or.inr (Or.inl ⟨p, p', a.map V.int, b.map V.int, rfl, rfl, S.sqT (SqT.of h1), S.sqT (SqT.of h2), ?_, fun e => ?_, fun _ e => ?_, fun _ _ l hl => ?_⟩)
      · rw [List.length_map, List.length_map]; exact Nat.le_trans hz (by decide)
      · have e := List.map_eq_nil_iff.mp e
        subst e
        exact k _ H G _ m q S (Le.refl G) (.t h2)
      · have e := List.map_eq_nil_iff.mp e
        subst e
        rw [List.append_nil] at q
        exact k _ H G _ m q S (Le.refl G) (.t h1)
      · have hg := S.free hl
        exact k _ _ (upd G l _) _ m q (S.fix hl) (Le.new hg) (.t (by rw [List.map_append]; exact upd_same))
/-! lists of them -/
theorem VRs.toT {G : Hp} : ∀ {nss : List (List Int)} {xs : List V}, VRs K G (nss.map Val.t) xs → TAll G nss xs
  | [], xs, h => h
  | ns :: r, xs, h => by
    obtain ⟨x, u, rfl, h1, h2⟩ := h
    obtain ⟨b, rfl, hb⟩ := t_of h1
    rw [kI_kV] at hb
    exact ⟨b, u, rfl, hb, VRs.toT h2⟩
theorem TAll.len {G : Hp} : ∀ {nss : List (List Int)} {xs : List V}, TAll G nss xs → xs.length = nss.length
  | [], xs, h => by
    have h : xs = [] := h
    rw [h]; rfl
  | ns :: r, xs, h => by
    obtain ⟨b, t, rfl, _, h3⟩ := h
    rw [List.length_cons, List.length_cons, TAll.len h3]
theorem TAll.at {G : Hp} : ∀ {nss : List (List Int)} {xs : List V} {i : Nat} {x : V}, TAll G nss xs → xs[i]? = some x → ∃ ns b, nss[i]? = some ns ∧ x = .ref b ∧ G b = some (.tup (ns.map V.int))
  | [], xs, i, x, h, e => by
    have h : xs = [] := h
    subst h; simp at e
  | ns :: r, xs, 0, x, h, e => by
    obtain ⟨b, t, rfl, h2, h3⟩ := h
    have e : V.ref b = x := by simpa using e
    exact ⟨ns, b, rfl, e.symm, h2⟩
  | ns :: r, xs, i + 1, x, h, e => by
    obtain ⟨b, t, rfl, h2, h3⟩ := h
    obtain ⟨n2, b2, e1, e2, e3⟩ := TAll.at (i := i) (x := x) h3 (by simpa using e)
    exact ⟨n2, b2, by simpa using e1, e2, e3⟩
theorem TAll.append {G : Hp} : ∀ {a b : List (List Int)} {xs ys : List V}, TAll G a xs → TAll G b ys → TAll G (a ++ b) (xs ++ ys)
  | [], b, xs, ys, h, g => by
    have h : xs = [] := h
    subst h; exact g
  | ns :: r, b, xs, ys, h, g => by
    obtain ⟨c, t, rfl, h2, h3⟩ := h
    exact ⟨c, t ++ ys, rfl, h2, TAll.append h3 g⟩
theorem ev_lstT {t : TA} (h : EvA K t r m fun xs m1 => ∃ nss : List (List Int), xs = nss.map Val.t ∧ nss.length ≤ 100000 ∧ Q (.lt nss) m1) : Ev K (tLst t) r m Q := fun σ H G S L R k =>
  h σ H G S L _ fun vs H1 G1 xs m1 ⟨nss, hx, hl, q⟩ S1 e1 r1 => by
    subst hx
    have hv := r1.toT
    refine ⟨by rw [hv.len]; exact Nat.le_trans hl (by decide), fun p hp => ?_⟩
    have hg := S1.free hp
    exact k (.ref p) _ (upd G1 p _) _ m1 q (S1.fix hp) (e1.trans (Le.new hg)) (.lt (Rd.of upd_same) (hv.mono (Le.new hg)))
theorem o2_addLt {a b : List (List Int)} (hz : a.length + b.length ≤ 100000) (q : Q (.lt (a ++ b)) m) : Op2 K (rAdd K) (.lt a) (.lt b) m Q := fun H G v w S x y R k => by
  cases x with
  | @lt _ p xs h1 h1' =>
    cases y with
    | @lt _ p' ys h2 h2' =>
      refine Or.inr (Or.inr (Or.inl ⟨p, p', xs, ys, rfl, rfl, Le.rd S.sub h1, Le.rd S.sub h2, ?_, fun l hl => ?_⟩))
      · rw [h1'.len, h2'.len]; exact Nat.le_trans hz (by decide)
      · have hg := S.free hl
        exact k _ _ (upd G l (.lst (xs ++ ys))) _ m q (S.fix hl) (Le.new hg) (.lt (Rd.of upd_same) ((h1'.append h2').mono (Le.new hg)))
theorem w_forLt {j : Nat} {nss : List (List Int)} (h : Ev K tl r m fun x m1 => x = .lt nss ∧ m1 = m) (W : Nat → List Val → Mm → Prop) (h0 : W 0 r m)
    (hs : ∀ (i : Nat) (ns : List Int) r' m', nss[i]? = some ns → W i r' m' → Wp K t (r'.set j (.t ns)) m' (W (i + 1)) E) (hd : ∀ r' m', W nss.length r' m' → N r' m') : Wp K (tFor (iList K tl) (gName j) t) r m N E := fun σ H G D S L a b =>
  h σ H G S L _ fun v H1 G1 x m1 ⟨hx, hm⟩ S1 e1 r1 => by
    subst hx hm
    cases r1 with
    | @lt _ p xs hs1 hA =>
      have hs1 : SqL K G1 p xs := Or.inl hs1
      refine ⟨p, rfl, ⟨xs, S1.sqL hs1⟩, for_list (xs := xs) (fun i σ' H' => ∃ G' r' m', W i r' m' ∧ Sta K m' H' G' ∧ Le G1 G' ∧ Sl K G' r' σ') ⟨G1, r, _, h0, S1, Le.refl G1, L.mono e1⟩ ?_ ?_ ?_⟩
      · rintro i σ' H' hi ⟨G', r', m', _, S', e', _⟩
        exact S'.sqL (e'.sqL hs1)
      · rintro i y σ' H' hy ⟨G', r', m', hw, S', e', L'⟩
        obtain ⟨ns, c, hns, rfl, hc⟩ := hA.at hy
        refine hs i ns r' m' hns hw (σ'.set j (some (.ref c))) H' G' _ S' (L'.set (r := .t ns) (.t (e' _ _ hc)) j) (fun σ3 H3 G3 r3 m3 h3 S3 e3 L3 => ⟨G3, r3, m3, h3, S3, e'.trans e3, L3⟩) (fun v H3 G3 x m3 n3 S3 e3 L3 => b v H3 G3 x m3 n3 S3 (e1.trans (e'.trans e3)) L3)
      · rintro σ' H' ⟨G', r', m', hw, S', e', L'⟩
        rw [hA.len] at hw
        exact a σ' H' G' r' m' (hd r' m' hw) S' (e1.trans e') L'
/-! comprehensions whose items are any values -/
def LcV (K : PySem.W.Frag) (m : Mm) (G : Hp) (D : Addr) (W : Nat → List Val → Prop) (i : Nat) (H' : Hp) : Prop :=
  ∃ G' acc, W i acc ∧ acc.length ≤ i ∧ Sta K (put m D (.lst acc)) H' G' ∧ Le G G'
theorem lcv_turn {G : Hp} {D : Addr} {W : Nat → List Val → Prop} {i : Nat} {σ : L2.St} {H' : Hp} {r' : List Val} (hm : m D = none) (hi : i < 100000) (L : ∀ G', Le G G' → Sl K G' r' σ)
    (hs : ∀ m' acc, Ext m m' → W i acc → EvT K tt r' m' fun b m2 => m2 = m' ∧ (b = true → Ev K te r' m' fun x m3 => m3 = m' ∧ W (i + 1) (acc ++ [x])) ∧ (b = false → W (i + 1) acc))
    (h : LcV K m G D W i H') : tt σ H' fun b H3 => if b = true then te σ H3 fun y H4 => ∃ acc, H4 D = some (.lst acc) ∧ acc.length < sizeLine ∧ LcV K m G D W (i + 1) (upd H4 D (.lst (acc ++ [y]))) else LcV K m G D W (i + 1) H3 := by
  obtain ⟨G', acc, hw, hl, S, e⟩ := h
  have hx : Ext m (put m D (.lst acc)) := fun a o ha => by
    rw [put_ne (ne_of_get ha hm)]; exact ha
  refine hs _ acc hx hw σ H' G' S (L G' e) _ fun H3 G3 b m3 ⟨e3, h1, h2⟩ S3 l3 => ?_
  subst e3
  cases b with
  | true =>
    show te σ H3 _
    refine h1 rfl σ H3 G3 S3 (L G3 (e.trans l3)) _ fun v H4 G4 x m4 ⟨e4, hw'⟩ S4 l4 r4 => ?_
    subst e4
    obtain ⟨xs, g1, g2⟩ := S4.mem D _ put_same
    have hlen := g2.length
    refine ⟨xs, g1, Nat.lt_of_lt_of_le (show xs.length < 100000 by omega) (by decide), G4, acc ++ [x], hw', by rw [List.length_append]; show acc.length + 1 ≤ i + 1; omega, ?_, e.trans (l3.trans l4)⟩
    have S5 := S4.chg (u := .lst (acc ++ [x])) (o := .lst (xs ++ [v])) put_same ⟨_, upd_same, g2.append ⟨v, [], rfl, r4, rfl⟩⟩
    rw [put_put] at S5
    exact S5
  | false =>
    show LcV K m G D W (i + 1) H3
    exact ⟨G3, acc, h2 rfl, by omega, S3, e.trans l3⟩
theorem lcv_end {G : Hp} {D : Addr} {W : Nat → List Val → Prop} {n : Nat} {H' : Hp} {R : VK} (hm : m D = none) (h : LcV K m G D W n H') (hd : ∀ acc, W n acc → ∃ nss, acc = nss.map Val.t ∧ Q (.lt nss) m)
    (k : ∀ v H' G' x m', Q x m' → Sta K m' H' G' → Le G G' → VR K G' x v → R v H') : R (.ref D) H' := by
  obtain ⟨G', acc, hw, hl, S, e⟩ := h
  obtain ⟨nss, rfl, q⟩ := hd acc hw
  obtain ⟨xs, g1, g2⟩ := S.mem D _ put_same
  have hg := S.dis D _ put_same
  have S2 := S.freeze put_same g1
  rw [del_put hm] at S2
  exact k _ H' _ _ m q S2 (e.trans (Le.new hg)) (.lt (Rd.of upd_same) (g2.toT.mono (Le.new hg)))
theorem lcv_start {H G : Hp} {D : Addr} {W : Nat → List Val → Prop} (S : Sta K m H G) (hD : H D = none) (h0 : W 0 []) : LcV K m G D W 0 (upd H D (.lst [])) :=
  ⟨G, [], h0, Nat.le_refl _, S.new hD ⟨[], upd_same, rfl⟩, Le.refl G⟩
theorem ev_lcLt {j : Nat} {nss : List (List Int)} (h : Ev K tl r m fun x m1 => x = .lt nss ∧ m1 = m) (hn : nss.length ≤ 100000) (W : Nat → List Val → Prop) (h0 : W 0 [])
    (hs : ∀ (i : Nat) (ns : List Int) m' acc, nss[i]? = some ns → Ext m m' → W i acc → EvT K tt (r.set j (.t ns)) m' fun b m2 => m2 = m' ∧ (b = true → Ev K te (r.set j (.t ns)) m' fun x m3 => m3 = m' ∧ W (i + 1) (acc ++ [x])) ∧ (b = false → W (i + 1) acc))
    (hd : ∀ acc, W nss.length acc → ∃ out, acc = out.map Val.t ∧ Q (.lt out) m) : Ev K (tLc (iList K tl) (gName j) tt te [j]) r m Q := fun σ H G S L R k =>
  h σ H G S L _ fun v H1 G1 x m1 ⟨hx, hm⟩ S1 e1 r1 => by
    subst hx hm
    cases r1 with
    | @lt _ p xs hs1 hA =>
      have hs1 : SqL K G1 p xs := Or.inl hs1
      refine ⟨p, rfl, ⟨xs, S1.sqL hs1⟩, fun D hD => ?_⟩
      have hmD := S1.freeM hD
      refine lc_list (xs := xs) (LcV K m1 G1 D W) (lcv_start S1 hD h0) ?_ ?_ ?_
      · rintro i H' hi ⟨G', acc, _, _, S', e'⟩
        exact S'.sqL (e'.sqL hs1)
      · intro i y H' hy hP
        obtain ⟨ns, c, hns, rfl, hc⟩ := hA.at hy
        have hi : i < 100000 := by
          have := (List.getElem?_eq_some_iff.mp hy).1
          rw [hA.len] at this
          omega
        refine ⟨wipe1 σ j _, lcv_turn hmD hi (fun G' e' => ?_) (fun m' acc hx hw => hs i ns m' acc hns hx hw) hP⟩
        have := (L.mono (e1.trans e')).set (r := .t ns) (.t (e' _ _ hc)) j
        show Sl K G' (r.set j (.t ns)) ((σ.set j none).set j (some (.ref c)))
        rw [List.set_set]
        exact this
      · intro H' hP
        rw [hA.len] at hP
        exact lcv_end hmD hP hd fun v H' G' x m' q S' e' r' => k v H' G' x m' q S' (e1.trans e') r'
theorem ev_mapLt {j : Nat} {nss : List (List Int)} (h : Ev K tl r m fun x m1 => x = .lt nss ∧ m1 = m) (hn : nss.length ≤ 100000) (f : List Int → List Int)
    (hs : ∀ (ns : List Int) m', ns ∈ nss → Ext m m' → Ev K te (r.set j (.t ns)) m' fun x m3 => x = .t (f ns) ∧ m3 = m') (q : Q (.lt (nss.map f)) m) : Ev K (tLc (iList K tl) (gName j) tYes te [j]) r m Q :=
  ev_lcLt h hn (fun i acc => acc = ((nss.take i).map f).map Val.t) (by simp) (fun i ns m' acc hd hx hw => evt_yes ⟨rfl, fun _ => (hs ns m' (List.mem_of_getElem? hd) hx).imp fun x m3 e => ⟨e.2, by rw [hw, take_one hd, List.map_append, List.map_append, e.1]; rfl⟩, (fun g => nomatch g)⟩)
    (fun acc hw => ⟨_, hw.trans (by rw [List.take_length]), q⟩)
theorem TAll.zip {G : Hp} : ∀ {nss : List (List Int)} {xs : List V}, TAll G nss xs → ((xs.zip nss).map (·.1) = xs ∧ (xs.zip nss).map (·.2) = nss ∧ ∀ b ∈ xs.zip nss, ∃ t, b.1 = .ref t ∧ G t = some (.tup (b.2.map V.int)))
  | [], xs, h => by
    have h : xs = [] := h
    subst h
    exact ⟨rfl, rfl, fun b hb => nomatch hb⟩
  | ns :: r, xs, h => by
    obtain ⟨c, t, rfl, h2, h3⟩ := h
    obtain ⟨a1, a2, a3⟩ := TAll.zip h3
    refine ⟨by rw [List.zip_cons_cons, List.map_cons, a1], by rw [List.zip_cons_cons, List.map_cons, a2], fun b hb => ?_⟩
    rw [List.zip_cons_cons] at hb
    rcases List.mem_cons.mp hb with rfl | hb
    · exact ⟨c, rfl, h2⟩
    · exact a3 b hb
/-! a key that a name holds -/
theorem ev_dgetV {td : TE} {i : Nat} {ns : List Int} (hk : r[i]? = some (.t ns)) (h : Ev K td r m fun x m1 => ∃ p kvs z, x = .v (.ref p) ∧ Dat m1 p kvs ∧ getV kvs (kI ns) = some z ∧ Q z m1) : Ev K (tDGet td (tVar i)) r m Q :=
  ev_dget (h.imp fun x m1 ⟨p, kvs, z, hx, hd, hg, q⟩ => ⟨p, hx, ev_var hk (fun h => nomatch h) ⟨ns, kvs, z, rfl, hd, hg, q⟩⟩)
theorem ev_dget2V {td tx : TE} {i : Nat} {ns : List Int} (hk : r[i]? = some (.t ns)) (h : Ev K td r m fun x m1 => ∃ p kvs, x = .v (.ref p) ∧ Dat m1 p kvs ∧ Ev K tx r m1 fun z m3 => ∃ kvs', Dat m3 p kvs' ∧ Q ((getV kvs' (kI ns)).getD z) m3) : Ev K (tDGet2 td (tVar i) tx) r m Q :=
  ev_dget2 (h.imp fun x m1 ⟨p, kvs, hx, hd, h2⟩ => ⟨p, kvs, hx, hd, ev_var hk (fun h => nomatch h) ⟨ns, rfl, h2⟩⟩)
theorem w_dputV {td tv : TE} {i : Nat} {ns : List Int} (hk : r[i]? = some (.t ns)) (h : Ev K tv r m fun x m1 => Ev K td r m1 fun y m2 => ∃ p kvs, y = .v (.ref p) ∧ m2 p = some (.dT kvs) ∧ kvs.length < 100000 ∧ N r (put m2 p (.dT (putV kvs (kI ns) x)))) : Wp K (sDPut td (tVar i) tv) r m N E :=
  w_dput (h.imp fun x m1 h1 => h1.imp fun y m2 ⟨p, kvs, hy, hm, hl, q⟩ => ⟨p, hy, ev_var hk (fun h => nomatch h) ⟨ns, kvs, rfl, hm, hl, q⟩⟩)
end
end DL
namespace DL
open PySem L2
abbrev kn (ks : List Nat) : List Int := ks.map fun (k : Nat) => (k : Int)
theorem kn_inj {a b : List Nat} (h : kn a = kn b) : a = b := List.map_inj_right (fun _ _ e => by omega) |>.mp h
/-! fractions from nought on, bounded -/
structure QB (q : Rat) (d v : Nat) : Prop where
  nn : 0 ≤ q
  le : q ≤ (v : Rat)
  den : q.den ≤ 2 ^ d
theorem QB.mono {q : Rat} {d v d' v' : Nat} (h : QB q d v) (hd : d ≤ d') (hv : v ≤ v') : QB q d' v' :=
  ⟨h.nn, Rat.le_trans h.le (Rat.natCast_le_natCast.mpr hv), Nat.le_trans h.den (Nat.pow_le_pow_right (by decide) hd)⟩
theorem den_mk_le (t : Int) (b : Nat) (hb : 0 < b) : (mkRat t b).den ≤ b := by
  rw [Rat.den_mkRat, if_neg (by omega)]
  exact Nat.div_le_self _ _
theorem QB.add {p q : Rat} {a b u v : Nat} (h : QB p a u) (g : QB q b v) : QB (p + q) (a + b) (u + v) := by
  refine ⟨Rat.add_nonneg h.nn g.nn, ?_, ?_⟩
  · have h1 := h.le
    have h2 := g.le
    rw [Rat.natCast_add]
    grind
  · rw [Rat.add_def']
    refine Nat.le_trans (den_mk_le _ _ (Nat.mul_pos (den_pos p) (den_pos q))) ?_
    rw [Nat.pow_add]
    exact Nat.mul_le_mul h.den g.den
/-! the time paper -/
theorem kinds_without {n : Nat} {s : List Nat} (h : Kinds n s) (k : Nat) : Kinds n (s.filter fun x => !decide (x = k)) := ⟨h.up.filter _, fun x hx => h.lt x (List.mem_filter.mp hx).1⟩
end DL
namespace DL
open PySem L2
def allSL (ks : List Nat) : List (List Nat) := ks.foldl (fun acc k => acc ++ acc.map fun s => s ++ [k]) [[]]
theorem allSL_snoc (ks : List Nat) (k : Nat) : allSL (ks ++ [k]) = allSL ks ++ (allSL ks).map fun s => s ++ [k] := by
  unfold allSL; rw [List.foldl_append]; rfl
theorem allSL_len (ks : List Nat) : (allSL ks).length = 2 ^ ks.length := by
  have gen : ∀ (ks : List Nat) (acc : List (List Nat)), (ks.foldl (fun acc k => acc ++ acc.map fun s => s ++ [k]) acc).length = acc.length * 2 ^ ks.length := by
    intro ks
    induction ks with
    | nil => intro acc; simp
    | cons k t ih => intro acc; rw [List.foldl_cons, ih, List.length_append, List.length_map, List.length_cons, Nat.pow_succ, ← Nat.mul_two, Nat.mul_assoc, Nat.mul_comm 2]
  have := gen ks [[]]
  simpa [allSL] using this
theorem allSL_mem_len {ks : List Nat} : ∀ s ∈ allSL ks, s.length ≤ ks.length := by
  have gen : ∀ (ks : List Nat) (acc : List (List Nat)) (c : Nat), (∀ a ∈ acc, a.length ≤ c) → ∀ s ∈ ks.foldl (fun acc k => acc ++ acc.map fun s => s ++ [k]) acc, s.length ≤ c + ks.length := by
    intro ks
    induction ks with
    | nil => intro acc c h s hs; exact h s hs
    | cons k t ih =>
      intro acc c h s hs
      rw [List.foldl_cons] at hs
      have := ih _ (c + 1) (fun a ha => by
        rcases List.mem_append.mp ha with ha | ha
        · have := h a ha; omega
        · obtain ⟨u, hu, rfl⟩ := List.mem_map.mp ha
          have := h u hu
          rw [List.length_append, List.length_singleton]; omega) s hs
      rw [List.length_cons]; omega
  intro s hs
  have := gen ks [[]] 0 (fun a ha => by rw [List.mem_singleton.mp ha]; exact Nat.le_refl _) s hs
  omega
def f_every : FSp := fun args m R => ∃ ss : List Int, args = [.d (tupI ss)] ∧ ss.length ≤ 1000 ∧ R (.t (kn (List.range ss.length))) m
theorem allS_nodup : ∀ n : Fin 6, (allS n).Nodup := by decide +kernel
theorem allS_without : ∀ n : Fin 6, ∀ s ∈ allS n, ∀ k ∈ s, (s.filter fun x => !decide (x = k)) ∈ allS n := by decide +kernel
theorem allS_kinds {n : Nat} {s : List Nat} (h : s ∈ allS n) : Kinds n s := ⟨allSup n s h, fun k hk => (allS_mem n s h).2 k hk⟩
  where allSup : ∀ n, ∀ s ∈ allS n, s.Pairwise (· < ·)
  | 0, s, h => by
    have : s = [] := by simpa [allS] using h
    subst this; exact List.Pairwise.nil
  | n + 1, s, h => by
    rw [allS] at h
    rcases List.mem_append.mp h with h | h
    · exact allSup n s h
    · obtain ⟨t, ht, rfl⟩ := List.mem_map.mp h
      exact List.pairwise_append.mpr ⟨allSup n t ht, List.pairwise_singleton .., fun x hx y hy => by rw [List.mem_singleton.mp hy]; exact (allS_mem n t ht).2 x hx⟩
theorem allS_range : ∀ n : Fin 6, List.range n ∈ allS n := by decide +kernel
theorem allS_nil : ∀ n, [] ∈ allS n
  | 0 => by simp [allS]
  | n + 1 => by rw [allS]; exact List.mem_append_left _ (allS_nil n)
/-! tables -/
end DL
namespace DL
open PySem L2 PyProof.Rows
section
variable {prog : Program} {w : World} {A : Around} {E : Value → Shared → Prop} {s : Shared}
/-- sorted of a tuple: what was collected stands in a heap of its own, the new list is laid behind it -/
theorem sorted_of_tup {l : Addr} {vs : List Value} {ltv : Value → Value → Bool} {Q : Value → Shared → Prop} (O : SrtO.Swo ltv) (hl : IsTup s.heap l vs.toArray) (hz : vs.length ≤ sizeLine)
    (hS : 2 ≤ vs.length → ∀ (h₁ : Heap) (a : Addr), SrtO.SortableO prog w A.in1.in1 { s with heap := h₁ } a vs ltv)
    (h : ∀ (h1 h2 : Heap) (out : List Value) (e : Nat), (∀ b o, s.heap.get? b = some o → h1.get? b = some o) → (∀ b o, h1.get? b = some o → h2.get? b = some o) → h2.get? h1.objs.size = some (seqObj "list" out.toArray e) →
      SrtO.Srtd ltv out → SrtO.Stb ltv out vs → Q (.ref h1.objs.size) { s with heap := h2 }) : wpAny (model prog w) A (call (.builtin "sorted") [.ref l]) Q E s := by
  obtain ⟨o, ho, hc, n, hd⟩ := hl
  apply Calls.call_function_entry kind_sorted plain_sorted entry_sorted (args_sorted1 _)
  unfold Builtin.«sorted»
  refine wpAny_bind (m := checkCount "sorted" 1 1 _) (wpAny_pure (wpAny_bind ?_))
  refine wpAny_collect_seq (T := "tuple") l (Or.inr rfl) ho hc hd (fun h1 hk => wpAny_bind (wpAny_newList ?_ (by rw [List.toList_toArray]; exact hz))) (by rw [List.size_toArray]; exact hz)
  have atL : (h1.push (seqObj "list" vs.toArray 0)).get? h1.objs.size = some (seqObj "list" vs.toArray 0) := Heap.get?_push_size _ rfl
  have sort := SrtO.list_sort_ord (prog := prog) (w := w) (A := A.in1.in1) (E := E) (s := { s with heap := h1.push (seqObj "list" vs.toArray 0) }) (R := fun fin s' => ∃ v, fin = .done (.ret v) ∧ Q (.ref h1.objs.size) s') O atL hz (fun h2 => hS h2 _ _) fun out hs hb => by
    obtain ⟨e, he⟩ := sortedHeap_at (out := out.toArray) atL
    refine ⟨_, rfl, h h1 _ out e hk (fun b ob hb1 => ?_) he hs hb⟩
    have hlt : b < h1.objs.size := Heap.lt_size hb1
    exact (sortedHeap_old (Nat.ne_of_lt hlt) (by rw [size_push']; exact Nat.lt_succ_of_lt hlt)).trans (Heap.get?_push_of_some _ hb1)
  exact wpAny_bind (wpAny_holding (wpAny_call_entry slot_list_sort ⟨_, atL, rfl⟩ entry_list_sort (wpAny_mono sort (fun fin s' hq => by
    obtain ⟨v, e1, e2⟩ := hq
    exact ⟨v, e1, wpAny_pure ⟨_, rfl, e2⟩⟩) fun _ _ e => e) (args_list_sort _)))
end
def rSortTup (K : PySem.W.Frag) : List V → Hp → VK → Prop := fun vs H Q => ∃ (a : Addr) (ns : List Int), vs = [V.ref a] ∧ SqT K H a (ns.map V.int) ∧
  ∀ (ns' : List Int) (p : Addr), ns'.Perm ns → ns'.Pairwise (· ≤ ·) → H p = none → Q (.ref p) (upd H p (.lst (ns'.map V.int)))
theorem cr_sortTup {X : Cx} : CallR X (.builtin "sorted") (rSortTup X.K) := by
  rintro pins s σ H vs us Q I r ⟨a, ns, rfl, hs, q⟩
  obtain ⟨its, rv, hl, hz⟩ := I.tuple hs
  rw [Vals.ref1 r]
  have hi := rv.ints
  rw [List.length_map] at hz
  have hil := rv.length
  rw [List.length_map] at hil
  refine sorted_of_tup SrtO.swo_int hl (by omega) (fun h2 _ _ => SrtO.ints_sortable hi h2) fun h1 h2 out e keep1 keep2 he h3 h4 => ?_
  obtain ⟨k1, k2, k3⟩ := SrtO.ints_out hi h3 h4
  have I1 := I.kept (h' := h1) (t' := s.toks) keep1
  have hfr := I1.hok.fresh (Nat.le_refl h1.objs.size)
  refine ⟨.ref h1.objs.size, _, I1.laid (t' := s.toks) (o := .lst ((out.map SrtO.iv).map V.int)) keep2 (Nat.le_refl _) ⟨?_, out, e, vals_of_ints k1, he⟩, rfl, q _ _ k2 k3 hfr⟩
  rw [List.length_map, k2.length_eq]
  exact hz
def rSortA (K : PySem.W.Frag) : List V → Hp → VK → Prop := fun vs H Q => rSortedI K vs H Q ∨ rSortTup K vs H Q
theorem kSorted {X : Cx} (K : PySem.W.Frag) (h : X.K = K := by rfl) : CallR X (.builtin "sorted") (rSortA K) := h ▸ (cr_sortedI.or cr_sortTup)
section
variable {K : PySem.W.Frag} {r : List Val} {m : Mm} {Q : Val → Mm → Prop}
theorem on_sortT {ns ns' : List Int} (hp : ns'.Perm ns) (hs : ns'.Pairwise (· ≤ ·)) (q : Q (.d (.list (ns'.map PyData.int))) m) : OpN K (rSortA K) [.d (tupI ns)] m Q := fun H G vs S a R k => by
  obtain ⟨v, rfl, h⟩ := vrs1 a
  obtain ⟨p, xs, rfl, h2, h3⟩ := rp_tuple.mp h.rp
  have hx := h3.ints
  subst hx
  refine Or.inr ⟨p, ns, rfl, S.sqT h2, fun n2 l hp2 hs2 hl => ?_⟩
  have e : n2 = ns' := (hp2.trans hp.symm).eq_of_pairwise (fun a b _ _ h1 h2 => Int.le_antisymm h1 h2) hs2 hs
  subst e
  have hg := S.free hl
  exact k _ _ (upd G l _) _ m q (S.fix hl) (Le.new hg) (.d (rp_list.mpr ⟨l, _, rfl, Rd.of upd_same, rpa_ints _⟩))
end
end DL
namespace DL
open PySem L2
def sgn (d : Nat) : Int := 1 - 2 * ((d : Int) % 2)
theorem sgn_succ (d : Nat) : sgn (d + 1) = - sgn d := by
  unfold sgn
  omega
def casesO (ss : List Int) (t : List Nat) (a : Int) (n : Nat) : Int := ((allSL t).map fun few => sgn (t.length - few.length) * (a + sumP ss few) ^ n).sum
def casesJ (ss : List Int) (t : List Nat) (n : Nat) : Int := ((allSL t).map fun few => sgn (t.length - few.length) * (sumP ss few) ^ n).sum
theorem casesJ_eq (ss : List Int) (t : List Nat) (n : Nat) : casesJ ss t n = casesO ss t 0 n := by
  unfold casesJ casesO
  congr 1
  exact List.map_congr_left fun few _ => by rw [Int.zero_add]
theorem sumP_snoc (ss : List Int) (t : List Nat) (k : Nat) : sumP ss (t ++ [k]) = sumP ss t + ss.getD k 0 := by
  unfold sumP
  rw [List.map_append, List.sum_append]; simp
theorem sum_map_sub {α : Type} (f g : α → Int) : ∀ l : List α, (l.map fun x => f x - g x).sum = (l.map f).sum - (l.map g).sum
  | [] => rfl
  | a :: l => by simp only [List.map_cons, List.sum_cons]; rw [sum_map_sub f g l]; omega
theorem sum_map_neg {α : Type} (f : α → Int) : ∀ l : List α, (l.map fun x => - f x).sum = - (l.map f).sum
  | [] => rfl
  | a :: l => by simp only [List.map_cons, List.sum_cons]; rw [sum_map_neg f l]; omega
theorem casesO_snoc (ss : List Int) (t : List Nat) (k : Nat) (a : Int) (n : Nat) : casesO ss (t ++ [k]) a n = casesO ss t (a + ss.getD k 0) n - casesO ss t a n := by
  unfold casesO
  rw [allSL_snoc, List.map_append, List.sum_append, List.map_map]
  have e1 : (allSL t).map (fun few => sgn ((t ++ [k]).length - few.length) * (a + sumP ss few) ^ n) = (allSL t).map fun few => - (sgn (t.length - few.length) * (a + sumP ss few) ^ n) := List.map_congr_left fun few hf => by
    have := allSL_mem_len few hf
    rw [List.length_append, List.length_singleton, show t.length + 1 - few.length = (t.length - few.length) + 1 by omega, sgn_succ, Int.neg_mul]
  have e2 : (allSL t).map ((fun few => sgn ((t ++ [k]).length - few.length) * (a + sumP ss few) ^ n) ∘ fun s => s ++ [k]) = (allSL t).map fun few => sgn (t.length - few.length) * (a + ss.getD k 0 + sumP ss few) ^ n := List.map_congr_left fun few hf => by
    show sgn ((t ++ [k]).length - (few ++ [k]).length) * (a + sumP ss (few ++ [k])) ^ n = _
    rw [List.length_append, List.length_append, sumP_snoc, List.length_singleton, show t.length + 1 - (few.length + 1) = t.length - few.length by omega, show a + (sumP ss few + ss.getD k 0) = a + ss.getD k 0 + sumP ss few by omega]
  rw [e1, e2, sum_map_neg]
  omega
theorem casesO_nil (ss : List Int) (a : Int) (n : Nat) : casesO ss [] a n = a ^ n := by
  simp [casesO, allSL, sgn, sumP]
def wo (t : List Nat) (k : Nat) : List Nat := t.filter fun x => !decide (x = k)
theorem wo_snoc {t : List Nat} {j k : Nat} (h : k ≠ j) : wo (t ++ [k]) j = wo t j ++ [k] := by
  unfold wo
  rw [List.filter_append, List.filter_cons, if_pos (by simp [h])]; rfl
theorem wo_last {t : List Nat} {k : Nat} (h : k ∉ t) : wo (t ++ [k]) k = t := by
  unfold wo
  rw [List.filter_append, List.filter_cons, if_neg (by simp), List.filter_eq_self.mpr fun x hx => by
    have : x ≠ k := fun e => h (e ▸ hx)
    simp [this]]
  simp
theorem casesO_rec (ss : List Int) : ∀ (r : List Nat), r.Nodup → ∀ (a : Int) (n : Nat),
    casesO ss r.reverse a (n + 1) = (a + sumP ss r.reverse) * casesO ss r.reverse a n + (r.reverse.map fun k => ss.getD k 0 * casesO ss (wo r.reverse k) a n).sum
  | [], _, a, n => by
    simp [casesO_nil, sumP, Int.pow_succ]
    rw [Int.mul_comm]
  | k :: r, nd, a, n => by
    obtain ⟨hk, nd⟩ := List.nodup_cons.mp nd
    have ih := casesO_rec ss r nd
    rw [List.reverse_cons]
    have hk2 : k ∉ r.reverse := fun h => hk (List.mem_reverse.mp h)
    generalize r.reverse = t at *
    rw [casesO_snoc, casesO_snoc, ih (a + ss.getD k 0) n, ih a n, sumP_snoc, List.map_append, List.sum_append]
    have e1 : t.map (fun j => ss.getD j 0 * casesO ss (wo (t ++ [k]) j) a n) = t.map fun j => ss.getD j 0 * casesO ss (wo t j) (a + ss.getD k 0) n - ss.getD j 0 * casesO ss (wo t j) a n := List.map_congr_left fun j hj => by
      have : k ≠ j := fun e => hk2 (e ▸ hj)
      rw [wo_snoc this, casesO_snoc, Int.mul_sub]
    rw [e1, sum_map_sub]
    simp only [List.map_cons, List.map_nil, List.sum_cons, List.sum_nil, wo_last hk2]
    generalize (t.map fun j => ss.getD j 0 * casesO ss (wo t j) (a + ss.getD k 0) n).sum = X
    generalize (t.map fun j => ss.getD j 0 * casesO ss (wo t j) a n).sum = Y
    generalize casesO ss t (a + ss.getD k 0) n = P
    generalize casesO ss t a n = R
    generalize sumP ss t = S
    generalize ss.getD k 0 = w
    grind
theorem casesJ_rec (ss : List Int) {t : List Nat} (h : t.Nodup) (n : Nat) : casesJ ss t (n + 1) = sumP ss t * casesJ ss t n + (t.map fun k => ss.getD k 0 * casesJ ss (wo t k) n).sum := by
  have := casesO_rec ss t.reverse (List.pairwise_reverse.mpr (h.imp fun h e => h e.symm)) 0 n
  rw [List.reverse_reverse] at this
  simp only [casesJ_eq]
  rw [this, Int.zero_add]
theorem casesO_zero (ss : List Int) : ∀ (r : List Nat) (a : Int), casesO ss r.reverse a 0 = if r = [] then 1 else 0
  | [], a => by simp [casesO_nil]
  | k :: r, a => by
    have h0 : ¬ (k :: r = []) := by simp
    rw [List.reverse_cons, casesO_snoc, casesO_zero ss r, casesO_zero ss r, Int.sub_self, if_neg h0]
theorem casesJ_zero (ss : List Int) (t : List Nat) : casesJ ss t 0 = if t = [] then 1 else 0 := by
  have := casesO_zero ss t.reverse 0
  rw [List.reverse_reverse] at this
  rw [casesJ_eq, this]
  simp
/-! bounds -/
theorem allSL_sub {ks : List Nat} : ∀ s ∈ allSL ks, s.Sublist ks := by
  have gen : ∀ (ks : List Nat) (acc : List (List Nat)), ∀ s ∈ ks.foldl (fun acc k => acc ++ acc.map fun s => s ++ [k]) acc, ∃ a ∈ acc, ∃ u, s = a ++ u ∧ u.Sublist ks := by
    intro ks
    induction ks with
    | nil => intro acc s hs; exact ⟨s, hs, [], by simp, List.Sublist.refl _⟩
    | cons k t ih =>
      intro acc s hs
      rw [List.foldl_cons] at hs
      obtain ⟨a, ha, u, rfl, hu⟩ := ih _ s hs
      rcases List.mem_append.mp ha with ha | ha
      · exact ⟨a, ha, u, rfl, hu.cons k⟩
      · obtain ⟨b, hb, rfl⟩ := List.mem_map.mp ha
        exact ⟨b, hb, k :: u, by simp, hu.cons_cons k⟩
  intro s hs
  obtain ⟨a, ha, u, rfl, hu⟩ := gen ks [[]] s hs
  rw [List.mem_singleton.mp ha]
  exact hu
theorem kinds_sub {n : Nat} {s t : List Nat} (h : Kinds n t) (hs : s.Sublist t) : Kinds n s := ⟨h.up.sublist hs, fun k hk => h.lt k (hs.subset hk)⟩
theorem natAbs_sum_le {α : Type} (f : α → Int) (B : Nat) : ∀ l : List α, (∀ x ∈ l, (f x).natAbs ≤ B) → ((l.map f).sum).natAbs ≤ l.length * B
  | [], _ => by simp
  | a :: l, h => by
    have h1 := h a (List.mem_cons_self ..)
    have h2 := natAbs_sum_le f B l fun x hx => h x (List.mem_cons_of_mem _ hx)
    simp only [List.map_cons, List.sum_cons, List.length_cons]
    have := Int.natAbs_add_le (f a) ((l.map f).sum)
    rw [Nat.succ_mul]
    omega
theorem pow_bt {x : Int} (h0 : 0 ≤ x) (h1 : x ≤ 45) {n : Nat} (hn : n ≤ 12) : Bt (x ^ n) 73 := by
  have hb : Bt x 6 := bt_lit (n := 6) (by show _ < 64; omega) (by decide)
  exact (hb.pow n).mono (by omega)
theorem sgn_bt (d : Nat) : Bt (sgn d) 1 := by
  show (sgn d).natAbs < 2
  unfold sgn; omega
theorem casesJ_bt {ss : List Int} (hs : Shares ss) {t : List Nat} (hk : Kinds ss.length t) {n : Nat} (hn : n ≤ 12) : Bt (casesJ ss t n) 80 := by
  have hl : (allSL t).length ≤ 32 := by
    rw [allSL_len]
    have h1 := hk.len
    have h2 := hs.few
    exact Nat.le_trans (Nat.pow_le_pow_right (by decide) (show t.length ≤ 5 by omega)) (by decide)
  have h := natAbs_sum_le (fun few => sgn (t.length - few.length) * (sumP ss few) ^ n) (2 ^ 74) (allSL t) fun few hf => by
    have hkf := kinds_sub hk (allSL_sub few hf)
    exact Nat.le_of_lt (Bt.mono ((sgn_bt _).mul (pow_bt (sumP_nonneg hs few) (sumP_le hs hkf) hn)) (by decide))
  refine Nat.lt_of_le_of_lt h (Nat.lt_of_le_of_lt (Nat.mul_le_mul_right _ hl) ?_)
  decide
/-! the turns -/
def insS (s : List Nat) (k : Nat) : List Nat := if k ∈ s then s else (s.filter fun x => decide (x < k)) ++ k :: s.filter fun x => decide (k < x)
theorem ins_all : ∀ n : Fin 6, ∀ s ∈ allS n, ∀ k : Fin 5, k.val < n.val → insS s k.val ∈ allS n ∧ (k.val ∉ s → (insS s k.val).isPerm (s ++ [k.val]) = true ∧ (insS s k.val).Pairwise (· ≤ ·)) := by decide +kernel
theorem ins_from : ∀ n : Fin 6, ∀ t ∈ allS n, ∀ k : Fin 5, k.val < n.val → (allS n).filter (fun s => decide (insS s k.val = t)) = if k.val ∈ t then [wo t k.val, t] else [] := by decide +kernel
def addF (G : List Nat → Int) (p : List Nat × Int) : List Nat → Int := fun u => if u = p.1 then G u + p.2 else G u
theorem addF_sum (u : List Nat) : ∀ (ps : List (List Nat × Int)) (G : List Nat → Int), (ps.foldl addF G) u = G u + (ps.map fun p => if u = p.1 then p.2 else 0).sum
  | [], G => by simp
  | p :: ps, G => by
    rw [List.foldl_cons, addF_sum u ps, List.map_cons, List.sum_cons]
    unfold addF
    split <;> omega
def rowP (ss : List Int) (F : List Nat → Int) (n : Nat) (s : List Nat) : List (List Nat × Int) := (List.range n).map fun k => (insS s k, F s * ss.getD k 0)
def turnP (ss : List Int) (F : List Nat → Int) (n : Nat) (l : List (List Nat)) : List (List Nat × Int) := (l.map (rowP ss F n)).flatten
theorem sum_flat {α : Type} (f : α → Int) : ∀ ls : List (List α), (ls.flatten.map f).sum = (ls.map fun l => (l.map f).sum).sum
  | [] => rfl
  | l :: ls => by rw [List.flatten_cons, List.map_append, List.sum_append, List.map_cons, List.sum_cons, sum_flat f ls]
theorem sum_swap {α β : Type} (f : α → β → Int) : ∀ (l : List α) (l2 : List β), (l.map fun a => (l2.map fun b => f a b).sum).sum = (l2.map fun b => (l.map fun a => f a b).sum).sum
  | [], l2 => by
    simp only [List.map_nil, List.sum_nil]
    induction l2 with
    | nil => rfl
    | cons b t ih => simp only [List.map_cons, List.sum_cons]; rw [← ih]; rfl
  | a :: l, l2 => by
    simp only [List.map_cons, List.sum_cons]
    rw [sum_swap f l l2]
    have gen : ∀ (g h : β → Int) (l2 : List β), (l2.map g).sum + (l2.map h).sum = (l2.map fun b => g b + h b).sum := by
      intro g h l2
      induction l2 with
      | nil => rfl
      | cons b t ih => simp only [List.map_cons, List.sum_cons]; rw [← ih]; omega
    exact gen _ _ l2
theorem sum_perm {l l' : List Int} (h : l.Perm l') : l.sum = l'.sum := by
  induction h with
  | nil => rfl
  | cons x _ ih => simp only [List.sum_cons, ih]
  | swap x y l => simp only [List.sum_cons]; omega
  | trans _ _ a b => exact a.trans b
theorem sum_ite_filter {α : Type} (p : α → Bool) (f : α → Int) : ∀ l : List α, (l.map fun x => if p x = true then f x else 0).sum = ((l.filter p).map f).sum
  | [] => rfl
  | a :: l => by
    rw [List.map_cons, List.sum_cons, sum_ite_filter p f l, List.filter_cons]
    cases h : p a with
    | true => simp
    | false => simp
/-- sums over those that are there are sums over all -/
theorem sum_support {A l : List (List Nat)} (hA : A.Nodup) (hl : l.Nodup) (hsub : ∀ s ∈ l, s ∈ A) (f : List Nat → Int) (h0 : ∀ s, s ∉ l → f s = 0) : (l.map f).sum = (A.map f).sum := by
  have e1 : (A.map f).sum = ((A.filter fun s => decide (s ∈ l)).map f).sum := by
    rw [← sum_ite_filter (fun s => decide (s ∈ l))]
    congr 1
    exact List.map_congr_left fun s _ => by
      by_cases h : s ∈ l
      · simp [h]
      · simp [h, h0 s h]
  rw [e1]
  refine sum_perm (List.Perm.map f ?_)
  refine (List.perm_ext_iff_of_nodup hl (hA.filter _)).mpr fun s => ?_
  rw [List.mem_filter]
  constructor
  · intro h; exact ⟨hsub s h, decide_eq_true h⟩
  · intro h; exact of_decide_eq_true h.2
theorem turn_eq {ss : List Int} (hs : Shares ss) {F : List Nat → Int} {l : List (List Nat)} (hl : l.Nodup) (hsub : ∀ s ∈ l, s ∈ allS ss.length) (h0 : ∀ s, s ∉ l → F s = 0) {t : List Nat} (ht : t ∈ allS ss.length) :
    ((turnP ss F ss.length l).foldl addF fun _ => 0) t = sumP ss t * F t + (t.map fun k => ss.getD k 0 * F (wo t k)).sum := by
  have hfew := hs.few
  have hkt := allS_kinds ht
  rw [addF_sum, Int.zero_add]
  unfold turnP
  rw [sum_flat, List.map_map]
  have e1 : l.map ((fun l => (l.map fun p => if t = p.1 then p.2 else 0).sum) ∘ rowP ss F ss.length) = l.map fun s => ((List.range ss.length).map fun k => if t = insS s k then F s * ss.getD k 0 else 0).sum := List.map_congr_left fun s _ => by
    show ((rowP ss F ss.length s).map _).sum = _
    unfold rowP
    rw [List.map_map]; rfl
  rw [e1, sum_support (allS_nodup ⟨ss.length, by omega⟩) hl hsub _ (fun s hs => by
    have hz := h0 s hs
    simp only [hz, Int.zero_mul, ite_self]
    induction List.range ss.length with
    | nil => rfl
    | cons a t ih => simp only [List.map_cons, List.sum_cons, ih]; rfl), sum_swap]
  have e2 : (List.range ss.length).map (fun k => ((allS ss.length).map fun s => if t = insS s k then F s * ss.getD k 0 else 0).sum) = (List.range ss.length).map fun k => if decide (k ∈ t) = true then ss.getD k 0 * F t + ss.getD k 0 * F (wo t k) else 0 := List.map_congr_left fun k hk => by
    have hk := List.mem_range.mp hk
    have e3 : (allS ss.length).map (fun s => if t = insS s k then F s * ss.getD k 0 else 0) = (allS ss.length).map fun s => if decide (insS s k = t) = true then F s * ss.getD k 0 else 0 := List.map_congr_left fun s _ => by
      by_cases h : t = insS s k
      · simp [h]
      · have : ¬ insS s k = t := fun e => h e.symm
        simp [h, this]
    rw [e3, sum_ite_filter (fun s => decide (insS s k = t)), ins_from ⟨ss.length, by omega⟩ t ht ⟨k, by omega⟩ hk]
    by_cases h : k ∈ t
    · simp only [h, if_true, decide_true, List.map_cons, List.map_nil, List.sum_cons, List.sum_nil]
      rw [Int.mul_comm (F (wo t k)), Int.mul_comm (F t)]; omega
    · simp only [h, if_false, decide_false]; rfl
  rw [e2, sum_ite_filter (fun k => decide (k ∈ t)), hkt.filter_eq]
  have e4 : ∀ l : List Nat, (l.map fun k => ss.getD k 0 * F t + ss.getD k 0 * F (wo t k)).sum = sumP ss l * F t + (l.map fun k => ss.getD k 0 * F (wo t k)).sum := by
    intro l
    induction l with
    | nil => simp [sumP]
    | cons a l ih => simp only [List.map_cons, List.sum_cons]; rw [ih, sumP_cons, Int.add_mul]; omega
  exact e4 t
/-! tables of whole numbers -/
def tabI (G : List Nat → Int) (l : List (List Nat)) : List (List Int × Val) := l.map fun s => (kn s, .d (.int (G s)))
def insL (l : List (List Nat)) (t : List Nat) : List (List Nat) := if t ∈ l then l else l ++ [t]
abbrev dI (kvs : List (List Int × Val)) : List (List Key × Val) := kvs.map fun kv => (kI kv.1, kv.2)
theorem getV_tabI {G : List Nat → Int} {l : List (List Nat)} (h0 : ∀ s, s ∉ l → G s = 0) (t : List Nat) : (getV (dI (tabI G l)) (kI (kn t))).getD (.d (.int 0)) = .d (.int (G t)) := by
  induction l with
  | nil => rw [h0 t (by simp)]; rfl
  | cons a l ih =>
    by_cases e : a = t
    · subst e
      simp [dI, tabI, getV, List.find?_cons]
    · have e2 : ¬ kI (kn a) = kI (kn t) := fun z => e (kn_inj (kI_inj z))
      have : getV (dI (tabI G (a :: l))) (kI (kn t)) = getV (dI (tabI G l)) (kI (kn t)) := by simp [dI, tabI, getV, List.find?_cons, e2]
      rw [this]
      by_cases hG : ∀ s, s ∉ l → G s = 0
      · exact ih hG
      · -- t itself
        by_cases ht : t ∈ l
        · have : ∀ (l : List (List Nat)), t ∈ l → getV (dI (tabI G l)) (kI (kn t)) = some (.d (.int (G t))) := by
            intro l
            induction l with
            | nil => intro h; cases h
            | cons b l ih2 =>
              intro h
              by_cases e3 : b = t
              · subst e3; simp [dI, tabI, getV, List.find?_cons]
              · have e4 : ¬ kI (kn b) = kI (kn t) := fun z => e3 (kn_inj (kI_inj z))
                have h5 : t ∈ l := by
                  rcases List.mem_cons.mp h with h | h
                  · exact absurd h.symm e3
                  · exact h
                have : getV (dI (tabI G (b :: l))) (kI (kn t)) = getV (dI (tabI G l)) (kI (kn t)) := by simp [dI, tabI, getV, List.find?_cons, e4]
                rw [this]; exact ih2 h5
          rw [this l ht]; rfl
        · have hz : G t = 0 := h0 t (by
            intro h
            rcases List.mem_cons.mp h with h | h
            · exact e h.symm
            · exact ht h)
          have : ∀ (l : List (List Nat)), t ∉ l → getV (dI (tabI G l)) (kI (kn t)) = none := by
            intro l
            induction l with
            | nil => intro _; rfl
            | cons b l ih2 =>
              intro h
              have e3 : b ≠ t := fun z => h (z ▸ List.mem_cons_self ..)
              have e4 : ¬ kI (kn b) = kI (kn t) := fun z => e3 (kn_inj (kI_inj z))
              have : getV (dI (tabI G (b :: l))) (kI (kn t)) = getV (dI (tabI G l)) (kI (kn t)) := by simp [dI, tabI, getV, List.find?_cons, e4]
              rw [this]; exact ih2 fun hm => h (List.mem_cons_of_mem _ hm)
          rw [this l ht, hz]; rfl
theorem getV_tabI_mem {G : List Nat → Int} {t : List Nat} : ∀ {l : List (List Nat)}, t ∈ l → getV (dI (tabI G l)) (kI (kn t)) = some (.d (.int (G t)))
  | [], h => nomatch h
  | b :: l, h => by
    by_cases e3 : b = t
    · subst e3; simp [dI, tabI, getV, List.find?_cons]
    · have e4 : ¬ kI (kn b) = kI (kn t) := fun z => e3 (kn_inj (kI_inj z))
      have h5 : t ∈ l := by
        rcases List.mem_cons.mp h with h | h
        · exact absurd h.symm e3
        · exact h
      have : getV (dI (tabI G (b :: l))) (kI (kn t)) = getV (dI (tabI G l)) (kI (kn t)) := by simp [dI, tabI, getV, List.find?_cons, e4]
      rw [this]; exact getV_tabI_mem h5
theorem putV_tabI {G : List Nat → Int} {l : List (List Nat)} (t : List Nat) (x : Int) : putV (dI (tabI G l)) (kI (kn t)) (.d (.int (G t + x))) = dI (tabI (addF G (t, x)) (insL l t)) := by
  unfold insL
  by_cases h : t ∈ l
  · rw [if_pos h]
    unfold putV
    have hany : ((dI (tabI G l)).any fun kv => decide (kv.1 = kI (kn t))) = true := List.any_eq_true.mpr ⟨(kI (kn t), Val.d (.int (G t))), List.mem_map.mpr ⟨(kn t, Val.d (.int (G t))), List.mem_map.mpr ⟨t, h, rfl⟩, rfl⟩, by simp⟩
    rw [if_pos hany]
    unfold dI tabI
    rw [List.map_map, List.map_map, List.map_map]
    refine List.map_congr_left fun s _ => ?_
    show (if kI (kn s) = kI (kn t) then (kI (kn s), Val.d (.int (G t + x))) else (kI (kn s), Val.d (.int (G s)))) = (kI (kn s), Val.d (.int (addF G (t, x) s)))
    by_cases e : s = t
    · subst e; simp [addF]
    · have e2 : ¬ kI (kn s) = kI (kn t) := fun z => e (kn_inj (kI_inj z))
      simp [addF, e, e2]
  · rw [if_neg h, putV_new]
    · unfold dI tabI
      rw [List.map_append, List.map_append]
      have e1 : l.map (fun s => (kn s, Val.d (.int (addF G (t, x) s)))) = l.map fun s => (kn s, Val.d (.int (G s))) := List.map_congr_left fun s hs => by
        have : s ≠ t := fun e => h (e ▸ hs)
        simp [addF, this]
      rw [e1]
      simp [addF]
    · intro p hp e
      obtain ⟨q, hq, rfl⟩ := List.mem_map.mp hp
      obtain ⟨s, hs, rfl⟩ := List.mem_map.mp hq
      exact h (kn_inj (kI_inj e) ▸ hs)
structure TabOk (n : Nat) (G : List Nat → Int) (l : List (List Nat)) : Prop where
  nd : l.Nodup
  sub : ∀ s ∈ l, s ∈ allS n
  off : ∀ s, s ∉ l → G s = 0
theorem TabOk.add {n : Nat} {G : List Nat → Int} {l : List (List Nat)} (h : TabOk n G l) {t : List Nat} (ht : t ∈ allS n) (x : Int) : TabOk n (addF G (t, x)) (insL l t) := by
  unfold insL
  by_cases hm : t ∈ l
  · rw [if_pos hm]
    refine ⟨h.nd, h.sub, fun s hs => ?_⟩
    have : s ≠ t := fun e => hs (e ▸ hm)
    simp [addF, this, h.off s hs]
  · rw [if_neg hm]
    refine ⟨List.nodup_append.mpr ⟨h.nd, List.pairwise_singleton .., fun a ha b hb => by rw [List.mem_singleton.mp hb]; exact fun e => hm (e ▸ ha)⟩, fun s hs => ?_, fun s hs => ?_⟩
    · rcases List.mem_append.mp hs with hs | hs
      · exact h.sub s hs
      · rw [List.mem_singleton.mp hs]; exact ht
    · have h1 : s ∉ l := fun z => hs (List.mem_append_left _ z)
      have h2 : s ≠ t := fun e => hs (List.mem_append_right _ (by rw [e]; simp))
      simp [addF, h2, h.off s h1]
theorem TabOk.len {n : Nat} {G : List Nat → Int} {l : List (List Nat)} (h : TabOk n G l) (hn : n ≤ 5) : l.length ≤ 32 := by
  have h1 : l.Perm ((allS n).filter fun s => decide (s ∈ l)) := (List.perm_ext_iff_of_nodup h.nd ((allS_nodup ⟨n, by omega⟩).filter _)).mpr fun s => by
    rw [List.mem_filter]
    constructor
    · intro z; exact ⟨h.sub s z, decide_eq_true z⟩
    · intro z; exact of_decide_eq_true z.2
  have h2 := h1.length_eq
  have h3 := List.length_filter_le (fun s => decide (s ∈ l)) (allS n)
  have h4 := allS_len n
  have h5 : 2 ^ n ≤ 2 ^ 5 := Nat.pow_le_pow_right (by decide) hn
  omega
/-! words -/
def GJ (ss : List Int) (n : Nat) : List Nat → Int := fun s => if s ∈ allS ss.length then casesJ ss s n else 0
theorem GJ_next {ss : List Int} (hs : Shares ss) {n : Nat} {l : List (List Nat)} (h : TabOk ss.length (GJ ss n) l) {G : List Nat → Int} {l' : List (List Nat)} (h' : TabOk ss.length G l')
    (e : G = (turnP ss (GJ ss n) ss.length l).foldl addF fun _ => 0) : G = GJ ss (n + 1) := by
  have hfew := hs.few
  funext t
  by_cases ht : t ∈ allS ss.length
  · rw [e, turn_eq hs h.nd h.sub h.off ht]
    have hkt := allS_kinds ht
    unfold GJ
    rw [if_pos ht, if_pos ht, casesJ_rec ss (hkt.up.imp fun h => Nat.ne_of_lt h)]
    congr 2
    exact List.map_congr_left fun k hk => by
      have hw : wo t k ∈ allS ss.length := allS_without ⟨ss.length, by omega⟩ t ht k hk
      rw [if_pos hw]
  · have : t ∉ l' := fun z => ht (h'.sub t z)
    rw [h'.off t this]
    unfold GJ
    rw [if_neg ht]
theorem GJ_bt {ss : List Int} (hs : Shares ss) {n : Nat} (hn : n ≤ 12) (s : List Nat) : Bt (GJ ss n s) 80 := by
  unfold GJ
  split
  · rename_i h; exact casesJ_bt hs (allS_kinds h) hn
  · exact bt_lit (n := 1) (by decide) (by decide)
theorem GJ_zero (ss : List Int) : TabOk ss.length (GJ ss 0) [[]] := by
  refine ⟨List.pairwise_singleton .., fun s h => by rw [List.mem_singleton.mp h]; exact allS_nil _, fun s h => ?_⟩
  unfold GJ
  split
  · rw [casesJ_zero, if_neg (fun e => h (by rw [e]; simp))]
  · rfl
def f_allSomeU : FSp := fun args m R => ∃ ks : List Nat, args = [.d (tupN ks)] ∧ ks.length ≤ 8 ∧ R (.lt ((allSL ks).map kn)) m
def f_casesOf : FSp := fun args m R => ∃ (ss : List Int) (s : List Nat) (n : Nat) (x : Val), args = [.d (tupI ss), x, .d (.int (n : Int))] ∧ (x = .d (tupN s) ∨ x = .t (kn s)) ∧ Shares ss ∧ Kinds ss.length s ∧ n ≤ 12 ∧ R (.d (.int (casesJ ss s n))) m
def f_shareBy : FSp := fun args m R => ∃ (ss : List Int) (n : Nat), args = [.d (tupI ss), .d (.int (n : Int))] ∧ Shares ss ∧ n ≤ 12 ∧ R (.d (frac (mkRat (casesJ ss (List.range ss.length) n) (ss.sum.toNat ^ n)))) m
def f_lawCases : FSp := fun args m R => ∃ (ss : List Int) (n : Nat), args = [.d (tupI ss), .d (.int (n : Int))] ∧ Shares ss ∧ n ≤ 12 ∧ ∀ p l, m p = none → TabOk ss.length (GJ ss n) l → R (.v (.ref p)) (put m p (.dT (dI (tabI (GJ ss n) l))))
def f_lawAllCases : FSp := fun args m R => ∃ (ss : List Int) (n : Nat), args = [.d (tupI ss), .d (.int (n : Int))] ∧ Shares ss ∧ n ≤ 12 ∧ R (.d (.int (ss.sum ^ n))) m
section
variable {K : PySem.W.Frag} {r : List Val} {m : Mm} {N : List Val → Mm → Prop} {E : Val → Mm → Prop} {t : TS}
theorem w_t2d {i : Nat} {ns : List Int} (hi : r[i]? = some (.t ns)) (h : Wp K t (r.set i (.d (tupI ns))) m N E) : Wp K t r m N E := fun σ H G D S L a b => by
  obtain ⟨v, hv, hr⟩ := L.get hi (fun z => nomatch z)
  have L2 := L.set (r := .d (tupI ns)) (t_d hr) i
  have e : σ.set i (some v) = σ := by
    refine List.ext_getElem? fun k => ?_
    by_cases hk : k = i
    · subst hk
      rw [List.getElem?_set_self (List.getElem?_eq_some_iff.mp hv).1, hv]
    · rw [List.getElem?_set_ne (Ne.symm hk)]
  rw [e] at L2
  exact h σ H G D S L2 a b
/-- less told of what may change -/
theorem w_less {m' : Mm} (hl : ∀ a o, m' a = some o → m a = some o) (h : Wp K t r m' N E) : Wp K t r m N E := fun σ H G D S L a b => h σ H G D (S.less hl) L a b
end
theorem tot_pow {ss : List Int} (hs : Shares ss) (n : Nat) : ss.sum ^ n = ((ss.sum.toNat ^ n : Nat) : Int) := by
  have := shares_sum hs
  have e : ss.sum = ((ss.sum.toNat : Nat) : Int) := by omega
  rw [Int.natCast_pow, ← e]
end DL
namespace DL
open PySem L2
section
variable {K : PySem.W.Frag} {r : List Val} {m : Mm} {Q : Val → Mm → Prop} {te td : TE} {tt : TT}
/-- [e for k in a dict] -/
theorem ev_lcD {j : Nat} {p : Addr} {kvs : List (List Int × Val)} (hm : m p = some (.dT (dI kvs)))
    (htd : ∀ m', Ev K td r m' fun x m1 => x = .v (.ref p) ∧ m1 = m') (hn : kvs.length ≤ 100000) (g : List Int × Val → PyData)
    (hs : ∀ (kv : List Int × Val) m', kv ∈ kvs → Dat m' p (dI kvs) → (∀ a o, a ≠ p → m a = some o → m' a = some o) → Ev K te (r.set j (.t kv.1)) m' fun x m3 => x = .d (g kv) ∧ m3 = m')
    (q : Q (.d (.list (kvs.map g))) m) : Ev K (tLockE (tLc (iKeys td) (gName j) tYes te [j])) r m Q := fun σ H G S L R k => by
  obtain ⟨es, g1, g2⟩ := S.mem p _ hm
  have hlen : es.length = kvs.length := by rw [g2.len]; show (kvs.map _).length = _; rw [List.length_map]
  have keyAt : ∀ (i : Nat) (k : List Key) (v : V), es[i]? = some (k, v) → ∃ kz, kvs[i]? = some kz ∧ k = kI kz.1 := by
    have aux : ∀ (kk : List (List Key × Val)) (es : List (List Key × V)) (i : Nat) (k : List Key) (v : V), KVs K G kk es → es[i]? = some (k, v) → ∃ z, kk[i]? = some (k, z) := by
      intro kk
      induction kk with
      | nil => intro es i k v h e; have h : es = [] := h; subst h; simp at e
      | cons p t ih =>
        intro es i k v h e
        obtain ⟨k0, r0⟩ := p
        obtain ⟨v0, u, rfl, _, h3⟩ := h
        cases i with
        | zero => simp at e; exact ⟨r0, by simp [e.1]⟩
        | succ i => simpa using ih u i k v h3 (by simpa using e)
    intro i k v he
    obtain ⟨z, hz⟩ := aux (dI kvs) es i k v g2 he
    unfold dI at hz
    rw [List.getElem?_map] at hz
    cases hx : kvs[i]? with
    | none => rw [hx] at hz; cases hz
    | some kz => rw [hx] at hz; cases hz; exact ⟨kz, rfl, rfl⟩
  refine ⟨p, .dT es, g1, trivial, fun od => ?_⟩
  have S1 : Sta K (put m p (.lk od es (dI kvs))) (upd H p (.frz od (.dT es))) G := S.chg hm ⟨upd_same, g2⟩
  refine htd _ σ _ G S1 L _ fun v H1 G1 x m1 ⟨hx, hm1⟩ S2 e1 r1 => ?_
  subst hx hm1
  have r1 := r1.eq
  subst r1
  obtain ⟨g3, g4⟩ := S2.mem p _ put_same
  refine ⟨p, od, rfl, Or.inr ⟨es, g3, fun D hD => ?_⟩⟩
  have hmD := S2.freeM hD
  have hpD : p ≠ D := ne_of_get (m := put m p (.lk od es (dI kvs))) put_same hmD
  refine lc_it (walk_keysT (kvs := es)) (LcW K (put m p (.lk od es (dI kvs))) G1 D (fun i acc => acc = (kvs.take i).map g)) (lc_start S2 hD (by simp)) ?_ ?_ ?_
  · rintro i H' hi ⟨G', acc, _, _, S', e'⟩
    exact (S'.mem p (.lk od es (dI kvs)) (by rw [put_ne hpD]; exact put_same)).1
  · rintro i y H' H2 hi hP ⟨rfl, ky, v, qa, hk, rfl, hq⟩
    obtain ⟨kz, hkz, rfl⟩ := keyAt i ky v hk
    rw [kI_kV] at hq
    have hkm := List.mem_of_getElem? hkz
    obtain ⟨G', acc, hw, hl, S', e'⟩ := hP
    obtain ⟨S3, e3⟩ := S'.adopt hq
    refine ⟨wipe1 σ j _, ?_⟩
    show te _ H2 _
    have hsl : Sl K (upd G' qa (.tup (kz.1.map V.int))) (r.set j (.t kz.1)) ((wipe σ [j]).set j (some (.ref qa))) := by
      have := (L.mono (e1.trans (e'.trans e3))).set (r := .t kz.1) (.t upd_same) j
      show Sl K _ (r.set j (.t kz.1)) ((σ.set j none).set j (some (.ref qa)))
      rw [List.set_set]
      exact this
    have hmD0 : m D = none := by rw [put_ne hpD.symm] at hmD; exact hmD
    refine hs kz _ hkm (Or.inr ⟨od, es, by rw [put_ne hpD]; exact put_same⟩) (fun a o ha ho => by rw [put_ne (ne_of_get ho hmD0), put_ne ha]; exact ho) _ H2 _ S3 hsl _ fun v4 H4 G4 x m4 ⟨hx4, hm4⟩ S4 l4 r4 => ?_
    subst hx4 hm4
    obtain ⟨xs, b1, b2⟩ := S4.mem D _ put_same
    have hlen4 := b2.length
    rw [List.length_map] at hlen4
    refine ⟨xs, b1, Nat.lt_of_lt_of_le (show xs.length < 100000 by omega) (by decide), G4, acc ++ [g kz], by show acc ++ [g kz] = (kvs.take (i + 1)).map g; rw [hw, take_one hkz, List.map_append]; rfl, by rw [List.length_append]; show acc.length + 1 ≤ i + 1; omega, ?_, e'.trans (e3.trans l4)⟩
    have S5 := S4.chg (u := .lst ((acc ++ [g kz]).map Val.d)) (o := .lst (xs ++ [v4])) put_same ⟨_, upd_same, by
      rw [List.map_append]
      exact b2.append ⟨v4, [], rfl, r4, rfl⟩⟩
    rw [put_put] at S5
    exact S5
  · intro H' hP
    rw [hlen] at hP
    obtain ⟨G', acc, hw, hl, S', e'⟩ := hP
    obtain ⟨xs, b1, b2⟩ := S'.mem D _ put_same
    have hg := S'.dis D _ put_same
    have S3 := S'.freeze put_same b1
    rw [del_put hmD] at S3
    obtain ⟨b3, b4⟩ := S3.mem p _ put_same
    have S4 := S3.chg (u := .dT (dI kvs)) (o := .dT es) put_same ⟨es, upd_same, b4⟩
    have em : put (put m p (.lk od es (dI kvs))) p (.dT (dI kvs)) = m := by
      rw [put_put]
      funext c
      unfold put
      by_cases hc : c = p
      · rw [if_pos hc, hc, hm]
      · rw [if_neg hc]
    rw [em] at S4
    refine ⟨b3, k _ _ _ _ m ?_ S4 (e1.trans (e'.trans (Le.new hg))) (.d (rp_list.mpr ⟨D, xs, rfl, Rd.of upd_same, RpAll.mono (Le.new hg) acc xs b2.toAll⟩))⟩
    have hw : acc = (kvs.take kvs.length).map g := hw
    rw [hw, List.take_length]
    exact q
end
/-! all together -/
theorem cases_sum_rev (ss : List Int) (n : Nat) : ∀ (r : List Nat) (a : Int), ((allSL r.reverse).map fun s => casesO ss s a n).sum = (a + sumP ss r.reverse) ^ n
  | [], a => by simp [allSL, casesO_nil, sumP]
  | k :: r, a => by
    rw [List.reverse_cons, allSL_snoc, List.map_append, List.sum_append, List.map_map]
    have e : (allSL r.reverse).map ((fun s => casesO ss s a n) ∘ fun s => s ++ [k]) = (allSL r.reverse).map fun s => casesO ss s (a + ss.getD k 0) n - casesO ss s a n := List.map_congr_left fun s _ => casesO_snoc ss s k a n
    rw [e, sum_map_sub, cases_sum_rev ss n r (a + ss.getD k 0), sumP_snoc]
    rw [show a + (sumP ss r.reverse + ss.getD k 0) = a + ss.getD k 0 + sumP ss r.reverse by omega]
    omega
theorem cases_sum (ss : List Int) (A : List Nat) (n : Nat) : ((allSL A).map fun s => casesJ ss s n).sum = (sumP ss A) ^ n := by
  have := cases_sum_rev ss n A.reverse 0
  rw [List.reverse_reverse, Int.zero_add] at this
  rw [← this]
  congr 1
  exact List.map_congr_left fun s _ => casesJ_eq ss s n
theorem without_all : ∀ n : Fin 6, ∀ k : Fin 5, k.val < n.val → (allS n).filter (fun s => !decide (k.val ∈ s)) = allSL (wo (List.range n) k.val) := by decide +kernel
theorem sumP_wo {ss : List Int} {k : Nat} (hk : k < ss.length) : sumP ss (wo (List.range ss.length) k) = ss.sum - ss.getD k 0 := by
  have h := sumP_split ss (fun x => !decide (x = k)) (List.range ss.length)
  rw [sumP_range] at h
  have e : (List.range ss.length).filter (fun x => !!decide (x = k)) = [k] := by
    have h1 : Kinds ss.length [k] := ⟨List.pairwise_singleton .., fun x hx => by rw [List.mem_singleton.mp hx]; exact hk⟩
    have h2 := h1.filter_eq
    rw [← h2]
    exact List.filter_congr fun x _ => by simp
  rw [e] at h
  have e2 : sumP ss [k] = ss.getD k 0 := by simp [sumP]
  unfold wo
  omega
theorem lack_count {n : Nat} {s : List Nat} (h : Kinds n s) : (n : Int) - (s.length : Int) = ((List.range n).map fun k => if (!decide (k ∈ s)) = true then (1 : Int) else 0).sum := by
  rw [sum_ite_filter (fun k => !decide (k ∈ s))]
  have h1 : ∀ l : List Nat, (l.map fun _ => (1 : Int)).sum = (l.length : Int) := by
    intro l
    induction l with
    | nil => rfl
    | cons a l ih => simp only [List.map_cons, List.sum_cons, ih, List.length_cons]; omega
  rw [h1]
  have h2 : ∀ l : List Nat, (l.filter fun k => decide (k ∈ s)).length + (l.filter fun k => !decide (k ∈ s)).length = l.length := by
    intro l
    induction l with
    | nil => rfl
    | cons a l ih =>
      rw [List.filter_cons, List.filter_cons]
      by_cases h : a ∈ s
      · simp only [h, decide_true, if_true, Bool.not_true, List.length_cons]; simp; omega
      · simp only [h, decide_false, Bool.not_false, if_true, List.length_cons]; simp; omega
  have h3 := h2 (List.range n)
  rw [h.filter_eq, List.length_range] at h3
  omega
/-- the lacking, told by the sets -/
theorem lack_eq {ss : List Int} (hs : Shares ss) {n : Nat} {l : List (List Nat)} (hT : TabOk ss.length (GJ ss n) l) :
    (l.map fun s => GJ ss n s * ((ss.length : Int) - (s.length : Int))).sum = ((List.range ss.length).map fun k => (ss.sum - ss.getD k 0) ^ n).sum := by
  have hfew := hs.few
  rw [sum_support (allS_nodup ⟨ss.length, by omega⟩) hT.nd hT.sub (fun s => GJ ss n s * ((ss.length : Int) - (s.length : Int))) (fun s h => by rw [hT.off s h, Int.zero_mul])]
  have e1 : (allS ss.length).map (fun s => GJ ss n s * ((ss.length : Int) - (s.length : Int))) = (allS ss.length).map fun s => ((List.range ss.length).map fun k => if (!decide (k ∈ s)) = true then casesJ ss s n else 0).sum := List.map_congr_left fun s hsa => by
    have hg : GJ ss n s = casesJ ss s n := if_pos hsa
    rw [hg, lack_count (allS_kinds hsa)]
    have gen : ∀ (c : Int) (l : List Nat), c * (l.map fun k => if (!decide (k ∈ s)) = true then (1 : Int) else 0).sum = (l.map fun k => if (!decide (k ∈ s)) = true then c else 0).sum := by
      intro c l
      induction l with
      | nil => simp
      | cons a l ih =>
        simp only [List.map_cons, List.sum_cons]
        rw [Int.mul_add, ih]
        split <;> simp
    exact gen _ _
  rw [e1, sum_swap]
  congr 1
  refine List.map_congr_left fun k hk => ?_
  have hk := List.mem_range.mp hk
  rw [sum_ite_filter (fun s => !decide (k ∈ s)), without_all ⟨ss.length, by omega⟩ ⟨k, by omega⟩ hk, cases_sum, sumP_wo hk]
theorem last_eq {ss : List Int} (hs : Shares ss) (n : Nat) : casesJ ss (List.range ss.length) (n + 1) = ss.sum * casesJ ss (List.range ss.length) n + ((List.range ss.length).map fun k => casesJ ss (wo (List.range ss.length) k) n * ss.getD k 0).sum := by
  rw [casesJ_rec ss List.nodup_range, sumP_range]
  congr 2
  exact List.map_congr_left fun k _ => Int.mul_comm _ _
theorem last_frac {a b c : Int} {t n : Nat} (ht : 0 < t) (h : a = (t : Int) * b + c) : mkRat a (t ^ (n + 1)) + -(mkRat b (t ^ n)) = mkRat c (t ^ (n + 1)) := by
  rw [Rat.mkRat_eq_div, Rat.mkRat_eq_div, Rat.mkRat_eq_div, h, Rat.intCast_add, Rat.intCast_mul, Rat.intCast_natCast, Nat.pow_succ, Rat.natCast_mul]
  have h1 := nat_ne ht
  have h2 := nat_ne (Nat.pow_pos (n := n) ht)
  generalize ((t : Nat) : Rat) = T at *
  generalize ((t ^ n : Nat) : Rat) = P at *
  generalize ((b : Int) : Rat) = B at *
  generalize ((c : Int) : Rat) = C at *
  grind
def f_lastShare : FSp := fun args m R => ∃ (ss : List Int) (n : Nat), args = [.d (tupI ss), .d (.int (n : Int))] ∧ Shares ss ∧ n ≤ 12 ∧ R (.d (frac (if n = 0 then 0 else mkRat ((List.range ss.length).map fun k => casesJ ss (wo (List.range ss.length) k) (n - 1) * ss.getD k 0).sum (ss.sum.toNat ^ n)))) m
def f_lacking : FSp := fun args m R => ∃ (ss : List Int) (n : Nat), args = [.d (tupI ss), .d (.int (n : Int))] ∧ Shares ss ∧ n ≤ 12 ∧ R (.d (frac (mkRat ((List.range ss.length).map fun k => (ss.sum - ss.getD k 0) ^ n).sum (ss.sum.toNat ^ n)))) m
theorem mk_add {a b : Int} {t : Nat} (h : 0 < t) : mkRat a t + mkRat b t = mkRat (a + b) t := by
  rw [Rat.mkRat_eq_div, Rat.mkRat_eq_div, Rat.mkRat_eq_div, Rat.intCast_add]
  have h1 := nat_ne h
  generalize ((t : Nat) : Rat) = T at *
  grind
end DL
namespace Law
open PySem L2 DL
def topS (i : Nat) : Stmt := PySem.Challenge.pw_kindsgathered_k09_the_last_kind_and_what.main.body.getD i (.Pass ⟨0, 0, 0, 0⟩)
local macro_rules | `(tactic| walk_at "dl1") => `(tactic| first
  | with_reducible refine w_seq ?_
  | with_reducible refine w_asg ?_
  | with_reducible refine w_ret ?_
  | with_reducible refine w_drop ?_
  | with_reducible refine w_if ?_
  | with_reducible refine w_par ?_
  | with_reducible refine evt_B ?_
  | with_reducible refine evt_test ?_
  | with_reducible refine evt_and ?_
  | with_reducible refine evt_or ?_
  | with_reducible refine evt_not ?_
  | with_reducible refine evt_yes ?_
  | with_reducible refine ev_lstMul ?_
  | with_reducible refine ev_op ?_
  | with_reducible refine ev_un ?_
  | with_reducible refine ev_callB ?_
  | with_reducible refine ev_call ?_
  | with_reducible refine eva_cons ?_
  | with_reducible refine eva_nil ?_
  | with_reducible refine evo_none ?_
  | with_reducible refine evo_some ?_
  | with_reducible refine ev_slL ?_
  | with_reducible refine ev_slT ?_
  | with_reducible refine ev_and ?_
  | with_reducible refine ev_or ?_
  | with_reducible refine ev_not ?_
  | with_reducible refine ev_chain ?_
  | with_reducible refine ev_tup ?_
  | with_reducible refine ev_if ?_
  | (refine ev_varTN rfl ?_)
  | (refine ev_varT rfl ?_)
  | (refine ev_var rfl (fun h => nomatch h) ?_)
  | with_reducible refine ev_cI ?_
  | with_reducible refine ev_cB ?_
  | with_reducible refine ev_cS ?_
  | with_reducible refine ev_cN ?_
  | with_reducible refine ev_cTy ?_)
local macro_rules | `(tactic| walk_at "dl2") => `(tactic| first
  | with_reducible refine o2_addI ?_
  | with_reducible refine o2_sub ?_
  | with_reducible refine o2_lt ?_
  | with_reducible refine o2_le ?_
  | with_reducible refine o2_gt ?_
  | with_reducible refine o2_ge ?_
  | with_reducible refine o2_eqI ?_
  | with_reducible refine o2_neI ?_
  | with_reducible refine o2_neS ?_
  | with_reducible refine o2_eqS ?_
  | with_reducible refine o1_neg ?_
  | with_reducible refine o2_isB ?_
  | with_reducible refine o2_isNotB ?_
  | with_reducible refine o2_inN ?_
  | with_reducible refine o2_notInN ?_
  | with_reducible refine on_abs ?_
  | with_reducible refine on_max ?_
  | with_reducible refine on_min ?_
  | with_reducible refine o2_ixF0 ?_
  | with_reducible refine o2_ixF1 ?_
  | with_reducible refine on_lenI ?_
  | with_reducible refine on_lenN ?_
  | with_reducible refine on_sumI ?_
  | with_reducible refine on_lenT ?_
  | with_reducible refine on_lenL ?_
  | with_reducible refine on_lenS ?_
  | with_reducible refine on_tupL ?_
  | with_reducible refine on_tupT ?_
  | with_reducible refine on_lstT ?_
  | with_reducible refine on_isiTup ?_
  | with_reducible refine on_isiInt ?_
  | with_reducible refine on_isiBool ?_
  | with_reducible refine on_isiStr ?_
  | with_reducible refine on_isiList ?_
  | with_reducible refine on_isiDict ?_
  | with_reducible refine on_sumL ?_
  | with_reducible refine on_sumT ?_
  | with_reducible refine on_all ?_
  | with_reducible refine on_any ?_
  | refine ⟨_, rfl, ?_⟩
  | refine ⟨_, _, rfl, ?_⟩
  | refine ⟨[], rfl, Nat.le_of_ble_eq_true rfl, ?_⟩
  | refine ⟨[_], rfl, Nat.le_of_ble_eq_true rfl, ?_⟩
  | refine ⟨[_, _], rfl, Nat.le_of_ble_eq_true rfl, ?_⟩
  | refine ⟨[_, _, _], rfl, Nat.le_of_ble_eq_true rfl, ?_⟩)
local macro_rules | `(tactic| walk_at "dl") => `(tactic| first | walk_at "dl1" | walk_at "dl2")
local macro_rules | `(tactic| walk_at "go") => `(tactic| repeat walk_at "dl")
section
variable {P : Program} {w : World} {K : PySem.W.Frag} {mg : Str → Option Value} {base : Heap}
variable {c_NoShares c_NoNumber c_GatherError : Addr}
abbrev s_is_whole : Stmt := topS 6
theorem sc_is_whole : FnScope ["thing"] ["thing"] (defScope s_is_whole) := ⟨rfl, rfl, rfl, by decide +kernel, rfl, by decide +kernel, by decide +kernel⟩
theorem ok_is_whole {a : Addr} {fd : FuncData} (F : Fun K "is_whole" "is_whole" s_is_whole a fd) (hm : mg "is_whole" = some (.ref a)) (z_isinstance : mg "isinstance" = none) (z_bool : mg "bool" = none) (z_int : mg "int" = none) :
    Cl P w K mg base 1 "is_whole" f_isWhole := by
  refine ⟨a, fd, ["thing"], fn_ok F sc_is_whole (fun args m R h => ?_) (fun cdv A outer s H E hr => ⟨_, (pss_one (ps_ret (pe_and (pe_callB (kIsi K) (by rfl) z_isinstance (by decide +kernel) (pa_cons (pv 0) (pa_cons (pe_bltn (v := .ty "int") (by rfl) z_int (by decide +kernel) rfl) pa_nil))) (pe_one (pe_not (pe_callB (kIsi K) (by rfl) z_isinstance (by decide +kernel) (pa_cons (pv 0) (pa_cons (pe_bltn (v := .ty "bool") (by rfl) z_bool (by decide +kernel) rfl) pa_nil)))))))), fun args m R h => ?_⟩), hm, F.kp, F.binds (ps := ["thing"]) fun _ _ _ _ _ _ us hl => match us, hl with | [_], _ => rfl⟩
  ·
    obtain ⟨_, rfl, _⟩ := h; rfl
  ·
    obtain ⟨x, rfl, q⟩ := h
    repeat walk_at "dl"
    refine ⟨fun hc => ?_, fun hc => ?_⟩
    · repeat walk_at "dl"
      have e : (!isBoo x) = isInt x := by cases x <;> simp_all [isBoo, isInt, isIntB]
      rw [e]
      exact q
    · have e : isInt x = false := by cases x <;> simp_all [isInt, isIntB]
      rw [e] at q
      exact q
abbrev s_greatest_common : Stmt := topS 7
theorem sc_greatest_common : FnScope ["one", "other"] ["one", "other"] (defScope s_greatest_common) := ⟨rfl, rfl, rfl, by decide +kernel, rfl, by decide +kernel, by decide +kernel⟩
theorem ok_greatest_common {a : Addr} {fd : FuncData} (F : Fun K "greatest_common" "greatest_common" s_greatest_common a fd) (hm : mg "greatest_common" = some (.ref a)) :
    Cl P w K mg base 1 "greatest_common" f_gcd := by
  refine ⟨a, fd, ["one", "other"], fn_ok F sc_greatest_common (fun args m R h => ?_) (fun cdv A outer s H E hr => ⟨_, (pss_cons (ps_while PassesOwn.never (pt_cmpR (kNe K hr) (pv 1) pe_int (nomark _)) (pss_one (ps_par (i := 0) (j := 1) rfl sc_greatest_common.nd rfl rfl (by decide) rfl rfl (pa_cons (pv 1) (pa_cons (pe_op oMod (pv 0) (pv 1)) pa_nil)) rfl)))
      (pss_one (ps_ret (pv 0)))), fun args m R h => ?_⟩), hm, F.kp, F.binds (ps := ["one", "other"]) fun _ _ _ _ _ _ us hl => match us, hl with | [_, _], _ => rfl⟩
  ·
    obtain ⟨_, _, rfl, _⟩ := h; rfl
  ·
    obtain ⟨a0, b0, rfl, q⟩ := h
    refine w_seq (w_while (fun n r m' => m' = m ∧ ∃ x y : Nat, n = y ∧ r = [.d (.int (x : Int)), .d (.int (y : Int))] ∧ Nat.gcd x y = Nat.gcd a0 b0) b0 ⟨rfl, a0, b0, rfl, rfl, rfl⟩ ?_)
    rintro n r m' ⟨rfl, x, y, rfl, rfl, hg⟩
    repeat walk_at "dl"
    refine ⟨fun hc => ?_, fun hc => ?_⟩
    · have hy : n ≠ 0 := by
        intro e
        rw [e] at hc
        simp at hc
      repeat walk_at "dl"
      refine o2_mod (by omega) ?_
      repeat walk_at "dl"
      refine ⟨x % n, Nat.mod_lt x (by omega), rfl, n, x % n, rfl, rfl, ?_⟩
      rw [← hg, Nat.gcd_comm n (x % n), ← Nat.gcd_rec, Nat.gcd_comm]
    · have hy : n = 0 := by
        have : ((n : Nat) : Int) = 0 := by simpa using hc
        omega
      subst hy
      repeat walk_at "dl"
      rw [Nat.gcd_zero_right] at hg
      rw [hg]
      exact q
abbrev s_raised : Stmt := topS 10
theorem sc_raised : FnScope ["number", "often", "found", "turn"] ["number", "often"] (defScope s_raised) := ⟨rfl, rfl, rfl, by decide +kernel, rfl, by decide +kernel, by decide +kernel⟩
theorem ok_raised {a : Addr} {fd : FuncData} (F : Fun K "raised" "raised" s_raised a fd) (hm : mg "raised" = some (.ref a)) (z_range : mg "range" = none) :
    Cl P w K mg base 1 "raised" f_raised := by
  refine ⟨a, fd, ["number", "often"], fn_ok F sc_raised (fun args m R h => ?_) (fun cdv A outer s H E hr => ⟨_, (pss_cons (ps_set (i := 2) sc_raised.nd rfl (by first | exact Or.inl rfl | exact Or.inr rfl) pe_int)
      (pss_cons (ps_for PassesOwn.never rfl (pi_range1 (by rfl) z_range (pa_cons (pv 1) pa_nil)) (pg_name (i := 3) sc_raised.nd rfl (by first | exact Or.inl rfl | exact Or.inr rfl)) (pss_one (ps_set (i := 2) sc_raised.nd rfl (by first | exact Or.inl rfl | exact Or.inr rfl) (pe_op (kMul K) (pv 2) (pv 0)))))
      (pss_one (ps_ret (pv 2))))), fun args m R h => ?_⟩), hm, F.kp, F.binds (ps := ["number", "often"]) fun _ _ _ _ _ _ us hl => match us, hl with | [_, _], _ => rfl⟩
  ·
    obtain ⟨_, _, rfl, _⟩ := h; rfl
  ·
    obtain ⟨b, n, rfl, hn, hb, q⟩ := h
    walk_at "go"
    refine w_forR1 (n := n) ?_ (by omega) (fun i r' m' => m' = m ∧ ∃ y, r' = [.d (.int b), .d (.int (n : Int)), .d (.int (b ^ i)), y]) ⟨rfl, .any, by rw [Int.pow_zero]; rfl⟩ ?_ ?_
    · walk_at "go"
      exact ⟨rfl, rfl⟩
    · rintro i r' m' hi ⟨rfl, y, rfl⟩
      walk_at "go"
      refine o2_mulI ((hb.pow i).cmul hb (by omega)) ?_
      refine ⟨rfl, .d (.int (i : Int)), ?_⟩
      rw [Int.pow_succ]
      rfl
    · rintro r' m' ⟨rfl, y, rfl⟩
      walk_at "go"
      exact q
abbrev s_sum_part : Stmt := topS 17
theorem sc_sum_part : FnScope ["shares", "some", "kind"] ["shares", "some"] (defScope s_sum_part) := ⟨rfl, rfl, rfl, by decide +kernel, rfl, by decide +kernel, by decide +kernel⟩
theorem ok_sum_part {a : Addr} {fd : FuncData} (F : Fun K "sum_part" "sum_part" s_sum_part a fd) (hm : mg "sum_part" = some (.ref a)) (z_sum : mg "sum" = none) :
    Cl P w K mg base 1 "sum_part" f_sumPart := by
  refine ⟨a, fd, ["shares", "some"], fn_ok F sc_sum_part (fun args m R h => ?_) (fun cdv A outer s H E hr => ⟨_, (pss_one (ps_ret (pe_callB (kSum K) (by rfl) z_sum (by decide +kernel) (pa_cons (pe_lc (own := [("kind", 2)]) rfl sc_sum_part.nd (kiT K (pv 1)) (blkOk_by (own := [("kind", 2)]) (N := ["shares", "some", "kind"]) (sc := defScope s_sum_part) (by decide +kernel)) (fun _ _ _ _ _ => (pg_name (i := 2) sc_sum_part.nd rfl (by first | exact Or.inl rfl | exact Or.inr rfl))) (fun _ _ _ _ _ => pts_nil) (fun _ _ _ _ _ => (pe_ix (kIx K) (pv 0) (pv 2) (fun _ _ => rfl)))) pa_nil)))), fun args m R h => ?_⟩), hm, F.kp, F.binds (ps := ["shares", "some"]) fun _ _ _ _ _ _ us hl => match us, hl with | [_, _], _ => rfl⟩
  ·
    obtain ⟨_, _, rfl, _⟩ := h; rfl
  ·
    obtain ⟨ss, ks, rfl, hz, hk, q⟩ := h
    repeat walk_at "dl"
    refine ev_mapT (ds := (ks.map fun (k : Nat) => (k : Int)).map PyData.int) ?_ (by rw [List.length_map, List.length_map]; omega) (fun d => .int (ss.getD (intOf d).toNat 0)) (fun i d m' hd hx => ?_) ?_
    · repeat walk_at "dl"
      exact ⟨rfl, rfl⟩
    · obtain ⟨k, hk1, rfl⟩ : ∃ k, k ∈ ks ∧ d = .int (k : Int) := by
        have := List.mem_of_getElem? hd
        rw [List.map_map] at this
        obtain ⟨k, h1, h2⟩ := List.mem_map.mp this
        exact ⟨k, h1, h2.symm⟩
      repeat walk_at "dl"
      refine o2_ixT (tupI_at (hk k hk1)) ?_
      exact ⟨rfl, rfl⟩
    · repeat walk_at "dl"
      have e : ((ks.map fun (k : Nat) => (k : Int)).map PyData.int).map (fun d => PyData.int (ss.getD (intOf d).toNat 0)) = (ks.map fun k => ss.getD k 0).map PyData.int := by
        rw [List.map_map, List.map_map, List.map_map]
        exact List.map_congr_left fun k _ => rfl
      rw [e]
      refine on_sumL ?_
      exact q
abbrev s_all_some : Stmt := topS 18
theorem sc_all_some : FnScope ["kinds", "found", "kind", "some"] ["kinds"] (defScope s_all_some) := ⟨rfl, rfl, rfl, by decide +kernel, rfl, by decide +kernel, by decide +kernel⟩
theorem ok_all_some {a : Addr} {fd : FuncData} (F : Fun K "all_some" "all_some" s_all_some a fd) (hm : mg "all_some" = some (.ref a)) :
    Cl P w K mg base 1 "all_some" f_allSomeU := by
  refine ⟨a, fd, ["kinds"], fn_ok F sc_all_some (fun args m R h => ?_) (fun cdv A outer s H E hr => ⟨_, (pss_cons (ps_set (i := 1) sc_all_some.nd rfl (by first | exact Or.inl rfl | exact Or.inr rfl) (pe_lst (pa_cons (pe_tup pa_nil) pa_nil)))
      (pss_cons (ps_for PassesOwn.never rfl (kiT K (pv 0)) (pg_name (i := 2) sc_all_some.nd rfl (by first | exact Or.inl rfl | exact Or.inr rfl)) (pss_one (ps_set (i := 1) sc_all_some.nd rfl (by first | exact Or.inl rfl | exact Or.inr rfl) (pe_op (kAdd K) (pv 1) (pe_lc (own := [("some", 3)]) rfl sc_all_some.nd (kiL K (pv 1)) (blkOk_by (own := [("some", 3)]) (N := ["kinds", "found", "kind", "some"]) (sc := defScope s_all_some) (by decide +kernel)) (fun _ _ _ _ _ => (pg_name (i := 3) sc_all_some.nd rfl (by first | exact Or.inl rfl | exact Or.inr rfl))) (fun _ _ _ _ _ => pts_nil) (fun _ _ _ _ _ => (pe_op (kAdd K) (pv 3) (pe_tup (pa_cons (pv 2) pa_nil)))))))))
      (pss_one (ps_ret (pv 1))))), fun args m R h => ?_⟩), hm, F.kp, F.binds (ps := ["kinds"]) fun _ _ _ _ _ _ us hl => match us, hl with | [_], _ => rfl⟩
  ·
    obtain ⟨_, rfl, _⟩ := h; rfl
  ·
    obtain ⟨ks, rfl, hn, q⟩ := h
    refine w_seq (w_asg (ev_lstT ?_))
    refine eva_cons (ev_tupT ?_)
    walk_at "dl1"
    refine ⟨[], rfl, by decide, ?_⟩
    walk_at "dl1"
    refine ⟨[[]], rfl, by decide, ?_⟩
    refine w_seq (w_forTf (xs := ks) (f := intN) ?_ (fun i r' m' => m' = m ∧ ∃ y, r' = [.d (tupN ks), .lt ((allSL (ks.take i)).map kn), y, .any]) ⟨rfl, _, rfl⟩ ?_ ?_)
    · walk_at "go"
      exact ⟨by rw [tupN_eq], rfl⟩
    · rintro i k r' m' hk ⟨rfl, y, rfl⟩
      have hl := allSL_len (ks.take i)
      have hp : (2 : Nat) ^ (ks.take i).length ≤ 2 ^ 8 := Nat.pow_le_pow_right (by decide) (by rw [List.length_take]; omega)
      refine w_asg (ev_op (ev_var (x := .lt ((allSL (ks.take i)).map kn)) rfl (fun h => nomatch h) ?_))
      refine ev_mapLt (nss := (allSL (ks.take i)).map kn) (ev_var rfl (fun h => nomatch h) ⟨rfl, rfl⟩) (by rw [List.length_map]; omega) (fun ns => ns ++ [(k : Int)]) (fun ns m2 hns hx => ?_) ?_
      · refine ev_op (ev_var (x := .t ns) rfl (fun h => nomatch h) (ev_tupT ?_))
        walk_at "go"
        obtain ⟨s, hs, rfl⟩ := List.mem_map.mp hns
        have := allSL_mem_len s hs
        rw [List.length_take] at this
        refine o2_addTt (by rw [List.length_map]; show s.length + 1 ≤ 100000; omega) ⟨rfl, rfl⟩
      · refine o2_addLt (by rw [List.length_map, List.length_map, List.length_map]; omega) ?_
        refine ⟨rfl, .d (.int (k : Int)), ?_⟩
        rw [take_one hk, allSL_snoc, List.map_append, List.map_map, List.map_map]
        have e : (allSL (ks.take i)).map ((fun ns => ns ++ [(k : Int)]) ∘ kn) = (allSL (ks.take i)).map (kn ∘ fun s => s ++ [k]) := List.map_congr_left fun s _ => by
          show kn s ++ [(k : Int)] = kn (s ++ [k])
          unfold kn
          rw [List.map_append]; rfl
        rw [e]
        rfl
    · rintro r' m' ⟨rfl, y, rfl⟩
      rw [List.take_length]
      refine w_ret (ev_var rfl (fun h => nomatch h) q)
abbrev s_every : Stmt := topS 22
theorem sc_every : FnScope ["shares"] ["shares"] (defScope s_every) := ⟨rfl, rfl, rfl, by decide +kernel, rfl, by decide +kernel, by decide +kernel⟩
theorem ok_every {a : Addr} {fd : FuncData} (F : Fun K "every" "every" s_every a fd) (hm : mg "every" = some (.ref a)) (z_range : mg "range" = none) (z_len : mg "len" = none) (z_tuple : mg "tuple" = none) :
    Cl P w K mg base 1 "every" f_every := by
  refine ⟨a, fd, ["shares"], fn_ok F sc_every (fun args m R h => ?_) (fun cdv A outer s H E hr => ⟨_, (pss_one (ps_ret (pe_tupRg rfl (by rfl) z_tuple (prg_1 (by rfl) z_range (pe_callB (kLen K) (by rfl) z_len (by decide +kernel) (pa_cons (pv 0) pa_nil)))))), fun args m R h => ?_⟩), hm, F.kp, F.binds (ps := ["shares"]) fun _ _ _ _ _ _ us hl => match us, hl with | [_], _ => rfl⟩
  ·
    obtain ⟨_, rfl, _⟩ := h; rfl
  ·
    obtain ⟨ss, rfl, hl, q⟩ := h
    refine w_ret (ev_tupR1t (n := ss.length) (by omega) ?_)
    walk_at "go"
    exact ⟨rfl, q⟩
abbrev s__law_cell : Stmt := topS 27
theorem sc__law_cell : FnScope ["_law_script", "_law_k"] ["_law_script", "_law_k"] (defScope s__law_cell) := ⟨rfl, rfl, rfl, by decide +kernel, rfl, by decide +kernel, by decide +kernel⟩
theorem ok__law_cell {a : Addr} {fd : FuncData} (F : Fun K "_law_cell" "_law_cell" s__law_cell a fd) (hm : mg "_law_cell" = some (.ref a)) (z_len : mg "len" = none) :
    Cl P w K mg base 1 "_law_cell" f_cell := by
  refine ⟨a, fd, ["_law_script", "_law_k"], fn_ok F sc__law_cell (fun args m R h => ?_) (fun cdv A outer s H E hr => ⟨_, (pss_cons (ps_if (pt_cmpR oLt (pv 1) (pe_callB (kLen K) (by rfl) z_len (by decide +kernel) (pa_cons (pv 0) pa_nil)) (nomark _)) (pss_one (ps_ret (pe_ix (kIx K) (pv 0) (pv 1) (fun _ _ => rfl)))) pss_nil)
      (pss_one (ps_ret pe_int))), fun args m R h => ?_⟩), hm, F.kp, F.binds (ps := ["_law_script", "_law_k"]) fun _ _ _ _ _ _ us hl => match us, hl with | [_, _], _ => rfl⟩
  ·
    obtain ⟨_, _, rfl, _⟩ := h; rfl
  ·
    obtain ⟨ns, k, rfl, q⟩ := h
    repeat walk_at "dl"
    by_cases hk : (k : Int) < (ns.length : Int)
    · refine br_t (decide_eq_true hk) ?_
      repeat walk_at "dl"
      refine o2_ixS (List.getElem?_eq_getElem (by omega)) ?_
      exact q _
    · refine br_f (decide_eq_false hk) (w_next ?_)
      repeat walk_at "dl"
      exact q _
abbrev s__law_mix : Stmt := topS 28
theorem sc__law_mix : FnScope ["_law_cell_here", "_law_k", "_law_some", "_law_stir"] ["_law_cell_here", "_law_k"] (defScope s__law_mix) := ⟨rfl, rfl, rfl, by decide +kernel, rfl, by decide +kernel, by decide +kernel⟩
theorem ok__law_mix {a : Addr} {fd : FuncData} (F : Fun K "_law_mix" "_law_mix" s__law_mix a fd) (hm : mg "_law_mix" = some (.ref a)) :
    Cl P w K mg base 1 "_law_mix" f_mix := by
  refine ⟨a, fd, ["_law_cell_here", "_law_k"], fn_ok F sc__law_mix (fun args m R h => ?_) (fun cdv A outer s H E hr => ⟨_, (pss_cons (ps_set (i := 2) sc__law_mix.nd rfl (by first | exact Or.inl rfl | exact Or.inr rfl) (pe_lst (pa_cons pe_int (pa_cons pe_int (pa_cons pe_int (pa_cons pe_int (pa_cons pe_int (pa_cons pe_int (pa_cons pe_int (pa_cons pe_int (pa_cons pe_int (pa_cons pe_int (pa_cons pe_int (pa_cons pe_int (pa_cons pe_int pa_nil)))))))))))))))
      (pss_cons (ps_set (i := 3) sc__law_mix.nd rfl (by first | exact Or.inl rfl | exact Or.inr rfl) (pe_op (kMul K) (pe_op (kAdd K) (pe_op oMod (pv 0) pe_int) pe_int) (pe_ix (kIx K) (pv 2) (pe_op oMod (pv 1) pe_int) (fun _ _ => rfl))))
      (pss_cons (ps_set (i := 3) sc__law_mix.nd rfl (by first | exact Or.inl rfl | exact Or.inr rfl) (pe_op (kAdd K) (pe_op (kAdd K) (pv 3) (pe_op (kMul K) pe_int (pv 1))) (pe_op (kMul K) pe_int (pe_op oFdv (pv 1) pe_int))))
      (pss_cons (ps_set (i := 3) sc__law_mix.nd rfl (by first | exact Or.inl rfl | exact Or.inr rfl) (pe_op oMod (pv 3) pe_int))
      (pss_one (ps_ret (pe_op oFdv (pe_op oMod (pe_op (kAdd K) (pe_op (kMul K) (pv 3) (pv 3)) (pe_op (kMul K) pe_int (pv 1))) pe_int) pe_int))))))), fun args m R h => ?_⟩), hm, F.kp, F.binds (ps := ["_law_cell_here", "_law_k"]) fun _ _ _ _ _ _ us hl => match us, hl with | [_, _], _ => rfl⟩
  ·
    obtain ⟨_, _, rfl, _⟩ := h; rfl
  ·
    obtain ⟨c, k, rfl, hk, q⟩ := h
    refine w_seq (w_asg (ev_lstD ?_))
    iterate 27 walk_at "dl1"
    refine ⟨([48271, 69621, 16807, 39373, 30269, 40014, 40692, 50021, 61687, 71993, 83869, 95561, 30307] : List Int).map PyData.int, rfl, Nat.le_of_ble_eq_true rfl, ?_⟩
    obtain ⟨v, hv, hv0, hv1⟩ : ∃ v : Int, atI (([48271, 69621, 16807, 39373, 30269, 40014, 40692, 50021, 61687, 71993, 83869, 95561, 30307] : List Int).map PyData.int) ((k : Int) % 13) = some (.int v) ∧ 0 ≤ v ∧ v < 131072 := by
      have h13 : k % 13 < 13 := Nat.mod_lt k (by decide)
      have e : (k : Int) % 13 = ((k % 13 : Nat) : Int) := by omega
      rw [e, atI_nth, List.getElem?_map, List.getElem?_eq_getElem (by simpa using h13)]
      refine ⟨_, rfl, ?_⟩
      have hm := List.getElem_mem (l := ([48271, 69621, 16807, 39373, 30269, 40014, 40692, 50021, 61687, 71993, 83869, 95561, 30307] : List Int)) (n := k % 13) (by simpa using h13)
      revert hm
      generalize ([48271, 69621, 16807, 39373, 30269, 40014, 40692, 50021, 61687, 71993, 83869, 95561, 30307] : List Int)[k % 13] = w
      intro hm
      simp only [List.mem_cons, List.mem_nil_iff, or_false] at hm
      omega
    have hc := Int.emod_nonneg c (show (2147483647 : Int) ≠ 0 by decide)
    have hc2 := Int.emod_lt_of_pos c (show (0 : Int) < 2147483647 by decide)
    repeat walk_at "dl"
    refine o2_mod (by decide) ?_
    repeat walk_at "dl"
    refine o2_mod (by decide) ?_
    refine o2_ixL hv ?_
    refine o2_mulI (cmul_small (by omega) (by omega)) ?_
    repeat walk_at "dl"
    refine o2_mulI (cmul_small (by decide) (by omega)) ?_
    repeat walk_at "dl"
    refine o2_fdv (cdiv_small (by decide) (by decide)) ?_
    refine o2_mulI (cmul_small (by decide) (by omega)) ?_
    repeat walk_at "dl"
    refine o2_mod (by decide) ?_
    generalize hs : ((c % 2147483647 + 12345) * v + 977 * (k : Int) + 7919 * ((k : Int) / 13)) = S
    have h1 := Int.emod_nonneg S (show (1000000007 : Int) ≠ 0 by decide)
    have h2 := Int.emod_lt_of_pos S (show (0 : Int) < 1000000007 by decide)
    generalize ht : S % 1000000007 = T at *
    repeat walk_at "dl"
    refine o2_mulI (cmul_small (by omega) (by omega)) ?_
    repeat walk_at "dl"
    refine o2_mulI (cmul_small (by decide) (by omega)) ?_
    repeat walk_at "dl"
    refine o2_mod (by decide) ?_
    repeat walk_at "dl"
    refine o2_fdv (cdiv_small (by decide) (by decide)) ?_
    have h3 := Int.emod_nonneg (T * T + 48271 * (k : Int)) (show (1000000007 : Int) ≠ 0 by decide)
    have h4 := Int.emod_lt_of_pos (T * T + 48271 * (k : Int)) (show (0 : Int) < 1000000007 by decide)
    exact q _ (by omega) (by omega)
abbrev s__law_take : Stmt := topS 30
theorem sc__law_take : FnScope ["_law_box_here", "_law_many", "_law_left", "_law_digit"] ["_law_box_here", "_law_many"] (defScope s__law_take) := ⟨rfl, rfl, rfl, by decide +kernel, rfl, by decide +kernel, by decide +kernel⟩
theorem ok__law_take {a : Addr} {fd : FuncData} (F : Fun K "_law_take" "_law_take" s__law_take a fd) (hm : mg "_law_take" = some (.ref a)) (z_divmod : mg "divmod" = none) :
    Cl P w K mg base 1 "_law_take" f_take := by
  refine ⟨a, fd, ["_law_box_here", "_law_many"], fn_ok F sc__law_take (fun args m R h => ?_) (fun cdv A outer s H E hr => ⟨_, (pss_cons (ps_asg (pe_callB cDivmod (by rfl) z_divmod (by decide +kernel) (pa_cons (pe_ix (kIx K) (pv 0) pe_int (fun _ _ => rfl)) (pa_cons (pv 1) pa_nil))) (kgT K (pg_tup (n := 2) rfl (pgs_cons (pg_name (i := 2) sc__law_take.nd rfl (by first | exact Or.inl rfl | exact Or.inr rfl)) (pgs_cons (pg_name (i := 3) sc__law_take.nd rfl (by first | exact Or.inl rfl | exact Or.inr rfl)) pgs_nil)))))
      (pss_cons (ps_asg (pv 2) (pg_sub (pv 0) pe_int set_list))
      (pss_one (ps_ret (pv 3))))), fun args m R h => ?_⟩), hm, F.kp, F.binds (ps := ["_law_box_here", "_law_many"]) fun _ _ _ _ _ _ us hl => match us, hl with | [_, _], _ => rfl⟩
  ·
    obtain ⟨_, _, rfl, _⟩ := h; rfl
  ·
    obtain ⟨p, k, rfl, hp, hk, hb, q⟩ := h
    refine w_seq (w_asg2 ?_)
    repeat walk_at "dl"
    refine o2_ixB hp fun n => ?_
    repeat walk_at "dl"
    refine on_divmod (hb.cdiv hk (by decide)) ?_
    repeat walk_at "dl"
    refine w_setB (p := p) ?_
    repeat walk_at "dl"
    refine ⟨rfl, ?_⟩
    repeat walk_at "dl"
    refine ⟨rfl, hp, ?_⟩
    repeat walk_at "dl"
    exact q _ (Int.emod_nonneg n (by omega)) (Int.emod_lt_of_pos n hk)
abbrev s__law_common : Stmt := topS 32
theorem sc__law_common : FnScope ["_law_one", "_law_other"] ["_law_one", "_law_other"] (defScope s__law_common) := ⟨rfl, rfl, rfl, by decide +kernel, rfl, by decide +kernel, by decide +kernel⟩
theorem ok__law_common {a : Addr} {fd : FuncData} (F : Fun K "_law_common" "_law_common" s__law_common a fd) (hm : mg "_law_common" = some (.ref a)) :
    Cl P w K mg base 1 "_law_common" f_gcd := by
  refine ⟨a, fd, ["_law_one", "_law_other"], fn_ok F sc__law_common (fun args m R h => ?_) (fun cdv A outer s H E hr => ⟨_, (pss_cons (ps_while PassesOwn.never (pt_cmpR (kNe K hr) (pv 1) pe_int (nomark _)) (pss_one (ps_par (i := 0) (j := 1) rfl sc__law_common.nd rfl rfl (by decide) rfl rfl (pa_cons (pv 1) (pa_cons (pe_op oMod (pv 0) (pv 1)) pa_nil)) rfl)))
      (pss_one (ps_ret (pv 0)))), fun args m R h => ?_⟩), hm, F.kp, F.binds (ps := ["_law_one", "_law_other"]) fun _ _ _ _ _ _ us hl => match us, hl with | [_, _], _ => rfl⟩
  ·
    obtain ⟨_, _, rfl, _⟩ := h; rfl
  ·
    obtain ⟨a0, b0, rfl, q⟩ := h
    refine w_seq (w_while (fun n r m' => m' = m ∧ ∃ x y : Nat, n = y ∧ r = [.d (.int (x : Int)), .d (.int (y : Int))] ∧ Nat.gcd x y = Nat.gcd a0 b0) b0 ⟨rfl, a0, b0, rfl, rfl, rfl⟩ ?_)
    rintro n r m' ⟨rfl, x, y, rfl, rfl, hg⟩
    repeat walk_at "dl"
    refine ⟨fun hc => ?_, fun hc => ?_⟩
    · have hy : n ≠ 0 := by
        intro e
        rw [e] at hc
        simp at hc
      repeat walk_at "dl"
      refine o2_mod (by omega) ?_
      repeat walk_at "dl"
      refine ⟨x % n, Nat.mod_lt x (by omega), rfl, n, x % n, rfl, rfl, ?_⟩
      rw [← hg, Nat.gcd_comm n (x % n), ← Nat.gcd_rec, Nat.gcd_comm]
    · have hy : n = 0 := by
        have : ((n : Nat) : Int) = 0 := by simpa using hc
        omega
      subst hy
      repeat walk_at "dl"
      rw [Nat.gcd_zero_right] at hg
      rw [hg]
      exact q
abbrev s__law_cases : Stmt := topS 34
theorem sc__law_cases : FnScope ["_law_shares", "_law_number", "_law_cases_here", "_law_turn", "_law_later", "_law_some", "_law_kind", "_law_there"] ["_law_shares", "_law_number"] (defScope s__law_cases) := ⟨rfl, rfl, rfl, by decide +kernel, rfl, by decide +kernel, by decide +kernel⟩
theorem ok__law_cases {a : Addr} {fd : FuncData} (F : Fun K "_law_cases" "_law_cases" s__law_cases a fd) (hm : mg "_law_cases" = some (.ref a)) (z_range : mg "range" = none) (z_len : mg "len" = none) (z_tuple : mg "tuple" = none) (z_sorted : mg "sorted" = none) :
    Cl P w K mg base 1 "_law_cases" f_lawCases := by
  refine ⟨a, fd, ["_law_shares", "_law_number"], fn_ok F sc__law_cases (fun args m R h => ?_) (fun cdv A outer s H E hr => ⟨_, (pss_cons (ps_set (i := 2) sc__law_cases.nd rfl (by first | exact Or.inl rfl | exact Or.inr rfl) (pe_disp1 hr (pe_tup pa_nil) pe_int))
      (pss_cons (ps_for PassesOwn.never rfl (pi_range1 (by rfl) z_range (pa_cons (pv 1) pa_nil)) (pg_name (i := 3) sc__law_cases.nd rfl (by first | exact Or.inl rfl | exact Or.inr rfl)) (pss_cons (ps_set (i := 4) sc__law_cases.nd rfl (by first | exact Or.inl rfl | exact Or.inr rfl) pe_dnewT)
      (pss_cons (ps_lock (ps_for PassesOwn.never rfl (pi_keys (pv 2)) (pg_name (i := 5) sc__law_cases.nd rfl (by first | exact Or.inl rfl | exact Or.inr rfl)) (pss_one (ps_for PassesOwn.never rfl (pi_range1 (by rfl) z_range (pa_cons (pe_callB (kLen K) (by rfl) z_len (by decide +kernel) (pa_cons (pv 0) pa_nil)) pa_nil)) (pg_name (i := 6) sc__law_cases.nd rfl (by first | exact Or.inl rfl | exact Or.inr rfl)) (pss_cons (ps_set (i := 7) sc__law_cases.nd rfl (by first | exact Or.inl rfl | exact Or.inr rfl) (pv 5))
      (pss_cons (ps_if (pt_cmpR (oNotInS K) (pv 6) (pv 5) rfl) (pss_one (ps_set (i := 7) sc__law_cases.nd rfl (by first | exact Or.inl rfl | exact Or.inr rfl) (pe_callTy (kTup K) (by rfl) z_tuple (by decide +kernel) (pa_cons (pe_callB (kSorted K) (by rfl) z_sorted (by decide +kernel) (pa_cons (pe_op (kAdd K) (pv 5) (pe_tup (pa_cons (pv 6) pa_nil))) pa_nil)) pa_nil)))) pss_nil)
      (pss_one (ps_dput (hu_of hr) (pv 4) (pv 7) (pe_op (kAdd K) (pe_dget2 (hu_of hr) (pv 4) (pv 7) pe_int ⟨rfl, rfl, rfl, rfl⟩) (pe_op (kMul K) (pe_dget (hu_of hr) (pv 2) (pv 5) (fun _ _ => rfl)) (pe_ix (kIx K) (pv 0) (pv 6) (fun _ _ => rfl)))) rfl))))))))
      (pss_one (ps_set (i := 2) sc__law_cases.nd rfl (by first | exact Or.inl rfl | exact Or.inr rfl) (pv 4))))))
      (pss_one (ps_ret (pv 2))))), fun args m R h => ?_⟩), hm, F.kp, F.binds (ps := ["_law_shares", "_law_number"]) fun _ _ _ _ _ _ us hl => match us, hl with | [_, _], _ => rfl⟩
  ·
    obtain ⟨_, _, rfl, _⟩ := h; rfl
  ·
    obtain ⟨ss, n, rfl, hs, hn, q⟩ := h
    have hfew := hs.few
    refine w_seq (w_asg (ev_disp1 fun p hp => ev_tupT ?_))
    walk_at "dl1"
    refine ⟨[], rfl, by decide, _, rfl, ?_⟩
    walk_at "go"
    refine ⟨put_same, ?_⟩
    rw [put_put]
    have e0 : [(kI [], Val.d (.int 1))] = dI (tabI (GJ ss 0) [[]]) := by
      have : GJ ss 0 [] = 1 := by
        unfold GJ
        rw [if_pos (allS_nil _), casesJ_zero, if_pos rfl]
      show _ = [(kI [], Val.d (.int (GJ ss 0 [])))]
      rw [this]
    rw [e0]
    refine w_seq (w_forR1 (n := n) ?_ (by omega) (fun i r' m' => ∃ p l y3 y4 y5 y6 y7, m p = none ∧ TabOk ss.length (GJ ss i) l ∧ m' = put m p (.dT (dI (tabI (GJ ss i) l))) ∧ r' = [.d (tupI ss), .d (.int (n : Int)), .v (.ref p), y3, y4, y5, y6, y7]) ⟨p, [[]], _, _, _, _, _, hp, GJ_zero ss, rfl, rfl⟩ ?_ ?_)
    · walk_at "go"
      exact ⟨rfl, rfl⟩
    · rintro i r' m' hi ⟨p, l, y3, y4, y5, y6, y7, hp, hT, rfl, rfl⟩
      refine w_seq (w_asg (ev_dnew fun qd hqd => ?_))
      have hqp : p ≠ qd := ne_of_get (m := put m p (.dT (dI (tabI (GJ ss i) l)))) put_same hqd
      have hqm : m qd = none := by rw [put_ne hqp.symm] at hqd; exact hqd
      refine w_seq (w_forD (p := p) (kvs := tabI (GJ ss i) l) (by rw [put_ne hqp]; exact put_same) (fun od es => ev_var rfl (fun h => nomatch h) ⟨rfl, rfl⟩)
        (fun j r' m' => ∃ lk G y5 y6 y7, TabOk ss.length G lk ∧ G = (turnP ss (GJ ss i) ss.length (l.take j)).foldl addF (fun _ => 0) ∧ m' = put (put m p (.dT (dI (tabI (GJ ss i) l)))) qd (.dT (dI (tabI G lk))) ∧ r' = [.d (tupI ss), .d (.int (n : Int)), .v (.ref p), .d (.int (i : Int)), .v (.ref qd), y5, y6, y7])
        ⟨[], fun _ => 0, _, _, _, ⟨List.Pairwise.nil, (fun _ h => nomatch h), fun _ _ => rfl⟩, rfl, rfl, rfl⟩ ?_ ?_)
      · rintro j k z r2 m2 od es hk ⟨lk, G, y5, y6, y7, hTG, hG, rfl, rfl⟩ _
        obtain ⟨s, hsj, rfl, rfl⟩ : ∃ s, l[j]? = some s ∧ kn s = k ∧ Val.d (.int (GJ ss i s)) = z := by
          unfold tabI at hk
          rw [List.getElem?_map] at hk
          cases hx : l[j]? with
          | none => rw [hx] at hk; cases hk
          | some s => rw [hx] at hk; cases hk; exact ⟨s, rfl, rfl, rfl⟩
        have hsl := List.mem_of_getElem? hsj
        have hsa := hT.sub s hsl
        have hks := allS_kinds hsa
        have hkl := hks.len
        have hwalk : ∀ (G : List Nat → Int) (lk : List (List Nat)), put (put (put m p (.dT (dI (tabI (GJ ss i) l)))) qd (.dT (dI (tabI G lk)))) p (.lk od es (dI (tabI (GJ ss i) l))) qd = some (.dT (dI (tabI G lk))) := fun G lk => by rw [put_ne hqp.symm]; exact put_same
        refine Wp.imp (w_forR1 (n := ss.length) ?_ (by omega) (fun x r3 m3 => ∃ lk G y6 y7, TabOk ss.length G lk ∧ G = (turnP ss (GJ ss i) ss.length (l.take j) ++ (rowP ss (GJ ss i) ss.length s).take x).foldl addF (fun _ => 0) ∧ m3 = put (put (put m p (.dT (dI (tabI (GJ ss i) l)))) qd (.dT (dI (tabI G lk)))) p (.lk od es (dI (tabI (GJ ss i) l))) ∧ r3 = [.d (tupI ss), .d (.int (n : Int)), .v (.ref p), .d (.int (i : Int)), .v (.ref qd), .t (kn s), y6, y7])
          ⟨lk, G, _, _, hTG, by rw [List.take_zero, List.append_nil]; exact hG, rfl, rfl⟩ ?_ (N := fun r3 m3 => ∃ lk G y6 y7, TabOk ss.length G lk ∧ G = (turnP ss (GJ ss i) ss.length (l.take j) ++ rowP ss (GJ ss i) ss.length s).foldl addF (fun _ => 0) ∧ m3 = put (put (put m p (.dT (dI (tabI (GJ ss i) l)))) qd (.dT (dI (tabI G lk)))) p (.lk od es (dI (tabI (GJ ss i) l))) ∧ r3 = [.d (tupI ss), .d (.int (n : Int)), .v (.ref p), .d (.int (i : Int)), .v (.ref qd), .t (kn s), y6, y7]) ?_ (E := fun _ _ => False)) (fun r3 m3 => ?_) (fun _ _ h => h.elim)
        · walk_at "go"
          exact ⟨rfl, rfl⟩
        · rintro x r3 m3 hx ⟨lk, G, y6, y7, hTG, hG, rfl, rfl⟩
          have hb9 := getD_bounds hs x
          have hGb := GJ_bt hs (show i ≤ 12 by omega) s
          obtain ⟨hin, hperm⟩ := ins_all ⟨ss.length, by omega⟩ s hsa ⟨x, by omega⟩ hx
          have hin : insS s x ∈ allS ss.length := hin
          have erow : (rowP ss (GJ ss i) ss.length s).take (x + 1) = (rowP ss (GJ ss i) ss.length s).take x ++ [(insS s x, GJ ss i s * ss.getD x 0)] := take_one (by
            unfold rowP
            rw [List.getElem?_map, List.getElem?_range hx]; rfl)
          refine w_seq (w_asg (ev_var (x := .t (kn s)) rfl (fun h => nomatch h) ?_))
          refine w_seq (Wp.imp (N := fun r1 m1 => r1 = [.d (tupI ss), .d (.int (n : Int)), .v (.ref p), .d (.int (i : Int)), .v (.ref qd), .t (kn s), .d (.int (x : Int)), .t (kn (insS s x))] ∧ m1 = put (put (put m p (.dT (dI (tabI (GJ ss i) l)))) qd (.dT (dI (tabI G lk)))) p (.lk od es (dI (tabI (GJ ss i) l)))) (E := fun _ _ => False) (w_if ?_) ?_ (fun _ _ h => h.elim))
          · walk_at "go"
            by_cases hxs : x ∈ s
            · refine br_f (by rw [decide_eq_true hxs]; rfl) (w_next ?_)
              have ei : insS s x = s := if_pos hxs
              rw [ei]
              exact ⟨rfl, rfl⟩
            · refine br_t (by rw [decide_eq_false hxs]; rfl) ?_
              obtain ⟨hp1, hp2⟩ := hperm hxs
              walk_at "go"
              refine o2_addNi (by omega) ?_
              walk_at "go"
              refine on_sortT (ns := kn (s ++ [x])) (ns' := kn (insS s x)) ((List.isPerm_iff.mp hp1).map _) (List.pairwise_map.mpr (hp2.imp fun h => by omega)) ?_
              walk_at "dl1"
              refine on_tupLt ?_
              exact ⟨rfl, rfl⟩
          · rintro r1 m1 ⟨rfl, rfl⟩
            refine w_dputV (ns := kn (insS s x)) rfl ?_
            refine ev_op (ev_dget2V (ns := kn (insS s x)) rfl ?_)
            refine ev_var rfl (fun h => nomatch h) ⟨qd, _, rfl, Or.inl (hwalk G lk), ?_⟩
            walk_at "go"
            refine ⟨_, Or.inl (hwalk G lk), ?_⟩
            rw [getV_tabI hTG.off]
            refine ev_op (ev_dgetV (ns := kn s) rfl ?_)
            refine ev_var rfl (fun h => nomatch h) ⟨p, _, _, rfl, Or.inr ⟨od, es, put_same⟩, getV_tabI_mem hsl, ?_⟩
            walk_at "go"
            refine o2_ixT (tupI_at hx) ?_
            refine o2_mulI (hGb.cmul (b := 6) (bt_lit (n := 6) (by show (ss.getD x 0).natAbs < 64; omega) (by decide)) (by decide)) ?_
            refine o2_addI ?_
            refine ev_var rfl (fun h => nomatch h) ⟨qd, _, rfl, hwalk G lk, ?_, ?_⟩
            · have := hTG.len hfew
              show ((tabI G lk).map _).length < 100000
              rw [List.length_map]
              unfold tabI
              rw [List.length_map]; omega
            · rw [putV_tabI]
              refine ⟨_, _, _, _, hTG.add hin (GJ ss i s * ss.getD x 0), ?_, ?_, rfl⟩
              · rw [erow, ← List.append_assoc, List.foldl_append, ← hG]; rfl
              · rw [put_comm hqp, put_put]
        · rintro r3 m3 ⟨lk, G, y6, y7, hTG, hG, rfl, rfl⟩
          refine ⟨lk, G, _, _, hTG, ?_, rfl, rfl⟩
          rw [hG, show (rowP ss (GJ ss i) ss.length s).take ss.length = rowP ss (GJ ss i) ss.length s from List.take_of_length_le (by unfold rowP; rw [List.length_map, List.length_range]; exact Nat.le_refl _)]
        · rintro ⟨lk, G, y6, y7, hTG, hG, rfl, rfl⟩
          refine ⟨put_same, lk, G, _, _, _, hTG, ?_, ?_, rfl⟩
          · rw [hG]
            unfold turnP
            rw [take_one hsj, List.map_append, List.flatten_append]
            simp
          · rw [put_put, put_comm hqp.symm, put_put]
      · rintro r2 m2 ⟨lk, G, y5, y6, y7, hTG, hG, rfl, rfl⟩
        have hl : (tabI (GJ ss i) l).length = l.length := List.length_map ..
        rw [hl, List.take_length] at hG
        have eG := GJ_next hs hT hTG hG
        subst eG
        refine w_less (m' := put m qd (.dT (dI (tabI (GJ ss (i + 1)) lk)))) (fun a o h => ?_) ?_
        · by_cases ha : a = qd
          · subst ha; rw [put_same] at h ⊢; exact h
          · rw [put_ne ha] at h ⊢
            rw [put_ne (ne_of_get h hp)]; exact h
        walk_at "go"
        exact ⟨qd, lk, _, _, _, _, _, hqm, hTG, rfl, rfl⟩
    · rintro r' m' ⟨p, l, y3, y4, y5, y6, y7, hp, hT, rfl, rfl⟩
      walk_at "go"
      exact q p l hp hT
abbrev s__law_all_cases : Stmt := topS 35
theorem sc__law_all_cases : FnScope ["_law_shares", "_law_number", "_law_found", "_law_turn"] ["_law_shares", "_law_number"] (defScope s__law_all_cases) := ⟨rfl, rfl, rfl, by decide +kernel, rfl, by decide +kernel, by decide +kernel⟩
theorem ok__law_all_cases {a : Addr} {fd : FuncData} (F : Fun K "_law_all_cases" "_law_all_cases" s__law_all_cases a fd) (hm : mg "_law_all_cases" = some (.ref a)) (z_range : mg "range" = none) (z_sum : mg "sum" = none) :
    Cl P w K mg base 1 "_law_all_cases" f_lawAllCases := by
  refine ⟨a, fd, ["_law_shares", "_law_number"], fn_ok F sc__law_all_cases (fun args m R h => ?_) (fun cdv A outer s H E hr => ⟨_, (pss_cons (ps_set (i := 2) sc__law_all_cases.nd rfl (by first | exact Or.inl rfl | exact Or.inr rfl) pe_int)
      (pss_cons (ps_for PassesOwn.never rfl (pi_range1 (by rfl) z_range (pa_cons (pv 1) pa_nil)) (pg_name (i := 3) sc__law_all_cases.nd rfl (by first | exact Or.inl rfl | exact Or.inr rfl)) (pss_one (ps_set (i := 2) sc__law_all_cases.nd rfl (by first | exact Or.inl rfl | exact Or.inr rfl) (pe_op (kMul K) (pv 2) (pe_callB (kSum K) (by rfl) z_sum (by decide +kernel) (pa_cons (pv 0) pa_nil))))))
      (pss_one (ps_ret (pv 2))))), fun args m R h => ?_⟩), hm, F.kp, F.binds (ps := ["_law_shares", "_law_number"]) fun _ _ _ _ _ _ us hl => match us, hl with | [_, _], _ => rfl⟩
  ·
    obtain ⟨_, _, rfl, _⟩ := h; rfl
  ·
    obtain ⟨ss, n, rfl, hs, hn, q⟩ := h
    have hsum := shares_sum hs
    walk_at "go"
    refine w_forR1 (n := n) ?_ (by omega) (fun i r' m' => m' = m ∧ ∃ y, r' = [.d (tupI ss), .d (.int (n : Int)), .d (.int (ss.sum ^ i)), y]) ⟨rfl, .any, by rw [Int.pow_zero]; rfl⟩ ?_ ?_
    · walk_at "go"
      exact ⟨rfl, rfl⟩
    · rintro i r' m' hi ⟨rfl, y, rfl⟩
      walk_at "go"
      refine o2_mulI (Bt.cmul (a := 73) (b := 6) (pow_bt (by omega) (by omega) (by omega)) (bt_lit (n := 6) (by show _ < 64; omega) (by decide)) (by decide)) ?_
      refine ⟨rfl, .d (.int (i : Int)), ?_⟩
      rw [Int.pow_succ]
      rfl
    · rintro r' m' ⟨rfl, y, rfl⟩
      walk_at "go"
      exact q
abbrev s_made : Stmt := topS 8
theorem sc_made : FnScope ["top", "bottom", "both"] ["top", "bottom"] (defScope s_made) := ⟨rfl, rfl, rfl, by decide +kernel, rfl, by decide +kernel, by decide +kernel⟩
theorem ok_made {a : Addr} {fd : FuncData} (F : Fun K "made" "made" s_made a fd) (hm : mg "made" = some (.ref a)) (z_abs : mg "abs" = none) (k_greatest_common : Cl P w K mg base 1 "greatest_common" f_gcd) :
    Cl P w K mg base 2 "made" f_made := by
  refine ⟨a, fd, ["top", "bottom"], fn_ok F sc_made (fun args m R h => ?_) (fun cdv A outer s H E hr => ⟨_, (pss_cons (ps_set (i := 2) sc_made.nd rfl (by first | exact Or.inl rfl | exact Or.inr rfl) (pe_cl k_greatest_common hr (by decide) (by rfl) (pa_cons (pv 1) (pa_cons (pe_callB cAbs (by rfl) z_abs (by decide +kernel) (pa_cons (pv 0) pa_nil)) pa_nil))))
      (pss_one (ps_ret (pe_tup (pa_cons (pe_op oFdv (pv 0) (pv 2)) (pa_cons (pe_op oFdv (pv 1) (pv 2)) pa_nil)))))), fun args m R h => ?_⟩), hm, F.kp, F.binds (ps := ["top", "bottom"]) fun _ _ _ _ _ _ us hl => match us, hl with | [_, _], _ => rfl⟩
  ·
    obtain ⟨_, _, rfl, _⟩ := h; rfl
  ·
    obtain ⟨t, b, rfl, hb, hz, q⟩ := h
    have hp : 0 < Nat.gcd b t.natAbs := Nat.gcd_pos_of_pos_left _ hb
    have hB : Bt ((Nat.gcd b t.natAbs : Nat) : Int) 8000 := hz.le (by
      have := Nat.le_of_dvd hb (Nat.gcd_dvd_left b t.natAbs)
      omega)
    repeat walk_at "dl"
    refine o2_fdv (hB.cdiv (by omega) (by decide)) ?_
    repeat walk_at "dl"
    refine o2_fdv (hB.cdiv (by omega) (by decide)) ?_
    repeat walk_at "dl"
    rw [frac_mk t b (by omega)] at q
    exact q
abbrev s_need_number : Stmt := topS 9
theorem sc_need_number : FnScope ["number", "least", "most"] ["number", "least", "most"] (defScope s_need_number) := ⟨rfl, rfl, rfl, by decide +kernel, rfl, by decide +kernel, by decide +kernel⟩
theorem ok_need_number {a : Addr} {fd : FuncData} (F : Fun K "need_number" "need_number" s_need_number a fd) (hm : mg "need_number" = some (.ref a)) (k_is_whole : Cl P w K mg base 1 "is_whole" f_isWhole) :
    Cl P w K mg base 2 "need_number" f_needNumber := by
  refine ⟨a, fd, ["number", "least", "most"], fn_ok F sc_need_number (fun args m R h => ?_) (fun cdv A outer s H E hr => ⟨_, (pss_one (ps_if (PW.pt (pw_or (pt_not (pt_val (pe_cl k_is_whole hr (by decide) (by rfl) (pa_cons (pv 0) pa_nil)))) (pw_or1 (pt_not (pt_chain oLe oLe (pv 1) (pv 0) (pv 2)))))) (pss_one ps_never) pss_nil)), fun args m R h => ?_⟩), hm, F.kp, F.binds (ps := ["number", "least", "most"]) fun _ _ _ _ _ _ us hl => match us, hl with | [_, _, _], _ => rfl⟩
  ·
    obtain ⟨_, _, _, rfl, _⟩ := h; rfl
  ·
    obtain ⟨i, lo, hi, rfl, h1, h2, q⟩ := h
    walk_at "go"
    refine br_f rfl ?_
    walk_at "go"
    refine br_t (decide_eq_true h1) ?_
    walk_at "go"
    refine br_f (by rw [decide_eq_true h2]; rfl) ?_
    exact w_next q
abbrev s_is_shares : Stmt := topS 15
theorem sc_is_shares : FnScope ["thing", "one"] ["thing"] (defScope s_is_shares) := ⟨rfl, rfl, rfl, by decide +kernel, rfl, by decide +kernel, by decide +kernel⟩
theorem ok_is_shares {a : Addr} {fd : FuncData} (F : Fun K "is_shares" "is_shares" s_is_shares a fd) (hm : mg "is_shares" = some (.ref a)) (z_len : mg "len" = none) (z_isinstance : mg "isinstance" = none) (z_tuple : mg "tuple" = none) (z_all : mg "all" = none) (c_MOST_KINDS : ∃ t, mg "MOST_KINDS" = some (.int 5 t)) (c_MOST_SHARE : ∃ t, mg "MOST_SHARE" = some (.int 9 t)) (k_is_whole : Cl P w K mg base 1 "is_whole" f_isWhole) :
    Cl P w K mg base 2 "is_shares" f_isShares := by
  refine ⟨a, fd, ["thing"], fn_ok F sc_is_shares (fun args m R h => ?_) (fun cdv A outer s H E hr => ⟨_, (pss_cons (ps_if (PW.pt (pw_or (pt_not (pt_val (pe_callB (kIsi K) (by rfl) z_isinstance (by decide +kernel) (pa_cons (pv 0) (pa_cons (pe_bltn (v := .ty "tuple") (by rfl) z_tuple (by decide +kernel) rfl) pa_nil))))) (pw_or1 (pt_not (pt_chain oLe oLe pe_int (pe_callB (kLen K) (by rfl) z_len (by decide +kernel) (pa_cons (pv 0) pa_nil)) (pe_gi c_MOST_KINDS (by rfl))))))) (pss_one (ps_ret pe_bl)) pss_nil)
      (pss_one (ps_ret (pe_callB (kAll K) (by rfl) z_all (by decide +kernel) (pa_cons (pe_lc (own := [("one", 1)]) rfl sc_is_shares.nd (kiT K (pv 0)) (blkOk_by (own := [("one", 1)]) (N := ["thing", "one"]) (sc := defScope s_is_shares) (by decide +kernel)) (fun _ _ _ _ _ => (pg_name (i := 1) sc_is_shares.nd rfl (by first | exact Or.inl rfl | exact Or.inr rfl))) (fun _ _ _ _ _ => pts_nil) (fun _ _ _ _ _ => (pe_and (pe_cl k_is_whole hr (by decide) (by rfl) (pa_cons (pv 1) pa_nil)) (pe_one (pe_chain oLe oLe pe_int (pv 1) (pe_gi c_MOST_SHARE (by rfl))))))) pa_nil))))), fun args m R h => ?_⟩), hm, F.kp, F.binds (ps := ["thing"]) fun _ _ _ _ _ _ us hl => match us, hl with | [_], _ => rfl⟩
  ·
    obtain ⟨_, rfl, _⟩ := h; rfl
  ·
    obtain ⟨x, rfl, q⟩ := h
    repeat walk_at "dl"
    cases hx : isTup x with
    | false =>
      refine br_t rfl (br_t rfl ?_)
      repeat walk_at "dl"
      have e : isShares x = false := by cases x <;> first | rfl | cases hx
      rw [e] at q
      exact q
    | true =>
      obtain ⟨ds, rfl⟩ := tup_shape hx
      refine br_f rfl ?_
      repeat walk_at "dl"
      by_cases h1 : (1 : Int) ≤ (ds.length : Int)
      · refine br_t (decide_eq_true h1) ?_
        repeat walk_at "dl"
        by_cases h5 : (ds.length : Int) ≤ 5
        · rw [decide_eq_true h5]
          refine br_f rfl ?_
          refine w_next ?_
          repeat walk_at "dl"
          refine ev_mapT (ds := ds) ?_ (by omega) (fun d => .bool (okS d)) (fun i d m' hd hx => ?_) ?_
          · repeat walk_at "dl"
            exact ⟨rfl, rfl⟩
          · repeat walk_at "dl"
            cases hi : isInt d with
            | false =>
              refine br_f rfl ⟨?_, rfl⟩
              cases d <;> first | rfl | cases hi
            | true =>
              obtain ⟨i, rfl⟩ := int_shape hi
              refine br_t rfl ?_
              repeat walk_at "dl"
              by_cases g1 : (1 : Int) ≤ i
              · refine br_t (decide_eq_true g1) ?_
                repeat walk_at "dl"
                refine ⟨?_, rfl⟩
                show Val.d (.bool (decide (i ≤ 9))) = .d (.bool (decide (1 ≤ i) && decide (i ≤ 9)))
                rw [decide_eq_true g1, Bool.true_and]
              · refine br_f (decide_eq_false g1) ⟨?_, rfl⟩
                show Val.d (.bool false) = .d (.bool (decide (1 ≤ i) && decide (i ≤ 9)))
                rw [decide_eq_false g1, Bool.false_and]
          · repeat walk_at "dl"
            have e : (ds.map fun d => PyData.bool (okS d)) = (ds.map okS).map PyData.bool := by rw [List.map_map]; rfl
            rw [e]
            repeat walk_at "dl"
            have e : (ds.map okS).all id = isShares (.tuple ds) := by
              show _ = (decide (1 ≤ ds.length) && (decide (ds.length ≤ 5) && ds.all okS))
              rw [decide_eq_true (show 1 ≤ ds.length by omega), decide_eq_true (show ds.length ≤ 5 by omega), List.all_map]; rfl
            rw [e]
            exact q
        · rw [decide_eq_false h5]
          refine br_t rfl ?_
          repeat walk_at "dl"
          have e : isShares (.tuple ds) = false := by
            show (decide (1 ≤ ds.length) && (decide (ds.length ≤ 5) && ds.all okS)) = false
            rw [decide_eq_false (show ¬ ds.length ≤ 5 by omega), Bool.false_and, Bool.and_false]
          rw [e] at q
          exact q
      · refine br_f (decide_eq_false h1) ⟨_, rfl, br_t rfl ?_⟩
        repeat walk_at "dl"
        have e : isShares (.tuple ds) = false := by
          show (decide (1 ≤ ds.length) && (decide (ds.length ≤ 5) && ds.all okS)) = false
          rw [decide_eq_false (show ¬ 1 ≤ ds.length by omega), Bool.false_and]
        rw [e] at q
        exact q
abbrev s_cases_of : Stmt := topS 21
theorem sc_cases_of : FnScope ["shares", "some", "number", "found", "few", "sign"] ["shares", "some", "number"] (defScope s_cases_of) := ⟨rfl, rfl, rfl, by decide +kernel, rfl, by decide +kernel, by decide +kernel⟩
theorem ok_cases_of {a : Addr} {fd : FuncData} (F : Fun K "cases_of" "cases_of" s_cases_of a fd) (hm : mg "cases_of" = some (.ref a)) (z_len : mg "len" = none) (k_all_some : Cl P w K mg base 1 "all_some" f_allSomeU) (k_raised : Cl P w K mg base 1 "raised" f_raised) (k_sum_part : Cl P w K mg base 1 "sum_part" f_sumPart) :
    Cl P w K mg base 2 "cases_of" f_casesOf := by
  refine ⟨a, fd, ["shares", "some", "number"], fn_ok F sc_cases_of (fun args m R h => ?_) (fun cdv A outer s H E hr => ⟨_, (pss_cons (ps_set (i := 3) sc_cases_of.nd rfl (by first | exact Or.inl rfl | exact Or.inr rfl) pe_int)
      (pss_cons (ps_for PassesOwn.never rfl (kiL K (pe_cl k_all_some hr (by decide) (by rfl) (pa_cons (pv 1) pa_nil))) (pg_name (i := 4) sc_cases_of.nd rfl (by first | exact Or.inl rfl | exact Or.inr rfl)) (pss_cons (ps_set (i := 5) sc_cases_of.nd rfl (by first | exact Or.inl rfl | exact Or.inr rfl) (pe_op oSub pe_int (pe_op (kMul K) pe_int (pe_op oMod (pe_op oSub (pe_callB (kLen K) (by rfl) z_len (by decide +kernel) (pa_cons (pv 1) pa_nil)) (pe_callB (kLen K) (by rfl) z_len (by decide +kernel) (pa_cons (pv 4) pa_nil))) pe_int))))
      (pss_one (ps_set (i := 3) sc_cases_of.nd rfl (by first | exact Or.inl rfl | exact Or.inr rfl) (pe_op (kAdd K) (pv 3) (pe_op (kMul K) (pv 5) (pe_cl k_raised hr (by decide) (by rfl) (pa_cons (pe_cl k_sum_part hr (by decide) (by rfl) (pa_cons (pv 0) (pa_cons (pv 4) pa_nil))) (pa_cons (pv 2) pa_nil)))))))))
      (pss_one (ps_ret (pv 3))))), fun args m R h => ?_⟩), hm, F.kp, F.binds (ps := ["shares", "some", "number"]) fun _ _ _ _ _ _ us hl => match us, hl with | [_, _, _], _ => rfl⟩
  ·
    obtain ⟨_, _, _, _, rfl, _⟩ := h; rfl
  ·
    obtain ⟨ss, s, n, x, rfl, hx, hs, hk, hn, q⟩ := h
    have hkl := hk.len
    have hfew := hs.few
    rcases hx with rfl | rfl
    rotate_left
    refine w_t2d (i := 1) (ns := kn s) rfl ?_
    all_goals
      walk_at "go"
      refine w_forLt (nss := (allSL s).map kn) ?_ (fun i r' m' => m' = m ∧ ∃ y4 y5, r' = [.d (tupI ss), .d (tupN s), .d (.int (n : Int)), .d (.int ((((allSL s).take i).map fun few => sgn (s.length - few.length) * (sumP ss few) ^ n).sum)), y4, y5]) ⟨rfl, _, _, rfl⟩ ?_ ?_
      · walk_at "go"
        exact ⟨by omega, rfl, rfl⟩
      · rintro i ns r' m' hi ⟨rfl, y4, y5, rfl⟩
        obtain ⟨few, hfi, rfl⟩ : ∃ few, (allSL s)[i]? = some few ∧ ns = kn few := by
          rw [List.getElem?_map] at hi
          cases hx : (allSL s)[i]? with
          | none => rw [hx] at hi; cases hi
          | some u => rw [hx] at hi; cases hi; exact ⟨u, rfl, rfl⟩
        have hfm := List.mem_of_getElem? hfi
        have hkf := kinds_sub hk (allSL_sub few hfm)
        have hfl := allSL_mem_len few hfm
        have h0 := sumP_nonneg hs few
        have h45 := sumP_le hs hkf
        walk_at "go"
        refine o2_mod (by decide) ?_
        walk_at "go"
        refine o2_mulI (cmul_small (by decide) (by omega)) ?_
        walk_at "go"
        refine ⟨by omega, hkf.lt, ?_⟩
        walk_at "go"
        refine ⟨by omega, bt_lit (n := 7) (by show _ < 128; omega) (by decide), ?_⟩
        have es : (1 : Int) - 2 * (((s.length : Int) - (few.length : Int)) % 2) = sgn (s.length - few.length) := by
          unfold sgn
          rw [show ((s.length - few.length : Nat) : Int) = (s.length : Int) - (few.length : Int) by omega]
        rw [es]
        refine o2_mulI ((sgn_bt _).cmul (pow_bt h0 h45 hn) (by decide)) ?_
        walk_at "go"
        refine ⟨rfl, .t (kn few), .d (.int (sgn (s.length - few.length))), ?_⟩
        rw [take_one hfi, List.map_append, List.sum_append]
        simp only [List.map_cons, List.map_nil, List.sum_cons, List.sum_nil, Int.add_zero]
        rfl
      · rintro r' m' ⟨rfl, y4, y5, rfl⟩
        rw [List.length_map, List.take_length]
        walk_at "go"
        exact q
abbrev s__law_box : Stmt := topS 29
theorem sc__law_box : FnScope ["_law_script", "_law_k", "_law_cell_here", "_law_number", "_law_j"] ["_law_script", "_law_k"] (defScope s__law_box) := ⟨rfl, rfl, rfl, by decide +kernel, rfl, by decide +kernel, by decide +kernel⟩
theorem ok__law_box {a : Addr} {fd : FuncData} (F : Fun K "_law_box" "_law_box" s__law_box a fd) (hm : mg "_law_box" = some (.ref a)) (z_abs : mg "abs" = none) (z_range : mg "range" = none) (k__law_cell : Cl P w K mg base 1 "_law_cell" f_cell) (k__law_mix : Cl P w K mg base 1 "_law_mix" f_mix) :
    Cl P w K mg base 2 "_law_box" f_box := by
  refine ⟨a, fd, ["_law_script", "_law_k"], fn_ok F sc__law_box (fun args m R h => ?_) (fun cdv A outer s H E hr => ⟨_, (pss_cons (ps_set (i := 2) sc__law_box.nd rfl (by first | exact Or.inl rfl | exact Or.inr rfl) (pe_cl k__law_cell hr (by decide) (by rfl) (pa_cons (pv 0) (pa_cons (pv 1) pa_nil))))
      (pss_cons (ps_if (pt_cmpR (kEq K hr) (pe_op oMod (pv 2) pe_int) pe_int (nomark _)) (pss_one (ps_ret (pe_lst (pa_cons (pe_op oFdv (pe_callB cAbs (by rfl) z_abs (by decide +kernel) (pa_cons (pv 2) pa_nil)) pe_int) pa_nil)))) pss_nil)
      (pss_cons (ps_set (i := 3) sc__law_box.nd rfl (by first | exact Or.inl rfl | exact Or.inr rfl) pe_int)
      (pss_cons (ps_for PassesOwn.never rfl (pi_range1 (by rfl) z_range (pa_cons pe_int pa_nil)) (pg_name (i := 4) sc__law_box.nd rfl (by first | exact Or.inl rfl | exact Or.inr rfl)) (pss_one (ps_set (i := 3) sc__law_box.nd rfl (by first | exact Or.inl rfl | exact Or.inr rfl) (pe_op (kAdd K) (pe_op (kMul K) (pv 3) pe_int) (pe_cl k__law_mix hr (by decide) (by rfl) (pa_cons (pv 2) (pa_cons (pv 4) pa_nil)))))))
      (pss_one (ps_ret (pe_lst (pa_cons (pv 3) pa_nil)))))))), fun args m R h => ?_⟩), hm, F.kp, F.binds (ps := ["_law_script", "_law_k"]) fun _ _ _ _ _ _ us hl => match us, hl with | [_, _], _ => rfl⟩
  ·
    obtain ⟨_, _, rfl, _⟩ := h; rfl
  ·
    obtain ⟨ns, k, rfl, q⟩ := h
    repeat walk_at "dl"
    intro z
    repeat walk_at "dl"
    refine o2_mod (by decide) ?_
    repeat walk_at "dl"
    by_cases hz : z % 2 = 0
    · refine br_t (decide_eq_true hz) (w_ret (ev_lstB ?_))
      repeat walk_at "dl"
      refine o2_fdv (cdiv_small (by decide) (by decide)) ?_
      repeat walk_at "dl"
      exact q
    · refine br_f (decide_eq_false hz) (w_next ?_)
      repeat walk_at "dl"
      refine w_forR1 (n := 40) ?_ (by decide) (fun i r' m' => m' = m ∧ ∃ (n : Int) (y : Val), r' = [.scr ns, .d (.int (k : Int)), .d (.int z), .d (.int n), y] ∧ 0 ≤ n ∧ Bt n (32 * i + 1)) ⟨rfl, 0, .any, rfl, by decide, bt_lit (n := 1) (by decide) (by omega)⟩ ?_ ?_
      · repeat walk_at "dl"
        exact ⟨rfl, rfl⟩
      · rintro i r' m' hi ⟨rfl, n, y, rfl, hn, hb⟩
        repeat walk_at "dl"
        refine o2_mulI (hb.cmul (b := 31) (bt_lit (n := 31) (by decide) (by decide)) (by omega)) ?_
        repeat walk_at "dl"
        refine ⟨by omega, fun w hw hw1 => ?_⟩
        repeat walk_at "dl"
        refine ⟨rfl, n * 142857143 + w, _, rfl, by omega, ?_⟩
        have h1 : Bt (n * 142857143) (32 * i + 1 + 28) := hb.mul (bt_lit (n := 28) (by decide) (Nat.le_refl _))
        exact (h1.add (bt_lit (i := w) (n := 30) (a := 32 * i + 30) (by
          have e : (2 : Nat) ^ 30 = 1073741824 := by decide
          rw [e]; omega) (by omega)) (c := 32 * i + 30) (by omega) (Nat.le_refl _)).mono (by omega)
      · rintro r' m' ⟨rfl, n, y, rfl, hn, hb⟩
        refine w_ret (ev_lstB ?_)
        repeat walk_at "dl"
        exact q
abbrev s__law_drawn_shares : Stmt := topS 31
theorem sc__law_drawn_shares : FnScope ["_law_box_here", "_law_most", "_law_top", "_law_many", "_law_kind", "_law_place"] ["_law_box_here", "_law_most", "_law_top"] (defScope s__law_drawn_shares) := ⟨rfl, rfl, rfl, by decide +kernel, rfl, by decide +kernel, by decide +kernel⟩
theorem ok__law_drawn_shares {a : Addr} {fd : FuncData} (F : Fun K "_law_drawn_shares" "_law_drawn_shares" s__law_drawn_shares a fd) (hm : mg "_law_drawn_shares" = some (.ref a)) (z_tuple : mg "tuple" = none) (z_range : mg "range" = none) (k__law_take : Cl P w K mg base 1 "_law_take" f_take) :
    Cl P w K mg base 2 "_law_drawn_shares" f_drawnShares := by
  refine ⟨a, fd, ["_law_box_here", "_law_most", "_law_top"], fn_ok F sc__law_drawn_shares (fun args m R h => ?_) (fun cdv A outer s H E hr => ⟨_, (pss_cons (ps_set (i := 3) sc__law_drawn_shares.nd rfl (by first | exact Or.inl rfl | exact Or.inr rfl) (pe_op (kAdd K) pe_int (pe_cl k__law_take hr (by decide) (by rfl) (pa_cons (pv 0) (pa_cons (pv 1) pa_nil)))))
      (pss_cons (ps_set (i := 4) sc__law_drawn_shares.nd rfl (by first | exact Or.inl rfl | exact Or.inr rfl) (pe_cl k__law_take hr (by decide) (by rfl) (pa_cons (pv 0) (pa_cons pe_int pa_nil))))
      (pss_cons (ps_if (pt_cmpR (kEq K hr) (pv 4) pe_int (nomark _)) (pss_one (ps_ret (pe_op (kMul K) (pe_tup (pa_cons (pe_op (kAdd K) pe_int (pe_cl k__law_take hr (by decide) (by rfl) (pa_cons (pv 0) (pa_cons (pv 2) pa_nil)))) pa_nil)) (pv 3)))) pss_nil)
      (pss_one (ps_ret (pe_callTy (kTup K) (by rfl) z_tuple (by decide +kernel) (pa_cons (pe_lc (own := [("_law_place", 5)]) rfl sc__law_drawn_shares.nd (pi_range1 (by rfl) z_range (pa_cons (pv 3) pa_nil)) (blkOk_by (own := [("_law_place", 5)]) (N := ["_law_box_here", "_law_most", "_law_top", "_law_many", "_law_kind", "_law_place"]) (sc := defScope s__law_drawn_shares) (by decide +kernel)) (fun _ _ _ _ _ => (pg_name (i := 5) sc__law_drawn_shares.nd rfl (by first | exact Or.inl rfl | exact Or.inr rfl))) (fun _ _ _ _ _ => pts_nil) (fun _ _ _ _ _ => (pe_op (kAdd K) pe_int (pe_cl k__law_take hr (by decide) (by rfl) (pa_cons (pv 0) (pa_cons (pe_ix (kIx K) (pe_lst (pa_cons (pv 2) (pa_cons pe_int (pa_cons (pv 2) pa_nil)))) (pe_op oSub (pv 4) pe_int) (fun _ _ => rfl)) pa_nil)))))) pa_nil))))))), fun args m R h => ?_⟩), hm, F.kp, F.binds (ps := ["_law_box_here", "_law_most", "_law_top"]) fun _ _ _ _ _ _ us hl => match us, hl with | [_, _, _], _ => rfl⟩
  ·
    obtain ⟨_, _, _, rfl, _⟩ := h; rfl
  ·
    obtain ⟨p, a, b, rfl, hp, ha1, ha5, hb2, hb9, q⟩ := h
    repeat walk_at "dl"
    refine ⟨hp, by omega, bt_lit (n := 3) (by show _ < 8; omega) (by decide), fun n0 hn0 hn1 => ?_⟩
    obtain ⟨n, rfl⟩ : ∃ n : Nat, n0 = (n : Int) := ⟨n0.toNat, by omega⟩
    repeat walk_at "dl"
    refine ⟨hp, by decide, bt_lit (n := 3) (by decide) (by decide), fun kd hk0 hk1 => ?_⟩
    repeat walk_at "dl"
    have en : (1 : Int) + (n : Int) = ((n + 1 : Nat) : Int) := by omega
    by_cases hz : kd = 0
    · refine br_t (decide_eq_true hz) ?_
      repeat walk_at "dl"
      refine ⟨hp, by omega, bt_lit (n := 4) (by show _ < 16; omega) (by decide), fun s hs0 hs1 => ?_⟩
      repeat walk_at "dl"
      rw [en]
      refine o2_mulT (by simp) (by omega) (by omega) (Nat.le_of_ble_eq_true rfl) ?_
      have e : (PyData.tuple (List.replicate (n + 1) [PyData.int (1 + s)]).flatten) = tupI (List.replicate (n + 1) (1 + s)) := by
        unfold tupI
        congr 1
        rw [List.map_replicate]
        induction (n + 1) with
        | zero => rfl
        | succ k ih => rw [List.replicate_succ, List.replicate_succ, List.flatten_cons, ih]; rfl
      rw [e]
      refine q _ ⟨by rw [List.length_replicate]; omega, by rw [List.length_replicate]; omega, fun x hx => ?_⟩ (by rw [List.length_replicate]; omega)
      rw [List.eq_of_mem_replicate hx]
      omega
    · refine br_f (decide_eq_false hz) (w_next ?_)
      repeat walk_at "dl"
      refine ev_anyR1 (n := n + 1) ?_ (by omega) (fun _ y => ∃ s : Int, y = .int s ∧ 1 ≤ s ∧ s ≤ 9) (fun i m' hi hx => ?_) fun ds hl hds => ?_
      · repeat walk_at "dl"
        exact ⟨by rw [en], rfl⟩
      · have hv : ∃ v : Int, atI ([PyData.int b, .int 2, .int b] : List PyData) (kd - 1) = some (.int v) ∧ 2 ≤ v ∧ v ≤ 9 := by
          have h3 : kd = 1 ∨ kd = 2 ∨ kd = 3 := by omega
          rcases h3 with rfl | rfl | rfl
          · exact ⟨b, rfl, hb2, hb9⟩
          · exact ⟨2, rfl, by decide, by decide⟩
          · exact ⟨b, rfl, hb2, hb9⟩
        obtain ⟨v, hv1, hv2, hv3⟩ := hv
        iterate 6 walk_at "dl"
        refine ev_op (ev_lstD ?_)
        repeat walk_at "dl"
        refine o2_ixL hv1 ?_
        repeat walk_at "dl"
        refine ⟨hx p _ hp, by omega, bt_lit (n := 4) (by show _ < 16; omega) (by decide), fun s hs0 hs1 => ?_⟩
        repeat walk_at "dl"
        exact ⟨⟨_, rfl, 1 + s, rfl, by omega, by omega⟩, rfl⟩
      · repeat walk_at "dl"
        obtain ⟨ss, hss, hl2⟩ : ∃ ss : List Int, ds = ss.map PyData.int ∧ ∀ s ∈ ss, 1 ≤ s ∧ s ≤ 9 := by
          refine ⟨ds.map intOf, ?_, fun s hs => ?_⟩
          · rw [List.map_map]
            refine (List.map_id ds).symm.trans (List.map_congr_left fun d hd => ?_)
            obtain ⟨i, hi⟩ := List.getElem?_of_mem hd
            obtain ⟨s, rfl, _⟩ := hds i d hi
            rfl
          · obtain ⟨d, hd, rfl⟩ := List.mem_map.mp hs
            obtain ⟨i, hi⟩ := List.getElem?_of_mem hd
            obtain ⟨s, rfl, h1⟩ := hds i d hi
            exact h1
        subst hss
        rw [List.length_map] at hl
        exact q ss ⟨by omega, by omega, hl2⟩ (by omega)
abbrev s__law_made : Stmt := topS 33
theorem sc__law_made : FnScope ["_law_top", "_law_bottom", "_law_both"] ["_law_top", "_law_bottom"] (defScope s__law_made) := ⟨rfl, rfl, rfl, by decide +kernel, rfl, by decide +kernel, by decide +kernel⟩
theorem ok__law_made {a : Addr} {fd : FuncData} (F : Fun K "_law_made" "_law_made" s__law_made a fd) (hm : mg "_law_made" = some (.ref a)) (z_abs : mg "abs" = none) (k__law_common : Cl P w K mg base 1 "_law_common" f_gcd) :
    Cl P w K mg base 2 "_law_made" f_made := by
  refine ⟨a, fd, ["_law_top", "_law_bottom"], fn_ok F sc__law_made (fun args m R h => ?_) (fun cdv A outer s H E hr => ⟨_, (pss_cons (ps_set (i := 2) sc__law_made.nd rfl (by first | exact Or.inl rfl | exact Or.inr rfl) (pe_cl k__law_common hr (by decide) (by rfl) (pa_cons (pv 1) (pa_cons (pe_callB cAbs (by rfl) z_abs (by decide +kernel) (pa_cons (pv 0) pa_nil)) pa_nil))))
      (pss_one (ps_ret (pe_tup (pa_cons (pe_op oFdv (pv 0) (pv 2)) (pa_cons (pe_op oFdv (pv 1) (pv 2)) pa_nil)))))), fun args m R h => ?_⟩), hm, F.kp, F.binds (ps := ["_law_top", "_law_bottom"]) fun _ _ _ _ _ _ us hl => match us, hl with | [_, _], _ => rfl⟩
  ·
    obtain ⟨_, _, rfl, _⟩ := h; rfl
  ·
    obtain ⟨t, b, rfl, hb, hz, q⟩ := h
    have hp : 0 < Nat.gcd b t.natAbs := Nat.gcd_pos_of_pos_left _ hb
    have hB : Bt ((Nat.gcd b t.natAbs : Nat) : Int) 8000 := hz.le (by
      have := Nat.le_of_dvd hb (Nat.gcd_dvd_left b t.natAbs)
      omega)
    repeat walk_at "dl"
    refine o2_fdv (hB.cdiv (by omega) (by decide)) ?_
    repeat walk_at "dl"
    refine o2_fdv (hB.cdiv (by omega) (by decide)) ?_
    repeat walk_at "dl"
    rw [frac_mk t b (by omega)] at q
    exact q
abbrev s_sum_of : Stmt := topS 11
theorem sc_sum_of : FnScope ["one", "other"] ["one", "other"] (defScope s_sum_of) := ⟨rfl, rfl, rfl, by decide +kernel, rfl, by decide +kernel, by decide +kernel⟩
theorem ok_sum_of {a : Addr} {fd : FuncData} (F : Fun K "sum_of" "sum_of" s_sum_of a fd) (hm : mg "sum_of" = some (.ref a)) (k_made : Cl P w K mg base 2 "made" f_made) :
    Cl P w K mg base 3 "sum_of" f_sumOf := by
  refine ⟨a, fd, ["one", "other"], fn_ok F sc_sum_of (fun args m R h => ?_) (fun cdv A outer s H E hr => ⟨_, (pss_one (ps_ret (pe_cl k_made hr (by decide) (by rfl) (pa_cons (pe_op (kAdd K) (pe_op (kMul K) (pe_ix (kIx K) (pv 0) pe_int (fun _ _ => rfl)) (pe_ix (kIx K) (pv 1) pe_int (fun _ _ => rfl))) (pe_op (kMul K) (pe_ix (kIx K) (pv 1) pe_int (fun _ _ => rfl)) (pe_ix (kIx K) (pv 0) pe_int (fun _ _ => rfl)))) (pa_cons (pe_op (kMul K) (pe_ix (kIx K) (pv 0) pe_int (fun _ _ => rfl)) (pe_ix (kIx K) (pv 1) pe_int (fun _ _ => rfl))) pa_nil))))), fun args m R h => ?_⟩), hm, F.kp, F.binds (ps := ["one", "other"]) fun _ _ _ _ _ _ us hl => match us, hl with | [_, _], _ => rfl⟩
  ·
    obtain ⟨_, _, rfl, _⟩ := h; rfl
  ·
    obtain ⟨p, r, rfl, hp, hr, q⟩ := h
    walk_at "go"
    refine o2_mulI (hp.1.cmul hr.2 (by decide)) ?_
    walk_at "go"
    refine o2_mulI (hr.1.cmul hp.2 (by decide)) ?_
    walk_at "go"
    refine o2_mulI (hp.2.cmul hr.2 (by decide)) ?_
    walk_at "go"
    refine ⟨Nat.mul_pos (den_pos p) (den_pos r), ?_, ?_⟩
    · rw [Int.natCast_mul]; exact (hp.2.mul hr.2).mono (by decide)
    · rw [← Rat.add_def']; exact q
abbrev s_need_shares : Stmt := topS 16
theorem sc_need_shares : FnScope ["shares"] ["shares"] (defScope s_need_shares) := ⟨rfl, rfl, rfl, by decide +kernel, rfl, by decide +kernel, by decide +kernel⟩
theorem ok_need_shares {a : Addr} {fd : FuncData} (F : Fun K "need_shares" "need_shares" s_need_shares a fd) (hm : mg "need_shares" = some (.ref a)) (k_is_shares : Cl P w K mg base 2 "is_shares" f_isShares) :
    Cl P w K mg base 3 "need_shares" f_needShares := by
  refine ⟨a, fd, ["shares"], fn_ok F sc_need_shares (fun args m R h => ?_) (fun cdv A outer s H E hr => ⟨_, (pss_one (ps_if (pt_not (pt_val (pe_cl k_is_shares hr (by decide) (by rfl) (pa_cons (pv 0) pa_nil)))) (pss_one ps_never) pss_nil)), fun args m R h => ?_⟩), hm, F.kp, F.binds (ps := ["shares"]) fun _ _ _ _ _ _ us hl => match us, hl with | [_], _ => rfl⟩
  ·
    obtain ⟨_, rfl, _⟩ := h; rfl
  ·
    obtain ⟨x, rfl, hx, q⟩ := h
    repeat walk_at "dl"
    rw [hx]
    refine br_f rfl ?_
    exact w_next q
abbrev s_share_by : Stmt := topS 23
theorem sc_share_by : FnScope ["shares", "number"] ["shares", "number"] (defScope s_share_by) := ⟨rfl, rfl, rfl, by decide +kernel, rfl, by decide +kernel, by decide +kernel⟩
theorem ok_share_by {a : Addr} {fd : FuncData} (F : Fun K "share_by" "share_by" s_share_by a fd) (hm : mg "share_by" = some (.ref a)) (z_sum : mg "sum" = none) (k_made : Cl P w K mg base 2 "made" f_made) (k_raised : Cl P w K mg base 1 "raised" f_raised) (k_cases_of : Cl P w K mg base 2 "cases_of" f_casesOf) (k_every : Cl P w K mg base 1 "every" f_every) :
    Cl P w K mg base 3 "share_by" f_shareBy := by
  refine ⟨a, fd, ["shares", "number"], fn_ok F sc_share_by (fun args m R h => ?_) (fun cdv A outer s H E hr => ⟨_, (pss_one (ps_ret (pe_cl k_made hr (by decide) (by rfl) (pa_cons (pe_cl k_cases_of hr (by decide) (by rfl) (pa_cons (pv 0) (pa_cons (pe_cl k_every hr (by decide) (by rfl) (pa_cons (pv 0) pa_nil)) (pa_cons (pv 1) pa_nil)))) (pa_cons (pe_cl k_raised hr (by decide) (by rfl) (pa_cons (pe_callB (kSum K) (by rfl) z_sum (by decide +kernel) (pa_cons (pv 0) pa_nil)) (pa_cons (pv 1) pa_nil))) pa_nil))))), fun args m R h => ?_⟩), hm, F.kp, F.binds (ps := ["shares", "number"]) fun _ _ _ _ _ _ us hl => match us, hl with | [_, _], _ => rfl⟩
  ·
    obtain ⟨_, _, rfl, _⟩ := h; rfl
  ·
    obtain ⟨ss, n, rfl, hs, hn, q⟩ := h
    have hfew := hs.few
    have hsum := shares_sum hs
    walk_at "go"
    refine ⟨by omega, ?_⟩
    walk_at "go"
    refine ⟨ss, List.range ss.length, n, _, rfl, Or.inr rfl, hs, kinds_all _, hn, ?_⟩
    walk_at "go"
    refine ⟨by omega, bt_lit (n := 7) (by show _ < 128; omega) (by decide), ?_⟩
    rw [tot_pow hs]
    walk_at "go"
    refine ⟨Nat.pow_pos (by omega), ?_, q⟩
    rw [← tot_pow hs]
    exact (pow_bt (by omega) (by omega) hn).mono (by decide)
abbrev s_last_share : Stmt := topS 24
theorem sc_last_share : FnScope ["shares", "number", "top", "bottom"] ["shares", "number"] (defScope s_last_share) := ⟨rfl, rfl, rfl, by decide +kernel, rfl, by decide +kernel, by decide +kernel⟩
theorem ok_last_share {a : Addr} {fd : FuncData} (F : Fun K "last_share" "last_share" s_last_share a fd) (hm : mg "last_share" = some (.ref a)) (c_MOST_DRAWS : ∃ t, mg "MOST_DRAWS" = some (.int 12 t)) (c_NOUGHT : ∃ a, mg "NOUGHT" = some (.ref a) ∧ ∀ G, Rp K G (.tuple [.int 0, .int 1]) (.ref a)) (k_need_shares : Cl P w K mg base 3 "need_shares" f_needShares) (k_need_number : Cl P w K mg base 2 "need_number" f_needNumber) (k_share_by : Cl P w K mg base 3 "share_by" f_shareBy) (k_sum_of : Cl P w K mg base 3 "sum_of" f_sumOf) :
    Cl P w K mg base 4 "last_share" f_lastShare := by
  obtain ⟨a_NOUGHT, h_NOUGHT, d_NOUGHT⟩ := c_NOUGHT
  refine ⟨a, fd, ["shares", "number"], fn_ok F sc_last_share (fun args m R h => ?_) (fun cdv A outer s H E hr => ⟨_, (pss_cons (ps_expr (pe_cl k_need_shares hr (by decide) (by rfl) (pa_cons (pv 0) pa_nil)))
      (pss_cons (ps_expr (pe_cl k_need_number hr (by decide) (by rfl) (pa_cons (pv 1) (pa_cons pe_int (pa_cons (pe_gi c_MOST_DRAWS (by rfl)) pa_nil)))))
      (pss_cons (ps_if (pt_cmpR (kEq K hr) (pv 1) pe_int (nomark _)) (pss_one (ps_ret (pe_glob (v := V.ref a_NOUGHT) (by rfl) h_NOUGHT rfl))) pss_nil)
      (pss_cons (ps_asg (pe_cl k_share_by hr (by decide) (by rfl) (pa_cons (pv 0) (pa_cons (pe_op oSub (pv 1) pe_int) pa_nil))) (kgT K (pg_tup (n := 2) rfl (pgs_cons (pg_name (i := 2) sc_last_share.nd rfl (by first | exact Or.inl rfl | exact Or.inr rfl)) (pgs_cons (pg_name (i := 3) sc_last_share.nd rfl (by first | exact Or.inl rfl | exact Or.inr rfl)) pgs_nil)))))
      (pss_one (ps_ret (pe_cl k_sum_of hr (by decide) (by rfl) (pa_cons (pe_cl k_share_by hr (by decide) (by rfl) (pa_cons (pv 0) (pa_cons (pv 1) pa_nil))) (pa_cons (pe_tup (pa_cons (pe_op oSub pe_int (pv 2)) (pa_cons (pv 3) pa_nil))) pa_nil))))))))), fun args m R h => ?_⟩), hm, F.kp, F.binds (ps := ["shares", "number"]) fun _ _ _ _ _ _ us hl => match us, hl with | [_, _], _ => rfl⟩
  ·
    obtain ⟨_, _, rfl, _⟩ := h; rfl
  ·
    obtain ⟨ss, n, rfl, hs, hn, q⟩ := h
    have hsum := shares_sum hs
    walk_at "go"
    refine ⟨isShares_of hs, ?_⟩
    walk_at "go"
    refine ⟨_, _, _, rfl, by omega, by omega, ?_⟩
    walk_at "go"
    by_cases h0 : n = 0
    · refine br_t (decide_eq_true (by omega)) (w_ret (ev_cG d_NOUGHT ?_))
      rw [if_pos h0] at q
      exact q
    · refine br_f (decide_eq_false (by omega)) (w_next ?_)
      obtain ⟨k, rfl⟩ : ∃ k, n = k + 1 := ⟨n - 1, by omega⟩
      have e1 : ((k + 1 : Nat) : Int) - 1 = (k : Int) := by omega
      have hb : ∀ j, j ≤ 12 → FrB (mkRat (casesJ ss (List.range ss.length) j) (ss.sum.toNat ^ j)) 80 := fun j hj => frB_mk (casesJ_bt hs (kinds_all ss.length) hj) (by
        rw [← tot_pow hs]
        exact (pow_bt (by omega) (by omega) hj).mono (by decide)) (Nat.pow_pos (by omega))
      refine w_seq (w_asg2 ?_)
      walk_at "go"
      rw [e1]
      refine ⟨_, _, rfl, hs, by omega, ?_⟩
      refine ⟨_, _, rfl, ?_⟩
      walk_at "go"
      refine ⟨hs, hn, ?_⟩
      walk_at "go"
      rw [frac_neg]
      refine ⟨_, _, rfl, (hb _ hn).mono (by decide), ((hb _ (by omega)).neg).mono (by decide), ?_⟩
      rw [last_frac (c := ((List.range ss.length).map fun j => casesJ ss (wo (List.range ss.length) j) k * ss.getD j 0).sum) (by omega) (by
        rw [last_eq hs k, show ((ss.sum.toNat : Nat) : Int) = ss.sum by omega])]
      rw [if_neg h0] at q
      exact q
abbrev s_lacking : Stmt := topS 25
theorem sc_lacking : FnScope ["shares", "number", "whole", "found", "one"] ["shares", "number"] (defScope s_lacking) := ⟨rfl, rfl, rfl, by decide +kernel, rfl, by decide +kernel, by decide +kernel⟩
theorem ok_lacking {a : Addr} {fd : FuncData} (F : Fun K "lacking" "lacking" s_lacking a fd) (hm : mg "lacking" = some (.ref a)) (z_sum : mg "sum" = none) (c_MOST_DRAWS : ∃ t, mg "MOST_DRAWS" = some (.int 12 t)) (c_NOUGHT : ∃ a, mg "NOUGHT" = some (.ref a) ∧ ∀ G, Rp K G (.tuple [.int 0, .int 1]) (.ref a)) (k_need_shares : Cl P w K mg base 3 "need_shares" f_needShares) (k_need_number : Cl P w K mg base 2 "need_number" f_needNumber) (k_sum_of : Cl P w K mg base 3 "sum_of" f_sumOf) (k_made : Cl P w K mg base 2 "made" f_made) (k_raised : Cl P w K mg base 1 "raised" f_raised) :
    Cl P w K mg base 4 "lacking" f_lacking := by
  obtain ⟨a_NOUGHT, h_NOUGHT, d_NOUGHT⟩ := c_NOUGHT
  refine ⟨a, fd, ["shares", "number"], fn_ok F sc_lacking (fun args m R h => ?_) (fun cdv A outer s H E hr => ⟨_, (pss_cons (ps_expr (pe_cl k_need_shares hr (by decide) (by rfl) (pa_cons (pv 0) pa_nil)))
      (pss_cons (ps_expr (pe_cl k_need_number hr (by decide) (by rfl) (pa_cons (pv 1) (pa_cons pe_int (pa_cons (pe_gi c_MOST_DRAWS (by rfl)) pa_nil)))))
      (pss_cons (ps_set (i := 2) sc_lacking.nd rfl (by first | exact Or.inl rfl | exact Or.inr rfl) (pe_callB (kSum K) (by rfl) z_sum (by decide +kernel) (pa_cons (pv 0) pa_nil)))
      (pss_cons (ps_set (i := 3) sc_lacking.nd rfl (by first | exact Or.inl rfl | exact Or.inr rfl) (pe_glob (v := V.ref a_NOUGHT) (by rfl) h_NOUGHT rfl))
      (pss_cons (ps_for PassesOwn.never rfl (kiT K (pv 0)) (pg_name (i := 4) sc_lacking.nd rfl (by first | exact Or.inl rfl | exact Or.inr rfl)) (pss_one (ps_set (i := 3) sc_lacking.nd rfl (by first | exact Or.inl rfl | exact Or.inr rfl) (pe_cl k_sum_of hr (by decide) (by rfl) (pa_cons (pv 3) (pa_cons (pe_cl k_made hr (by decide) (by rfl) (pa_cons (pe_cl k_raised hr (by decide) (by rfl) (pa_cons (pe_op oSub (pv 2) (pv 4)) (pa_cons (pv 1) pa_nil))) (pa_cons (pe_cl k_raised hr (by decide) (by rfl) (pa_cons (pv 2) (pa_cons (pv 1) pa_nil))) pa_nil))) pa_nil))))))
      (pss_one (ps_ret (pv 3)))))))), fun args m R h => ?_⟩), hm, F.kp, F.binds (ps := ["shares", "number"]) fun _ _ _ _ _ _ us hl => match us, hl with | [_, _], _ => rfl⟩
  ·
    obtain ⟨_, _, rfl, _⟩ := h; rfl
  ·
    obtain ⟨ss, n, rfl, hs, hn, q⟩ := h
    have hsum := shares_sum hs
    have hfew := hs.few
    have hT0 : 0 < ss.sum.toNat ^ n := Nat.pow_pos (by omega)
    have hTb : Bt ((ss.sum.toNat ^ n : Nat) : Int) 80 := by
      rw [← tot_pow hs]
      exact (pow_bt (by omega) (by omega) hn).mono (by decide)
    have hw : ∀ k, 0 ≤ ss.sum - ss.getD k 0 ∧ ss.sum - ss.getD k 0 ≤ 45 := fun k => by
      have h1 := getD_bounds hs k
      by_cases hk : k < ss.length
      · have h2 := sumP_wo hk
        have h3 := sumP_nonneg hs (wo (List.range ss.length) k)
        omega
      · have : ss.getD k 0 = 0 := by rw [List.getD_eq_getElem?_getD, List.getElem?_eq_none (by omega)]; rfl
        omega
    have hsb : ∀ i, i ≤ ss.length → Bt (((List.range i).map fun k => (ss.sum - ss.getD k 0) ^ n).sum) 80 := fun i hi => by
      have h := natAbs_sum_le (fun k => (ss.sum - ss.getD k 0) ^ n) (2 ^ 73) (List.range i) fun k _ => Nat.le_of_lt (pow_bt (hw k).1 (hw k).2 hn)
      rw [List.length_range] at h
      refine Nat.lt_of_le_of_lt h (Nat.lt_of_le_of_lt (Nat.mul_le_mul_right _ (show i ≤ 5 by omega)) ?_)
      decide
    walk_at "go"
    refine ⟨isShares_of hs, ?_⟩
    walk_at "go"
    refine ⟨_, _, _, rfl, by omega, by omega, ?_⟩
    walk_at "go"
    refine ev_cG d_NOUGHT ?_
    refine w_seq (w_forTf (xs := ss) (f := PyData.int) ?_ (fun i r' m' => m' = m ∧ ∃ y, r' = [.d (tupI ss), .d (.int (n : Int)), .d (.int ss.sum), .d (frac (mkRat (((List.range i).map fun k => (ss.sum - ss.getD k 0) ^ n).sum) (ss.sum.toNat ^ n))), y]) ⟨rfl, .any, by simp [frac, tupI, Rat.zero_mkRat]⟩ ?_ ?_)
    · walk_at "go"
      exact ⟨rfl, rfl⟩
    · rintro i w r' m' hi ⟨rfl, y, rfl⟩
      have hil := (List.getElem?_eq_some_iff.mp hi).1
      have ew : ss.getD i 0 = w := by rw [List.getD_eq_getElem?_getD, hi]; rfl
      have hwi := hw i
      rw [ew] at hwi
      walk_at "go"
      refine ⟨by omega, bt_lit (n := 7) (by show _ < 128; omega) (by decide), ?_⟩
      walk_at "go"
      refine ⟨by omega, bt_lit (n := 7) (by show _ < 128; omega) (by decide), ?_⟩
      rw [tot_pow hs]
      walk_at "go"
      refine ⟨hT0, hTb.mono (by decide), ?_⟩
      walk_at "go"
      refine ⟨(frB_mk (hsb i (by omega)) hTb hT0).mono (by decide), (frB_mk ((pow_bt hwi.1 hwi.2 hn).mono (by decide)) hTb hT0).mono (by decide), ?_⟩
      refine ⟨rfl, .d (.int w), ?_⟩
      rw [mk_add hT0, range_one, List.map_append, List.sum_append]
      simp only [List.map_cons, List.map_nil, List.sum_cons, List.sum_nil, Int.add_zero, ew]
      rfl
    · rintro r' m' ⟨rfl, y, rfl⟩
      walk_at "go"
      exact q
abbrev s_law : Stmt := topS 36
theorem sc_law : FnScope ["_law_script", "_law_k", "_law_box_here", "_law_shares", "_law_many", "_law_number", "_law_cases_here", "_law_lack", "_law_due", "_law_ahead", "_law_top", "_law_kind", "_law_others", "_law_some", "_law_one"] ["_law_script"] (defScope s_law) := ⟨rfl, rfl, rfl, by decide +kernel, rfl, by decide +kernel, by decide +kernel⟩
theorem ok_law {a : Addr} {fd : FuncData} (F : Fun K "law" "law" s_law a fd) (z_range : mg "range" = none) (z_max : mg "max" = none) (z_min : mg "min" = none) (z_len : mg "len" = none) (z_sum : mg "sum" = none) (z_repr : mg "repr" = none) (z_tuple : mg "tuple" = none) (k__law_box : Cl P w K mg base 2 "_law_box" f_box) (k__law_drawn_shares : Cl P w K mg base 2 "_law_drawn_shares" f_drawnShares) (k__law_take : Cl P w K mg base 1 "_law_take" f_take) (k__law_cases : Cl P w K mg base 1 "_law_cases" f_lawCases) (k_lacking : Cl P w K mg base 4 "lacking" f_lacking) (k__law_made : Cl P w K mg base 2 "_law_made" f_made) (k__law_all_cases : Cl P w K mg base 1 "_law_all_cases" f_lawAllCases) (k_last_share : Cl P w K mg base 4 "last_share" f_lastShare) :
    FnG P w K mg base 5 a fd ["_law_script"] (spD K f_law) := by
  refine fnG_ok F sc_law (fun args m R h => ?_) (fun cdv A outer s H E hg hr => ⟨_, (pss_cons (ps_for PassesOwn.never rfl (pi_range1 (by rfl) z_range (pa_cons (pe_callB (cMax rfl) (by rfl) z_max (by decide +kernel) (pa_cons pe_int (pa_cons (pe_callB (cMin rfl) (by rfl) z_min (by decide +kernel) (pa_cons (pe_callB (kLen K) (by rfl) z_len (by decide +kernel) (pa_cons (pv 0) pa_nil)) (pa_cons pe_int pa_nil))) pa_nil))) pa_nil)) (pg_name (i := 1) sc_law.nd rfl (by first | exact Or.inl rfl | exact Or.inr rfl)) (pss_cons (ps_set (i := 2) sc_law.nd rfl (by first | exact Or.inl rfl | exact Or.inr rfl) (pe_cl k__law_box hr (by decide) (by rfl) (pa_cons (pv 0) (pa_cons (pv 1) pa_nil))))
      (pss_cons (ps_set (i := 3) sc_law.nd rfl (by first | exact Or.inl rfl | exact Or.inr rfl) (pe_cl k__law_drawn_shares hr (by decide) (by rfl) (pa_cons (pv 2) (pa_cons pe_int (pa_cons pe_int pa_nil)))))
      (pss_cons (ps_set (i := 4) sc_law.nd rfl (by first | exact Or.inl rfl | exact Or.inr rfl) (pe_callB (kLen K) (by rfl) z_len (by decide +kernel) (pa_cons (pv 3) pa_nil)))
      (pss_one (ps_for PassesOwn.never rfl (kiL K (pe_lst (pa_cons (pe_cl k__law_take hr (by decide) (by rfl) (pa_cons (pv 2) (pa_cons pe_int pa_nil))) (pa_cons (pe_cl k__law_take hr (by decide) (by rfl) (pa_cons (pv 2) (pa_cons pe_int pa_nil))) (pa_cons (pv 4) pa_nil))))) (pg_name (i := 5) sc_law.nd rfl (by first | exact Or.inl rfl | exact Or.inr rfl)) (pss_cons (ps_set (i := 6) sc_law.nd rfl (by first | exact Or.inl rfl | exact Or.inr rfl) (pe_cl k__law_cases hr (by decide) (by rfl) (pa_cons (pv 3) (pa_cons (pv 5) pa_nil))))
      (pss_cons (ps_set (i := 7) sc_law.nd rfl (by first | exact Or.inl rfl | exact Or.inr rfl) (pe_callB (kSum K) (by rfl) z_sum (by decide +kernel) (pa_cons (pe_lock (pe_lc (own := [("_law_some", 13)]) rfl sc_law.nd (pi_keys (pv 6)) (blkOk_by (own := [("_law_some", 13)]) (N := ["_law_script", "_law_k", "_law_box_here", "_law_shares", "_law_many", "_law_number", "_law_cases_here", "_law_lack", "_law_due", "_law_ahead", "_law_top", "_law_kind", "_law_others", "_law_some", "_law_one"]) (sc := defScope s_law) (by decide +kernel)) (fun _ _ _ _ _ => (pg_name (i := 13) sc_law.nd rfl (by first | exact Or.inl rfl | exact Or.inr rfl))) (fun _ _ _ _ _ => pts_nil) (fun _ _ _ _ _ => (pe_op (kMul K) (pe_dget (hu_of hr) (pv 6) (pv 13) (fun _ _ => rfl)) (pe_op oSub (pv 4) (pe_callB (kLen K) (by rfl) z_len (by decide +kernel) (pa_cons (pv 13) pa_nil))))))) pa_nil)))
      (pss_cons (ps_if (pt_cmpR (kNe K hr) (pe_callB (kRepr K hr hg) (by rfl) z_repr (by decide +kernel) (pa_cons (pe_cl k_lacking hr (by decide) (by rfl) (pa_cons (pv 3) (pa_cons (pv 5) pa_nil))) pa_nil)) (pe_callB (kRepr K hr hg) (by rfl) z_repr (by decide +kernel) (pa_cons (pe_cl k__law_made hr (by decide) (by rfl) (pa_cons (pv 7) (pa_cons (pe_cl k__law_all_cases hr (by decide) (by rfl) (pa_cons (pv 3) (pa_cons (pv 5) pa_nil))) pa_nil))) pa_nil)) (nomark _)) (pss_one (ps_ret pe_bl)) pss_nil)
      (pss_cons (ps_set (i := 8) sc_law.nd rfl (by first | exact Or.inl rfl | exact Or.inr rfl) (pe_tup (pa_cons pe_int (pa_cons pe_int pa_nil))))
      (pss_cons (ps_if (pt_cmpR oGt (pv 5) pe_int (nomark _)) (pss_cons (ps_set (i := 9) sc_law.nd rfl (by first | exact Or.inl rfl | exact Or.inr rfl) (pe_cl k__law_cases hr (by decide) (by rfl) (pa_cons (pv 3) (pa_cons (pe_op oSub (pv 5) pe_int) pa_nil))))
      (pss_cons (ps_set (i := 10) sc_law.nd rfl (by first | exact Or.inl rfl | exact Or.inr rfl) pe_int)
      (pss_cons (ps_for PassesOwn.never rfl (pi_range1 (by rfl) z_range (pa_cons (pv 4) pa_nil)) (pg_name (i := 11) sc_law.nd rfl (by first | exact Or.inl rfl | exact Or.inr rfl)) (pss_cons (ps_set (i := 12) sc_law.nd rfl (by first | exact Or.inl rfl | exact Or.inr rfl) (pe_callTy (kTup K) (by rfl) z_tuple (by decide +kernel) (pa_cons (pe_lc (own := [("_law_one", 14)]) rfl sc_law.nd (pi_range1 (by rfl) z_range (pa_cons (pv 4) pa_nil)) (blkOk_by (own := [("_law_one", 14)]) (N := ["_law_script", "_law_k", "_law_box_here", "_law_shares", "_law_many", "_law_number", "_law_cases_here", "_law_lack", "_law_due", "_law_ahead", "_law_top", "_law_kind", "_law_others", "_law_some", "_law_one"]) (sc := defScope s_law) (by decide +kernel)) (fun _ _ _ _ _ => (pg_name (i := 14) sc_law.nd rfl (by first | exact Or.inl rfl | exact Or.inr rfl))) (fun _ _ _ _ _ => (pts_one (pt_cmpR (kNe K hr) (pv 14) (pv 11) (nomark _)))) (fun _ _ _ _ _ => (pv 14))) pa_nil)))
      (pss_one (ps_set (i := 10) sc_law.nd rfl (by first | exact Or.inl rfl | exact Or.inr rfl) (pe_op (kAdd K) (pv 10) (pe_op (kMul K) (pe_dget2 (hu_of hr) (pv 9) (pv 12) pe_int ⟨rfl, rfl, rfl, rfl⟩) (pe_ix (kIx K) (pv 3) (pv 11) (fun _ _ => rfl))))))))
      (pss_one (ps_set (i := 8) sc_law.nd rfl (by first | exact Or.inl rfl | exact Or.inr rfl) (pe_cl k__law_made hr (by decide) (by rfl) (pa_cons (pv 10) (pa_cons (pe_cl k__law_all_cases hr (by decide) (by rfl) (pa_cons (pv 3) (pa_cons (pv 5) pa_nil))) pa_nil)))))))) pss_nil)
      (pss_one (ps_if (pt_cmpR (kNe K hr) (pe_callB (kRepr K hr hg) (by rfl) z_repr (by decide +kernel) (pa_cons (pe_cl k_last_share hr (by decide) (by rfl) (pa_cons (pv 3) (pa_cons (pv 5) pa_nil))) pa_nil)) (pe_callB (kRepr K hr hg) (by rfl) z_repr (by decide +kernel) (pa_cons (pv 8) pa_nil)) (nomark _)) (pss_one (ps_ret pe_bl)) pss_nil)))))))))))))
      (pss_one (ps_ret pe_bl))), fun args m R h => ?_⟩)
  ·
    obtain ⟨_, rfl, _⟩ := h; rfl
  ·
    obtain ⟨ns, rfl, q⟩ := h
    walk_at "go"
    obtain ⟨n, hn, hn6⟩ : ∃ n : Nat, max (1 : Int) (min (ns.length : Int) 3) = (n : Int) ∧ n ≤ 3 := ⟨(max (1 : Int) (min (ns.length : Int) 3)).toNat, by omega, by omega⟩
    
    refine w_forR1 (n := n) ?_ (by omega) (fun i r' m' => ∃ y1 y2 y3 y4 y5 y6 y7 y8 y9 ya yb yc, r' = [.scr ns, y1, y2, y3, y4, y5, y6, y7, y8, y9, ya, yb, yc, .any, .any]) ⟨_, _, _, _, _, _, _, _, _, _, _, _, rfl⟩ ?_ ?_
    · walk_at "go"
      exact ⟨by rw [hn], rfl⟩
    · rintro i r' m' hi ⟨y1, y2, y3, y4, y5, y6, y7, y8, y9, ya, yb, yc, rfl⟩
      walk_at "go"
      intro p hp
      have hpb := put_same (m := m') (a := p) (o := .box)
      generalize put m' p .box = M at *
      walk_at "go"
      refine ⟨p, 5, 9, rfl, hpb, by decide, by decide, by decide, by decide, fun ss hs hl => ?_⟩
      have hfew := hs.few
      have hsum := shares_sum hs
      walk_at "go"
      refine w_forLA (fun ds => ∀ d ∈ ds, ∃ n : Nat, n ≤ 12 ∧ d = .int (n : Int)) ?_ (fun _ _ r' m' => m' = M ∧ ∃ y1 y2 y5 y6 y7 y8 y9 ya yb yc, r' = [.scr ns, y1, y2, .d (tupI ss), .d (.int (ss.length : Int)), y5, y6, y7, y8, y9, ya, yb, yc, .any, .any]) (fun ds _ => ⟨rfl, _, _, _, _, _, _, _, _, _, _, rfl⟩) ?_ ?_
      · refine ev_lstD ?_
        walk_at "go"
        refine ⟨hpb, by decide, bt_lit (n := 4) (by decide) (by decide), fun u hu0 hu1 => ?_⟩
        walk_at "go"
        refine ⟨hpb, by decide, bt_lit (n := 4) (by decide) (by decide), fun v hv0 hv1 => ?_⟩
        walk_at "go"
        refine ⟨rfl, _, rfl, fun d hd => ?_⟩
        rcases List.mem_cons.mp hd with rfl | hd
        · exact ⟨u.toNat, by omega, by rw [show ((u.toNat : Nat) : Int) = u by omega]⟩
        rcases List.mem_cons.mp hd with rfl | hd
        · exact ⟨v.toNat, by omega, by rw [show ((v.toNat : Nat) : Int) = v by omega]⟩
        rw [List.mem_singleton.mp hd]
        exact ⟨ss.length, by omega, rfl⟩
      · rintro ds k2 d r3 m3 hP2 hd2 ⟨rfl, u1, u2, u5, u6, u7, u8, u9, ua, ub, uc, rfl⟩
        obtain ⟨num, hnum, rfl⟩ := hP2 d (List.mem_of_getElem? hd2)
        walk_at "go"
        refine ⟨hs, hnum, fun q l hq hT => ?_⟩
        have hT0 : 0 < ss.sum.toNat ^ num := Nat.pow_pos (by omega)
        have hTb : Bt ((ss.sum.toNat ^ num : Nat) : Int) 80 := by
          rw [← tot_pow hs]
          exact (pow_bt (by omega) (by omega) hnum).mono (by decide)
        have hqb : put m3 q (.dT (dI (tabI (GJ ss num) l))) p = some .box := by rw [put_ne (ne_of_get hpb hq)]; exact hpb
        have hll := hT.len hfew
        walk_at "go"
        refine ev_lcD (p := q) (kvs := tabI (GJ ss num) l) put_same (fun m' => ev_var rfl (fun h => nomatch h) ⟨rfl, rfl⟩) (by unfold tabI; rw [List.length_map]; omega) (fun kv => .int (intOf (match kv.2 with | .d x => x | _ => .none) * ((ss.length : Int) - (kv.1.length : Int)))) (fun kv m' hkv hd hx => ?_) ?_
        · obtain ⟨s, hsl, rfl⟩ := List.mem_map.mp hkv
          have hsa := hT.sub s hsl
          have hkl := (allS_kinds hsa).len
          refine ev_op (ev_dgetV (ns := kn s) rfl ?_)
          refine ev_var rfl (fun h => nomatch h) ⟨q, _, _, rfl, hd, getV_tabI_mem hsl, ?_⟩
          walk_at "go"
          refine o2_mulI ((GJ_bt hs hnum s).cmul (b := 6) (bt_lit (n := 6) (by show _ < 64; omega) (by decide)) (by decide)) ⟨?_, rfl⟩
          show Val.d (.int (GJ ss num s * ((ss.length : Int) - (s.length : Int)))) = Val.d (.int (GJ ss num s * ((ss.length : Int) - ((kn s).length : Int))))
          rw [List.length_map]
        walk_at "dl1"
        have elist : (tabI (GJ ss num) l).map (fun kv => PyData.int (intOf (match kv.2 with | .d x => x | _ => .none) * ((ss.length : Int) - (kv.1.length : Int)))) = (l.map fun s => GJ ss num s * ((ss.length : Int) - (s.length : Int))).map PyData.int := by
          unfold tabI
          rw [List.map_map, List.map_map]
          refine List.map_congr_left fun s _ => ?_
          show PyData.int (GJ ss num s * ((ss.length : Int) - ((kn s).length : Int))) = _
          rw [List.length_map]; rfl
        rw [elist]
        refine on_sumL ?_
        rw [lack_eq hs hT]
        have hw : ∀ k, 0 ≤ ss.sum - ss.getD k 0 ∧ ss.sum - ss.getD k 0 ≤ 45 := fun k => by
          have h1 := getD_bounds hs k
          by_cases hk : k < ss.length
          · have h2 := sumP_wo hk
            have h3 := sumP_nonneg hs (wo (List.range ss.length) k)
            omega
          · have : ss.getD k 0 = 0 := by rw [List.getD_eq_getElem?_getD, List.getElem?_eq_none (by omega)]; rfl
            omega
        have hsb : Bt (((List.range ss.length).map fun k => (ss.sum - ss.getD k 0) ^ num).sum) 80 := by
          have h := natAbs_sum_le (fun k => (ss.sum - ss.getD k 0) ^ num) (2 ^ 73) (List.range ss.length) fun k _ => Nat.le_of_lt (pow_bt (hw k).1 (hw k).2 hnum)
          rw [List.length_range] at h
          refine Nat.lt_of_le_of_lt h (Nat.lt_of_le_of_lt (Nat.mul_le_mul_right _ (show ss.length ≤ 5 by omega)) ?_)
          decide
        have hshl := sh_frac (frB_mk hsb hTb hT0) (by decide) (by decide)
        walk_at "go"
        refine ⟨hs, hnum, ?_⟩
        walk_at "go"
        refine on_show hshl (by decide) (by decide) ?_
        walk_at "go"
        refine ⟨hs, hnum, ?_⟩
        rw [tot_pow hs]
        walk_at "go"
        refine ⟨hT0, hTb.mono (by decide), ?_⟩
        walk_at "go"
        refine on_show hshl (by decide) (by decide) ?_
        walk_at "go"
        refine br_f (by simp) (w_next ?_)
        refine w_less (put_less hq) ?_
        refine w_seq (w_asg (ev_tup (eva_cons (ev_cI (eva_cons (ev_cI (eva_nil ⟨[.int 0, .int 1], rfl, by decide, ?_⟩)))))))
        refine w_seq (Wp.imp (N := fun r1 m1 => m1 = m3 ∧ ∃ y1 y2 y6 y7 y9 ya yb yc, r1 = [.scr ns, y1, y2, .d (tupI ss), .d (.int (ss.length : Int)), .d (.int (num : Int)), y6, y7, .d (frac (if num = 0 then 0 else mkRat ((List.range ss.length).map fun k => casesJ ss (wo (List.range ss.length) k) (num - 1) * ss.getD k 0).sum (ss.sum.toNat ^ num))), y9, ya, yb, yc, .any, .any]) (E := fun _ _ => False) (w_if ?_) ?_ (fun _ _ h => h.elim))
        · walk_at "go"
          by_cases h0 : num = 0
          · subst h0
            refine br_f (decide_eq_false (by omega)) (w_next ?_)
            exact ⟨rfl, _, _, _, _, _, _, _, _, rfl⟩
          · refine br_t (decide_eq_true (by omega)) ?_
            obtain ⟨k, rfl⟩ : ∃ k, num = k + 1 := ⟨num - 1, by omega⟩
            have e1 : ((k + 1 : Nat) : Int) - 1 = (k : Int) := by omega
            walk_at "go"
            rw [e1]
            refine ⟨_, _, rfl, hs, by omega, fun q2 l2 hq2 hT2 => ?_⟩
            walk_at "go"
            refine w_forR1 (n := ss.length) ?_ (by omega) (fun x r4 m4 => m4 = put m3 q2 (.dT (dI (tabI (GJ ss k) l2))) ∧ ∃ y1 y2 y6 y7 y8 yb yc, r4 = [.scr ns, y1, y2, .d (tupI ss), .d (.int (ss.length : Int)), .d (.int ((k + 1 : Nat) : Int)), y6, y7, y8, .v (.ref q2), .d (.int (((List.range x).map fun j => casesJ ss (wo (List.range ss.length) j) k * ss.getD j 0).sum)), yb, yc, .any, .any]) ⟨rfl, _, _, _, _, _, _, _, rfl⟩ ?_ ?_
            · walk_at "go"
              exact ⟨rfl, rfl⟩
            · rintro x r4 m4 hx ⟨rfl, v1, v2, v6, v7, v8, vb, vc, rfl⟩
              have hb9 := getD_bounds hs x
              have hwa : wo (List.range ss.length) x ∈ allS ss.length := allS_without ⟨ss.length, by omega⟩ _ (allS_range ⟨ss.length, by omega⟩) x (List.mem_range.mpr hx)
              walk_at "go"
              refine ev_filR1 (n := ss.length) ?_ (by omega) (fun y => !decide (y = x)) intN (fun y m2 hy hxx => ?_) (fun y m2 hy hxx hq => ?_) ?_
              · walk_at "go"
                exact ⟨rfl, rfl⟩
              · walk_at "go"
                refine ⟨?_, rfl⟩
                rw [show decide ((y : Int) = (x : Int)) = decide (y = x) from decide_eq_decide.mpr (by omega)]
              · walk_at "go"
                exact ⟨rfl, rfl⟩
              walk_at "dl1"
              refine on_tupLtN ?_
              walk_at "go"
              refine ev_dget2V (ns := kn (wo (List.range ss.length) x)) rfl ?_
              refine ev_var rfl (fun h => nomatch h) ⟨q2, _, rfl, Or.inl put_same, ?_⟩
              walk_at "go"
              refine ⟨_, Or.inl put_same, ?_⟩
              rw [getV_tabI hT2.off]
              have eG : GJ ss k (wo (List.range ss.length) x) = casesJ ss (wo (List.range ss.length) x) k := if_pos hwa
              rw [eG]
              walk_at "go"
              refine o2_ixT (tupI_at hx) ?_
              refine o2_mulI ((casesJ_bt hs (allS_kinds hwa) (by omega)).cmul (b := 6) (bt_lit (n := 6) (by show (ss.getD x 0).natAbs < 64; omega) (by decide)) (by decide)) ?_
              walk_at "go"
              have es : ((List.range (x + 1)).map fun j => casesJ ss (wo (List.range ss.length) j) k * ss.getD j 0).sum = ((List.range x).map fun j => casesJ ss (wo (List.range ss.length) j) k * ss.getD j 0).sum + casesJ ss (wo (List.range ss.length) x) k * ss.getD x 0 := by
                rw [range_one, List.map_append, List.sum_append]
                simp only [List.map_cons, List.map_nil, List.sum_cons, List.sum_nil, Int.add_zero]
              rw [es]
              exact ⟨rfl, _, _, _, _, _, _, _, rfl⟩
            · rintro r4 m4 ⟨rfl, v1, v2, v6, v7, v8, vb, vc, rfl⟩
              refine w_less (put_less hq2) ?_
              walk_at "go"
              refine ⟨hs, hnum, ?_⟩
              rw [tot_pow hs]
              walk_at "go"
              refine ⟨hT0, hTb.mono (by decide), ?_⟩
              rw [if_neg h0]
              exact ⟨rfl, _, _, _, _, _, _, _, _, rfl⟩
        · rintro r1 m1 ⟨rfl, v1, v2, v6, v7, v9, va, vb, vc, rfl⟩
          have hlb : Bt (((List.range ss.length).map fun k => casesJ ss (wo (List.range ss.length) k) (num - 1) * ss.getD k 0).sum) 90 := by
            have h := natAbs_sum_le (fun k => casesJ ss (wo (List.range ss.length) k) (num - 1) * ss.getD k 0) (2 ^ 86) (List.range ss.length) fun k _ => by
              have hb9 := getD_bounds hs k
              have hkk : Kinds ss.length (wo (List.range ss.length) k) := kinds_without (kinds_all _) k
              exact Nat.le_of_lt (Bt.mul (a := 80) (b := 6) (casesJ_bt hs hkk (by omega)) (bt_lit (n := 6) (by show (ss.getD k 0).natAbs < 64; omega) (by decide)))
            rw [List.length_range] at h
            refine Nat.lt_of_le_of_lt h (Nat.lt_of_le_of_lt (Nat.mul_le_mul_right _ (show ss.length ≤ 5 by omega)) ?_)
            decide
          have hfr : FrB (if num = 0 then 0 else mkRat ((List.range ss.length).map fun k => casesJ ss (wo (List.range ss.length) k) (num - 1) * ss.getD k 0).sum (ss.sum.toNat ^ num)) 90 := by
            split
            · exact ⟨bt_lit (n := 1) (by decide) (by decide), bt_lit (n := 1) (by decide) (by decide)⟩
            · exact frB_mk hlb (hTb.mono (by decide)) hT0
          have hsh := sh_frac hfr (by decide) (by decide)
          walk_at "go"
          refine ⟨hs, hnum, ?_⟩
          walk_at "go"
          refine on_show hsh (by decide) (by decide) ?_
          walk_at "go"
          refine on_show hsh (by decide) (by decide) ?_
          walk_at "go"
          refine br_f (by simp) (w_next ?_)
          exact ⟨rfl, _, _, _, _, _, _, _, _, _, _, rfl⟩
      · rintro ds r3 m3 hP2 ⟨rfl, u1, u2, u5, u6, u7, u8, u9, ua, ub, uc, rfl⟩
        exact ⟨_, _, _, _, _, _, _, _, _, _, _, _, rfl⟩
    · rintro r' m' ⟨y1, y2, y3, y4, y5, y6, y7, y8, y9, ya, yb, yc, rfl⟩
      walk_at "go"
      exact q _
end
theorem law_ends : ∀ ns : List Int, ns.length ≤ 63 → (∀ z ∈ ns, Builtin.Int.intBits z ≤ 1048576) → f_law [.scr ns] (fun _ => none) fun y _ => y = .d (.bool true) := fun ns _ _ => ⟨ns, rfl, fun _ => rfl⟩
section
variable {P : Program} {w : World} {K : PySem.W.Frag} {mg : Str → Option Value}
theorem all_mk {h : Heap} {fa : Addr} (X : K.In h) (G : h.Ns mainGlobals mg) (hfa : mg "law" = some (.ref fa))
    {od1 an1 : Option Addr} {sl1 : Array (Option Value)} {f1 : Addr} {oc1 kV1 dc1 pm1 cd1 ct1 : Value}
    (a1 : PySem.W.nsIn K mainGlobals "is_whole" = some (some (.ref f1))) (l1 : K.lookup f1 = some ⟨oc1, od1, .func (PySem.W.fnOf "is_whole" "is_whole" (defArgs s_is_whole) (defBody s_is_whole) (defScope s_is_whole) .none kV1 dc1 pm1 an1 cd1 ct1), sl1⟩) (c1 : PySem.W.codeIn K cd1 "is_whole" = true) (k1 : PySem.W.keepIn K (.ref f1) = true)
    {od2 an2 : Option Addr} {sl2 : Array (Option Value)} {f2 : Addr} {oc2 kV2 dc2 pm2 cd2 ct2 : Value}
    (a2 : PySem.W.nsIn K mainGlobals "greatest_common" = some (some (.ref f2))) (l2 : K.lookup f2 = some ⟨oc2, od2, .func (PySem.W.fnOf "greatest_common" "greatest_common" (defArgs s_greatest_common) (defBody s_greatest_common) (defScope s_greatest_common) .none kV2 dc2 pm2 an2 cd2 ct2), sl2⟩) (c2 : PySem.W.codeIn K cd2 "greatest_common" = true) (k2 : PySem.W.keepIn K (.ref f2) = true)
    {od3 an3 : Option Addr} {sl3 : Array (Option Value)} {f3 : Addr} {oc3 kV3 dc3 pm3 cd3 ct3 : Value}
    (a3 : PySem.W.nsIn K mainGlobals "raised" = some (some (.ref f3))) (l3 : K.lookup f3 = some ⟨oc3, od3, .func (PySem.W.fnOf "raised" "raised" (defArgs s_raised) (defBody s_raised) (defScope s_raised) .none kV3 dc3 pm3 an3 cd3 ct3), sl3⟩) (c3 : PySem.W.codeIn K cd3 "raised" = true) (k3 : PySem.W.keepIn K (.ref f3) = true)
    {od4 an4 : Option Addr} {sl4 : Array (Option Value)} {f4 : Addr} {oc4 kV4 dc4 pm4 cd4 ct4 : Value}
    (a4 : PySem.W.nsIn K mainGlobals "sum_part" = some (some (.ref f4))) (l4 : K.lookup f4 = some ⟨oc4, od4, .func (PySem.W.fnOf "sum_part" "sum_part" (defArgs s_sum_part) (defBody s_sum_part) (defScope s_sum_part) .none kV4 dc4 pm4 an4 cd4 ct4), sl4⟩) (c4 : PySem.W.codeIn K cd4 "sum_part" = true) (k4 : PySem.W.keepIn K (.ref f4) = true)
    {od5 an5 : Option Addr} {sl5 : Array (Option Value)} {f5 : Addr} {oc5 kV5 dc5 pm5 cd5 ct5 : Value}
    (a5 : PySem.W.nsIn K mainGlobals "all_some" = some (some (.ref f5))) (l5 : K.lookup f5 = some ⟨oc5, od5, .func (PySem.W.fnOf "all_some" "all_some" (defArgs s_all_some) (defBody s_all_some) (defScope s_all_some) .none kV5 dc5 pm5 an5 cd5 ct5), sl5⟩) (c5 : PySem.W.codeIn K cd5 "all_some" = true) (k5 : PySem.W.keepIn K (.ref f5) = true)
    {od6 an6 : Option Addr} {sl6 : Array (Option Value)} {f6 : Addr} {oc6 kV6 dc6 pm6 cd6 ct6 : Value}
    (a6 : PySem.W.nsIn K mainGlobals "every" = some (some (.ref f6))) (l6 : K.lookup f6 = some ⟨oc6, od6, .func (PySem.W.fnOf "every" "every" (defArgs s_every) (defBody s_every) (defScope s_every) .none kV6 dc6 pm6 an6 cd6 ct6), sl6⟩) (c6 : PySem.W.codeIn K cd6 "every" = true) (k6 : PySem.W.keepIn K (.ref f6) = true)
    {od7 an7 : Option Addr} {sl7 : Array (Option Value)} {f7 : Addr} {oc7 kV7 dc7 pm7 cd7 ct7 : Value}
    (a7 : PySem.W.nsIn K mainGlobals "_law_cell" = some (some (.ref f7))) (l7 : K.lookup f7 = some ⟨oc7, od7, .func (PySem.W.fnOf "_law_cell" "_law_cell" (defArgs s__law_cell) (defBody s__law_cell) (defScope s__law_cell) .none kV7 dc7 pm7 an7 cd7 ct7), sl7⟩) (c7 : PySem.W.codeIn K cd7 "_law_cell" = true) (k7 : PySem.W.keepIn K (.ref f7) = true)
    {od8 an8 : Option Addr} {sl8 : Array (Option Value)} {f8 : Addr} {oc8 kV8 dc8 pm8 cd8 ct8 : Value}
    (a8 : PySem.W.nsIn K mainGlobals "_law_mix" = some (some (.ref f8))) (l8 : K.lookup f8 = some ⟨oc8, od8, .func (PySem.W.fnOf "_law_mix" "_law_mix" (defArgs s__law_mix) (defBody s__law_mix) (defScope s__law_mix) .none kV8 dc8 pm8 an8 cd8 ct8), sl8⟩) (c8 : PySem.W.codeIn K cd8 "_law_mix" = true) (k8 : PySem.W.keepIn K (.ref f8) = true)
    {od9 an9 : Option Addr} {sl9 : Array (Option Value)} {f9 : Addr} {oc9 kV9 dc9 pm9 cd9 ct9 : Value}
    (a9 : PySem.W.nsIn K mainGlobals "_law_take" = some (some (.ref f9))) (l9 : K.lookup f9 = some ⟨oc9, od9, .func (PySem.W.fnOf "_law_take" "_law_take" (defArgs s__law_take) (defBody s__law_take) (defScope s__law_take) .none kV9 dc9 pm9 an9 cd9 ct9), sl9⟩) (c9 : PySem.W.codeIn K cd9 "_law_take" = true) (k9 : PySem.W.keepIn K (.ref f9) = true)
    {od10 an10 : Option Addr} {sl10 : Array (Option Value)} {f10 : Addr} {oc10 kV10 dc10 pm10 cd10 ct10 : Value}
    (a10 : PySem.W.nsIn K mainGlobals "_law_common" = some (some (.ref f10))) (l10 : K.lookup f10 = some ⟨oc10, od10, .func (PySem.W.fnOf "_law_common" "_law_common" (defArgs s__law_common) (defBody s__law_common) (defScope s__law_common) .none kV10 dc10 pm10 an10 cd10 ct10), sl10⟩) (c10 : PySem.W.codeIn K cd10 "_law_common" = true) (k10 : PySem.W.keepIn K (.ref f10) = true)
    {od11 an11 : Option Addr} {sl11 : Array (Option Value)} {f11 : Addr} {oc11 kV11 dc11 pm11 cd11 ct11 : Value}
    (a11 : PySem.W.nsIn K mainGlobals "_law_cases" = some (some (.ref f11))) (l11 : K.lookup f11 = some ⟨oc11, od11, .func (PySem.W.fnOf "_law_cases" "_law_cases" (defArgs s__law_cases) (defBody s__law_cases) (defScope s__law_cases) .none kV11 dc11 pm11 an11 cd11 ct11), sl11⟩) (c11 : PySem.W.codeIn K cd11 "_law_cases" = true) (k11 : PySem.W.keepIn K (.ref f11) = true)
    {od12 an12 : Option Addr} {sl12 : Array (Option Value)} {f12 : Addr} {oc12 kV12 dc12 pm12 cd12 ct12 : Value}
    (a12 : PySem.W.nsIn K mainGlobals "_law_all_cases" = some (some (.ref f12))) (l12 : K.lookup f12 = some ⟨oc12, od12, .func (PySem.W.fnOf "_law_all_cases" "_law_all_cases" (defArgs s__law_all_cases) (defBody s__law_all_cases) (defScope s__law_all_cases) .none kV12 dc12 pm12 an12 cd12 ct12), sl12⟩) (c12 : PySem.W.codeIn K cd12 "_law_all_cases" = true) (k12 : PySem.W.keepIn K (.ref f12) = true)
    {od13 an13 : Option Addr} {sl13 : Array (Option Value)} {f13 : Addr} {oc13 kV13 dc13 pm13 cd13 ct13 : Value}
    (a13 : PySem.W.nsIn K mainGlobals "made" = some (some (.ref f13))) (l13 : K.lookup f13 = some ⟨oc13, od13, .func (PySem.W.fnOf "made" "made" (defArgs s_made) (defBody s_made) (defScope s_made) .none kV13 dc13 pm13 an13 cd13 ct13), sl13⟩) (c13 : PySem.W.codeIn K cd13 "made" = true) (k13 : PySem.W.keepIn K (.ref f13) = true)
    {od14 an14 : Option Addr} {sl14 : Array (Option Value)} {f14 : Addr} {oc14 kV14 dc14 pm14 cd14 ct14 : Value}
    (a14 : PySem.W.nsIn K mainGlobals "need_number" = some (some (.ref f14))) (l14 : K.lookup f14 = some ⟨oc14, od14, .func (PySem.W.fnOf "need_number" "need_number" (defArgs s_need_number) (defBody s_need_number) (defScope s_need_number) .none kV14 dc14 pm14 an14 cd14 ct14), sl14⟩) (c14 : PySem.W.codeIn K cd14 "need_number" = true) (k14 : PySem.W.keepIn K (.ref f14) = true)
    {od15 an15 : Option Addr} {sl15 : Array (Option Value)} {f15 : Addr} {oc15 kV15 dc15 pm15 cd15 ct15 : Value}
    (a15 : PySem.W.nsIn K mainGlobals "is_shares" = some (some (.ref f15))) (l15 : K.lookup f15 = some ⟨oc15, od15, .func (PySem.W.fnOf "is_shares" "is_shares" (defArgs s_is_shares) (defBody s_is_shares) (defScope s_is_shares) .none kV15 dc15 pm15 an15 cd15 ct15), sl15⟩) (c15 : PySem.W.codeIn K cd15 "is_shares" = true) (k15 : PySem.W.keepIn K (.ref f15) = true)
    {od16 an16 : Option Addr} {sl16 : Array (Option Value)} {f16 : Addr} {oc16 kV16 dc16 pm16 cd16 ct16 : Value}
    (a16 : PySem.W.nsIn K mainGlobals "cases_of" = some (some (.ref f16))) (l16 : K.lookup f16 = some ⟨oc16, od16, .func (PySem.W.fnOf "cases_of" "cases_of" (defArgs s_cases_of) (defBody s_cases_of) (defScope s_cases_of) .none kV16 dc16 pm16 an16 cd16 ct16), sl16⟩) (c16 : PySem.W.codeIn K cd16 "cases_of" = true) (k16 : PySem.W.keepIn K (.ref f16) = true)
    {od17 an17 : Option Addr} {sl17 : Array (Option Value)} {f17 : Addr} {oc17 kV17 dc17 pm17 cd17 ct17 : Value}
    (a17 : PySem.W.nsIn K mainGlobals "_law_box" = some (some (.ref f17))) (l17 : K.lookup f17 = some ⟨oc17, od17, .func (PySem.W.fnOf "_law_box" "_law_box" (defArgs s__law_box) (defBody s__law_box) (defScope s__law_box) .none kV17 dc17 pm17 an17 cd17 ct17), sl17⟩) (c17 : PySem.W.codeIn K cd17 "_law_box" = true) (k17 : PySem.W.keepIn K (.ref f17) = true)
    {od18 an18 : Option Addr} {sl18 : Array (Option Value)} {f18 : Addr} {oc18 kV18 dc18 pm18 cd18 ct18 : Value}
    (a18 : PySem.W.nsIn K mainGlobals "_law_drawn_shares" = some (some (.ref f18))) (l18 : K.lookup f18 = some ⟨oc18, od18, .func (PySem.W.fnOf "_law_drawn_shares" "_law_drawn_shares" (defArgs s__law_drawn_shares) (defBody s__law_drawn_shares) (defScope s__law_drawn_shares) .none kV18 dc18 pm18 an18 cd18 ct18), sl18⟩) (c18 : PySem.W.codeIn K cd18 "_law_drawn_shares" = true) (k18 : PySem.W.keepIn K (.ref f18) = true)
    {od19 an19 : Option Addr} {sl19 : Array (Option Value)} {f19 : Addr} {oc19 kV19 dc19 pm19 cd19 ct19 : Value}
    (a19 : PySem.W.nsIn K mainGlobals "_law_made" = some (some (.ref f19))) (l19 : K.lookup f19 = some ⟨oc19, od19, .func (PySem.W.fnOf "_law_made" "_law_made" (defArgs s__law_made) (defBody s__law_made) (defScope s__law_made) .none kV19 dc19 pm19 an19 cd19 ct19), sl19⟩) (c19 : PySem.W.codeIn K cd19 "_law_made" = true) (k19 : PySem.W.keepIn K (.ref f19) = true)
    {od20 an20 : Option Addr} {sl20 : Array (Option Value)} {f20 : Addr} {oc20 kV20 dc20 pm20 cd20 ct20 : Value}
    (a20 : PySem.W.nsIn K mainGlobals "sum_of" = some (some (.ref f20))) (l20 : K.lookup f20 = some ⟨oc20, od20, .func (PySem.W.fnOf "sum_of" "sum_of" (defArgs s_sum_of) (defBody s_sum_of) (defScope s_sum_of) .none kV20 dc20 pm20 an20 cd20 ct20), sl20⟩) (c20 : PySem.W.codeIn K cd20 "sum_of" = true) (k20 : PySem.W.keepIn K (.ref f20) = true)
    {od21 an21 : Option Addr} {sl21 : Array (Option Value)} {f21 : Addr} {oc21 kV21 dc21 pm21 cd21 ct21 : Value}
    (a21 : PySem.W.nsIn K mainGlobals "need_shares" = some (some (.ref f21))) (l21 : K.lookup f21 = some ⟨oc21, od21, .func (PySem.W.fnOf "need_shares" "need_shares" (defArgs s_need_shares) (defBody s_need_shares) (defScope s_need_shares) .none kV21 dc21 pm21 an21 cd21 ct21), sl21⟩) (c21 : PySem.W.codeIn K cd21 "need_shares" = true) (k21 : PySem.W.keepIn K (.ref f21) = true)
    {od22 an22 : Option Addr} {sl22 : Array (Option Value)} {f22 : Addr} {oc22 kV22 dc22 pm22 cd22 ct22 : Value}
    (a22 : PySem.W.nsIn K mainGlobals "share_by" = some (some (.ref f22))) (l22 : K.lookup f22 = some ⟨oc22, od22, .func (PySem.W.fnOf "share_by" "share_by" (defArgs s_share_by) (defBody s_share_by) (defScope s_share_by) .none kV22 dc22 pm22 an22 cd22 ct22), sl22⟩) (c22 : PySem.W.codeIn K cd22 "share_by" = true) (k22 : PySem.W.keepIn K (.ref f22) = true)
    {od23 an23 : Option Addr} {sl23 : Array (Option Value)} {f23 : Addr} {oc23 kV23 dc23 pm23 cd23 ct23 : Value}
    (a23 : PySem.W.nsIn K mainGlobals "last_share" = some (some (.ref f23))) (l23 : K.lookup f23 = some ⟨oc23, od23, .func (PySem.W.fnOf "last_share" "last_share" (defArgs s_last_share) (defBody s_last_share) (defScope s_last_share) .none kV23 dc23 pm23 an23 cd23 ct23), sl23⟩) (c23 : PySem.W.codeIn K cd23 "last_share" = true) (k23 : PySem.W.keepIn K (.ref f23) = true)
    {od24 an24 : Option Addr} {sl24 : Array (Option Value)} {f24 : Addr} {oc24 kV24 dc24 pm24 cd24 ct24 : Value}
    (a24 : PySem.W.nsIn K mainGlobals "lacking" = some (some (.ref f24))) (l24 : K.lookup f24 = some ⟨oc24, od24, .func (PySem.W.fnOf "lacking" "lacking" (defArgs s_lacking) (defBody s_lacking) (defScope s_lacking) .none kV24 dc24 pm24 an24 cd24 ct24), sl24⟩) (c24 : PySem.W.codeIn K cd24 "lacking" = true) (k24 : PySem.W.keepIn K (.ref f24) = true)
    {od25 an25 : Option Addr} {sl25 : Array (Option Value)} {f25 : Addr} {oc25 kV25 dc25 pm25 cd25 ct25 : Value}
    (a25 : PySem.W.nsIn K mainGlobals "law" = some (some (.ref f25))) (l25 : K.lookup f25 = some ⟨oc25, od25, .func (PySem.W.fnOf "law" "law" (defArgs s_law) (defBody s_law) (defScope s_law) .none kV25 dc25 pm25 an25 cd25 ct25), sl25⟩) (c25 : PySem.W.codeIn K cd25 "law" = true) (k25 : PySem.W.keepIn K (.ref f25) = true)
    (z_abs : PySem.W.nsIn K mainGlobals "abs" = some none)
    (z_all : PySem.W.nsIn K mainGlobals "all" = some none)
    (z_bool : PySem.W.nsIn K mainGlobals "bool" = some none)
    (z_divmod : PySem.W.nsIn K mainGlobals "divmod" = some none)
    (z_int : PySem.W.nsIn K mainGlobals "int" = some none)
    (z_isinstance : PySem.W.nsIn K mainGlobals "isinstance" = some none)
    (z_len : PySem.W.nsIn K mainGlobals "len" = some none)
    (z_max : PySem.W.nsIn K mainGlobals "max" = some none)
    (z_min : PySem.W.nsIn K mainGlobals "min" = some none)
    (z_range : PySem.W.nsIn K mainGlobals "range" = some none)
    (z_repr : PySem.W.nsIn K mainGlobals "repr" = some none)
    (z_sorted : PySem.W.nsIn K mainGlobals "sorted" = some none)
    (z_sum : PySem.W.nsIn K mainGlobals "sum" = some none)
    (z_tuple : PySem.W.nsIn K mainGlobals "tuple" = some none)
    {t_MOST_DRAWS : Tok} (g_MOST_DRAWS : PySem.W.nsIn K mainGlobals "MOST_DRAWS" = some (some (.int 12 t_MOST_DRAWS)))
    {t_MOST_KINDS : Tok} (g_MOST_KINDS : PySem.W.nsIn K mainGlobals "MOST_KINDS" = some (some (.int 5 t_MOST_KINDS)))
    {t_MOST_SHARE : Tok} (g_MOST_SHARE : PySem.W.nsIn K mainGlobals "MOST_SHARE" = some (some (.int 9 t_MOST_SHARE)))
    {p_NOUGHT : Addr} {e_NOUGHT : Option Addr} {q_NOUGHT : Array (Option Value)} {u_NOUGHT w_NOUGHT : Tok} {n_NOUGHT : Nat} (g_NOUGHT : PySem.W.nsIn K mainGlobals "NOUGHT" = some (some (.ref p_NOUGHT))) (o_NOUGHT : K.lookup p_NOUGHT = some ⟨.type "tuple", e_NOUGHT, .seq #[.int 0 u_NOUGHT, .int 1 w_NOUGHT] n_NOUGHT, q_NOUGHT⟩)
    : ∃ fd : FuncData, (∀ (s : Shared) (v : Value), BindsTo s fd ⟨[v], []⟩ [("_law_script", v)]) ∧ ∀ base : Heap, K.In base → base.Ns mainGlobals mg → FnG P w K mg base 5 fa fd ["_law_script"] (spD K f_law) := by
  have e := hfa.symm.trans (PySem.W.mg_of X G a25)
  cases e
  have y_abs := PySem.W.mg_none_of X G z_abs
  have y_all := PySem.W.mg_none_of X G z_all
  have y_bool := PySem.W.mg_none_of X G z_bool
  have y_divmod := PySem.W.mg_none_of X G z_divmod
  have y_int := PySem.W.mg_none_of X G z_int
  have y_isinstance := PySem.W.mg_none_of X G z_isinstance
  have y_len := PySem.W.mg_none_of X G z_len
  have y_max := PySem.W.mg_none_of X G z_max
  have y_min := PySem.W.mg_none_of X G z_min
  have y_range := PySem.W.mg_none_of X G z_range
  have y_repr := PySem.W.mg_none_of X G z_repr
  have y_sorted := PySem.W.mg_none_of X G z_sorted
  have y_sum := PySem.W.mg_none_of X G z_sum
  have y_tuple := PySem.W.mg_none_of X G z_tuple
  have x_MOST_DRAWS : ∃ t, mg "MOST_DRAWS" = some (.int 12 t) := ⟨_, PySem.W.mg_of X G g_MOST_DRAWS⟩
  have x_MOST_KINDS : ∃ t, mg "MOST_KINDS" = some (.int 5 t) := ⟨_, PySem.W.mg_of X G g_MOST_KINDS⟩
  have x_MOST_SHARE : ∃ t, mg "MOST_SHARE" = some (.int 9 t) := ⟨_, PySem.W.mg_of X G g_MOST_SHARE⟩
  have x_NOUGHT : ∃ a, mg "NOUGHT" = some (.ref a) ∧ ∀ G, Rp K G (.tuple [.int 0, .int 1]) (.ref a) := ⟨_, PySem.W.mg_of X G g_NOUGHT, fun G => rp_tuple.mpr ⟨_, [V.int 0, V.int 1], rfl, Or.inr ⟨_, _, _, o_NOUGHT, rfl, rfl, (by show 2 ≤ sizeLine; decide), .cons ⟨_, rfl⟩ (.cons ⟨_, rfl⟩ .nil)⟩, rpa_ints [0, 1]⟩⟩
  have F1 := fun_mk (st := s_is_whole) l1 c1 k1
  have F2 := fun_mk (st := s_greatest_common) l2 c2 k2
  have F3 := fun_mk (st := s_raised) l3 c3 k3
  have F4 := fun_mk (st := s_sum_part) l4 c4 k4
  have F5 := fun_mk (st := s_all_some) l5 c5 k5
  have F6 := fun_mk (st := s_every) l6 c6 k6
  have F7 := fun_mk (st := s__law_cell) l7 c7 k7
  have F8 := fun_mk (st := s__law_mix) l8 c8 k8
  have F9 := fun_mk (st := s__law_take) l9 c9 k9
  have F10 := fun_mk (st := s__law_common) l10 c10 k10
  have F11 := fun_mk (st := s__law_cases) l11 c11 k11
  have F12 := fun_mk (st := s__law_all_cases) l12 c12 k12
  have F13 := fun_mk (st := s_made) l13 c13 k13
  have F14 := fun_mk (st := s_need_number) l14 c14 k14
  have F15 := fun_mk (st := s_is_shares) l15 c15 k15
  have F16 := fun_mk (st := s_cases_of) l16 c16 k16
  have F17 := fun_mk (st := s__law_box) l17 c17 k17
  have F18 := fun_mk (st := s__law_drawn_shares) l18 c18 k18
  have F19 := fun_mk (st := s__law_made) l19 c19 k19
  have F20 := fun_mk (st := s_sum_of) l20 c20 k20
  have F21 := fun_mk (st := s_need_shares) l21 c21 k21
  have F22 := fun_mk (st := s_share_by) l22 c22 k22
  have F23 := fun_mk (st := s_last_share) l23 c23 k23
  have F24 := fun_mk (st := s_lacking) l24 c24 k24
  have F25 := fun_mk (st := s_law) l25 c25 k25
  refine ⟨PySem.W.fnOf "law" "law" (defArgs s_law) (defBody s_law) (defScope s_law) .none kV25 dc25 pm25 an25 cd25 ct25, fun s v => .of_eq rfl, fun base _ _ => ?_⟩
  have C1 : Cl P w K mg base 1 "is_whole" f_isWhole := ok_is_whole (P := P) (w := w) (base := base) F1 (PySem.W.mg_of X G a1) y_isinstance y_bool y_int
  have C2 : Cl P w K mg base 1 "greatest_common" f_gcd := ok_greatest_common (P := P) (w := w) (base := base) F2 (PySem.W.mg_of X G a2) 
  have C3 : Cl P w K mg base 1 "raised" f_raised := ok_raised (P := P) (w := w) (base := base) F3 (PySem.W.mg_of X G a3) y_range
  have C4 : Cl P w K mg base 1 "sum_part" f_sumPart := ok_sum_part (P := P) (w := w) (base := base) F4 (PySem.W.mg_of X G a4) y_sum
  have C5 : Cl P w K mg base 1 "all_some" f_allSomeU := ok_all_some (P := P) (w := w) (base := base) F5 (PySem.W.mg_of X G a5) 
  have C6 : Cl P w K mg base 1 "every" f_every := ok_every (P := P) (w := w) (base := base) F6 (PySem.W.mg_of X G a6) y_range y_len y_tuple
  have C7 : Cl P w K mg base 1 "_law_cell" f_cell := ok__law_cell (P := P) (w := w) (base := base) F7 (PySem.W.mg_of X G a7) y_len
  have C8 : Cl P w K mg base 1 "_law_mix" f_mix := ok__law_mix (P := P) (w := w) (base := base) F8 (PySem.W.mg_of X G a8) 
  have C9 : Cl P w K mg base 1 "_law_take" f_take := ok__law_take (P := P) (w := w) (base := base) F9 (PySem.W.mg_of X G a9) y_divmod
  have C10 : Cl P w K mg base 1 "_law_common" f_gcd := ok__law_common (P := P) (w := w) (base := base) F10 (PySem.W.mg_of X G a10) 
  have C11 : Cl P w K mg base 1 "_law_cases" f_lawCases := ok__law_cases (P := P) (w := w) (base := base) F11 (PySem.W.mg_of X G a11) y_range y_len y_tuple y_sorted
  have C12 : Cl P w K mg base 1 "_law_all_cases" f_lawAllCases := ok__law_all_cases (P := P) (w := w) (base := base) F12 (PySem.W.mg_of X G a12) y_range y_sum
  have C13 : Cl P w K mg base 2 "made" f_made := ok_made (P := P) (w := w) (base := base) F13 (PySem.W.mg_of X G a13) y_abs C2
  have C14 : Cl P w K mg base 2 "need_number" f_needNumber := ok_need_number (P := P) (w := w) (base := base) F14 (PySem.W.mg_of X G a14) C1
  have C15 : Cl P w K mg base 2 "is_shares" f_isShares := ok_is_shares (P := P) (w := w) (base := base) F15 (PySem.W.mg_of X G a15) y_len y_isinstance y_tuple y_all x_MOST_KINDS x_MOST_SHARE C1
  have C16 : Cl P w K mg base 2 "cases_of" f_casesOf := ok_cases_of (P := P) (w := w) (base := base) F16 (PySem.W.mg_of X G a16) y_len C5 C3 C4
  have C17 : Cl P w K mg base 2 "_law_box" f_box := ok__law_box (P := P) (w := w) (base := base) F17 (PySem.W.mg_of X G a17) y_abs y_range C7 C8
  have C18 : Cl P w K mg base 2 "_law_drawn_shares" f_drawnShares := ok__law_drawn_shares (P := P) (w := w) (base := base) F18 (PySem.W.mg_of X G a18) y_tuple y_range C9
  have C19 : Cl P w K mg base 2 "_law_made" f_made := ok__law_made (P := P) (w := w) (base := base) F19 (PySem.W.mg_of X G a19) y_abs C10
  have C20 : Cl P w K mg base 3 "sum_of" f_sumOf := ok_sum_of (P := P) (w := w) (base := base) F20 (PySem.W.mg_of X G a20) C13
  have C21 : Cl P w K mg base 3 "need_shares" f_needShares := ok_need_shares (P := P) (w := w) (base := base) F21 (PySem.W.mg_of X G a21) C15
  have C22 : Cl P w K mg base 3 "share_by" f_shareBy := ok_share_by (P := P) (w := w) (base := base) F22 (PySem.W.mg_of X G a22) y_sum C13 C3 C16 C6
  have C23 : Cl P w K mg base 4 "last_share" f_lastShare := ok_last_share (P := P) (w := w) (base := base) F23 (PySem.W.mg_of X G a23) x_MOST_DRAWS x_NOUGHT C21 C14 C22 C20
  have C24 : Cl P w K mg base 4 "lacking" f_lacking := ok_lacking (P := P) (w := w) (base := base) F24 (PySem.W.mg_of X G a24) y_sum x_MOST_DRAWS x_NOUGHT C21 C14 C20 C13 C3
  exact ok_law F25 y_range y_max y_min y_len y_sum y_repr y_tuple C17 C18 C9 C11 C24 C19 C12 C23
end
end Law
open PySem PySem.W PyProof.Rows
set_option maxRecDepth 100000 in
set_option maxHeartbeats 0 in
theorem PySem.Challenge.cw_kindsgathered_k09_the_last_kind_and_what_holds : PySem.Challenge.rw_kindsgathered_k09_the_last_kind_and_what.Holds := by
  w_on; o_law; k_head; (case hw => w_witness2)
  k_fill
  refine DL.walkG (l := PySem.Challenge.rw_kindsgathered_k09_the_last_kind_and_what) (n := 63) (k := 5) (x := "_law_script") (sp := DL.f_law) rfl (by decide) rfl ⟨rfl, by decide, by decide⟩ (fun w h Y => PySem.W.kIn_of Y) ?F Law.law_ends
  case F =>
    intro w mg fa h KX G hmg
    refine' Law.all_mk KX G hmg ?a1 ?l1 ?c1 ?k1 ?a2 ?l2 ?c2 ?k2 ?a3 ?l3 ?c3 ?k3 ?a4 ?l4 ?c4 ?k4 ?a5 ?l5 ?c5 ?k5 ?a6 ?l6 ?c6 ?k6 ?a7 ?l7 ?c7 ?k7 ?a8 ?l8 ?c8 ?k8 ?a9 ?l9 ?c9 ?k9 ?a10 ?l10 ?c10 ?k10 ?a11 ?l11 ?c11 ?k11 ?a12 ?l12 ?c12 ?k12 ?a13 ?l13 ?c13 ?k13 ?a14 ?l14 ?c14 ?k14 ?a15 ?l15 ?c15 ?k15 ?a16 ?l16 ?c16 ?k16 ?a17 ?l17 ?c17 ?k17 ?a18 ?l18 ?c18 ?k18 ?a19 ?l19 ?c19 ?k19 ?a20 ?l20 ?c20 ?k20 ?a21 ?l21 ?c21 ?k21 ?a22 ?l22 ?c22 ?k22 ?a23 ?l23 ?c23 ?k23 ?a24 ?l24 ?c24 ?k24 ?a25 ?l25 ?c25 ?k25 ?z_abs ?z_all ?z_bool ?z_divmod ?z_int ?z_isinstance ?z_len ?z_max ?z_min ?z_range ?z_repr ?z_sorted ?z_sum ?z_tuple ?g_MOST_DRAWS ?g_MOST_KINDS ?g_MOST_SHARE ?g_NOUGHT ?o_NOUGHT
    (case a1 => k_is)
    (case l1 => k_is)
    (case c1 => k_is)
    (case k1 => k_is)
    (case a2 => k_is)
    (case l2 => k_is)
    (case c2 => k_is)
    (case k2 => k_is)
    (case a3 => k_is)
    (case l3 => k_is)
    (case c3 => k_is)
    (case k3 => k_is)
    (case a4 => k_is)
    (case l4 => k_is)
    (case c4 => k_is)
    (case k4 => k_is)
    (case a5 => k_is)
    (case l5 => k_is)
    (case c5 => k_is)
    (case k5 => k_is)
    (case a6 => k_is)
    (case l6 => k_is)
    (case c6 => k_is)
    (case k6 => k_is)
    (case a7 => k_is)
    (case l7 => k_is)
    (case c7 => k_is)
    (case k7 => k_is)
    (case a8 => k_is)
    (case l8 => k_is)
    (case c8 => k_is)
    (case k8 => k_is)
    (case a9 => k_is)
    (case l9 => k_is)
    (case c9 => k_is)
    (case k9 => k_is)
    (case a10 => k_is)
    (case l10 => k_is)
    (case c10 => k_is)
    (case k10 => k_is)
    (case a11 => k_is)
    (case l11 => k_is)
    (case c11 => k_is)
    (case k11 => k_is)
    (case a12 => k_is)
    (case l12 => k_is)
    (case c12 => k_is)
    (case k12 => k_is)
    (case a13 => k_is)
    (case l13 => k_is)
    (case c13 => k_is)
    (case k13 => k_is)
    (case a14 => k_is)
    (case l14 => k_is)
    (case c14 => k_is)
    (case k14 => k_is)
    (case a15 => k_is)
    (case l15 => k_is)
    (case c15 => k_is)
    (case k15 => k_is)
    (case a16 => k_is)
    (case l16 => k_is)
    (case c16 => k_is)
    (case k16 => k_is)
    (case a17 => k_is)
    (case l17 => k_is)
    (case c17 => k_is)
    (case k17 => k_is)
    (case a18 => k_is)
    (case l18 => k_is)
    (case c18 => k_is)
    (case k18 => k_is)
    (case a19 => k_is)
    (case l19 => k_is)
    (case c19 => k_is)
    (case k19 => k_is)
    (case a20 => k_is)
    (case l20 => k_is)
    (case c20 => k_is)
    (case k20 => k_is)
    (case a21 => k_is)
    (case l21 => k_is)
    (case c21 => k_is)
    (case k21 => k_is)
    (case a22 => k_is)
    (case l22 => k_is)
    (case c22 => k_is)
    (case k22 => k_is)
    (case a23 => k_is)
    (case l23 => k_is)
    (case c23 => k_is)
    (case k23 => k_is)
    (case a24 => k_is)
    (case l24 => k_is)
    (case c24 => k_is)
    (case k24 => k_is)
    (case a25 => k_is)
    (case l25 => k_is)
    (case c25 => k_is)
    (case k25 => k_is)
    (case z_abs => k_is)
    (case z_all => k_is)
    (case z_bool => k_is)
    (case z_divmod => k_is)
    (case z_int => k_is)
    (case z_isinstance => k_is)
    (case z_len => k_is)
    (case z_max => k_is)
    (case z_min => k_is)
    (case z_range => k_is)
    (case z_repr => k_is)
    (case z_sorted => k_is)
    (case z_sum => k_is)
    (case z_tuple => k_is)
    (case g_MOST_DRAWS => k_is)
    (case g_MOST_KINDS => k_is)
    (case g_MOST_SHARE => k_is)
    (case g_NOUGHT => k_is)
    (case o_NOUGHT => k_is)
