import PyProof.Rows.All
import Wide.All
import OpenK.AllK
import Wide.FinOn
import HandS.ForMost
import HandS.IsInst
import HandS.TupAny
import HandS.Strs
import HandS.Rev
import HandS.Evl
import KE.KDictDisplayH
import PySem.Challenge.RW_borrowdesk_k07_whole_let_by
set_option Elab.async false
set_option linter.all false
set_option maxRecDepth 100000
set_option maxHeartbeats 4000000
/-! Bd: data in two heaps. H is all that is tracked, G what no more changes (G within H). -/
namespace Bd
open PySem PySem.Spec PyProof.Rows L2 Evl

abbrev D := PyData
end Bd
namespace Evl
open PySem PySem.Spec PyProof.Rows L2
theorem Ex.both {G H : Hp} {p : Addr} {o : HO} (e : Ex G H) : Ex (upd G p o) (upd H p o) := fun a u ha => by
  by_cases h : a = p
  · subst h
    rw [upd_same] at ha ⊢
    exact ha
  · rw [upd_ne h] at ha ⊢
    exact e a u ha
theorem Ex.none {G H : Hp} {p : Addr} (e : Ex G H) (h : H p = none) : G p = none := fresh_back e h
end Evl
namespace Bd
open PySem PySem.Spec PyProof.Rows L2 Evl
/-- from one moment to a later one: nothing that stood is changed, what may change stays so -/
structure Grow (H G H' G' : Hp) : Prop where
  gh : Ex G' H'
  g : Ex G G'
  h : Ex H H'
  nw : ∀ a o, H a = some o → G a = none → G' a = none
theorem Grow.refl {H G : Hp} (e : Ex G H) : Grow H G H G := ⟨e, Ex.refl G, Ex.refl H, fun _ _ _ h => h⟩
theorem Grow.trans {H G H1 G1 H2 G2 : Hp} (a : Grow H G H1 G1) (b : Grow H1 G1 H2 G2) : Grow H G H2 G2 :=
  ⟨b.gh, a.g.trans b.g, a.h.trans b.h, fun x o h n => b.nw x o (a.h x o h) (a.nw x o h n)⟩
/-- a new object that never changes | one that may -/
theorem Grow.newF {H G : Hp} (e : Ex G H) {p : Addr} {o : HO} (h : H p = none) : Grow H G (upd H p o) (upd G p o) :=
  ⟨e.both, Ex.new (e.none h), Ex.new h, fun a u ha n => by rw [upd_ne (ne_of_none ha h)]; exact n⟩
theorem Grow.newO {H G : Hp} (e : Ex G H) {p : Addr} {o : HO} (h : H p = none) : Grow H G (upd H p o) G :=
  ⟨e.mut (e.none h), Ex.refl G, Ex.new h, fun _ _ _ n => n⟩

/-! ### data -/
section
variable {K : PySem.W.Frag} {G G' : Hp}
mutual
theorem dp_mono (e : Ex G G') : ∀ (d : D) (v : V), Dp K G v d → Dp K G' v d
  | .none, _, h => by cases h; exact .non
  | .bool b, _, h => by cases h; exact .bl b
  | .int i, _, h => by cases h; exact .int i
  | .str x, _, h => by cases h; exact .str x
  | .list ds, _, h => by
    cases h with
    | lst hs ha => exact .lst (ex_l e hs) (dpAll_mono e ds _ ha)
  | .tuple ds, _, h => by
    cases h with
    | tup hs ha => exact .tup (ex_t e hs) (dpAll_mono e ds _ ha)
  | .dict _, _, h => by cases h
theorem dpAll_mono (e : Ex G G') : ∀ (ds : List D) (vs : List V), DpAll K G vs ds → DpAll K G' vs ds
  | [], _, h => by cases h; exact .nil
  | d :: ds, _, h => by
    cases h with
    | cons h1 h2 => exact .cons (dp_mono e d _ h1) (dpAll_mono e ds _ h2)
end
end
end Bd
namespace L2
open PySem PySem.Spec PyProof.Rows Bd Evl
section
variable {K : PySem.W.Frag} {G G' : Hp}
theorem Dp.to {v : V} {d : D} (h : Dp K G v d) (e : Ex G G') : Dp K G' v d := dp_mono e d v h
theorem DpAll.to {vs : List V} {ds : List D} (h : DpAll K G vs ds) (e : Ex G G') : DpAll K G' vs ds := dpAll_mono e ds vs h
theorem DpAll.length : ∀ {vs : List V} {ds : List D}, DpAll K G vs ds → vs.length = ds.length
  | _, _, .nil => rfl
  | _, _, .cons _ t => by rw [List.length_cons, List.length_cons, DpAll.length t]
theorem DpAll.get : ∀ {vs : List V} {ds : List D} {i : Nat} {d : D}, DpAll K G vs ds → ds[i]? = some d → ∃ v, vs[i]? = some v ∧ Dp K G v d
  | _, _, _, _, .nil, e => by simp at e
  | _, _, 0, _, .cons r _, e => by simp at e; subst e; exact ⟨_, rfl, r⟩
  | _, _, i + 1, d, .cons _ t, e => by
    obtain ⟨u, h1, h2⟩ := DpAll.get (i := i) (d := d) t (by simpa using e)
    exact ⟨u, by simpa using h1, h2⟩
theorem DpAll.getV : ∀ {vs : List V} {ds : List D} {i : Nat} {v : V}, DpAll K G vs ds → vs[i]? = some v → ∃ d, ds[i]? = some d ∧ Dp K G v d
  | _, _, _, _, .nil, e => by simp at e
  | _, _, 0, _, .cons r _, e => by simp at e; subst e; exact ⟨_, rfl, r⟩
  | _, _, i + 1, d, .cons _ t, e => by
    obtain ⟨u, h1, h2⟩ := DpAll.getV (i := i) (v := d) t (by simpa using e)
    exact ⟨u, by simpa using h1, h2⟩
theorem DpAll.append : ∀ {vs ws : List V} {ds es : List D}, DpAll K G vs ds → DpAll K G ws es → DpAll K G (vs ++ ws) (ds ++ es)
  | _, _, _, _, .nil, s => s
  | _, _, _, _, .cons r t, s => .cons r (DpAll.append t s)
theorem DpAll.take : ∀ {vs : List V} {ds : List D} (n : Nat), DpAll K G vs ds → DpAll K G (vs.take n) (ds.take n)
  | _, _, 0, _ => .nil
  | _, _, _ + 1, .nil => .nil
  | _, _, n + 1, .cons r t => .cons r (DpAll.take n t)
theorem DpAll.drop : ∀ {vs : List V} {ds : List D} (n : Nat), DpAll K G vs ds → DpAll K G (vs.drop n) (ds.drop n)
  | _, _, 0, r => r
  | _, _, _ + 1, .nil => .nil
  | _, _, n + 1, .cons _ t => DpAll.drop n t
theorem DpAll.set {v : V} {d : D} (r : Dp K G v d) : ∀ {vs : List V} {ds : List D} (i : Nat), DpAll K G vs ds → DpAll K G (vs.set i v) (ds.set i d)
  | _, _, _, .nil => .nil
  | _, _, 0, .cons _ t => .cons r t
  | _, _, i + 1, .cons q t => .cons q (DpAll.set r i t)
theorem DpAll.dropLast {vs : List V} {ds : List D} (h : DpAll K G vs ds) : DpAll K G vs.dropLast ds.dropLast := by
  rw [List.dropLast_eq_take, List.dropLast_eq_take, h.length]
  exact h.take _
theorem DpAll.reverse : ∀ {vs : List V} {ds : List D}, DpAll K G vs ds → DpAll K G vs.reverse ds.reverse
  | _, _, .nil => .nil
  | _, _, .cons r t => by
    rw [List.reverse_cons, List.reverse_cons]
    exact (DpAll.reverse t).append (.cons r .nil)
theorem DpAll.ints : ∀ {vs : List V} {ns : List Int}, DpAll K G vs (ns.map PyData.int) → vs = ns.map V.int
  | _, [], h => by cases h; rfl
  | _, n :: r, h => by
    cases h with
    | cons a b => cases a; rw [DpAll.ints b]; rfl
theorem DpAll.bls : ∀ {vs : List V} {ns : List Bool}, DpAll K G vs (ns.map PyData.bool) → vs = ns.map V.bl
  | _, [], h => by cases h; rfl
  | _, n :: r, h => by
    cases h with
    | cons a b => cases a; rw [DpAll.bls b]; rfl
theorem DpAll.ofInts : ∀ (ns : List Int), DpAll K G (ns.map V.int) (ns.map PyData.int)
  | [] => .nil
  | n :: r => .cons (.int n) (DpAll.ofInts r)
end
end L2
namespace Bd
open PySem PySem.Spec PyProof.Rows L2 Evl
/-! things that stand in a heap themselves, through and through -/
mutual
inductive Np (H : Hp) : V → PyData → Prop
  | non : Np H .non .none
  | bl (b : Bool) : Np H (.bl b) (.bool b)
  | int (i : Int) : Np H (.int i) (.int i)
  | str (x : Str) : Np H (.str x) (.str x)
  | lst {a : Addr} {xs : List V} {ds : List PyData} : H a = some (.lst xs) → NpAll H xs ds → Np H (.ref a) (.list ds)
  | tup {a : Addr} {xs : List V} {ds : List PyData} : H a = some (.tup xs) → NpAll H xs ds → Np H (.ref a) (.tuple ds)
inductive NpAll (H : Hp) : List V → List PyData → Prop
  | nil : NpAll H [] []
  | cons {v : V} {vs : List V} {d : PyData} {ds : List PyData} : Np H v d → NpAll H vs ds → NpAll H (v :: vs) (d :: ds)
end
mutual
theorem np_mono {G G' : Hp} (e : Ex G G') : ∀ (d : D) (v : V), Np G v d → Np G' v d
  | .none, _, h => by cases h; exact .non
  | .bool b, _, h => by cases h; exact .bl b
  | .int i, _, h => by cases h; exact .int i
  | .str x, _, h => by cases h; exact .str x
  | .list ds, _, h => by
    cases h with
    | lst hs ha => exact .lst (e _ _ hs) (npAll_mono e ds _ ha)
  | .tuple ds, _, h => by
    cases h with
    | tup hs ha => exact .tup (e _ _ hs) (npAll_mono e ds _ ha)
  | .dict _, _, h => by cases h
theorem npAll_mono {G G' : Hp} (e : Ex G G') : ∀ (ds : List D) (vs : List V), NpAll G vs ds → NpAll G' vs ds
  | [], _, h => by cases h; exact .nil
  | d :: ds, _, h => by
    cases h with
    | cons h1 h2 => exact .cons (np_mono e d _ h1) (npAll_mono e ds _ h2)
end
mutual
theorem np_dp {K : PySem.W.Frag} {G : Hp} : ∀ (d : D) (v : V), Np G v d → Dp K G v d
  | .none, _, h => by cases h; exact .non
  | .bool b, _, h => by cases h; exact .bl b
  | .int i, _, h => by cases h; exact .int i
  | .str x, _, h => by cases h; exact .str x
  | .list ds, _, h => by
    cases h with
    | lst hs ha => exact .lst (.inl (.inl hs)) (npAll_dp ds _ ha)
  | .tuple ds, _, h => by
    cases h with
    | tup hs ha => exact .tup (.inl (.inl hs)) (npAll_dp ds _ ha)
  | .dict _, _, h => by cases h
theorem npAll_dp {K : PySem.W.Frag} {G : Hp} : ∀ (ds : List D) (vs : List V), NpAll G vs ds → DpAll K G vs ds
  | [], _, h => by cases h; exact .nil
  | d :: ds, _, h => by
    cases h with
    | cons h1 h2 => exact .cons (np_dp d _ h1) (npAll_dp ds _ h2)
end
theorem Np.to {G G' : Hp} {v : V} {d : D} (h : Np G v d) (e : Ex G G') : Np G' v d := np_mono e d v h
theorem NpAll.to {G G' : Hp} {vs : List V} {ds : List D} (h : NpAll G vs ds) (e : Ex G G') : NpAll G' vs ds := npAll_mono e ds vs h
theorem Np.dp {K : PySem.W.Frag} {G : Hp} {v : V} {d : D} (h : Np G v d) : Dp K G v d := np_dp d v h
theorem NpAll.dp {K : PySem.W.Frag} {G : Hp} {vs : List V} {ds : List D} (h : NpAll G vs ds) : DpAll K G vs ds := npAll_dp ds vs h
theorem NpAll.length : ∀ {G : Hp} {vs : List V} {ds : List D}, NpAll G vs ds → vs.length = ds.length
  | _, _, _, .nil => rfl
  | _, _, _, .cons _ t => by rw [List.length_cons, List.length_cons, NpAll.length t]
/-- a value that reads as d; a list may be one that changes later -/
def Vw (K : PySem.W.Frag) (H G : Hp) (v : V) (d : D) : Prop := Dp K G v d ∨ ∃ p vs ds, v = .ref p ∧ d = .list ds ∧ SqL K H p vs ∧ DpAll K G vs ds
section
variable {K : PySem.W.Frag} {H G H' G' : Hp} {v : V} {d : D}
theorem Vw.to (h : Vw K H G v d) (e : Ex H H') (g : Ex G G') : Vw K H' G' v d := by
  rcases h with h | ⟨p, vs, ds, e1, e2, h1, h2⟩
  · exact .inl (h.to g)
  · exact .inr ⟨p, vs, ds, e1, e2, ex_l e h1, h2.to g⟩
theorem Vw.dp (h : Vw K H G v d) (e : Ex G H) : Dp K H v d := by
  rcases h with h | ⟨p, vs, ds, rfl, rfl, h1, h2⟩
  · exact h.to e
  · exact .lst h1 (h2.to e)
theorem Vw.list {ds : List D} (h : Vw K H G v (.list ds)) (e : Ex G H) : ∃ p vs, v = .ref p ∧ SqL K H p vs ∧ DpAll K G vs ds := by
  rcases h with h | ⟨p, vs, ds', rfl, e2, h1, h2⟩
  · cases h with
    | lst hs ha => exact ⟨_, _, rfl, ex_l e hs, ha⟩
  · cases e2
    exact ⟨p, vs, rfl, h1, h2⟩
theorem Vw.tuple {ds : List D} (h : Vw K H G v (.tuple ds)) : ∃ p vs, v = .ref p ∧ SqT K G p vs ∧ DpAll K G vs ds := by
  rcases h with h | ⟨p, vs, ds', rfl, e2, h1, h2⟩
  · cases h with
    | tup hs ha => exact ⟨_, _, rfl, hs, ha⟩
  · cases e2
theorem Vw.int {i : Int} (h : Vw K H G v (.int i)) : v = .int i := by
  rcases h with h | ⟨p, vs, ds', rfl, e2, h1, h2⟩
  · cases h; rfl
  · cases e2
theorem Vw.str {x : Str} (h : Vw K H G v (.str x)) : v = .str x := by
  rcases h with h | ⟨p, vs, ds', rfl, e2, h1, h2⟩
  · cases h; rfl
  · cases e2
theorem Vw.bool {b : Bool} (h : Vw K H G v (.bool b)) : v = .bl b := by
  rcases h with h | ⟨p, vs, ds', rfl, e2, h1, h2⟩
  · cases h; rfl
  · cases e2
theorem Vw.none (h : Vw K H G v .none) : v = .non := by
  rcases h with h | ⟨p, vs, ds', rfl, e2, h1, h2⟩
  · cases h; rfl
  · cases e2
end

/-! ### slots -/
abbrev NX := NestedKey × Addr × Value
mutual
def kyD : PyData → Option NestedKey
  | .none => some .none
  | .int i => some (.num i)
  | .bool b => some (.num (if b = true then 1 else 0))
  | .str x => some (.text x)
  | .tuple ds => (kyL ds).map .tup
  | .list _ => none
  | .dict _ => none
def kyL : List PyData → Option (List NestedKey)
  | [] => some []
  | d :: r => (kyD d).bind fun k => (kyL r).map fun ks => k :: ks
end
def φN (w : World) (p : Addr) (xs : List NX) : Heap → Prop := fun h =>
  ∃ o es ep, h.get? p = some o ∧ o.ExactDict ∧ o.data = .dict es ep ∧ es.toList = xs.map (fun x => (⟨x.1.hash w, .ref x.2.1, x.2.2⟩ : DictEntry)) ∧ (xs.map (·.1)).Nodup
inductive Sl where
  | no | fr (d : D) | vw (d : D) | ow (ds : List D)
  /-- a dict, keyed by tuples; a thing new since the entry, that never changes; a tuple whose third item is a list of one's own at l -/
  | dk (w : World) (es : List (D × D)) | ff (d : D) | tl (l : Addr) (d : D)
abbrev En := List Sl
def nth : En → Nat → Sl
  | [], _ => .no
  | s :: _, 0 => s
  | _ :: r, n + 1 => nth r n
def put : En → Nat → Sl → En
  | [], _, _ => []
  | _ :: r, 0, t => t :: r
  | s :: r, n + 1, t => s :: put r n t
def isOw : Sl → Bool
  | .ow _ => true
  | .dk _ _ => true
  | .tl _ _ => true
  | _ => false
def owA (v : Option (Option V)) (s : Sl) (a : Addr) : Prop := match s with
  | .ow _ => v = some (some (.ref a))
  | .dk _ _ => v = some (some (.ref a))
  | .tl l _ => a = l ∧ v ≠ some (some .non)
  | _ => False
theorem owA_no {v : Option (Option V)} {s : Sl} {a : Addr} (h : owA v s a) (n : isOw s = false) : False := by
  cases s <;> first | (cases n; done) | (cases h; done)
/-- what is new since the entry -/
def nwG (H0 G : Hp) : Hp := fun a => match H0 a with
  | none => G a
  | some _ => none
theorem nwG_le (H0 G : Hp) : Ex (nwG H0 G) G := fun a u e => by
  unfold nwG at e
  split at e
  · exact e
  · cases e
theorem nwG_mono (H0 : Hp) {G G' : Hp} (g : Ex G G') : Ex (nwG H0 G) (nwG H0 G') := fun a u e => by
  unfold nwG at e ⊢
  split at e
  · exact g a u e
  · cases e
def DkR (K : PySem.W.Frag) (H0 G : Hp) (e : D × D) (x : NX) : Prop := kyD e.1 = some x.1 ∧ x.1.depth ≤ 8 ∧ Dp K G (.ref x.2.1) e.1 ∧ ∃ v, RelV v x.2.2 ∧ Np (nwG H0 G) v e.2
theorem DkR.to {K : PySem.W.Frag} {H0 G G' : Hp} {e : D × D} {x : NX} (h : DkR K H0 G e x) (g : Ex G G') : DkR K H0 G' e x := by
  obtain ⟨a, b, c, v, d, f⟩ := h
  exact ⟨a, b, c.to g, v, d, f.to (nwG_mono H0 g)⟩
theorem dkAll_to {K : PySem.W.Frag} {H0 G G' : Hp} {es : List (D × D)} {xs : List NX} (h : Paired (DkR K H0 G) es xs) (g : Ex G G') : Paired (DkR K H0 G') es xs := by
  induction h with
  | nil => exact .nil
  | cons r _ ih => exact .cons (r.to g) ih
def TlR (K : PySem.W.Frag) (H0 H G : Hp) (x : V) (l : Addr) (d : D) : Prop := (x = .non ∧ d = .none) ∨ ∃ p a b va vb vs cs, x = .ref p ∧ d = .tuple [a, b, .list cs] ∧ H0 p = none ∧ G p = none ∧ H p = some (.tup [va, vb, .ref l]) ∧ Dp K G va a ∧ Dp K G vb b ∧ p ≠ l ∧ H0 l = none ∧ G l = none ∧ H l = some (.lst vs) ∧ DpAll K G vs cs
theorem put_length : ∀ (δ : En) (i : Nat) (t : Sl), (put δ i t).length = δ.length
  | [], _, _ => rfl
  | _ :: _, 0, _ => rfl
  | _ :: r, n + 1, t => by
    show (put r n t).length + 1 = r.length + 1
    rw [put_length r n t]
theorem nth_put_same : ∀ (δ : En) (i : Nat) (t : Sl), i < δ.length → nth (put δ i t) i = t
  | [], _, _, h => by simp at h
  | _ :: _, 0, _, _ => rfl
  | _ :: r, n + 1, t, h => nth_put_same r n t (Nat.lt_of_succ_lt_succ h)
theorem nth_put_ne : ∀ (δ : En) (i j : Nat) (t : Sl), j ≠ i → nth (put δ i t) j = nth δ j
  | [], _, _, _, _ => rfl
  | _ :: _, 0, 0, _, h => absurd rfl h
  | _ :: _, 0, _ + 1, _, _ => rfl
  | _ :: _, _ + 1, 0, _, _ => rfl
  | _ :: r, n + 1, m + 1, t, h => nth_put_ne r n m t fun e => h (by rw [e])
theorem nth_out : ∀ (δ : En) (i : Nat), δ.length ≤ i → nth δ i = .no
  | [], _, _ => rfl
  | _ :: _, 0, h => by simp at h
  | _ :: r, n + 1, h => nth_out r n (Nat.le_of_succ_le_succ h)
def SlOk (K : PySem.W.Frag) (H0 G0 H G : Hp) (v : Option (Option V)) : Sl → Prop
  | .no => True
  | .fr d => ∃ x, v = some (some x) ∧ Dp K G x d
  | .vw d => ∃ x, v = some (some x) ∧ Vw K H0 G0 x d
  | .ow ds => ∃ p vs, v = some (some (.ref p)) ∧ H0 p = none ∧ G p = none ∧ H p = some (.lst vs) ∧ DpAll K G vs ds
  | .dk w es => ∃ p xs, v = some (some (.ref p)) ∧ H0 p = none ∧ G p = none ∧ (p == sysModules) = false ∧ H p = some (.ext (φN w p xs)) ∧ Paired (DkR K H0 G) es xs
  | .ff d => ∃ x, v = some (some x) ∧ Np (nwG H0 G) x d
  | .tl l d => ∃ x, v = some (some x) ∧ TlR K H0 H G x l d
structure S8 (K : PySem.W.Frag) (H0 G0 : Hp) (δ : En) (σ : L2.St) (H G : Hp) : Prop where
  gr : Grow H0 G0 H G
  len : σ.length = δ.length
  ok : ∀ i, SlOk K H0 G0 H G σ[i]? (nth δ i)
  ap : ∀ i j a, i ≠ j → owA σ[i]? (nth δ i) a → owA σ[j]? (nth δ j) a → False
  g0 : Ex G0 H0
section
variable {K : PySem.W.Frag} {H0 G0 H G H' G' : Hp} {δ : En} {σ : L2.St}
theorem SlOk.grow {v : Option (Option V)} {s : Sl} (h : SlOk K H0 G0 H G v s) (g : Grow H G H' G') : SlOk K H0 G0 H' G' v s := by
  cases s with
  | no => trivial
  | fr d => obtain ⟨x, e, q⟩ := h; exact ⟨x, e, q.to g.g⟩
  | vw d => exact h
  | ow ds => obtain ⟨p, vs, e, h1, h2, h3, h4⟩ := h; exact ⟨p, vs, e, h1, g.nw p _ h3 h2, g.h _ _ h3, h4.to g.g⟩
  | dk w es => obtain ⟨p, xs, e, h1, h2, hm, h3, h4⟩ := h; exact ⟨p, xs, e, h1, g.nw p _ h3 h2, hm, g.h _ _ h3, dkAll_to h4 g.g⟩
  | ff d => obtain ⟨x, e, q⟩ := h; exact ⟨x, e, q.to (nwG_mono H0 g.g)⟩
  | tl l d =>
    obtain ⟨x, e, q⟩ := h
    refine ⟨x, e, ?_⟩
    rcases q with q | ⟨p, a, b, va, vb, vs, cs, e1, e2, h1, h2, h3, h4, h5, h6, h7, h8, h9, h10⟩
    · exact .inl q
    · exact .inr ⟨p, a, b, va, vb, vs, cs, e1, e2, h1, g.nw p _ h3 h2, g.h _ _ h3, h4.to g.g, h5.to g.g, h6, h7, g.nw l _ h9 h8, g.h _ _ h9, h10.to g.g⟩
theorem S8.grow (s : S8 K H0 G0 δ σ H G) (g : Grow H G H' G') : S8 K H0 G0 δ σ H' G' := ⟨s.gr.trans g, s.len, fun i => (s.ok i).grow g, s.ap, s.g0⟩
theorem S8.gh (s : S8 K H0 G0 δ σ H G) : Ex G H := s.gr.gh
/-- what a slot owns is there, new since the entry, and not frozen -/
theorem SlOk.owned {v : Option (Option V)} {s : Sl} {a : Addr} (h : SlOk K H0 G0 H G v s) (o : owA v s a) : H0 a = none ∧ G a = none ∧ ((∃ vs, H a = some (.lst vs)) ∨ ∃ φ, H a = some (.ext φ)) := by
  cases s with
  | ow ds =>
    obtain ⟨p, vs, e, h1, h2, h3, h4⟩ := h
    have o' : v = some (some (.ref a)) := o
    rw [e] at o'
    cases o'
    exact ⟨h1, h2, .inl ⟨_, h3⟩⟩
  | dk w es =>
    obtain ⟨p, xs, e, h1, h2, hm, h3, h4⟩ := h
    have o' : v = some (some (.ref a)) := o
    rw [e] at o'
    cases o'
    exact ⟨h1, h2, .inr ⟨_, h3⟩⟩
  | tl l d =>
    obtain ⟨x, e, q⟩ := h
    obtain ⟨rfl, o2⟩ := o
    rcases q with ⟨q, _⟩ | ⟨p, a', b, va, vb, vs, cs, e1, e2, h1, h2, h3, h4, h5, h6, h7, h8, h9, h10⟩
    · rw [q] at e; exact absurd e o2
    · exact ⟨h7, h8, .inl ⟨_, h9⟩⟩
  | _ => cases o
theorem S8.set {i : Nat} {t : Sl} {v : V} (s : S8 K H0 G0 δ σ H G) (hi : i < δ.length) (ht : SlOk K H0 G0 H G (some (some v)) t)
    (ha : ∀ a, owA (some (some v)) t a → ∀ j, j ≠ i → owA σ[j]? (nth δ j) a → False) : S8 K H0 G0 (put δ i t) (σ.set i (some v)) H G := by
  refine ⟨s.gr, by rw [List.length_set, put_length]; exact s.len, fun j => ?_, fun a b p hab h1 h2 => ?_, s.g0⟩
  · by_cases hj : j = i
    · subst hj
      rw [nth_put_same _ _ _ hi, List.getElem?_set_self (by rw [s.len]; exact hi)]
      exact ht
    · rw [nth_put_ne _ _ _ _ hj, List.getElem?_set_ne (Ne.symm hj)]
      exact s.ok j
  · by_cases hai : a = i
    · subst hai
      have hb : b ≠ a := fun e => hab e.symm
      rw [nth_put_same _ _ _ hi, List.getElem?_set_self (by rw [s.len]; exact hi)] at h1
      rw [nth_put_ne _ _ _ _ hb, List.getElem?_set_ne (Ne.symm hb)] at h2
      exact ha p h1 b hb h2
    · rw [nth_put_ne _ _ _ _ hai, List.getElem?_set_ne (Ne.symm hai)] at h1
      by_cases hbi : b = i
      · subst hbi
        rw [nth_put_same _ _ _ hi, List.getElem?_set_self (by rw [s.len]; exact hi)] at h2
        exact ha p h2 a hai h1
      · rw [nth_put_ne _ _ _ _ hbi, List.getElem?_set_ne (Ne.symm hbi)] at h2
        exact s.ap a b p hab h1 h2
theorem S8.setF {i : Nat} {d : D} {v : V} (s : S8 K H0 G0 δ σ H G) (hi : i < δ.length) (h : Dp K G v d) : S8 K H0 G0 (put δ i (.fr d)) (σ.set i (some v)) H G :=
  s.set hi ⟨v, rfl, h⟩ fun _ z => nomatch z
/-- a thing new since the entry -/
theorem S8.setN {i : Nat} {d : D} {v : V} (s : S8 K H0 G0 δ σ H G) (hi : i < δ.length) (h : Np (nwG H0 G) v d) : S8 K H0 G0 (put δ i (.ff d)) (σ.set i (some v)) H G :=
  s.set hi ⟨v, rfl, h⟩ fun _ z => nomatch z
/-- nothing owned is new at an earlier moment -/
theorem S8.fresh (s : S8 K H0 G0 δ σ H G) {p : Addr} (hp : H p = none) (j : Nat) (h : owA σ[j]? (nth δ j) p) : False := by
  rcases ((s.ok j).owned h).2.2 with ⟨_, e⟩ | ⟨_, e⟩
  · rw [hp] at e; cases e
  · rw [hp] at e; cases e
/-- a list that was new at an earlier moment of this def -/
theorem S8.setO {i : Nat} {ds : List D} {p : Addr} {vs : List V} {H1 G1 : Hp} (s : S8 K H0 G0 δ σ H G) (g : Grow H G H1 G1) (hi : i < δ.length) (hp : H p = none) (hg : G1 p = none) (h : H1 p = some (.lst vs)) (ha : DpAll K G1 vs ds) : S8 K H0 G0 (put δ i (.ow ds)) (σ.set i (some (.ref p))) H1 G1 :=
  (s.grow g).set hi ⟨p, vs, rfl, s.gr.h.none hp, hg, h, ha⟩ fun a z j _ o => by
    have e : p = a := by injection (Option.some.inj (Option.some.inj z))
    subst e
    exact s.fresh hp j o
theorem S8.setD {i : Nat} {w : World} {es : List (D × D)} {p : Addr} {xs : List NX} {H1 G1 : Hp} (s : S8 K H0 G0 δ σ H G) (g : Grow H G H1 G1) (hi : i < δ.length) (hp : H p = none) (hg : G1 p = none) (hm : (p == sysModules) = false) (h : H1 p = some (.ext (φN w p xs))) (ha : Paired (DkR K H0 G1) es xs) : S8 K H0 G0 (put δ i (.dk w es)) (σ.set i (some (.ref p))) H1 G1 :=
  (s.grow g).set hi ⟨p, xs, rfl, s.gr.h.none hp, hg, hm, h, ha⟩ fun a z j _ o => by
    have e : p = a := by injection (Option.some.inj (Option.some.inj z))
    subst e
    exact s.fresh hp j o
/-- a slot forgotten -/
theorem S8.forget {i : Nat} (s : S8 K H0 G0 δ σ H G) : S8 K H0 G0 (put δ i .no) σ H G := by
  have key : ∀ j, nth (put δ i .no) j = nth δ j ∨ nth (put δ i .no) j = .no := fun j => by
    by_cases hj : j = i
    · by_cases hl : i < δ.length
      · subst hj; exact .inr (nth_put_same _ _ _ hl)
      · exact .inr (nth_out _ _ (by rw [put_length]; omega))
    · exact .inl (nth_put_ne _ _ _ _ hj)
  refine ⟨s.gr, by rw [put_length]; exact s.len, fun j => ?_, fun a b p hab h1 h2 => ?_, s.g0⟩
  · rcases key j with e | e
    · rw [e]; exact s.ok j
    · rw [e]; trivial
  · rcases key a with e | e
    · rcases key b with e' | e'
      · rw [e] at h1; rw [e'] at h2; exact s.ap a b p hab h1 h2
      · rw [e'] at h2; cases h2
    · rw [e] at h1; cases h1
/-- the frame's slot is emptied too -/
theorem S8.wipe1 {i : Nat} (s : S8 K H0 G0 δ σ H G) : S8 K H0 G0 (put δ i .no) (σ.set i none) H G := by
  have f := s.forget (i := i)
  have gone : ∀ j, j = i → nth (put δ i .no) j = .no := fun j hj => by
    subst hj
    by_cases hl : j < δ.length
    · exact nth_put_same _ _ _ hl
    · exact nth_out _ _ (by rw [put_length]; omega)
  refine ⟨f.gr, by rw [List.length_set]; exact f.len, fun j => ?_, fun a b p hab h1 h2 => ?_, f.g0⟩
  · by_cases hj : j = i
    · rw [gone j hj]; trivial
    · rw [List.getElem?_set_ne (Ne.symm hj)]
      exact f.ok j
  · by_cases ha : a = i
    · rw [gone a ha] at h1; cases h1
    · by_cases hb : b = i
      · rw [gone b hb] at h2; cases h2
      · rw [List.getElem?_set_ne (Ne.symm ha)] at h1
        rw [List.getElem?_set_ne (Ne.symm hb)] at h2
        exact f.ap a b p hab h1 h2
def fg : List Bool → En → En
  | [], δ => δ
  | _, [] => []
  | true :: r, s :: δ => s :: fg r δ
  | false :: r, _ :: δ => .no :: fg r δ
theorem fg_length : ∀ (m : List Bool) (δ : En), (fg m δ).length = δ.length
  | [], _ => rfl
  | true :: _, [] => rfl
  | false :: _, [] => rfl
  | true :: r, s :: δ => by
    show (fg r δ).length + 1 = δ.length + 1
    rw [fg_length r δ]
  | false :: r, s :: δ => by
    show (fg r δ).length + 1 = δ.length + 1
    rw [fg_length r δ]
theorem nth_fg : ∀ (m : List Bool) (δ : En) (i : Nat), nth (fg m δ) i = nth δ i ∨ nth (fg m δ) i = .no
  | [], _, _ => .inl rfl
  | true :: _, [], _ => .inl rfl
  | false :: _, [], _ => .inl rfl
  | true :: _, _ :: _, 0 => .inl rfl
  | false :: _, _ :: _, 0 => .inr rfl
  | true :: r, _ :: δ, n + 1 => nth_fg r δ n
  | false :: r, _ :: δ, n + 1 => nth_fg r δ n
theorem S8.fg (s : S8 K H0 G0 δ σ H G) (m : List Bool) : S8 K H0 G0 (fg m δ) σ H G := by
  refine ⟨s.gr, by rw [fg_length]; exact s.len, fun j => ?_, fun a b p hab h1 h2 => ?_, s.g0⟩
  · rcases nth_fg m δ j with e | e
    · rw [e]; exact s.ok j
    · rw [e]; trivial
  · rcases nth_fg m δ a with e | e
    · rcases nth_fg m δ b with e' | e'
      · rw [e] at h1; rw [e'] at h2; exact s.ap a b p hab h1 h2
      · rw [e'] at h2; cases h2
    · rw [e] at h1; cases h1
/-- what a slot says, where another thing that is owned was changed -/
theorem SlOk.other {v : Option (Option V)} {s : Sl} {p : Addr} {o : HO} (h : SlOk K H0 G0 H G v s) (hg : G p = none) (hk : (∃ vs, H p = some (.lst vs)) ∨ ∃ φ, H p = some (.ext φ)) (n : ¬ owA v s p) : SlOk K H0 G0 (upd H p o) G v s := by
  cases s with
  | no => trivial
  | fr d => exact h
  | vw d => exact h
  | ff d => exact h
  | ow ds =>
    obtain ⟨q, vs, e, h1, h2, h3, h4⟩ := h
    exact ⟨q, vs, e, h1, h2, by rw [upd_ne (fun z => n (by rw [← z]; exact e))]; exact h3, h4⟩
  | dk w es =>
    obtain ⟨q, xs, e, h1, h2, hm, h3, h4⟩ := h
    exact ⟨q, xs, e, h1, h2, hm, by rw [upd_ne (fun z => n (by rw [← z]; exact e))]; exact h3, h4⟩
  | tl l d =>
    obtain ⟨x, e, q⟩ := h
    refine ⟨x, e, ?_⟩
    rcases q with q | ⟨q, a, b, va, vb, vs, cs, e1, e2, h1, h2, h3, h4, h5, h6, h7, h8, h9, h10⟩
    · exact .inl q
    · have n1 : q ≠ p := fun z => by
        subst z
        rcases hk with ⟨_, k⟩ | ⟨_, k⟩ <;> rw [h3] at k <;> cases k
      have n2 : l ≠ p := fun z => n ⟨z.symm, by rw [e, e1]; intro z; cases z⟩
      exact .inr ⟨q, a, b, va, vb, vs, cs, e1, e2, h1, h2, by rw [upd_ne n1]; exact h3, h4, h5, h6, h7, h8, by rw [upd_ne n2]; exact h9, h10⟩
theorem lt_of_nth {δ : En} {i : Nat} {t : Sl} (h : nth δ i = t) (n : t ≠ .no) : i < δ.length := by
  by_cases hl : i < δ.length
  · exact hl
  · rw [nth_out _ _ (by omega)] at h; exact absurd h.symm n
/-- a thing that may change is changed -/
theorem S8.updA {i : Nat} {t : Sl} {p : Addr} {o : HO} (s : S8 K H0 G0 δ σ H G) (hi : i < δ.length) (hp : owA σ[i]? (nth δ i) p) (ht : SlOk K H0 G0 (upd H p o) G σ[i]? t) (hk : ∀ a, owA σ[i]? t a → owA σ[i]? (nth δ i) a) : S8 K H0 G0 (put δ i t) σ (upd H p o) G := by
  obtain ⟨o1, o2, o3⟩ := (s.ok i).owned hp
  refine ⟨⟨s.gr.gh.mut o2, s.gr.g, s.gr.h.mut o1, s.gr.nw⟩, by rw [put_length]; exact s.len, fun j => ?_, fun a b q hab k1 k2 => ?_, s.g0⟩
  · by_cases hj : j = i
    · subst hj
      rw [nth_put_same _ _ _ hi]
      exact ht
    · rw [nth_put_ne _ _ _ _ hj]
      exact (s.ok j).other o2 o3 fun z => s.ap j i p hj z hp
  · have k : ∀ c, owA σ[c]? (nth (put δ i t) c) q → owA σ[c]? (nth δ c) q := fun c h => by
      by_cases hc : c = i
      · subst hc; rw [nth_put_same _ _ _ hi] at h; exact hk q h
      · rw [nth_put_ne _ _ _ _ hc] at h; exact h
    exact s.ap a b q hab (k a k1) (k b k2)
theorem S8.updO {i : Nat} {ds es : List D} {p : Addr} {ws : List V} (s : S8 K H0 G0 δ σ H G) (hd : nth δ i = .ow ds) (hp : σ[i]? = some (some (.ref p))) (hw : DpAll K G ws es) : S8 K H0 G0 (put δ i (.ow es)) σ (upd H p (.lst ws)) G := by
  have hi := lt_of_nth hd (by intro z; cases z)
  have oi : owA σ[i]? (nth δ i) p := by rw [hd]; exact hp
  obtain ⟨o1, o2, _⟩ := (s.ok i).owned oi
  exact s.updA hi oi ⟨p, ws, hp, o1, o2, upd_same, hw⟩ fun a h => by rw [hd]; exact h
theorem S8.updD {i : Nat} {w : World} {ds es : List (D × D)} {p : Addr} {xs : List NX} (s : S8 K H0 G0 δ σ H G) (hd : nth δ i = .dk w ds) (hp : σ[i]? = some (some (.ref p))) (hm : (p == sysModules) = false) (hw : Paired (DkR K H0 G) es xs) : S8 K H0 G0 (put δ i (.dk w es)) σ (upd H p (.ext (φN w p xs))) G := by
  have hi := lt_of_nth hd (by intro z; cases z)
  have oi : owA σ[i]? (nth δ i) p := by rw [hd]; exact hp
  obtain ⟨o1, o2, _⟩ := (s.ok i).owned oi
  exact s.updA hi oi ⟨p, xs, hp, o1, o2, hm, upd_same, hw⟩ fun a h => by rw [hd]; exact h
/-- more is frozen: things that no other slot owns -/
theorem SlOk.froze {v : Option (Option V)} {s : Sl} {p : Addr} {o : HO} (h : SlOk K H0 G0 H G v s) (hg : G p = none) (ho : H p = some o) (n : ¬ owA v s p) (n2 : ∀ l d x, s = .tl l d → v = some (some (.ref x)) → x ≠ p) : SlOk K H0 G0 H (upd G p o) v s := by
  have eg : Ex G (upd G p o) := Ex.new hg
  cases s with
  | no => trivial
  | fr d => obtain ⟨x, e, q⟩ := h; exact ⟨x, e, q.to eg⟩
  | vw d => exact h
  | ff d => obtain ⟨x, e, q⟩ := h; exact ⟨x, e, q.to (nwG_mono H0 eg)⟩
  | ow ds =>
    obtain ⟨q, vs, e, h1, h2, h3, h4⟩ := h
    exact ⟨q, vs, e, h1, by rw [upd_ne (fun z => n (by rw [← z]; exact e))]; exact h2, h3, h4.to eg⟩
  | dk w es =>
    obtain ⟨q, xs, e, h1, h2, hm, h3, h4⟩ := h
    exact ⟨q, xs, e, h1, by rw [upd_ne (fun z => n (by rw [← z]; exact e))]; exact h2, hm, h3, dkAll_to h4 eg⟩
  | tl l d =>
    obtain ⟨x, e, q⟩ := h
    refine ⟨x, e, ?_⟩
    rcases q with q | ⟨q, a, b, va, vb, vs, cs, e1, e2, h1, h2, h3, h4, h5, h6, h7, h8, h9, h10⟩
    · exact .inl q
    · have n1 : q ≠ p := n2 l d q rfl (by rw [e, e1])
      have n3 : l ≠ p := fun z => n ⟨z.symm, by rw [e, e1]; intro z; cases z⟩
      exact .inr ⟨q, a, b, va, vb, vs, cs, e1, e2, h1, by rw [upd_ne n1]; exact h2, h3, h4.to eg, h5.to eg, h6, h7, by rw [upd_ne n3]; exact h8, h9, h10.to eg⟩
/-- from now on it never changes -/
theorem S8.freeze {i : Nat} {ds : List D} (s : S8 K H0 G0 δ σ H G) (hd : nth δ i = .ow ds) : ∃ G', Ex G G' ∧ S8 K H0 G0 (put δ i (.fr (.list ds))) σ H G' := by
  have o := s.ok i
  have hi := lt_of_nth hd (by intro z; cases z)
  have oi : ∀ p, σ[i]? = some (some (.ref p)) → owA σ[i]? (nth δ i) p := fun p hp => by rw [hd]; exact hp
  rw [hd] at o
  obtain ⟨p, vs, hp, h1, h2, h3, h4⟩ := o
  have eg : Ex G (upd G p (.lst vs)) := Ex.new h2
  refine ⟨upd G p (.lst vs), eg, ⟨⟨fun a u e => ?_, s.gr.g.trans eg, s.gr.h, fun a u e n => ?_⟩, by rw [put_length]; exact s.len, fun j => ?_, fun a b q hab k1 k2 => ?_, s.g0⟩⟩
  · by_cases ha : a = p
    · subst ha; rw [upd_same] at e; rw [h3]; exact e
    · rw [upd_ne ha] at e; exact s.gr.gh a u e
  · rw [upd_ne (ne_of_none e h1)]
    exact s.gr.nw a u e n
  · by_cases hj : j = i
    · subst hj
      rw [nth_put_same _ _ _ hi]
      exact ⟨_, hp, .lst (.inl (.inl upd_same)) (h4.to eg)⟩
    · rw [nth_put_ne _ _ _ _ hj]
      refine (s.ok j).froze h2 h3 (fun z => s.ap j i p hj z (oi p hp)) fun l d x ex ev z => ?_
      subst z
      have oj := s.ok j
      rw [ex] at oj
      obtain ⟨y, ey, q⟩ := oj
      rw [ev] at ey
      cases ey
      rcases q with ⟨q, _⟩ | ⟨q, a, b, va, vb, vs', cs, e1, e2, k1, k2, k3, _⟩
      · cases q
      · cases e1
        rw [h3] at k3; cases k3
  · have k : ∀ c, owA σ[c]? (nth (put δ i (.fr (.list ds))) c) q → owA σ[c]? (nth δ c) q := fun c h => by
      by_cases hc : c = i
      · subst hc; rw [nth_put_same _ _ _ hi] at h; cases h
      · rw [nth_put_ne _ _ _ _ hc] at h; exact h
    exact s.ap a b q hab (k a k1) (k b k2)
end
end Bd
/-! Bd2: expressions. -/
namespace Bd
open PySem PySem.Spec PyProof.Rows L2 Evl
abbrev Rel (α : Type) := Hp → Hp → Hp → V → α → Prop
def tR {α : Type} (R : Rel α) (K : PySem.W.Frag) (H0 G0 : Hp) (δ : En) (m : Option α) : TE := fun σ H Q => ∃ G, S8 K H0 G0 δ σ H G ∧ ∃ d, m = some d ∧ ∀ v H' G', Grow H G H' G' → R H H' G' v d → Q v H'
abbrev rF (K : PySem.W.Frag) : Rel D := fun _ _ G' v d => Dp K G' v d
abbrev rV (K : PySem.W.Frag) : Rel D := fun _ H' G' v d => Vw K H' G' v d
abbrev rO (K : PySem.W.Frag) : Rel (List D) := fun H H' G' v ds => ∃ p vs, v = .ref p ∧ H p = none ∧ G' p = none ∧ H' p = some (.lst vs) ∧ DpAll K G' vs ds
def tT (K : PySem.W.Frag) (H0 G0 : Hp) (δ : En) (m : Option Bool) : TT := fun σ H Q => ∃ G, S8 K H0 G0 δ σ H G ∧ ∃ b, m = some b ∧ ∀ H' G', Grow H G H' G' → Q b H'
theorem PE_imp {X : Cx} {e : Expr} {t t' : TE} (h : PE X e t) (k : ∀ σ H Q, t' σ H Q → t σ H Q) : PE X e t' := ⟨fun pins s σ H Q I w => h.run pins s σ H Q I (k σ H Q w)⟩
theorem PT_imp {X : Cx} {e : Expr} {t t' : TT} (h : PT X e t) (k : ∀ σ H Q, t' σ H Q → t σ H Q) : PT X e t' := ⟨fun pins s σ H Q I w => h.run pins s σ H Q I (k σ H Q w)⟩
theorem PA_imp {X : Cx} {e : List Expr} {t t' : TA} (h : PA X e t) (k : ∀ σ H Q, t' σ H Q → t σ H Q) : PA X e t' := ⟨fun pos pins s σ H Q I w => h.run pos pins s σ H Q I (k σ H Q w)⟩
theorem PSs_imp {X : Cx} {e : List Stmt} {t t' : TS} (h : PSs X e t) (k : ∀ E σ H, t' E σ H → t E σ H) : PSs X e t' := ⟨fun pins s σ H Q I w => h.run pins s σ H Q I (k Q σ H w)⟩

/-! ### combinators of the mirrors -/
def b2 {α β γ : Type} (f : α → β → Option γ) (m : Option α) (n : Option β) : Option γ := m.bind fun a => n.bind fun b => f a b
def lD (m : Option (List D)) : Option D := m.map PyData.list
def bD (m : Option Bool) : Option D := m.map PyData.bool
def asB : D → Option Bool
  | .bool b => some b
  | _ => none
def listD : D → Option (List D)
  | .list ds => some ds
  | _ => none
theorem b2_ss {α β γ : Type} (f : α → β → Option γ) (a : α) (b : β) : b2 f (some a) (some b) = f a b := rfl
theorem lD_s (a : List D) : lD (some a) = some (.list a) := rfl
theorem bD_s (a : Bool) : bD (some a) = some (.bool a) := rfl

section
variable {X : Cx} {H0 G0 : Hp} {δ : En} {e a b : Expr} {pos : Pos}
theorem x_imp {α β : Type} {R : Rel α} {R' : Rel β} {m : Option α} {n : Option β} (h : PE X e (tR R X.K H0 G0 δ m)) (g : ∀ y, n = some y → ∃ x, m = some x ∧ ∀ H G v H' G', Ex G H → Grow H G H' G' → R H H' G' v x → ∃ G'', Grow H G H' G'' ∧ R' H H' G'' v y) : PE X e (tR R' X.K H0 G0 δ n) :=
  PE_imp h fun σ H Q ⟨G, s, y, ey, q⟩ => by
    obtain ⟨x, ex, k⟩ := g y ey
    refine ⟨G, s, x, ex, fun v H' G' w r => ?_⟩
    obtain ⟨G'', w', r'⟩ := k H G v H' G' s.gh w r
    exact q v H' G'' w' r'
theorem x_FV {m : Option D} (h : PE X e (tR (rF X.K) X.K H0 G0 δ m)) : PE X e (tR (rV X.K) X.K H0 G0 δ m) :=
  x_imp h fun y ey => ⟨y, ey, fun _ _ _ _ G' _ w r => ⟨G', w, .inl r⟩⟩
theorem x_OF {m : Option (List D)} (h : PE X e (tR (rO X.K) X.K H0 G0 δ m)) : PE X e (tR (rF X.K) X.K H0 G0 δ (lD m)) :=
  x_imp h fun y ey => by
    cases m with
    | none => cases ey
    | some ds =>
      cases ey
      refine ⟨ds, rfl, fun H G v H' G' e0 w ⟨p, vs, ev, h1, h2, h3, h4⟩ => ?_⟩
      subst ev
      refine ⟨upd G' p (.lst vs), ⟨fun a u ea => ?_, w.g.trans (Ex.new h2), w.h, fun a u ea n => ?_⟩, .lst (.inl (.inl upd_same)) (h4.to (Ex.new h2))⟩
      · by_cases hp : a = p
        · subst hp; rw [upd_same] at ea; rw [h3]; exact ea
        · rw [upd_ne hp] at ea; exact w.gh a u ea
      · rw [upd_ne (ne_of_none ea h1)]
        exact w.nw a u ea n
theorem x_OV {m : Option (List D)} (h : PE X e (tR (rO X.K) X.K H0 G0 δ m)) : PE X e (tR (rV X.K) X.K H0 G0 δ (lD m)) := x_FV (x_OF h)
/-! ### names, constants -/
theorem x_fr {i : Nat} {d : D} (hn : PE X e (tVar i)) (h : nth δ i = .fr d) : PE X e (tR (rF X.K) X.K H0 G0 δ (some d)) :=
  PE_imp hn fun σ H Q ⟨G, s, y, ey, q⟩ => by
    cases ey
    have o := s.ok i
    rw [h] at o
    obtain ⟨x, ex, dx⟩ := o
    exact ⟨x, ex, q x H G (.refl s.gh) dx⟩
theorem x_vw {i : Nat} {d : D} (hn : PE X e (tVar i)) (h : nth δ i = .vw d) : PE X e (tR (rV X.K) X.K H0 G0 δ (some d)) :=
  PE_imp hn fun σ H Q ⟨G, s, y, ey, q⟩ => by
    cases ey
    have o := s.ok i
    rw [h] at o
    obtain ⟨x, ex, dx⟩ := o
    exact ⟨x, ex, q x H G (.refl s.gh) (dx.to s.gr.h s.gr.g)⟩
theorem x_ow {i : Nat} {ds : List D} (hn : PE X e (tVar i)) (h : nth δ i = .ow ds) : PE X e (tR (rV X.K) X.K H0 G0 δ (some (.list ds))) :=
  PE_imp hn fun σ H Q ⟨G, s, y, ey, q⟩ => by
    cases ey
    have o := s.ok i
    rw [h] at o
    obtain ⟨p, vs, ep, h1, h2, h3, h4⟩ := o
    exact ⟨.ref p, ep, q _ H G (.refl s.gh) (.inr ⟨p, vs, ds, rfl, rfl, .inl (.inl h3), h4⟩)⟩
theorem x_c {v : V} {d : D} (hn : PE X e (tC v)) (h : ∀ G, Dp X.K G v d) : PE X e (tR (rF X.K) X.K H0 G0 δ (some d)) :=
  PE_imp hn fun σ H Q ⟨G, s, y, ey, q⟩ => by
    cases ey
    exact q v H G (.refl s.gh) (h G)
theorem x_int {i : Int} {j : Nat} : PE X (.Constant (.int i) j pos) (tR (rF X.K) X.K H0 G0 δ (some (.int i))) := x_c pe_int fun _ => .int i
theorem x_str {x : Str} {j : Nat} : PE X (.Constant (.str x) j pos) (tR (rF X.K) X.K H0 G0 δ (some (.str x))) := x_c pe_str fun _ => .str x
theorem x_bl {x : Bool} {j : Nat} : PE X (.Constant (.bool x) j pos) (tR (rF X.K) X.K H0 G0 δ (some (.bool x))) := x_c pe_bl fun _ => .bl x
theorem x_non {j : Nat} : PE X (.Constant .none j pos) (tR (rF X.K) X.K H0 G0 δ (some .none)) := x_c pe_non fun _ => .non
/-! ### operators -/
def Sm2 (K : PySem.W.Frag) (r : R2) (f : D → D → Option D) : Prop := ∀ x y a b c (H G : Hp) (Q : VK), Ex G H → Vw K H G x a → Vw K H G y b → f a b = some c → (∀ v H' G', Grow H G H' G' → Dp K G' v c → Q v H') → r x y H Q
theorem x_bin0 {r : R2} {f : D → D → Option D} (sm : Sm2 X.K r f) {m1 m2 : Option D} {σ : L2.St} {H : Hp} {Q : VK} (h : tR (rF X.K) X.K H0 G0 δ (b2 f m1 m2) σ H Q) :
    tOp r (tR (rV X.K) X.K H0 G0 δ m1) (tR (rV X.K) X.K H0 G0 δ m2) σ H Q := by
  obtain ⟨G, s, c, ec, q⟩ := h
  cases m1 with
  | none => cases ec
  | some a =>
    cases m2 with
    | none => cases ec
    | some b =>
      refine ⟨G, s, a, rfl, fun x H1 G1 w1 r1 => ?_⟩
      refine ⟨G1, s.grow w1, b, rfl, fun y H2 G2 w2 r2 => ?_⟩
      exact sm x y a b c H2 G2 Q w2.gh (r1.to w2.h w2.g) r2 ec fun v H' G' w3 r3 => q v H' G' ((w1.trans w2).trans w3) r3
theorem x_bin {op : Operator} {r : R2} {f : D → D → Option D} (ho : OpR X (binaryOp op) r) (sm : Sm2 X.K r f) {m1 m2 : Option D} (ha : PE X a (tR (rV X.K) X.K H0 G0 δ m1)) (hb : PE X b (tR (rV X.K) X.K H0 G0 δ m2)) :
    PE X (.BinOp a op b pos) (tR (rF X.K) X.K H0 G0 δ (b2 f m1 m2)) := PE_imp (pe_op ho ha hb) fun _ _ _ h => x_bin0 sm h
/-- comparisons -/
def Sm2B (K : PySem.W.Frag) (r : R2) (f : D → D → Option Bool) : Prop := ∀ x y a b c (H G : Hp) (Q : VK), Ex G H → Vw K H G x a → Vw K H G y b → f a b = some c → (∀ H' G', Grow H G H' G' → Q (.bl c) H') → r x y H Q
theorem x_cmp {op : CmpOp} {r : R2} {f : D → D → Option Bool} (ho : OpR X (compareOp op) r) (sm : Sm2B X.K r f) (hm : behindInMarks op b = false) {m1 m2 : Option D} (ha : PE X a (tR (rV X.K) X.K H0 G0 δ m1)) (hb : PE X b (tR (rV X.K) X.K H0 G0 δ m2)) :
    PE X (.Compare a [op] [b] pos) (tR (rF X.K) X.K H0 G0 δ (bD (b2 f m1 m2))) := PE_imp (pe_cmpR ho ha hb hm) fun σ H Q h => by
  obtain ⟨G, s, c, ec, q⟩ := h
  cases m1 with
  | none => cases ec
  | some a =>
    cases m2 with
    | none => cases ec
    | some b =>
      cases ef : f a b with
      | none => rw [b2_ss, ef] at ec; cases ec
      | some k =>
        rw [b2_ss, ef] at ec
        cases ec
        refine ⟨G, s, a, rfl, fun x H1 G1 w1 r1 => ?_⟩
        refine ⟨G1, s.grow w1, b, rfl, fun y H2 G2 w2 r2 => ?_⟩
        exact sm x y a b k H2 G2 Q w2.gh (r1.to w2.h w2.g) r2 ef fun H' G' w3 => q _ H' G' ((w1.trans w2).trans w3) (.bl k)
theorem x_cmpT {op : CmpOp} {r : R2} {f : D → D → Option Bool} (ho : OpR X (compareOp op) r) (sm : Sm2B X.K r f) (hm : behindInMarks op b = false) {m1 m2 : Option D} (ha : PE X a (tR (rV X.K) X.K H0 G0 δ m1)) (hb : PE X b (tR (rV X.K) X.K H0 G0 δ m2)) :
    PT X (.Compare a [op] [b] pos) (tT X.K H0 G0 δ (b2 f m1 m2)) := PT_imp (pt_cmpR ho ha hb hm) fun σ H Q h => by
  obtain ⟨G, s, c, ec, q⟩ := h
  cases m1 with
  | none => cases ec
  | some a =>
    cases m2 with
    | none => cases ec
    | some b =>
      refine ⟨G, s, a, rfl, fun x H1 G1 w1 r1 => ?_⟩
      refine ⟨G1, s.grow w1, b, rfl, fun y H2 G2 w2 r2 => ?_⟩
      exact sm x y a b c H2 G2 _ w2.gh (r1.to w2.h w2.g) r2 ec fun H' G' w3 => ⟨c, rfl, q H' G' ((w1.trans w2).trans w3)⟩
/-! ### tests -/
def andT (m n : Option Bool) : Option Bool := m.bind fun b => if b then n else some false
def orT (m n : Option Bool) : Option Bool := m.bind fun b => if b then some true else n
def notT (m : Option Bool) : Option Bool := m.map fun b => !b
theorem y_val {m : Option D} (h : PE X e (tR (rV X.K) X.K H0 G0 δ m)) (he : ∀ whole, isTrue e X.env whole = (do let v ← whole; standAt e.pos; holding [v] (truthy v)) := by intro _; rfl) : PT X e (tT X.K H0 G0 δ (m.bind asB)) :=
  PT_imp (pt_val h he) fun σ H Q ⟨G, s, c, ec, q⟩ => by
    cases m with
    | none => cases ec
    | some d =>
      cases d with
      | bool k =>
        cases ec
        exact ⟨G, s, .bool c, rfl, fun v H' G' w r => ⟨c, r.bool, q H' G' w⟩⟩
      | _ => cases ec
theorem y_and0 {m n : Option Bool} {σ : L2.St} {H : Hp} {Q : Bool → Hp → Prop} (h : tT X.K H0 G0 δ (andT m n) σ H Q) : tAnd (tT X.K H0 G0 δ m) (tT X.K H0 G0 δ n) σ H Q := by
  obtain ⟨G, s, c, ec, q⟩ := h
  cases m with
  | none => cases ec
  | some k =>
    refine ⟨G, s, k, rfl, fun H' G' w => ?_⟩
    cases k with
    | true => exact ⟨G', s.grow w, c, ec, fun H2 G2 w2 => q H2 G2 (w.trans w2)⟩
    | false =>
      cases ec
      exact q H' G' w
theorem y_or0 {m n : Option Bool} {σ : L2.St} {H : Hp} {Q : Bool → Hp → Prop} (h : tT X.K H0 G0 δ (orT m n) σ H Q) : tOr (tT X.K H0 G0 δ m) (tT X.K H0 G0 δ n) σ H Q := by
  obtain ⟨G, s, c, ec, q⟩ := h
  cases m with
  | none => cases ec
  | some k =>
    refine ⟨G, s, k, rfl, fun H' G' w => ?_⟩
    cases k with
    | false => exact ⟨G', s.grow w, c, ec, fun H2 G2 w2 => q H2 G2 (w.trans w2)⟩
    | true =>
      cases ec
      exact q H' G' w
theorem PW_imp {t t' : TT} (h : PW X e t) (k : ∀ σ H Q, t' σ H Q → t σ H Q) : PW X e t' := ⟨fun wh pins s σ H Q I w => h.run wh pins s σ H Q I (k σ H Q w)⟩
variable {rest : List Expr}
theorem w_and1 {m : Option Bool} (h : PT X a (tT X.K H0 G0 δ m)) : PW X (.BoolOp .And [a] pos) (tT X.K H0 G0 δ m) := pw_and1 h
theorem w_or1 {m : Option Bool} (h : PT X a (tT X.K H0 G0 δ m)) : PW X (.BoolOp .Or [a] pos) (tT X.K H0 G0 δ m) := pw_or1 h
theorem w_and {m n : Option Bool} (h : PT X a (tT X.K H0 G0 δ m)) (k : PW X (.BoolOp .And (b :: rest) pos) (tT X.K H0 G0 δ n)) : PW X (.BoolOp .And (a :: b :: rest) pos) (tT X.K H0 G0 δ (andT m n)) := PW_imp (pw_and h k) fun _ _ _ q => y_and0 q
theorem w_or {m n : Option Bool} (h : PT X a (tT X.K H0 G0 δ m)) (k : PW X (.BoolOp .Or (b :: rest) pos) (tT X.K H0 G0 δ n)) : PW X (.BoolOp .Or (a :: b :: rest) pos) (tT X.K H0 G0 δ (orT m n)) := PW_imp (pw_or h k) fun _ _ _ q => y_or0 q
theorem y_pw {m : Option Bool} (h : PW X e (tT X.K H0 G0 δ m)) : PT X e (tT X.K H0 G0 δ m) := h.pt
theorem y_not {m : Option Bool} (h : PT X a (tT X.K H0 G0 δ m)) : PT X (.UnaryOp .Not a pos) (tT X.K H0 G0 δ (notT m)) :=
  PT_imp (pt_not h) fun σ H Q ⟨G, s, c, ec, q⟩ => by
    cases m with
    | none => cases ec
    | some k =>
      cases ec
      exact ⟨G, s, k, rfl, q⟩
/-- and, or, not as values -/
def andV (m n : Option D) : Option D := m.bind fun d => (asB d).bind fun b => if b then n else some (.bool false)
def orV (m n : Option D) : Option D := m.bind fun d => (asB d).bind fun b => if b then some (.bool true) else n
def notV (m : Option D) : Option D := m.bind fun d => (asB d).bind fun b => some (.bool !b)
theorem x_one {op : BoolOp} {m : Option D} (h : PE X a (tR (rF X.K) X.K H0 G0 δ m)) : PE X (.BoolOp op [a] pos) (tR (rF X.K) X.K H0 G0 δ m) := pe_one h
theorem x_and {m n : Option D} (h : PE X a (tR (rV X.K) X.K H0 G0 δ m)) (k : PE X (.BoolOp .And (b :: rest) pos) (tR (rF X.K) X.K H0 G0 δ n)) : PE X (.BoolOp .And (a :: b :: rest) pos) (tR (rF X.K) X.K H0 G0 δ (andV m n)) :=
  PE_imp (pe_and h k) fun σ H Q ⟨G, s, c, ec, q⟩ => by
    cases m with
    | none => cases ec
    | some d =>
      cases d with
      | bool l =>
        refine ⟨G, s, .bool l, rfl, fun v H' G' w r => ⟨l, r.bool, ?_⟩⟩
        cases l with
        | true => exact ⟨G', s.grow w, c, ec, fun v2 H2 G2 w2 r2 => q v2 H2 G2 (w.trans w2) r2⟩
        | false =>
          cases ec
          exact q _ H' G' w (.bl false)
      | _ => cases ec
theorem x_or {m n : Option D} (h : PE X a (tR (rV X.K) X.K H0 G0 δ m)) (k : PE X (.BoolOp .Or (b :: rest) pos) (tR (rF X.K) X.K H0 G0 δ n)) : PE X (.BoolOp .Or (a :: b :: rest) pos) (tR (rF X.K) X.K H0 G0 δ (orV m n)) :=
  PE_imp (pe_or h k) fun σ H Q ⟨G, s, c, ec, q⟩ => by
    cases m with
    | none => cases ec
    | some d =>
      cases d with
      | bool l =>
        refine ⟨G, s, .bool l, rfl, fun v H' G' w r => ⟨l, r.bool, ?_⟩⟩
        cases l with
        | false => exact ⟨G', s.grow w, c, ec, fun v2 H2 G2 w2 r2 => q v2 H2 G2 (w.trans w2) r2⟩
        | true =>
          cases ec
          exact q _ H' G' w (.bl true)
      | _ => cases ec
theorem x_not {m : Option D} (h : PE X a (tR (rV X.K) X.K H0 G0 δ m)) : PE X (.UnaryOp .Not a pos) (tR (rF X.K) X.K H0 G0 δ (notV m)) :=
  PE_imp (pe_not h) fun σ H Q ⟨G, s, c, ec, q⟩ => by
    cases m with
    | none => cases ec
    | some d =>
      cases d with
      | bool l =>
        cases ec
        exact ⟨G, s, .bool l, rfl, fun v H' G' w r => ⟨l, r.bool, q _ H' G' w (.bl _)⟩⟩
      | _ => cases ec
def negD : D → Option D
  | .int i => some (.int (-i))
  | _ => none
theorem x_neg {m : Option D} (h : PE X a (tR (rV X.K) X.K H0 G0 δ m)) : PE X (.UnaryOp .USub a pos) (tR (rF X.K) X.K H0 G0 δ (m.bind negD)) :=
  PE_imp (pe_un un_neg h) fun σ H Q ⟨G, s, c, ec, q⟩ => by
    cases m with
    | none => cases ec
    | some d =>
      cases d with
      | int i =>
        cases ec
        exact ⟨G, s, .int i, rfl, fun v H' G' w r => ⟨i, r.int, q _ H' G' w (.int _)⟩⟩
      | _ => cases ec
end

/-! ### the operators' meanings -/
abbrev LN : Nat := 16777216
theorem ln_line {n : Nat} (h : n ≤ LN) : n ≤ sizeLine := by rw [sizeLine_eq]; exact h
theorem ln_lt {n : Nat} (h : n < LN) : n < sizeLine := by rw [sizeLine_eq]; exact h
def grd {α : Type} (c : Bool) (m : Option α) : Option α := if c then m else none
theorem grd_some {α : Type} {c : Bool} {m : Option α} {x : α} (h : grd c m = some x) : c = true ∧ m = some x := by
  unfold grd at h
  cases c with
  | true => exact ⟨rfl, h⟩
  | false => cases h
theorem grd_t {α : Type} {c : Bool} {m : Option α} (h : c = true) : grd c m = m := by rw [h]; rfl
section
variable {K : PySem.W.Frag} {X : Cx}
/-- a list + a list, where they are read -/
def rCatS (K : PySem.W.Frag) : R2 := fun x y H Q => ∃ p q as bs, x = .ref p ∧ y = .ref q ∧ SqL K H p as ∧ SqL K H q bs ∧ as.length + bs.length ≤ sizeLine ∧ ∀ r, H r = none → Q (.ref r) (upd H r (.lst (as ++ bs)))
theorem op_catS : OpR X (binaryOp .Add) (rCatS X.K) := by
  intro pins s σ H x y v u Q I rx ry ⟨p, q, as, bs, ex, ey, hp, hq, hz, go⟩
  subst ex ey
  cases rx
  cases ry
  obtain ⟨us, va, ⟨⟨_, _, _, sa⟩, na, oa, ca, da, ta⟩, _⟩ := I.list hp
  obtain ⟨ws, vb, ⟨⟨_, _, _, sb⟩, nb, ob, cb, db, tb⟩, _⟩ := I.list hq
  simp only at ca da ta cb db tb
  subst ca da ta cb db tb
  have la := va.length
  have lb := vb.length
  have join : us.toArray ++ ws.toArray = (us ++ ws).toArray := by rw [List.append_toArray]
  refine concat_meets ⟨_, oa, rfl⟩ ⟨_, ob, rfl⟩ noFill_list_add seq_list_add PySem.F.slot_list_add PySem.F.entry_list_add (PySem.F.args_list_add_2 _ _)
    (list_addW p q us.toArray ws.toArray na nb none none sa sb (show us.length + ws.length ≤ sizeLine by omega)) ⟨oa, ob, ?_⟩
  rw [join]
  exact ⟨.ref _, _, I.lnew (t' := s.toks) (va.append vb) (by rw [List.length_append]; omega), rfl, go _ I.fresh⟩
end
end Bd
/-! Bd3: what the operators and the built-ins give. -/
namespace Bd
open PySem PySem.Spec PyProof.Rows L2 Evl
section
variable {K : PySem.W.Frag} {X : Cx}
/-! ### arithmetic -/
theorem of_dec {p : Prop} {i : Decidable p} (h : @decide p i = true) : p := of_decide_eq_true h

def addD : D → D → Option D
  | .int i, .int j => some (.int (i + j))
  | .str x, .str y => grd (decide (x.length + y.length ≤ LN)) (some (.str (x ++ y)))
  | .list a, .list b => grd (decide (a.length + b.length ≤ LN)) (some (.list (a ++ b)))
  | .tuple a, .tuple b => grd (decide (a.length + b.length ≤ LN)) (some (.tuple (a ++ b)))
  | _, _ => none
def rAddS : R2 := fun x y H Q => ∃ i j, x = .str i ∧ y = .str j ∧ i.length + j.length ≤ sizeLine ∧ Q (.str (i ++ j)) H
theorem op_addD : OpR X (binaryOp .Add) (fun x y H Q => (rI0 fun i j => .int (i + j)) x y H Q ∨ (rAddS x y H Q ∨ (rCatS X.K x y H Q ∨ rCatA X.K x y H Q))) :=
  op_add.or (OpR.or (r := rAddS) op_add_str (op_catS.or op_catA))
theorem sm_add : Sm2 K (fun x y H Q => (rI0 fun i j => .int (i + j)) x y H Q ∨ (rAddS x y H Q ∨ (rCatS K x y H Q ∨ rCatA K x y H Q))) addD := by
  intro x y a b c H G Q eg hx hy ef q
  cases a with
  | int i =>
    cases b with
    | int j =>
      cases ef
      cases hx.int; cases hy.int
      exact .inl ⟨i, j, rfl, rfl, q _ H G (.refl eg) (.int _)⟩
    | _ => cases ef
  | str i =>
    cases b with
    | str j =>
      obtain ⟨h1, h2⟩ := grd_some ef
      cases h2
      cases hx.str; cases hy.str
      exact .inr (.inl ⟨i, j, rfl, rfl, ln_line (of_decide_eq_true h1), q _ H G (.refl eg) (.str _)⟩)
    | _ => cases ef
  | list as =>
    cases b with
    | list bs =>
      obtain ⟨h1, h2⟩ := grd_some ef
      cases h2
      obtain ⟨p, vs, rfl, sp, ap⟩ := hx.list eg
      obtain ⟨r, ws, rfl, sr, ar⟩ := hy.list eg
      refine .inr (.inr (.inl ⟨p, r, vs, ws, rfl, rfl, sp, sr, ?_, fun l hl => ?_⟩))
      · rw [ap.length, ar.length]; exact ln_line (of_decide_eq_true h1)
      · have en : Ex G (upd G l (.lst (vs ++ ws))) := Ex.new (eg.none hl)
        exact q _ _ _ (Grow.newF eg hl) (.lst (.inl (.inl upd_same)) ((ap.to en).append (ar.to en)))
    | _ => cases ef
  | tuple as =>
    cases b with
    | tuple bs =>
      obtain ⟨h1, h2⟩ := grd_some ef
      cases h2
      obtain ⟨p, vs, rfl, sp, ap⟩ := hx.tuple
      obtain ⟨r, ws, rfl, sr, ar⟩ := hy.tuple
      refine .inr (.inr (.inr ⟨p, r, vs, ws, rfl, rfl, ex_t eg sp, ex_t eg sr, ?_, fun e => ?_, fun _ e => ?_, fun _ _ l hl => ?_⟩))
      · rw [ap.length, ar.length]; exact ln_line (of_decide_eq_true h1)
      · subst e
        cases ap
        exact q _ H G (.refl eg) (.tup sr ar)
      · subst e
        cases ar
        exact q _ H G (.refl eg) (by rw [List.append_nil]; exact .tup sp ap)
      · have en : Ex G (upd G l (.tup (vs ++ ws))) := Ex.new (eg.none hl)
        exact q _ _ _ (Grow.newF eg hl) (.tup (.inl (.inl upd_same)) ((ap.to en).append (ar.to en)))
    | _ => cases ef
  | _ => cases ef
def subD : D → D → Option D
  | .int i, .int j => some (.int (i - j))
  | _, _ => none
def fdivD : D → D → Option D
  | .int i, .int j => grd (decide (0 < j ∧ j < 1073741824)) (some (.int (i / j)))
  | _, _ => none
def modD : D → D → Option D
  | .int i, .int j => grd (decide (0 < j)) (some (.int (i % j)))
  | _, _ => none
def powD : D → D → Option D
  | .int i, .int j => grd (decide (0 ≤ j ∧ j ≤ 1000000 ∧ i.natAbs < 2 ^ 64)) (some (.int (i ^ j.toNat)))
  | _, _ => none
theorem sm_I {C : Int → Int → Prop} {g : Int → Int → Int} {f : D → D → Option D} (h : ∀ a b c, f a b = some c → ∃ i j, a = .int i ∧ b = .int j ∧ C i j ∧ c = .int (g i j)) : Sm2 K (rI C fun i j => .int (g i j)) f := by
  intro x y a b c H G Q eg hx hy ef q
  obtain ⟨i, j, rfl, rfl, hc, rfl⟩ := h a b c ef
  cases hx.int; cases hy.int
  exact ⟨i, j, rfl, rfl, hc, q _ H G (.refl eg) (.int _)⟩
theorem sm_sub : Sm2 K (rI0 fun i j => .int (i - j)) subD := by
  intro x y a b c H G Q eg hx hy ef q
  cases a with
  | int i =>
    cases b with
    | int j =>
      cases ef
      cases hx.int; cases hy.int
      exact ⟨i, j, rfl, rfl, q _ H G (.refl eg) (.int _)⟩
    | _ => cases ef
  | _ => cases ef
theorem sm_fdiv : Sm2 K (rI CDiv fun i j => .int (i / j)) fdivD := sm_I fun a b c ef => by
  cases a with
  | int i =>
    cases b with
    | int j =>
      obtain ⟨h1, h2⟩ := grd_some ef
      cases h2
      exact ⟨i, j, rfl, rfl, of_dec h1, rfl⟩
    | _ => cases ef
  | _ => cases ef
theorem sm_mod : Sm2 K (rI (fun _ j => 0 < j) fun i j => .int (i % j)) modD := sm_I fun a b c ef => by
  cases a with
  | int i =>
    cases b with
    | int j =>
      obtain ⟨h1, h2⟩ := grd_some ef
      cases h2
      exact ⟨i, j, rfl, rfl, of_dec h1, rfl⟩
    | _ => cases ef
  | _ => cases ef
theorem sm_pow : Sm2 K (rI CPow fun i j => .int (i ^ j.toNat)) powD := sm_I fun a b c ef => by
  cases a with
  | int i =>
    cases b with
    | int j =>
      obtain ⟨h1, h2⟩ := grd_some ef
      cases h2
      exact ⟨i, j, rfl, rfl, of_dec h1, rfl⟩
    | _ => cases ef
  | _ => cases ef
/-- a short text some times -/
def repS (x : Str) (n : Int) : Str := Txt.mul x n
def mulD : D → D → Option D
  | .int i, .int j => grd (decide ((-(2 ^ 64) < i ∧ i < 2 ^ 64) ∨ (-(2 ^ 64) < j ∧ j < 2 ^ 64))) (some (.int (i * j)))
  | .str x, .int j => grd (decide (x.length ≤ 1000 ∧ 0 ≤ j ∧ j ≤ 1000)) (some (.str (repS x j)))
  | _, _ => none
def rMulS : R2 := fun x y H Q => ∃ i j, x = .str i ∧ y = .int j ∧ (i.length ≤ 1000 ∧ 0 ≤ j ∧ j ≤ 1000) ∧ Q (.str (repS i j)) H
theorem mulok {x : Str} {n : Int} (h : x.length ≤ 1000 ∧ 0 ≤ n ∧ n ≤ 1000) : MulOk x n := by
  obtain ⟨h1, h2, h3⟩ := h
  refine ⟨?_, fun hn _ => ?_, fun hn _ => ?_⟩
  · rw [decide_eq_false (by omega), decide_eq_false (by omega)]; rfl
  · have e : (1000 : Int) ≤ (2 ^ 63 - 1) / n := by
      rw [Int.le_ediv_iff_mul_le (by omega)]
      omega
    omega
  · have e : x.length * n.toNat ≤ 1000 * 1000 := Nat.mul_le_mul h1 (by omega)
    unfold Builtin.Str.tooLong
    first
      | (rw [decide_eq_false]; rw [sizeLine_eq]; omega)
      | (simp; rw [sizeLine_eq]; omega)
      | (simp [sizeLine_eq]; omega)
theorem op_mulS : OpR X (binaryOp .Mult) rMulS := by
  intro pins s σ H x y v u Q I rx ry h
  obtain ⟨i, j, rfl, rfl, hk, q⟩ := h
  obtain ⟨t, rfl⟩ := rx
  obtain ⟨t', rfl⟩ := ry
  exact PySem.SB.mul (mulok hk) fun t' k => ⟨.str _, H, I.tok k, ⟨_, rfl⟩, q⟩
theorem op_mulD : OpR X (binaryOp .Mult) (fun x y H Q => (rI CMul fun i j => .int (i * j)) x y H Q ∨ rMulS x y H Q) := op_mul.or op_mulS
theorem sm_mul : Sm2 K (fun x y H Q => (rI CMul fun i j => .int (i * j)) x y H Q ∨ rMulS x y H Q) mulD := by
  intro x y a b c H G Q eg hx hy ef q
  cases a with
  | int i =>
    cases b with
    | int j =>
      obtain ⟨h1, h2⟩ := grd_some ef
      cases h2
      cases hx.int; cases hy.int
      exact .inl ⟨i, j, rfl, rfl, of_dec h1, q _ H G (.refl eg) (.int _)⟩
    | _ => cases ef
  | str i =>
    cases b with
    | int j =>
      obtain ⟨h1, h2⟩ := grd_some ef
      cases h2
      cases hx.str; cases hy.int
      exact .inr ⟨i, j, rfl, rfl, of_decide_eq_true h1, q _ H G (.refl eg) (.str _)⟩
    | _ => cases ef
  | _ => cases ef
/-! ### comparisons -/
def ordD (p : Int → Int → Bool) : D → D → Option Bool
  | .int i, .int j => some (p i j)
  | _, _ => none
theorem sm_ord {p : Int → Int → Bool} : Sm2B K (rI0 fun i j => .bl (p i j)) (ordD p) := by
  intro x y a b c H G Q eg hx hy ef q
  cases a with
  | int i =>
    cases b with
    | int j =>
      cases ef
      cases hx.int; cases hy.int
      exact ⟨i, j, rfl, rfl, q H G (.refl eg)⟩
    | _ => cases ef
  | _ => cases ef
abbrev ltI (i j : Int) : Bool := decide (i < j)
abbrev leI (i j : Int) : Bool := decide (i ≤ j)
abbrev gtI (i j : Int) : Bool := decide (j < i)
abbrev geI (i j : Int) : Bool := decide (j ≤ i)
/-- == : numbers, texts, truths at once; else as data -/
def eqD : D → D → Option Bool
  | .int i, .int j => some (i == j)
  | .str x, .str y => some (decide (x = y))
  | .bool x, .bool y => some (x == y)
  | .none, .none => some true
  | a, b => grd (SeqAt.shaped a && SeqAt.shaped b) (some (PyData.eqv a b))
def neD (a b : D) : Option Bool := (eqD a b).map fun k => !k
theorem op_eqA (hu : X.A.units + 64 < cLine) : OpR X (compareOp .Eq) (fun x y H Q => rEq x y H Q ∨ rEqD X.K x y H Q) := op_eq.or (op_eqD hu)
theorem op_neA (hu : X.A.units + 64 < cLine) : OpR X (compareOp .NotEq) (fun x y H Q => rNe x y H Q ∨ rNeD X.K x y H Q) := op_ne.or (op_neD hu)
theorem eqD_cases {a b : D} {c : Bool} (h : eqD a b = some c) {x y : V} {H G : Hp} (eg : Ex G H) (hx : Vw K H G x a) (hy : Vw K H G y b) :
    (scal x y = true ∧ c = decide (x = y)) ∨ (Dp K H x a ∧ Dp K H y b ∧ SeqAt.shaped a = true ∧ SeqAt.shaped b = true ∧ c = PyData.eqv a b) := by
  have other : grd (SeqAt.shaped a && SeqAt.shaped b) (some (PyData.eqv a b)) = some c → (Dp K H x a ∧ Dp K H y b ∧ SeqAt.shaped a = true ∧ SeqAt.shaped b = true ∧ c = PyData.eqv a b) := fun e => by
    obtain ⟨h1, h2⟩ := grd_some e
    obtain ⟨h3, h4⟩ := Bool.and_eq_true_iff.mp h1
    cases h2
    exact ⟨hx.dp eg, hy.dp eg, h3, h4, rfl⟩
  cases a with
  | int i =>
    cases b with
    | int j =>
      cases hx.int; cases hy.int
      have e : (i == j) = c := Option.some.inj h
      exact .inl ⟨rfl, by rw [dec_int]; exact e.symm⟩
    | _ => exact .inr (other h)
  | str i =>
    cases b with
    | str j =>
      cases hx.str; cases hy.str
      have e : decide (i = j) = c := Option.some.inj h
      refine .inl ⟨rfl, ?_⟩
      rw [← e]
      by_cases hij : i = j
      · subst hij; simp
      · simp [hij]
    | _ => exact .inr (other h)
  | bool i =>
    cases b with
    | bool j =>
      cases hx.bool; cases hy.bool
      have e : (i == j) = c := Option.some.inj h
      exact .inl ⟨rfl, by rw [dec_bl]; exact e.symm⟩
    | _ => exact .inr (other h)
  | none =>
    cases b with
    | none =>
      cases hx.none; cases hy.none
      have e : true = c := Option.some.inj h
      exact .inl ⟨rfl, e.symm⟩
    | _ => exact .inr (other h)
  | list as => cases b <;> exact .inr (other h)
  | tuple as => cases b <;> exact .inr (other h)
  | dict as => cases b <;> exact .inr (other h)
theorem sm_eq : Sm2B K (fun x y H Q => rEq x y H Q ∨ rEqD K x y H Q) eqD := by
  intro x y a b c H G Q eg hx hy ef q
  rcases eqD_cases ef eg hx hy with ⟨h1, h2⟩ | ⟨h1, h2, h3, h4, h5⟩
  · exact .inl ⟨h1, by rw [← h2]; exact q H G (.refl eg)⟩
  · exact .inr ⟨a, b, h1, h2, h3, h4, by rw [← h5]; exact q H G (.refl eg)⟩
theorem sm_ne : Sm2B K (fun x y H Q => rNe x y H Q ∨ rNeD K x y H Q) neD := by
  intro x y a b c H G Q eg hx hy ef q
  obtain ⟨k, ek, rfl⟩ : ∃ k, eqD a b = some k ∧ c = !k := by
    unfold neD at ef
    cases h : eqD a b with
    | none => rw [h] at ef; cases ef
    | some k => rw [h] at ef; cases ef; exact ⟨k, rfl, rfl⟩
  rcases eqD_cases ek eg hx hy with ⟨h1, h2⟩ | ⟨h1, h2, h3, h4, h5⟩
  · exact .inl ⟨h1, by rw [← h2]; exact q H G (.refl eg)⟩
  · exact .inr ⟨a, b, h1, h2, h3, h4, by rw [← h5]; exact q H G (.refl eg)⟩
def nonD : D → Bool
  | .none => true
  | _ => false
def isN : D → D → Option Bool
  | a, .none => some (nonD a)
  | _, _ => none
def notN (a b : D) : Option Bool := (isN a b).map fun k => !k
theorem vw_none {v : V} {d : D} {H G : Hp} (h : Vw K H G v d) : decide (v = .non) = nonD d := by
  rcases h with h | ⟨p, vs, ds', rfl, rfl, h1, h2⟩
  · cases h <;> rfl
  · rfl
theorem sm_isN : Sm2B K (fun x y H Q => y = .non ∧ Q (.bl (decide (x = .non))) H) isN := by
  intro x y a b c H G Q eg hx hy ef q
  cases b with
  | none =>
    have e : nonD a = c := Option.some.inj ef
    exact ⟨hy.none, by rw [vw_none hx, e]; exact q H G (.refl eg)⟩
  | _ => cases ef
theorem sm_notN : Sm2B K (fun x y H Q => y = .non ∧ Q (.bl (!decide (x = .non))) H) notN := by
  intro x y a b c H G Q eg hx hy ef q
  cases b with
  | none =>
    have e : (!nonD a) = c := Option.some.inj ef
    exact ⟨hy.none, by rw [vw_none hx, e]; exact q H G (.refl eg)⟩
  | _ => cases ef
def flatD : D → Bool
  | .none | .bool _ | .int _ | .str _ => true
  | _ => false
def memD (x : D) (ds : List D) : Option Bool := grd (flatD x && ds.all flatD) (some (ds.any fun y => PyData.eqv y x))
/-- a text of one sign -/
def oneS (x : Str) : Option Nat := match x.cps.toList with
  | [c] => some c
  | _ => none
theorem oneS_is {x : Str} {c : Nat} (h : oneS x = some c) : x = ⟨#[c]⟩ := by
  obtain ⟨a⟩ := x
  unfold oneS at h
  split at h
  · rename_i k e
    cases h
    have e' : a.toList = [c] := e
    rw [← Array.toArray_toList (xs := a), e']
  · cases h
def inD : D → D → Option Bool
  | x, .list ds => memD x ds
  | x, .tuple ds => memD x ds
  | .str x, .str z => (oneS x).map fun c => decide (c ∈ z.cps.toList)
  | _, _ => none
def ninD (a b : D) : Option Bool := (inD a b).map fun k => !k
theorem flat_V {v : V} {d : D} {G : Hp} (h : Dp K G v d) (f : flatD d = true) : flatV v = true := by
  cases h <;> first | rfl | (cases f)
theorem eqv_V {v u : V} {d e : D} {G : Hp} (h : Dp K G v d) (g : Dp K G u e) (f : flatD d = true) (f' : flatD e = true) : eqV v u = PyData.eqv d e := by
  cases h <;> first | (cases f; done) | skip
  all_goals (cases g <;> first | (cases f'; done) | skip)
  all_goals first | rfl | (simp [eqV, PyData.eqv])
theorem flat_all {G : Hp} : ∀ {vs : List V} {ds : List D}, DpAll K G vs ds → ds.all flatD = true → vs.all flatV = true
  | _, _, .nil, _ => rfl
  | _, _, .cons a b, h => by
    rw [List.all_cons, Bool.and_eq_true_iff] at h ⊢
    exact ⟨flat_V a h.1, flat_all b h.2⟩
theorem any_V {x : V} {e : D} {G : Hp} (hx : Dp K G x e) (fx : flatD e = true) : ∀ {vs : List V} {ds : List D}, DpAll K G vs ds → ds.all flatD = true → inV x vs = ds.any fun y => PyData.eqv y e
  | _, _, .nil, _ => rfl
  | _, _, .cons a b, h => by
    rw [List.all_cons, Bool.and_eq_true_iff] at h
    unfold inV
    rw [List.any_cons, List.any_cons, eqv_V a hx h.1 fx]
    exact congrArg _ (any_V hx fx b h.2)
theorem flat_Dp {v : V} {d : D} {H G : Hp} (h : Vw K H G v d) (f : flatD d = true) : Dp K G v d := by
  rcases h with h | ⟨p, vs, ds', rfl, rfl, h1, h2⟩
  · exact h
  · cases f
def rInX (K : PySem.W.Frag) (neg : Bool) : R2 := fun x y H Q => rIn K neg x y H Q ∨ ∃ (c : Nat) (z : Str), x = .str ⟨#[c]⟩ ∧ y = .str z ∧ Q (.bl (if neg then !decide (c ∈ z.cps.toList) else decide (c ∈ z.cps.toList))) H
theorem op_inX : OpR X (compareOp .In) (rInX X.K false) := OpR.or op_in_seq op_in_sign
theorem op_ninX : OpR X (compareOp .NotIn) (rInX X.K true) := OpR.or op_notIn_seq op_notIn_sign
theorem sm_in0 {neg : Bool} {x y : V} {a b : D} {c : Bool} {H G : Hp} {Q : VK} (eg : Ex G H) (hx : Vw K H G x a) (hy : Vw K H G y b) (ef : inD a b = some c) (q : ∀ H' G', Grow H G H' G' → Q (.bl (if neg then !c else c)) H') : rInX K neg x y H Q := by
  have go : ∀ (p : Addr) (vs : List V) (ds : List D), y = .ref p → (SqL K H p vs ∨ SqT K H p vs) → DpAll K G vs ds → memD a ds = some c → rInX K neg x y H Q := fun p vs ds ey hs ha e => by
    obtain ⟨h1, h2⟩ := grd_some e
    obtain ⟨h3, h4⟩ := Bool.and_eq_true_iff.mp h1
    have e2 : _ = c := Option.some.inj h2
    have dx := flat_Dp hx h3
    refine .inl ⟨p, vs, ey, hs, flat_V dx h3, flat_all ha h4, ?_⟩
    rw [any_V dx h3 ha h4, e2]
    exact q H G (.refl eg)
  cases b with
  | list ds =>
    obtain ⟨p, vs, rfl, sp, ap⟩ := hy.list eg
    exact go p vs ds rfl (.inl sp) ap (by cases a <;> exact ef)
  | tuple ds =>
    obtain ⟨p, vs, rfl, sp, ap⟩ := hy.tuple
    exact go p vs ds rfl (.inr (ex_t eg sp)) ap (by cases a <;> exact ef)
  | str z =>
    cases a with
    | str y =>
      cases ho : oneS y with
      | none =>
        have ef' : (oneS y).map (fun c => decide (c ∈ z.cps.toList)) = some c := ef
        rw [ho] at ef'; cases ef'
      | some k =>
        have ef' : (oneS y).map (fun c => decide (c ∈ z.cps.toList)) = some c := ef
        rw [ho] at ef'
        have e2 : decide (k ∈ z.cps.toList) = c := Option.some.inj ef'
        cases hx.str; cases hy.str
        refine .inr ⟨k, z, by rw [oneS_is ho], rfl, ?_⟩
        rw [e2]
        exact q H G (.refl eg)
    | _ => cases ef
  | _ => cases a <;> cases ef
theorem sm_in : Sm2B K (rInX K false) inD := fun x y a b c H G Q eg hx hy ef q => sm_in0 eg hx hy ef fun H' G' w => q H' G' w
theorem sm_nin : Sm2B K (rInX K true) ninD := by
  intro x y a b c H G Q eg hx hy ef q
  unfold ninD at ef
  cases h : inD a b with
  | none => rw [h] at ef; cases ef
  | some k => rw [h] at ef; cases ef; exact sm_in0 eg hx hy h fun H' G' w => q H' G' w
/-! ### places -/
def idxD : D → D → Option D
  | .list ds, .int i => atI ds i
  | .tuple ds, .int i => atI ds i
  | .str z, .int i => grd (decide (z.length ≤ LN)) ((atI z.cps.toList i).map fun c => .str ⟨#[c]⟩)
  | _, _ => none
theorem at_V {G : Hp} {vs : List V} {ds : List D} {i : Int} {d : D} (h : DpAll K G vs ds) (e : atI ds i = some d) : ∃ v, atI vs i = some v ∧ Dp K G v d := by
  unfold atI at e ⊢
  rw [h.length]
  cases hj : ixN ds.length i with
  | none => rw [hj] at e; cases e
  | some j =>
    rw [hj] at e
    obtain ⟨v, h1, h2⟩ := h.get (i := j) (d := d) e
    exact ⟨v, h1, h2⟩
theorem sm_ix : Sm2 K (rIx K) idxD := by
  intro x y a b c H G Q eg hx hy ef q
  cases b with
  | int i =>
    cases hy.int
    cases a with
    | list ds =>
      obtain ⟨p, vs, rfl, sp, ap⟩ := hx.list eg
      obtain ⟨v, h1, h2⟩ := at_V ap ef
      exact .inl ⟨p, vs, i, v, rfl, rfl, sp, h1, q v H G (.refl eg) h2⟩
    | tuple ds =>
      obtain ⟨p, vs, rfl, sp, ap⟩ := hx.tuple
      obtain ⟨v, h1, h2⟩ := at_V ap ef
      exact .inr (.inl ⟨p, vs, i, v, rfl, rfl, ex_t eg sp, h1, q v H G (.refl eg) h2⟩)
    | str z =>
      cases hx.str
      obtain ⟨h1, h2⟩ := grd_some ef
      cases hz : atI z.cps.toList i with
      | none => rw [hz] at h2; cases h2
      | some k =>
        rw [hz] at h2
        cases h2
        exact .inr (.inr ⟨z, i, k, rfl, rfl, ln_line (of_decide_eq_true h1), hz, q _ H G (.refl eg) (.str _)⟩)
    | _ => cases ef
  | _ => cases a <;> cases ef
section
variable {H0 G0 : Hp} {δ : En} {e a b : Expr} {pos : Pos}
theorem x_ix {m n : Option D} (ha : PE X a (tR (rV X.K) X.K H0 G0 δ m)) (hb : PE X b (tR (rV X.K) X.K H0 G0 δ n)) (hs : PlainIx b := by exact fun _ _ => rfl) : PE X (.Subscript a b pos) (tR (rF X.K) X.K H0 G0 δ (b2 idxD m n)) :=
  PE_imp (pe_ix ix_seq ha hb hs) fun _ _ _ h => x_bin0 sm_ix h
end
/-! ### cuts -/
def cutL {α : Type} (xs : List α) (lo hi : Option Int) : List α := (xs.drop (HT.sIx xs.length 0 lo)).take (HT.sIx xs.length xs.length hi - HT.sIx xs.length 0 lo)
def cutD (d : D) (lo hi : Option Int) : Option D :=
  match d with
  | .list ds => some (.list (cutL ds lo hi))
  | .tuple ds => some (.tuple (cutL ds lo hi))
  | _ => none
def asI : D → Option Int
  | .int i => some i
  | _ => none
theorem cut_V {G : Hp} {vs : List V} {ds : List D} {lo hi : Option Int} (h : DpAll K G vs ds) : DpAll K G (cutV vs lo hi) (cutL ds lo hi) := by
  unfold cutV cutL
  rw [h.length]
  exact (h.drop _).take _
theorem cutL_whole {α : Type} {xs : List α} {lo hi : Option Int} (h : HT.sIx xs.length 0 lo = 0 ∧ HT.sIx xs.length xs.length hi = xs.length) : cutL xs lo hi = xs := by
  unfold cutL
  rw [h.1, h.2]
  simp
section
variable {H0 G0 : Hp} {δ : En} {e a b : Expr} {pos p2 : Pos}
def tP (K : PySem.W.Frag) (H0 G0 : Hp) (δ : En) (m : Option (Option Int)) : TO := fun σ H Q => ∃ G, S8 K H0 G0 δ σ H G ∧ ∃ o, m = some o ∧ ∀ H' G', Grow H G H' G' → Q o H'
theorem PO_imp {o : Option Expr} {t t' : TO} (h : PO X o t) (k : ∀ σ H Q, t' σ H Q → t σ H Q) : PO X o t' := ⟨fun pins s σ H Q I w => h.run pins s σ H Q I (k σ H Q w)⟩
theorem p_none : PO X none (tP X.K H0 G0 δ (some none)) := PO_imp po_none fun σ H Q ⟨G, s, o, eo, q⟩ => by
  cases eo
  exact q H G (.refl s.gh)
theorem p_some {m : Option D} (h : PE X e (tR (rV X.K) X.K H0 G0 δ m)) : PO X (some e) (tP X.K H0 G0 δ ((m.bind asI).map some)) := PO_imp (po_some h) fun σ H Q ⟨G, s, o, eo, q⟩ => by
  cases m with
  | none => cases eo
  | some d =>
    cases d with
    | int i =>
      cases eo
      exact ⟨G, s, .int i, rfl, fun v H' G' w r => ⟨i, r.int, q H' G' w⟩⟩
    | _ => cases eo
def slcD (m : Option D) (lo hi : Option (Option Int)) : Option D := m.bind fun d => lo.bind fun l => hi.bind fun h => cutD d l h
theorem x_slc {m : Option D} {lo hi : Option Expr} {ml mh : Option (Option Int)} (h : PE X e (tR (rV X.K) X.K H0 G0 δ m)) (hl : PO X lo (tP X.K H0 G0 δ ml)) (hh : PO X hi (tP X.K H0 G0 δ mh)) :
    PE X (.Subscript e (.Slice lo hi none p2) pos) (tR (rF X.K) X.K H0 G0 δ (slcD m ml mh)) :=
  PE_imp (pe_slice (sl_list.or sl_tupA) h hl hh) fun σ H Q ⟨G, s, c, ec, q⟩ => by
    cases m with
    | none => cases ec
    | some d =>
      cases ml with
      | none => cases ec
      | some l =>
        cases mh with
        | none => cases ec
        | some u =>
          refine ⟨G, s, d, rfl, fun x H1 G1 w1 r1 => ?_⟩
          refine ⟨G1, s.grow w1, l, rfl, fun H2 G2 w2 => ?_⟩
          refine ⟨G2, (s.grow w1).grow w2, u, rfl, fun H3 G3 w3 => ?_⟩
          have w := (w1.trans w2).trans w3
          have r := r1.to (w2.trans w3).h (w2.trans w3).g
          cases d with
          | list ds =>
            cases ec
            obtain ⟨p, vs, rfl, sp, ap⟩ := r.list w.gh
            refine .inl ⟨p, vs, rfl, sp, fun n hn => ?_⟩
            have en : Ex G3 (upd G3 n (.lst (cutV vs l u))) := Ex.new (w.gh.none hn)
            exact q _ _ _ (w.trans (Grow.newF w.gh hn)) (.lst (.inl (.inl upd_same)) ((cut_V ap).to en))
          | tuple ds =>
            cases ec
            obtain ⟨p, vs, rfl, sp, ap⟩ := r.tuple
            refine .inr ⟨p, vs, rfl, ex_t w.gh sp, fun hw => ?_, fun _ n hn => ?_⟩
            · refine q _ H3 G3 w ?_
              rw [ap.length] at hw
              rw [cutL_whole hw]
              exact .tup sp ap
            · have en : Ex G3 (upd G3 n (.tup (cutV vs l u))) := Ex.new (w.gh.none hn)
              exact q _ _ _ (w.trans (Grow.newF w.gh hn)) (.tup (.inl (.inl upd_same)) ((cut_V ap).to en))
          | _ => cases ec
end
/-! ### arguments, displays -/
def ArgsOk (K : PySem.W.Frag) (H G : Hp) : List Bool → List V → List D → Prop
  | [], [], [] => True
  | b :: bs, v :: vs, d :: ds => (match b with | true => Dp K G v d | false => Vw K H G v d) ∧ ArgsOk K H G bs vs ds
  | _, _, _ => False
def tAr (K : PySem.W.Frag) (H0 G0 : Hp) (δ : En) (bs : List Bool) (m : Option (List D)) : TA := fun σ H Q => ∃ G, S8 K H0 G0 δ σ H G ∧ ∃ ds, m = some ds ∧ ∀ vs H' G', Grow H G H' G' → ArgsOk K H' G' bs vs ds → Q vs H'
def consO (m : Option D) (ms : Option (List D)) : Option (List D) := m.bind fun d => ms.bind fun ds => some (d :: ds)
section
variable {H0 G0 : Hp} {δ : En} {e a b : Expr} {es : List Expr} {bs : List Bool} {pos p2 : Pos} {m : Option D} {ms : Option (List D)}
theorem a_nil : PA X [] (tAr X.K H0 G0 δ [] (some [])) := PA_imp pa_nil fun σ H Q ⟨G, s, ds, ed, q⟩ => by
  cases ed
  exact q [] H G (.refl s.gh) trivial
theorem argsTo {K : PySem.W.Frag} {H G H' G' : Hp} (e : Ex H H') (g : Ex G G') : ∀ {bs : List Bool} {vs : List V} {ds : List D}, ArgsOk K H G bs vs ds → ArgsOk K H' G' bs vs ds
  | [], [], [], _ => trivial
  | true :: bs, v :: vs, d :: ds, h => ⟨h.1.to g, argsTo e g h.2⟩
  | false :: bs, v :: vs, d :: ds, h => ⟨h.1.to e g, argsTo e g h.2⟩
  | [], [], _ :: _, h => h.elim
  | [], _ :: _, _, h => h.elim
  | _ :: _, [], _, h => h.elim
  | _ :: _, _ :: _, [], h => h.elim
theorem a_F (h : PE X e (tR (rF X.K) X.K H0 G0 δ m)) (hr : PA X es (tAr X.K H0 G0 δ bs ms)) (hs : starEach (e :: es) X.env = (false, eval e X.env) :: starEach es X.env := by rfl) : PA X (e :: es) (tAr X.K H0 G0 δ (true :: bs) (consO m ms)) :=
  PA_imp (pa_cons h hr hs) fun σ H Q ⟨G, s, ds, ed, q⟩ => by
    cases m with
    | none => cases ed
    | some d =>
      cases ms with
      | none => cases ed
      | some r =>
        cases ed
        refine ⟨G, s, d, rfl, fun x H1 G1 w1 r1 => ?_⟩
        exact ⟨G1, s.grow w1, r, rfl, fun vs H2 G2 w2 r2 => q (x :: vs) H2 G2 (w1.trans w2) ⟨r1.to w2.g, r2⟩⟩
theorem a_V (h : PE X e (tR (rV X.K) X.K H0 G0 δ m)) (hr : PA X es (tAr X.K H0 G0 δ bs ms)) (hs : starEach (e :: es) X.env = (false, eval e X.env) :: starEach es X.env := by rfl) : PA X (e :: es) (tAr X.K H0 G0 δ (false :: bs) (consO m ms)) :=
  PA_imp (pa_cons h hr hs) fun σ H Q ⟨G, s, ds, ed, q⟩ => by
    cases m with
    | none => cases ed
    | some d =>
      cases ms with
      | none => cases ed
      | some r =>
        cases ed
        refine ⟨G, s, d, rfl, fun x H1 G1 w1 r1 => ?_⟩
        exact ⟨G1, s.grow w1, r, rfl, fun vs H2 G2 w2 r2 => q (x :: vs) H2 G2 (w1.trans w2) ⟨r1.to w2.h w2.g, r2⟩⟩
theorem argsAll {K : PySem.W.Frag} {H G : Hp} : ∀ {bs : List Bool} {vs : List V} {ds : List D}, bs.all id = true → ArgsOk K H G bs vs ds → DpAll K G vs ds ∧ vs.length = bs.length
  | [], [], [], _, _ => ⟨.nil, rfl⟩
  | true :: bs, v :: vs, d :: ds, hb, h => by
    obtain ⟨h1, h2⟩ := argsAll (bs := bs) (by simpa using hb) h.2
    exact ⟨.cons h.1 h1, by rw [List.length_cons, List.length_cons, h2]⟩
  | false :: bs, _, _, hb, _ => by simp at hb
  | [], [], _ :: _, _, h => h.elim
  | [], _ :: _, _, _, h => h.elim
  | true :: _, [], _, _, h => h.elim
  | true :: _, _ :: _, [], _, h => h.elim
theorem x_tup {k : Nat} (h : PA X es (tAr X.K H0 G0 δ bs ms)) (hb : bs.all id = true := by rfl) (hl : bs.length ≤ 1000 := by decide) : PE X (.Tuple es k pos) (tR (rF X.K) X.K H0 G0 δ (ms.map PyData.tuple)) :=
  PE_imp (pe_tup h) fun σ H Q ⟨G, s, c, ec, q⟩ => by
    cases ms with
    | none => cases ec
    | some ds =>
      cases ec
      refine ⟨G, s, ds, rfl, fun vs H1 G1 w r => ?_⟩
      obtain ⟨ha, hn⟩ := argsAll hb r
      refine ⟨ln_line (by rw [hn]; exact Nat.le_trans hl (by decide)), fun p hp => ?_⟩
      exact q _ _ _ (w.trans (Grow.newF w.gh hp)) (.tup (.inl (.inl upd_same)) (ha.to (Ex.new (w.gh.none hp))))
theorem x_lst (h : PA X es (tAr X.K H0 G0 δ bs ms)) (hb : bs.all id = true := by rfl) (hl : bs.length ≤ 1000 := by decide) : PE X (.List es pos) (tR (rO X.K) X.K H0 G0 δ ms) :=
  PE_imp (pe_lst h) fun σ H Q ⟨G, s, c, ec, q⟩ => by
    subst ec
    refine ⟨G, s, c, rfl, fun vs H1 G1 w r => ?_⟩
    obtain ⟨ha, hn⟩ := argsAll hb r
    refine ⟨ln_line (by rw [hn]; exact Nat.le_trans hl (by decide)), fun p hp => ?_⟩
    exact q _ _ _ (w.trans (Grow.newO w.gh hp)) ⟨p, vs, rfl, w.h.none hp, w.gh.none hp, upd_same, ha⟩
end
/-! ### calls of built-ins -/
def Sm1 (K : PySem.W.Frag) (r : List V → Hp → VK → Prop) (f : D → Option D) : Prop := ∀ x a c (H G : Hp) (Q : VK), Ex G H → Vw K H G x a → f a = some c → (∀ v H' G', Grow H G H' G' → Dp K G' v c → Q v H') → r [x] H Q
section
variable {H0 G0 : Hp} {δ : En} {e a b : Expr} {x id T : String} {pos p2 : Pos} {m : Option D} {r : List V → Hp → VK → Prop} {f : D → Option D}
theorem x_cb0 (sm : Sm1 X.K r f) {σ : L2.St} {H : Hp} {Q : VK} (h : tR (rF X.K) X.K H0 G0 δ (m.bind f) σ H Q) : tCB r (tCons (tR (rV X.K) X.K H0 G0 δ m) tNil) σ H Q := by
  obtain ⟨G, s, c, ec, q⟩ := h
  cases m with
  | none => cases ec
  | some d =>
    refine ⟨G, s, d, rfl, fun v H1 G1 w r1 => ?_⟩
    exact sm v d c H1 G1 Q w.gh r1 ec fun u H' G' w2 r2 => q u H' G' (w.trans w2) r2
theorem x_callB {y : Str} (hc : CallR X (.builtin id) r) (sm : Sm1 X.K r f) (hg : Gl X y) (hm : X.mg y = none) (hv : bootBuiltins y = some (.builtin id)) (h : PE X e (tR (rV X.K) X.K H0 G0 δ m)) (hn : y ≠ "__name__" := by decide) (hdb : (y == ("__debug__" : Str)) = false := by decide)
    (he : starEach (e :: []) X.env = (false, eval e X.env) :: starEach [] X.env := by rfl) (hpl : (backTo pos (starEach [] X.env)).any (·.1) = false := by rfl) :
    PE X (.Call (.Name y p2) [e] [] pos) (tR (rF X.K) X.K H0 G0 δ (m.bind f)) :=
  PE_imp (pe_callB hc hg hm hv (pa_cons h pa_nil (hs := he)) hn hdb he hpl) fun _ _ _ q => x_cb0 sm q
theorem x_callTy {y : Str} (hc : CallR X (.type T) r) (sm : Sm1 X.K r f) (hg : Gl X y) (hm : X.mg y = none) (hv : bootBuiltins y = some (.type T)) (h : PE X e (tR (rV X.K) X.K H0 G0 δ m)) (hn : y ≠ "__name__" := by decide) (hdb : (y == ("__debug__" : Str)) = false := by decide)
    (he : starEach (e :: []) X.env = (false, eval e X.env) :: starEach [] X.env := by rfl) (hpl : (backTo pos (starEach [] X.env)).any (·.1) = false := by rfl) :
    PE X (.Call (.Name y p2) [e] [] pos) (tR (rF X.K) X.K H0 G0 δ (m.bind f)) :=
  PE_imp (pe_callTy hc hg hm hv (pa_cons h pa_nil (hs := he)) hn hdb he hpl) fun _ _ _ q => x_cb0 sm q
end
end
end Bd
/-! Bd4: built-ins, what is walked, comprehensions, calls of own defs. -/
namespace Bd
open PySem PySem.Spec PyProof.Rows L2 Evl
section
variable {K : PySem.W.Frag} {X : Cx}
/-! ### len, all, any, sum, int, tuple, list -/
def lenD : D → Option D
  | .list ds => some (.int ds.length)
  | .tuple ds => some (.int ds.length)
  | .str z => grd (decide (z.length ≤ LN)) (some (.int z.length))
  | _ => none
def rLenQ (K : PySem.W.Frag) : List V → Hp → VK → Prop := fun xs H Q => ∃ p ys, xs = [.ref p] ∧ (SqL K H p ys ∨ SqT K H p ys) ∧ Q (.int ys.length) H
def rLenS : List V → Hp → VK → Prop := fun xs H Q => ∃ z, xs = [.str z] ∧ z.length ≤ sizeLine ∧ Q (.int z.length) H
theorem call_lenX : CallR X (.builtin "len") (fun xs H Q => rLenQ X.K xs H Q ∨ rLenS xs H Q) := CallR.or (r := rLenQ X.K) (r' := rLenS) call_len_seq call_len_str
theorem sm_len : Sm1 K (fun xs H Q => rLenQ K xs H Q ∨ rLenS xs H Q) lenD := by
  intro x a c H G Q eg hx ef q
  cases a with
  | list ds =>
    cases ef
    obtain ⟨p, vs, rfl, sp, ap⟩ := hx.list eg
    exact .inl ⟨p, vs, rfl, .inl sp, by rw [ap.length]; exact q _ H G (.refl eg) (.int _)⟩
  | tuple ds =>
    cases ef
    obtain ⟨p, vs, rfl, sp, ap⟩ := hx.tuple
    exact .inl ⟨p, vs, rfl, .inr (ex_t eg sp), by rw [ap.length]; exact q _ H G (.refl eg) (.int _)⟩
  | str z =>
    obtain ⟨h1, h2⟩ := grd_some ef
    cases h2
    cases hx.str
    exact .inr ⟨z, rfl, ln_line (of_dec h1), q _ H G (.refl eg) (.int _)⟩
  | _ => cases ef
def allB : List D → Option (List Bool)
  | [] => some []
  | .bool b :: r => (allB r).map (b :: ·)
  | _ => none
def allI : List D → Option (List Int)
  | [] => some []
  | .int b :: r => (allI r).map (b :: ·)
  | _ => none
theorem allB_is : ∀ {ds : List D} {bs : List Bool}, allB ds = some bs → ds = bs.map PyData.bool
  | [], _, h => by cases h; rfl
  | .bool b :: r, bs, h => by
    cases e : allB r with
    | none => rw [allB, e] at h; cases h
    | some cs => rw [allB, e] at h; cases h; rw [allB_is e]; rfl
  | .none :: _, _, h => by cases h
  | .int _ :: _, _, h => by cases h
  | .str _ :: _, _, h => by cases h
  | .list _ :: _, _, h => by cases h
  | .tuple _ :: _, _, h => by cases h
  | .dict _ :: _, _, h => by cases h
theorem allI_is : ∀ {ds : List D} {bs : List Int}, allI ds = some bs → ds = bs.map PyData.int
  | [], _, h => by cases h; rfl
  | .int b :: r, bs, h => by
    cases e : allI r with
    | none => rw [allI, e] at h; cases h
    | some cs => rw [allI, e] at h; cases h; rw [allI_is e]; rfl
  | .none :: _, _, h => by cases h
  | .bool _ :: _, _, h => by cases h
  | .str _ :: _, _, h => by cases h
  | .list _ :: _, _, h => by cases h
  | .tuple _ :: _, _, h => by cases h
  | .dict _ :: _, _, h => by cases h
theorem allB_of : ∀ bs : List Bool, allB (bs.map PyData.bool) = some bs
  | [] => rfl
  | b :: r => by rw [List.map_cons, allB, allB_of r]; rfl
theorem allI_of : ∀ bs : List Int, allI (bs.map PyData.int) = some bs
  | [] => rfl
  | b :: r => by rw [List.map_cons, allI, allI_of r]; rfl
def allD : D → Option D
  | .list ds => (allB ds).map fun bs => .bool (bs.all id)
  | _ => none
def anyD : D → Option D
  | .list ds => (allB ds).map fun bs => .bool (bs.any id)
  | _ => none
def sumD : D → Option D
  | .list ds => (allI ds).map fun ns => .int ns.sum
  | _ => none
theorem sm_all : Sm1 K (rAll K) allD := by
  intro x a c H G Q eg hx ef q
  cases a with
  | list ds =>
    cases e : allB ds with
    | none => rw [allD, e] at ef; cases ef
    | some bs =>
      rw [allD, e] at ef; cases ef
      obtain ⟨p, vs, rfl, sp, ap⟩ := hx.list eg
      rw [allB_is e] at ap
      exact ⟨p, bs, rfl, by rw [← ap.bls]; exact sp, q _ H G (.refl eg) (.bl _)⟩
  | _ => cases ef
theorem sm_any : Sm1 K (rAny K) anyD := by
  intro x a c H G Q eg hx ef q
  cases a with
  | list ds =>
    cases e : allB ds with
    | none => rw [anyD, e] at ef; cases ef
    | some bs =>
      rw [anyD, e] at ef; cases ef
      obtain ⟨p, vs, rfl, sp, ap⟩ := hx.list eg
      rw [allB_is e] at ap
      exact ⟨p, bs, rfl, by rw [← ap.bls]; exact sp, q _ H G (.refl eg) (.bl _)⟩
  | _ => cases ef
theorem sm_sum : Sm1 K (rSum K) sumD := by
  intro x a c H G Q eg hx ef q
  cases a with
  | list ds =>
    cases e : allI ds with
    | none => rw [sumD, e] at ef; cases ef
    | some bs =>
      rw [sumD, e] at ef; cases ef
      obtain ⟨p, vs, rfl, sp, ap⟩ := hx.list eg
      rw [allI_is e] at ap
      exact ⟨p, bs, rfl, by rw [← ap.ints]; exact sp, q _ H G (.refl eg) (.int _)⟩
  | _ => cases ef
def intD : D → Option D
  | .int i => some (.int i)
  | .bool b => some (.int (if b then 1 else 0))
  | _ => none
def rInt1 : List V → Hp → VK → Prop := fun xs H Q => (∃ i, xs = [.int i] ∧ Q (.int i) H) ∨ ∃ k, xs = [.bl k] ∧ Q (.int (if k then 1 else 0)) H
theorem call_intX : CallR X (.type "int") rInt1 := call_int1
theorem sm_int : Sm1 K rInt1 intD := by
  intro x a c H G Q eg hx ef q
  cases a with
  | int i => cases ef; cases hx.int; exact .inl ⟨i, rfl, q _ H G (.refl eg) (.int _)⟩
  | bool i => cases ef; cases hx.bool; exact .inr ⟨i, rfl, q _ H G (.refl eg) (.int _)⟩
  | _ => cases ef
def tupD : D → Option D
  | .list ds => some (.tuple ds)
  | .tuple ds => some (.tuple ds)
  | _ => none
def rTupOf (K : PySem.W.Frag) : List V → Hp → VK → Prop := fun xs H Q => ∃ p ys, xs = [.ref p] ∧ ((SqL K H p ys ∧ ∀ l, H l = none → Q (.ref l) (upd H l (.tup ys))) ∨ (SqT K H p ys ∧ Q (.ref p) H))
theorem call_tupX : CallR X (.type "tuple") (rTupOf X.K) := call_tuple_of
theorem sm_tup : Sm1 K (rTupOf K) tupD := by
  intro x a c H G Q eg hx ef q
  cases a with
  | list ds =>
    cases ef
    obtain ⟨p, vs, rfl, sp, ap⟩ := hx.list eg
    exact ⟨p, vs, rfl, .inl ⟨sp, fun l hl => q _ _ _ (Grow.newF eg hl) (.tup (.inl (.inl upd_same)) (ap.to (Ex.new (eg.none hl))))⟩⟩
  | tuple ds =>
    cases ef
    obtain ⟨p, vs, rfl, sp, ap⟩ := hx.tuple
    exact ⟨p, vs, rfl, .inr ⟨ex_t eg sp, q _ H G (.refl eg) (.tup sp ap)⟩⟩
  | _ => cases ef
def seqD : D → Option (List D)
  | .list ds => some ds
  | .tuple ds => some ds
  | _ => none
section
variable {H0 G0 : Hp} {δ : En} {e a b : Expr} {pos p2 : Pos} {m : Option D}
/-- list(x): a new list -/
theorem x_list (hg : Gl X "list") (hm : X.mg "list" = none) (h : PE X e (tR (rV X.K) X.K H0 G0 δ m))
    (he : starEach (e :: []) X.env = (false, eval e X.env) :: starEach [] X.env := by rfl) (hpl : (backTo pos (starEach [] X.env)).any (·.1) = false := by rfl) :
    PE X (.Call (.Name "list" p2) [e] [] pos) (tR (rO X.K) X.K H0 G0 δ (m.bind seqD)) :=
  PE_imp (pe_callTy call_list_of hg hm (by decide +kernel) (pa_cons h pa_nil (hs := he)) (by decide) (by decide) he hpl) fun σ H Q ⟨G, s, c, ec, q⟩ => by
    cases m with
    | none => cases ec
    | some d =>
      refine ⟨G, s, d, rfl, fun v H1 G1 w r1 => ?_⟩
      cases d with
      | list ds =>
        cases ec
        obtain ⟨p, vs, rfl, sp, ap⟩ := r1.list w.gh
        exact ⟨p, vs, rfl, .inl sp, fun l hl => q _ _ _ (w.trans (Grow.newO w.gh hl)) ⟨l, vs, rfl, w.h.none hl, w.gh.none hl, upd_same, ap⟩⟩
      | tuple ds =>
        cases ec
        obtain ⟨p, vs, rfl, sp, ap⟩ := r1.tuple
        exact ⟨p, vs, rfl, .inr (ex_t w.gh sp), fun l hl => q _ _ _ (w.trans (Grow.newO w.gh hl)) ⟨l, vs, rfl, w.h.none hl, w.gh.none hl, upd_same, ap⟩⟩
      | _ => cases ec
/-! ### isinstance -/
def isInt : D → Bool | .int _ | .bool _ => true | _ => false
def isStr : D → Bool | .str _ => true | _ => false
def isBool : D → Bool | .bool _ => true | _ => false
def isTup : D → Bool | .tuple _ => true | _ => false
def isLst : D → Bool | .list _ => true | _ => false
def tyN : D → String
  | .none => "NoneType" | .bool _ => "bool" | .int _ => "int" | .str _ => "str" | .list _ => "list" | .tuple _ => "tuple" | .dict _ => "dict"
theorem tyX_of {v : V} {d : D} {H G : Hp} (h : Vw K H G v d) (eg : Ex G H) : TyX K H v (.type (tyN d)) := by
  have lst : ∀ (p : Addr) (vs : List V), SqL K H p vs → TyX K H (.ref p) (.type "list") := fun p vs s => by
    rcases s with (s | ⟨o, s⟩) | ⟨o, its, n, h1, h2, _⟩
    · exact .base (.lst s)
    · exact .base (.frz s)
    · exact .kList h1 h2
  cases d with
  | none => cases h.none; exact .base .non
  | bool b => cases h.bool; exact .base (.bl b)
  | int b => cases h.int; exact .base (.int b)
  | str b => cases h.str; exact .base (.str b)
  | list ds =>
    obtain ⟨p, vs, rfl, sp, ap⟩ := h.list eg
    exact lst p vs sp
  | tuple ds =>
    obtain ⟨p, vs, rfl, sp, ap⟩ := h.tuple
    rcases ex_t eg sp with (s | ⟨o, s⟩) | ⟨o, its, n, h1, h2, _⟩
    · exact .base (.tup s)
    · exact .fTuple s
    · exact .kTuple h1 h2
  | dict _ =>
    rcases h with h | ⟨p, vs, ds', rfl, e2, h1, h2⟩
    · cases h
    · cases e2
def IsOf (T : String) (f : D → Bool) : Prop := ∀ d, kitB (tyN d) T = some (f d)
theorem of_int : IsOf "int" isInt := fun d => match d with
  | .none => (by decide +kernel : kitB "NoneType" "int" = some false)
  | .bool _ => (by decide +kernel : kitB "bool" "int" = some true)
  | .int _ => (by decide +kernel : kitB "int" "int" = some true)
  | .str _ => (by decide +kernel : kitB "str" "int" = some false)
  | .list _ => (by decide +kernel : kitB "list" "int" = some false)
  | .tuple _ => (by decide +kernel : kitB "tuple" "int" = some false)
  | .dict _ => (by decide +kernel : kitB "dict" "int" = some false)
theorem of_str : IsOf "str" isStr := fun d => match d with
  | .none => (by decide +kernel : kitB "NoneType" "str" = some false)
  | .bool _ => (by decide +kernel : kitB "bool" "str" = some false)
  | .int _ => (by decide +kernel : kitB "int" "str" = some false)
  | .str _ => (by decide +kernel : kitB "str" "str" = some true)
  | .list _ => (by decide +kernel : kitB "list" "str" = some false)
  | .tuple _ => (by decide +kernel : kitB "tuple" "str" = some false)
  | .dict _ => (by decide +kernel : kitB "dict" "str" = some false)
theorem of_bool : IsOf "bool" isBool := fun d => match d with
  | .none => (by decide +kernel : kitB "NoneType" "bool" = some false)
  | .bool _ => (by decide +kernel : kitB "bool" "bool" = some true)
  | .int _ => (by decide +kernel : kitB "int" "bool" = some false)
  | .str _ => (by decide +kernel : kitB "str" "bool" = some false)
  | .list _ => (by decide +kernel : kitB "list" "bool" = some false)
  | .tuple _ => (by decide +kernel : kitB "tuple" "bool" = some false)
  | .dict _ => (by decide +kernel : kitB "dict" "bool" = some false)
theorem of_tup : IsOf "tuple" isTup := fun d => match d with
  | .none => (by decide +kernel : kitB "NoneType" "tuple" = some false)
  | .bool _ => (by decide +kernel : kitB "bool" "tuple" = some false)
  | .int _ => (by decide +kernel : kitB "int" "tuple" = some false)
  | .str _ => (by decide +kernel : kitB "str" "tuple" = some false)
  | .list _ => (by decide +kernel : kitB "list" "tuple" = some false)
  | .tuple _ => (by decide +kernel : kitB "tuple" "tuple" = some true)
  | .dict _ => (by decide +kernel : kitB "dict" "tuple" = some false)
theorem of_lst : IsOf "list" isLst := fun d => match d with
  | .none => (by decide +kernel : kitB "NoneType" "list" = some false)
  | .bool _ => (by decide +kernel : kitB "bool" "list" = some false)
  | .int _ => (by decide +kernel : kitB "int" "list" = some false)
  | .str _ => (by decide +kernel : kitB "str" "list" = some false)
  | .list _ => (by decide +kernel : kitB "list" "list" = some true)
  | .tuple _ => (by decide +kernel : kitB "tuple" "list" = some false)
  | .dict _ => (by decide +kernel : kitB "dict" "list" = some false)
/-- isinstance(e, T), T a built-in type -/
theorem x_isi {T : Str} {n : String} {f : D → Bool} (hf : IsOf n f) (hg : Gl X "isinstance") (hm : X.mg "isinstance" = none) (hgT : Gl X T) (hmT : X.mg T = none) (hvT : bootBuiltins T = some (.type n)) (h : PE X e (tR (rV X.K) X.K H0 G0 δ m))
    (hnT : T ≠ "__name__" := by decide) (hdT : (T == ("__debug__" : Str)) = false := by decide) {p3 : Pos}
    (he : starEach (e :: [.Name T p3]) X.env = (false, eval e X.env) :: starEach [.Name T p3] X.env := by rfl) (he2 : starEach [.Name T p3] X.env = (false, eval (.Name T p3) X.env) :: starEach [] X.env := by rfl)
    (hpl : (backTo pos (starEach [.Name T p3] X.env)).any (·.1) = false := by rfl) :
    PE X (.Call (.Name "isinstance" p2) [e, .Name T p3] [] pos) (tR (rF X.K) X.K H0 G0 δ (m.map fun d => .bool (f d))) :=
  PE_imp (pe_callB call_isi hg hm (by decide +kernel) (pa_cons h (pa_cons (pe_bltn (v := .ty n) hgT hmT hvT rfl hnT hdT) pa_nil (hs := he2)) (hs := he)) (by decide) (by decide) he hpl) fun σ H Q ⟨G, s, c, ec, q⟩ => by
    cases m with
    | none => cases ec
    | some d =>
      cases ec
      refine ⟨G, s, d, rfl, fun v H1 G1 w r1 => ?_⟩
      exact ⟨v, .ty n, _, _, f d, rfl, .ty n, tyX_of r1 w.gh, kit_ty (hf d), q _ H1 G1 w (.bl _)⟩
theorem y_isi {T : Str} {n : String} {f : D → Bool} (hf : IsOf n f) (hg : Gl X "isinstance") (hm : X.mg "isinstance" = none) (hgT : Gl X T) (hmT : X.mg T = none) (hvT : bootBuiltins T = some (.type n)) (h : PE X e (tR (rV X.K) X.K H0 G0 δ m))
    (hnT : T ≠ "__name__" := by decide) (hdT : (T == ("__debug__" : Str)) = false := by decide) {p3 : Pos}
    (he : starEach (e :: [.Name T p3]) X.env = (false, eval e X.env) :: starEach [.Name T p3] X.env := by rfl) (he2 : starEach [.Name T p3] X.env = (false, eval (.Name T p3) X.env) :: starEach [] X.env := by rfl)
    (hpl : (backTo pos (starEach [.Name T p3] X.env)).any (·.1) = false := by rfl) :
    PT X (.Call (.Name "isinstance" p2) [e, .Name T p3] [] pos) (tT X.K H0 G0 δ (m.map f)) := by
  have z := y_val (x_FV (x_isi (p2 := p2) (pos := pos) hf hg hm hgT hmT hvT h hnT hdT he he2 hpl)) (by intro _; rfl)
  have ez : (m.map fun d => PyData.bool (f d)).bind asB = m.map f := by cases m <;> rfl
  rw [ez] at z
  exact z
end
end

/-! ### what is walked -/
/-- from Hb and Gb on, J gives the items ds, each told by ρ -/
def SrcOk {ι : Type} (ρ : ι → V → Hp → Prop) (Hb Gb : Hp) (J : It) (ds : List ι) : Prop := ∀ H G, Ex Gb G → Ex G H → Ex Hb H → ∀ i,
  (∀ d, ds[i]? = some d → J.go i H ∧ ∀ x H', J.yld i H x H' → ∃ G', Grow H G H' G' ∧ ρ d x G') ∧ (ds.length ≤ i → J.stop i H)
abbrev ρ1 (K : PySem.W.Frag) : D → V → Hp → Prop := fun d x G => Dp K G x d
abbrev ρ2 (K : PySem.W.Frag) : D × D → V → Hp → Prop := fun p x G => ∃ T a b, x = .ref T ∧ SqT K G T [a, b] ∧ Dp K G a p.1 ∧ Dp K G b p.2
def bsel (lo : Bool) (a b : Hp) : Hp := match lo with
  | true => a
  | false => b
/-- lo: the walk's base is the def's entry (a loop's body may change what it owns); else the moment itself (a comprehension) -/
def tI {ι : Type} (lo : Bool) (ρ : ι → V → Hp → Prop) (K : PySem.W.Frag) (H0 G0 : Hp) (δ : En) (m : Option (List ι)) : TI := fun σ H R => ∃ G, S8 K H0 G0 δ σ H G ∧ ∃ ds, m = some ds ∧ ∀ J H' G', Grow H G H' G' → SrcOk ρ (bsel lo H0 H') G' J ds → R J H'
/-- a value for such a walk -/
abbrev rW (lo : Bool) (K : PySem.W.Frag) (H0 : Hp) : Rel D := fun _ H' G' v d => Vw K (bsel lo H0 H') G' v d
def itD : D → Option (List D)
  | .list ds => some ds
  | .tuple ds => some ds
  | .str z => some (z.cps.toList.map fun c => .str ⟨#[c]⟩)
  | _ => none
def enL (i : Nat) : List D → List (D × D)
  | [] => []
  | d :: r => (.int i, d) :: enL (i + 1) r
theorem enL_get : ∀ (ds : List D) (k i : Nat), (enL k ds)[i]? = ds[i]?.map fun d => (.int ((k + i : Nat) : Int), d)
  | [], _, _ => by simp [enL]
  | d :: r, k, 0 => by simp [enL]
  | d :: r, k, i + 1 => by
    rw [enL, List.getElem?_cons_succ, List.getElem?_cons_succ, enL_get r (k + 1) i]
    have e : k + 1 + i = k + (i + 1) := by omega
    rw [e]
theorem enL_length : ∀ (ds : List D) (k : Nat), (enL k ds).length = ds.length
  | [], _ => rfl
  | d :: r, k => by rw [enL, List.length_cons, List.length_cons, enL_length r]
def rngL (lo : Int) (n : Nat) : List D := (List.range n).map fun (i : Nat) => .int (lo + (i : Int))
section
variable {X : Cx} {H0 G0 : Hp} {δ : En} {e a b tg : Expr} {pos p2 : Pos} {m : Option D} {K : PySem.W.Frag}
theorem x_FW {lo : Bool} (h : PE X e (tR (rF X.K) X.K H0 G0 δ m)) : PE X e (tR (rW lo X.K H0) X.K H0 G0 δ m) :=
  x_imp h fun y ey => ⟨y, ey, fun _ _ _ _ G' _ w r => ⟨G', w, .inl r⟩⟩
theorem x_VW (h : PE X e (tR (rV X.K) X.K H0 G0 δ m)) : PE X e (tR (rW false X.K H0) X.K H0 G0 δ m) := h
theorem x_vwW {i : Nat} {d : D} (hn : PE X e (tVar i)) (h : nth δ i = .vw d) : PE X e (tR (rW true X.K H0) X.K H0 G0 δ (some d)) :=
  PE_imp hn fun σ H Q ⟨G, s, y, ey, q⟩ => by
    cases ey
    have o := s.ok i
    rw [h] at o
    obtain ⟨x, ex, dx⟩ := o
    exact ⟨x, ex, q x H G (.refl s.gh) (dx.to (Ex.refl H0) s.gr.g)⟩
theorem PI_imp {l : Expr} {t t' : TI} (h : PI X tg l t) (k : ∀ σ H R, t' σ H R → t σ H R) : PI X tg l t' := ⟨fun pins s σ H Q I w => h.run pins s σ H Q I (k σ H Q w)⟩
theorem src_list {Hb Gb : Hp} {p : Addr} {vs : List V} {ds : List D} (sp : ∀ H G, Ex Gb G → Ex G H → Ex Hb H → SqL K H p vs) (ap : DpAll K Gb vs ds) : SrcOk (ρ1 K) Hb Gb (Itl K p) ds := fun H G eg gh eh i => by
  have s := sp H G eg gh eh
  refine ⟨fun d ed => ?_, fun hl => ⟨vs, s, by rw [ap.length]; exact hl⟩⟩
  obtain ⟨v, h1, h2⟩ := ap.get ed
  refine ⟨⟨vs, v, s, h1⟩, fun x H' ⟨e1, e2⟩ => ⟨G, ?_, ?_⟩⟩
  · subst e1; exact .refl gh
  · have e3 := e2 vs s
    rw [h1] at e3
    cases e3
    exact h2.to eg
theorem src_tup {Hb Gb : Hp} {p : Addr} {vs : List V} {ds : List D} (sp : SqT K Gb p vs) (ap : DpAll K Gb vs ds) : SrcOk (ρ1 K) Hb Gb (Itt K p) ds := fun H G eg gh eh i => by
  have s : SqT K H p vs := ex_t gh (ex_t eg sp)
  refine ⟨fun d ed => ?_, fun hl => ⟨vs, s, by rw [ap.length]; exact hl⟩⟩
  obtain ⟨v, h1, h2⟩ := ap.get ed
  refine ⟨⟨vs, v, s, h1⟩, fun x H' ⟨e1, e2⟩ => ⟨G, ?_, ?_⟩⟩
  · subst e1; exact .refl gh
  · have e3 := e2 vs s
    rw [h1] at e3
    cases e3
    exact h2.to eg
theorem src_str {Hb Gb : Hp} {z : Str} : SrcOk (ρ1 K) Hb Gb (Its z) (z.cps.toList.map fun c => .str ⟨#[c]⟩) := fun H G eg gh eh i => by
  refine ⟨fun d ed => ?_, fun hl => by
    rw [List.length_map] at hl
    exact hl⟩
  rw [List.getElem?_map] at ed
  cases hc : z.cps.toList[i]? with
  | none => rw [hc] at ed; cases ed
  | some c =>
    rw [hc] at ed
    cases ed
    have hc' : z.cps[i]? = some c := by rw [← Array.getElem?_toList]; exact hc
    refine ⟨?_, fun x H' ⟨e1, k, e2, e3⟩ => ⟨G, ?_, ?_⟩⟩
    · show i < z.cps.size
      exact (Array.getElem?_eq_some_iff.mp hc').1
    · subst e1; exact .refl gh
    · rw [hc'] at e2
      cases e2
      subst e3
      exact .str _
theorem i_any {lo : Bool} (h : PE X e (tR (rW lo X.K H0) X.K H0 G0 δ m)) : PI X tg e (tI lo (ρ1 X.K) X.K H0 G0 δ (m.bind itD)) := by
  have no : m.bind itD = none → PI X tg e (tI lo (ρ1 X.K) X.K H0 G0 δ (m.bind itD)) := fun z => PI_imp (pi_list h) fun σ H R ⟨G, s, ds, ed, q⟩ => by rw [z] at ed; cases ed
  have eb : ∀ {σ : L2.St} {H G H' G' : Hp}, S8 X.K H0 G0 δ σ H G → Grow H G H' G' → Ex (bsel lo H0 H') H' := fun s w => by
    cases lo with
    | true => exact s.gr.h.trans w.h
    | false => exact Ex.refl _
  cases m with
  | none => exact no rfl
  | some d =>
    cases d with
    | list es =>
      exact PI_imp (pi_list h) fun σ H R ⟨G, s, ds, ed, q⟩ => by
        cases ed
        refine ⟨G, s, .list es, rfl, fun v H' G' w r => ?_⟩
        rcases r with r | ⟨p, vs, es', rfl, e2, r1, r2⟩
        · cases r with
          | lst hs ha => exact ⟨_, rfl, ⟨_, ex_l w.gh hs⟩, q _ H' G' w (src_list (fun H G eg gh _ => ex_l gh (ex_l eg hs)) ha)⟩
        · cases e2
          exact ⟨p, rfl, ⟨vs, ex_l (eb s w) r1⟩, q _ H' G' w (src_list (fun H G _ _ eh => ex_l eh r1) r2)⟩
    | tuple es =>
      exact PI_imp (pi_tup h) fun σ H R ⟨G, s, ds, ed, q⟩ => by
        cases ed
        refine ⟨G, s, .tuple es, rfl, fun v H' G' w r => ?_⟩
        obtain ⟨p, vs, rfl, sp, ap⟩ := r.tuple
        exact ⟨p, rfl, ⟨vs, ex_t w.gh sp⟩, q _ H' G' w (src_tup sp ap)⟩
    | str z =>
      exact PI_imp (pi_str h) fun σ H R ⟨G, s, ds, ed, q⟩ => by
        cases ed
        refine ⟨G, s, .str z, rfl, fun v H' G' w r => ?_⟩
        cases r.str
        exact ⟨z, rfl, q _ H' G' w src_str⟩
    | _ => exact no rfl
/-- range(n), range(a, b) -/
def rng1 (d : D) : Option (List D) := match d with
  | .int n => grd (decide (-(2 ^ 62) ≤ n ∧ n < 2 ^ 62)) (some (rngL 0 n.toNat))
  | _ => none
def rng2 (c d : D) : Option (List D) := match c, d with
  | .int l, .int n => grd (decide (-(2 ^ 62) ≤ l ∧ l < 2 ^ 62 ∧ -(2 ^ 62) ≤ n ∧ n < 2 ^ 62)) (some (rngL l (n - l).toNat))
  | _, _ => none
theorem src_rng {Hb Gb : Hp} {lo : Int} {n : Nat} : SrcOk (ρ1 K) Hb Gb (Itr lo n) (rngL lo n) := fun H G eg gh eh i => by
  refine ⟨fun d ed => ?_, fun hl => by
    unfold rngL at hl
    rw [List.length_map, List.length_range] at hl
    exact hl⟩
  unfold rngL at ed
  rw [List.getElem?_map] at ed
  by_cases hi : i < n
  · rw [List.getElem?_range hi] at ed
    cases ed
    refine ⟨hi, fun x H' ⟨e1, e2⟩ => ⟨G, ?_, ?_⟩⟩
    · subst e1; exact .refl gh
    · subst e2; exact .int _
  · rw [List.getElem?_eq_none (by rw [List.length_range]; omega)] at ed
    cases ed
theorem i_rng1 {lo : Bool} (hg : Gl X "range") (hm : X.mg "range" = none) (h : PE X e (tR (rV X.K) X.K H0 G0 δ m)) (hs : starEach [e] X.env = [(false, eval e X.env)] := by rfl) :
    PI X tg (.Call (.Name "range" p2) [e] [] pos) (tI lo (ρ1 X.K) X.K H0 G0 δ (m.bind rng1)) :=
  PI_imp (pi_range1 hg hm (pa_cons h pa_nil (hs := hs)) hs) fun σ H R ⟨G, s, ds, ed, q⟩ => by
    cases m with
    | none => cases ed
    | some d =>
      cases d with
      | int n =>
        obtain ⟨h1, h2⟩ := grd_some (show grd (decide (-(2 ^ 62) ≤ n ∧ n < 2 ^ 62)) (some (rngL 0 n.toNat)) = some ds from ed)
        cases h2
        refine ⟨G, s, .int n, rfl, fun v H' G' w r => ⟨n, by rw [r.int], (of_dec h1).1, (of_dec h1).2, q _ H' G' w src_rng⟩⟩
      | _ => cases ed
theorem i_rng2 {lo : Bool} {e' : Expr} {m' : Option D} (hg : Gl X "range") (hm : X.mg "range" = none) (h : PE X e (tR (rV X.K) X.K H0 G0 δ m)) (h' : PE X e' (tR (rV X.K) X.K H0 G0 δ m')) (hs : starEach [e, e'] X.env = [(false, eval e X.env), (false, eval e' X.env)] := by rfl) (hs2 : starEach [e'] X.env = [(false, eval e' X.env)] := by rfl) :
    PI X tg (.Call (.Name "range" p2) [e, e'] [] pos) (tI lo (ρ1 X.K) X.K H0 G0 δ (b2 rng2 m m')) :=
  PI_imp (pi_range2 hg hm (pa_cons h (pa_cons h' pa_nil (hs := hs2)) (hs := by rw [hs, hs2])) hs hs2) fun σ H R ⟨G, s, ds, ed, q⟩ => by
    cases m with
    | none => cases ed
    | some c =>
      cases m' with
      | none => cases ed
      | some d =>
        cases c with
        | int l =>
          cases d with
          | int n =>
            obtain ⟨h1, h2⟩ := grd_some (show grd (decide (-(2 ^ 62) ≤ l ∧ l < 2 ^ 62 ∧ -(2 ^ 62) ≤ n ∧ n < 2 ^ 62)) (some (rngL l (n - l).toNat)) = some ds from ed)
            cases h2
            refine ⟨G, s, .int l, rfl, fun v H' G' w r => ?_⟩
            refine ⟨G', s.grow w, .int n, rfl, fun v2 H2 G2 w2 r2 => ?_⟩
            exact ⟨l, n, by rw [r.int, r2.int], of_dec h1, q _ H2 G2 (w.trans w2) src_rng⟩
          | _ => cases ed
        | _ => cases ed
/-- enumerate(e) of a list; zip(a, b) of two lists -/
theorem i_enum {lo : Bool} {elts : List Expr} {kk : Nat} {tpos : Pos} (hg : Gl X "enumerate") (hm : X.mg "enumerate" = none) (h : PE X e (tR (rW lo X.K H0) X.K H0 G0 δ m)) (hs : starEach [e] X.env = [(false, eval e X.env)] := by rfl) :
    PI X (.Tuple elts kk tpos) (.Call (.Name "enumerate" p2) [e] [] pos) (tI lo (ρ2 X.K) X.K H0 G0 δ ((m.bind listD).map (enL 0))) :=
  PI_imp (pi_enum hg hm (pa_cons h pa_nil (hs := hs)) hs) fun σ H R ⟨G, s, ds, ed, q⟩ => by
    cases m with
    | none => cases ed
    | some d =>
      cases d with
      | list es =>
        cases ed
        refine ⟨G, s, _, rfl, fun v H' G' w r => ?_⟩
        have eb : Ex (bsel lo H0 H') H' := by
          cases lo with
          | true => exact s.gr.h.trans w.h
          | false => exact Ex.refl _
        have go : ∀ (p : Addr) (vs : List V), (∀ H G, Ex G' G → Ex G H → Ex (bsel lo H0 H') H → SqL X.K H p vs) → DpAll X.K G' vs es → SrcOk (ρ2 X.K) (bsel lo H0 H') G' (Ite X.K p) (enL 0 es) := fun p vs sp ap H G eg gh eh i => by
          have s := sp H G eg gh eh
          refine ⟨fun d ed => ?_, fun hl => ⟨vs, s, by rw [ap.length, ← enL_length es 0]; exact hl⟩⟩
          rw [enL_get] at ed
          cases hd : es[i]? with
          | none => rw [hd] at ed; cases ed
          | some d0 =>
            rw [hd] at ed
            cases ed
            obtain ⟨v, h1, h2⟩ := ap.get hd
            refine ⟨⟨vs, v, s, h1⟩, fun x H2 ⟨T, y, e1, e2, e3, e4⟩ => ?_⟩
            have e5 := e4 vs s
            rw [h1] at e5
            cases e5
            subst e3
            have en : Ex G (upd G T (.tup [.int (i : Nat), v])) := Ex.new (gh.none e2)
            refine ⟨upd G T (.tup [.int (i : Nat), v]), Grow.newF gh e2, T, _, _, e1, .inl (.inl upd_same), ?_, (h2.to eg).to en⟩
            rw [Nat.zero_add]
            exact .int _
        rcases r with r | ⟨p, vs, es', rfl, e2, r1, r2⟩
        · cases r with
          | lst hs ha => exact ⟨_, _, rfl, ex_l w.gh hs, q _ H' G' w (go _ _ (fun H G eg gh _ => ex_l gh (ex_l eg hs)) ha)⟩
        · cases e2
          exact ⟨p, vs, rfl, ex_l eb r1, q _ H' G' w (go _ _ (fun H G _ _ eh => ex_l eh r1) r2)⟩
      | _ => cases ed
theorem i_zip {e' : Expr} {m' : Option D} {elts : List Expr} {kk : Nat} {tpos : Pos} (hg : Gl X "zip") (hm : X.mg "zip" = none) (h : PE X e (tR (rV X.K) X.K H0 G0 δ m)) (h' : PE X e' (tR (rV X.K) X.K H0 G0 δ m'))
    (hs : starEach [e, e'] X.env = (false, eval e X.env) :: starEach [e'] X.env := by rfl) (hs2 : starEach [e'] X.env = (false, eval e' X.env) :: starEach [] X.env := by rfl) (hpl : (backTo pos (starEach [e'] X.env)).any (·.1) = false := by rfl) :
    PI X (.Tuple elts kk tpos) (.Call (.Name "zip" p2) [e, e'] [] pos) (tI false (ρ2 X.K) X.K H0 G0 δ (b2 (fun c d => some (List.zip c d)) (m.bind listD) (m'.bind listD))) :=
  PI_imp (pi_zip hg hm (pa_cons h (pa_cons h' pa_nil (hs := hs2)) (hs := hs)) hs hpl) fun σ H R ⟨G, s, ds, ed, q⟩ => by
    cases m with
    | none => cases ed
    | some c =>
      cases c with
      | list cs =>
        cases m' with
        | none => cases ed
        | some d =>
          cases d with
          | list es =>
            cases ed
            refine ⟨G, s, _, rfl, fun v H' G' w r => ?_⟩
            refine ⟨G', s.grow w, _, rfl, fun v2 H2 G2 w2 r2 => ?_⟩
            have r' := r.to w2.h w2.g
            obtain ⟨p, vs, rfl, sp, ap⟩ := r'.list w2.gh
            obtain ⟨p2, vs2, rfl, sp2, ap2⟩ := r2.list w2.gh
            refine ⟨p, p2, vs, vs2, rfl, sp, sp2, q _ H2 G2 (w.trans w2) fun H3 G3 eg gh eh i => ?_⟩
            have s1 : SqL X.K H3 p vs := ex_l eh sp
            have s2 : SqL X.K H3 p2 vs2 := ex_l eh sp2
            refine ⟨fun dd ed => ?_, fun hl => ⟨vs, vs2, s1, s2, ?_⟩⟩
            · rw [List.getElem?_zip_eq_some] at ed
              obtain ⟨e1, e2⟩ := ed
              obtain ⟨v, h1, h2⟩ := ap.get e1
              obtain ⟨v', h1', h2'⟩ := ap2.get e2
              refine ⟨⟨vs, vs2, v, v', s1, s2, h1, h1'⟩, fun x H4 ⟨T, y, y', f1, f2, f3, f4, f5⟩ => ?_⟩
              have e5 := f4 vs s1
              rw [h1] at e5
              cases e5
              have e6 := f5 vs2 s2
              rw [h1'] at e6
              cases e6
              subst f3
              have en : Ex G3 (upd G3 T (.tup [v, v'])) := Ex.new (gh.none f2)
              exact ⟨_, Grow.newF gh f2, T, _, _, f1, .inl (.inl upd_same), (h2.to eg).to en, (h2'.to eg).to en⟩
            · rw [List.length_zip] at hl
              rw [ap.length, ap2.length]
              omega
          | _ => cases ed
      | _ => cases m' <;> cases ed
end

/-! ### comprehensions -/
def lcM {ι : Type} (c : ι → Option Bool) (f : ι → Option D) : List ι → Option (List D)
  | [] => some []
  | d :: r => (c d).bind fun b => if b then (f d).bind fun y => (lcM c f r).map (y :: ·) else lcM c f r
def lcG {ι : Type} (m : Option (List ι)) (c : ι → Option Bool) (f : ι → Option D) : Option (List D) := m.bind fun ds => grd (decide (ds.length ≤ LN)) (lcM c f ds)
theorem lcM_len {ι : Type} {c : ι → Option Bool} {f : ι → Option D} : ∀ {ds : List ι} {es : List D}, lcM c f ds = some es → es.length ≤ ds.length
  | [], es, h => by cases h; exact Nat.le_refl _
  | d :: r, es, h => by
    unfold lcM at h
    cases hc : c d with
    | none => rw [hc] at h; cases h
    | some b =>
      rw [hc] at h
      cases b with
      | false =>
        have := lcM_len (ds := r) (es := es) h
        rw [List.length_cons]
        omega
      | true =>
        have h : (f d).bind (fun y => (lcM c f r).map (y :: ·)) = some es := h
        cases hf : f d with
        | none => rw [hf] at h; cases h
        | some y =>
          rw [hf] at h
          have h : (lcM c f r).map (y :: ·) = some es := h
          cases hr : lcM c f r with
          | none => rw [hr] at h; cases h
          | some ys =>
            rw [hr] at h
            cases h
            have := lcM_len hr
            rw [List.length_cons, List.length_cons]
            omega
section
variable {X : Cx} {H0 G0 : Hp} {δ : En} {e a b tg : Expr} {pos p2 : Pos} {K : PySem.W.Frag}
theorem wipe_set {σ : L2.St} {j : Nat} {x : Option V} : wipe ((wipe σ [j]).set j x) [j] = wipe σ [j] := by
  show ((σ.set j none).set j x).set j none = σ.set j none
  rw [List.set_set, List.set_set]
theorem wipe_set2 {σ : L2.St} {i j : Nat} {x y : Option V} : wipe (((wipe σ [i, j]).set i x).set j y) [i, j] = wipe σ [i, j] := by
  show ((((((σ.set j none).set i none).set i x).set j y).set j none).set i none) = (σ.set j none).set i none
  apply List.ext_getElem?
  intro n
  by_cases h1 : n = i
  · subst h1
    simp [List.getElem?_set]
  · by_cases h2 : n = j
    · subst h2
      simp [List.getElem?_set, h1, Ne.symm h1]
    · simp [List.getElem?_set, h1, h2, Ne.symm h1, Ne.symm h2]
/-- the heart of a comprehension: items by SrcOk, the target's store told by gT -/
theorem lc_go {ι : Type} {ρ : ι → V → Hp → Prop} {g : TG} {tt : TT} {te : TE} {vs : List Nat} {σ : L2.St} {H1 G1 : Hp} {Dl : Addr} {Q : VK} {J : It} {ds : List ι} {es : List D} {c : ι → Option Bool} {f : ι → Option D} {δx : ι → En}
    (hl : ds.length ≤ LN) (src : SrcOk ρ H1 G1 J ds) (e1 : Ex G1 H1) (hes : lcM c f ds = some es) (hD : H1 Dl = none)
    (gT : ∀ d x H G (R : L2.St → Hp → Prop), Grow H1 G1 H G → ρ d x G → (∀ σ2, wipe σ2 vs = wipe σ vs → S8 K H0 G0 (δx d) σ2 H G → R σ2 H) → g x (wipe σ vs) H R)
    (tT' : ∀ d σ2 H (R : Bool → Hp → Prop), tT K H0 G0 (δx d) (c d) σ2 H R → tt σ2 H R) (tE : ∀ d σ2 H (R : VK), tR (rF K) K H0 G0 (δx d) (f d) σ2 H R → te σ2 H R)
    (q : ∀ H' G', Grow H1 G1 H' G' → (∃ ys, H' Dl = some (.lst ys) ∧ G' Dl = none ∧ DpAll K G' ys es) → Q (.ref Dl) H') :
    ∃ W : Nat → Nat → Hp → Prop, (∃ m, W 0 m (upd H1 Dl (.lst []))) ∧ ∀ i m H, W i m H →
      (J.stop i H ∧ Q (.ref Dl) H) ∨ (J.go i H ∧ ∃ Nx : Hp → Prop, (∀ H', Nx H' → ∃ m', m' < m ∧ W (i + 1) m' H') ∧ ∀ x H', J.yld i H x H' → g x (wipe σ vs) H' fun σ2 H2 => wipe σ2 vs = wipe σ vs ∧ tt σ2 H2 fun b H3 =>
        if b = true then te σ2 H3 fun y H4 => ∃ acc, H4 Dl = some (.lst acc) ∧ acc.length < sizeLine ∧ Nx (upd H4 Dl (.lst (acc ++ [y]))) else Nx H3) := by
  let P : Nat → Hp → Prop := fun i H => i ≤ ds.length ∧ ∃ G ys es1 es2, Grow H1 G1 H G ∧ H Dl = some (.lst ys) ∧ G Dl = none ∧ DpAll K G ys es1 ∧ es1.length ≤ i ∧ lcM c f (ds.drop i) = some es2 ∧ es = es1 ++ es2
  refine ⟨fun i m H => m = ds.length - i ∧ P i H, ⟨_, rfl, Nat.zero_le _, G1, [], [], es, Grow.newO e1 hD, upd_same, e1.none hD, .nil, Nat.le_refl _, hes, rfl⟩, ?_⟩
  rintro i m H ⟨rfl, hi, G, ys, es1, es2, w, hDl, gDl, ha, hn, hr, rfl⟩
  obtain ⟨s1, s2⟩ := src H G w.g w.gh w.h i
  by_cases hlt : i < ds.length
  · have hd : ds[i]? = some ds[i] := List.getElem?_eq_getElem hlt
    have hdrop : ds.drop i = ds[i] :: ds.drop (i + 1) := List.drop_eq_getElem_cons hlt
    obtain ⟨go, yl⟩ := s1 _ hd
    refine .inr ⟨go, P (i + 1), fun H' p => ⟨ds.length - (i + 1), by omega, rfl, p⟩, fun x H' hy => ?_⟩
    obtain ⟨G', w', hρ⟩ := yl x H' hy
    have ww := w.trans w'
    have hDl' : H' Dl = some (.lst ys) := w'.h _ _ hDl
    have gDl' : G' Dl = none := w'.nw _ _ hDl gDl
    refine gT ds[i] x H' G' _ ww hρ fun σ2 hw S => ⟨hw, ?_⟩
    rw [hdrop] at hr
    unfold lcM at hr
    cases hc : c ds[i] with
    | none => rw [hc] at hr; cases hr
    | some b =>
      rw [hc] at hr
      refine tT' ds[i] σ2 H' _ ⟨G', S, b, hc, fun H3 G3 w3 => ?_⟩
      have hDl3 : H3 Dl = some (.lst ys) := w3.h _ _ hDl'
      have gDl3 : G3 Dl = none := w3.nw _ _ hDl' gDl'
      cases b with
      | false =>
        show P (i + 1) H3
        exact ⟨hlt, G3, ys, es1, es2, ww.trans w3, hDl3, gDl3, (ha.to w'.g).to w3.g, by omega, hr, rfl⟩
      | true =>
        have hr : (f ds[i]).bind (fun y => (lcM c f (ds.drop (i + 1))).map (y :: ·)) = some es2 := hr
        cases hf : f ds[i] with
        | none => rw [hf] at hr; cases hr
        | some y =>
          rw [hf] at hr
          have hr : (lcM c f (ds.drop (i + 1))).map (y :: ·) = some es2 := hr
          cases hq : lcM c f (ds.drop (i + 1)) with
          | none => rw [hq] at hr; cases hr
          | some es3 =>
            rw [hq] at hr
            cases hr
            refine tE ds[i] σ2 H3 _ ⟨G3, S.grow w3, y, hf, fun v H4 G4 w4 r4 => ?_⟩
            have hDl4 : H4 Dl = some (.lst ys) := w4.h _ _ hDl3
            have gDl4 : G4 Dl = none := w4.nw _ _ hDl3 gDl3
            have wz := (ww.trans w3).trans w4
            refine ⟨ys, hDl4, ln_lt ?_, hlt, G4, ys ++ [v], es1 ++ [y], es3, ⟨wz.gh.mut gDl4, wz.g, wz.h.mut hD, wz.nw⟩, upd_same, gDl4, ((((ha.to w'.g).to w3.g).to w4.g)).append (.cons r4 .nil), ?_, hq, by simp⟩
            · rw [ha.length]
              exact Nat.lt_of_lt_of_le (Nat.lt_of_le_of_lt hn hlt) hl
            · rw [List.length_append]
              simp
              omega
  · have ei : i = ds.length := by omega
    subst ei
    refine .inl ⟨s2 (Nat.le_refl _), ?_⟩
    rw [List.drop_length] at hr
    cases hr
    rw [List.append_nil] at q
    exact q H G w ⟨ys, hDl, gDl, ha⟩
end
end Bd
/-! Bd5: comprehensions, calls, statements, defs. -/
namespace Bd
open PySem PySem.Spec PyProof.Rows L2 Evl
section
variable {X : Cx} {H0 G0 : Hp} {δ : En} {e a b tg : Expr} {pos p2 : Pos} {K : PySem.W.Frag}
abbrev wp1 (δ : En) (j : Nat) : En := put δ j .no
abbrev wp2 (δ : En) (i j : Nat) : En := put (put δ j .no) i .no
/-- a comprehension's tests -/
def tYesT (K : PySem.W.Frag) (H0 G0 : Hp) (δ : En) : TT := tT K H0 G0 δ (some true)
theorem c_yes : PTs X [] (tT X.K H0 G0 δ (some true)) := ⟨fun pins s σ H Q I w => by
  obtain ⟨G, S, b, eb, q⟩ := w
  cases eb
  exact pts_nil.run pins s σ H Q I (q H G (.refl S.gh))⟩
theorem c_one {c : Expr} {m : Option Bool} (h : PT X c (tT X.K H0 G0 δ m)) : PTs X [c] (tT X.K H0 G0 δ m) := pts_one h
/-- the reading of a comprehension whose block's readings hang on the item -/
def tAll {ι α : Type} {R : Rel α} (K : PySem.W.Frag) (H0 G0 : Hp) (δx : ι → En) (f : ι → Option α) : TE := fun σ H Q => ∃ d, tR R K H0 G0 (δx d) (f d) σ H Q
theorem PE_ex {ι : Type} {t : ι → TE} (h : ∀ d, PE X e (t d)) : PE X e (fun σ H Q => ∃ d, t d σ H Q) := ⟨fun pins s σ H Q I ⟨d, w⟩ => (h d).run pins s σ H Q I w⟩
theorem PTs_ex {ι : Type} {es : List Expr} {t : ι → TT} (h : ∀ d, PTs X es (t d)) : PTs X es (fun σ H Q => ∃ d, t d σ H Q) := ⟨fun pins s σ H Q I ⟨d, w⟩ => (h d).run pins s σ H Q I w⟩
section
variable {elt iter : Expr} {ifs : List Expr} {scope : Scope}
theorem lc_read1 {j : Nat} {ms : Option (List D)} {c : D → Option Bool} {f : D → Option D} {σ : L2.St} {H : Hp} {Q : VK} {K : PySem.W.Frag}
    (hj : j < δ.length) (h : tR (rO K) K H0 G0 δ (lcG ms c f) σ H Q) :
    tLc (tI false (ρ1 K) K H0 G0 δ ms) (gName j) (fun σ H Q => ∃ d, tT K H0 G0 (put (wp1 δ j) j (.fr d)) (c d) σ H Q) (fun σ H Q => ∃ d, tR (rF K) K H0 G0 (put (wp1 δ j) j (.fr d)) (f d) σ H Q) [j] σ H Q := by
  obtain ⟨G, s, es, ees, q⟩ := h
  cases ms with
  | none => cases ees
  | some ds =>
    obtain ⟨h1, h2⟩ := grd_some (show grd (decide (ds.length ≤ LN)) (lcM c f ds) = some es from ees)
    refine ⟨G, s, ds, rfl, fun J H' G' w src0 Dl hD => ?_⟩
    have src : SrcOk _ H' G' J ds := src0
    refine lc_go (K := K) (H0 := H0) (G0 := G0) (δx := fun d => put (wp1 δ j) j (.fr d)) (c := c) (f := f) (g := gName j) (tt := fun σ H Q => ∃ d, tT K H0 G0 (put (wp1 δ j) j (.fr d)) (c d) σ H Q) (te := fun σ H Q => ∃ d, tR (rF K) K H0 G0 (put (wp1 δ j) j (.fr d)) (f d) σ H Q) (vs := [j]) (σ := σ) (Q := Q) (of_dec h1) src w.gh h2 hD (fun d x H2 G2 R w2 hx k => ?_) (fun d σ2 H2 R t => ⟨d, t⟩) (fun d σ2 H2 R t => ⟨d, t⟩) fun H2 G2 w2 ⟨ys, y1, y2, y3⟩ => ?_
    · show R ((wipe σ [j]).set j (some x)) H2
      refine k _ wipe_set ?_
      have S : S8 K H0 G0 (wp1 δ j) (wipe σ [j]) H2 G2 := ((s.grow w).grow w2).wipe1
      exact S.setF (by rw [put_length]; exact hj) hx
    · exact q _ H2 G2 (w.trans w2) ⟨Dl, ys, rfl, w.h.none hD, y2, y1, y3⟩
theorem lc_read2 {i j : Nat} {ms : Option (List (D × D))} {c : D × D → Option Bool} {f : D × D → Option D} {σ : L2.St} {H : Hp} {Q : VK} {K : PySem.W.Frag}
    (hi : i < δ.length) (hj : j < δ.length) (h : tR (rO K) K H0 G0 δ (lcG ms c f) σ H Q) :
    tLc (tI false (ρ2 K) K H0 G0 δ ms) (gTup K 2 (gCons (gName i) (gCons (gName j) gNil))) (fun σ H Q => ∃ d : D × D, tT K H0 G0 (put (put (wp2 δ i j) i (.fr d.1)) j (.fr d.2)) (c d) σ H Q) (fun σ H Q => ∃ d : D × D, tR (rF K) K H0 G0 (put (put (wp2 δ i j) i (.fr d.1)) j (.fr d.2)) (f d) σ H Q) [i, j] σ H Q := by
  obtain ⟨G, s, es, ees, q⟩ := h
  cases ms with
  | none => cases ees
  | some ds =>
    obtain ⟨h1, h2⟩ := grd_some (show grd (decide (ds.length ≤ LN)) (lcM c f ds) = some es from ees)
    refine ⟨G, s, ds, rfl, fun J H' G' w src0 Dl hD => ?_⟩
    have src : SrcOk _ H' G' J ds := src0
    refine lc_go (K := K) (H0 := H0) (G0 := G0) (δx := fun d : D × D => put (put (wp2 δ i j) i (.fr d.1)) j (.fr d.2)) (c := c) (f := f) (g := gTup K 2 (gCons (gName i) (gCons (gName j) gNil))) (tt := fun σ H Q => ∃ d : D × D, tT K H0 G0 (put (put (wp2 δ i j) i (.fr d.1)) j (.fr d.2)) (c d) σ H Q) (te := fun σ H Q => ∃ d : D × D, tR (rF K) K H0 G0 (put (put (wp2 δ i j) i (.fr d.1)) j (.fr d.2)) (f d) σ H Q) (vs := [i, j]) (σ := σ) (Q := Q) (of_dec h1) src w.gh h2 hD (fun d x H2 G2 R w2 hx k => ?_) (fun d σ2 H2 R t => ⟨d, t⟩) (fun d σ2 H2 R t => ⟨d, t⟩) fun H2 G2 w2 ⟨ys, y1, y2, y3⟩ => ?_
    · obtain ⟨T, va, vb, ex, hT, ha, hb⟩ := hx
      refine ⟨T, [va, vb], ex, ex_t w2.gh hT, rfl, va, [vb], rfl, vb, [], rfl, rfl, ?_⟩
      refine k _ wipe_set2 ?_
      have S : S8 K H0 G0 (wp2 δ i j) (wipe σ [i, j]) H2 G2 := (((s.grow w).grow w2).wipe1).wipe1
      exact (S.setF (by rw [put_length, put_length]; exact hi) ha).setF (by rw [put_length, put_length, put_length]; exact hj) hb
    · exact q _ H2 G2 (w.trans w2) ⟨Dl, ys, rfl, w.h.none hD, y2, y1, y3⟩
theorem x_lc1 {j : Nat} {xn : Str} {px : Pos} {ms : Option (List D)} {c : D → Option Bool} {f : D → Option D} (hc : X.calm = true) (hN : X.N.Nodup) (hj : j < δ.length) (hi : PI X (.Name xn px) iter (tI false (ρ1 X.K) X.K H0 G0 δ ms)) (ok : BlkOk X.N X.env.scope scope [(xn, j)])
    (hg : ∀ (s : Shared) (H : Hp) (C : Addr) (cl : List (Str × Addr)) (fp : List Addr), PG (X.blk s H scope (compEnvC scope cl C X.env) fp) (.Name xn px) (gName j))
    (ht : ∀ (s : Shared) (H : Hp) (C : Addr) (cl : List (Str × Addr)) (fp : List Addr) (d : D), PTs (X.blk s H scope (compEnvC scope cl C X.env) fp) ifs (tT X.K H0 G0 (put (wp1 δ j) j (.fr d)) (c d)))
    (he : ∀ (s : Shared) (H : Hp) (C : Addr) (cl : List (Str × Addr)) (fp : List Addr) (d : D), PE (X.blk s H scope (compEnvC scope cl C X.env) fp) elt (tR (rF X.K) X.K H0 G0 (put (wp1 δ j) j (.fr d)) (f d)))
    (hs : ∀ x, foldedSetIterable iter X.env x = pure x := by intro _; rfl) :
    PE X (.ListComp elt [⟨.Name xn px, iter, ifs, 0⟩] scope pos) (tR (rO X.K) X.K H0 G0 δ (lcG ms c f)) :=
  PE_imp (pe_lc (own := [(xn, j)]) (g := gName j) hc hN hi ok hg (fun s H C cl fp => PTs_ex fun d => ht s H C cl fp d) (fun s H C cl fp => PE_ex fun d => he s H C cl fp d) hs) fun _ _ _ h => lc_read1 hj h
theorem x_lc2 {i j : Nat} {xn yn : Str} {px py pt : Pos} {kk : Nat} {ms : Option (List (D × D))} {c : D × D → Option Bool} {f : D × D → Option D} (hc : X.calm = true) (hN : X.N.Nodup) (hi' : i < δ.length) (hj : j < δ.length) (hi : PI X (.Tuple [.Name xn px, .Name yn py] kk pt) iter (tI false (ρ2 X.K) X.K H0 G0 δ ms)) (ok : BlkOk X.N X.env.scope scope [(xn, i), (yn, j)])
    (hg : ∀ (s : Shared) (H : Hp) (C : Addr) (cl : List (Str × Addr)) (fp : List Addr), PG (X.blk s H scope (compEnvC scope cl C X.env) fp) (.Tuple [.Name xn px, .Name yn py] kk pt) (gTup X.K 2 (gCons (gName i) (gCons (gName j) gNil))))
    (ht : ∀ (s : Shared) (H : Hp) (C : Addr) (cl : List (Str × Addr)) (fp : List Addr) (d : D × D), PTs (X.blk s H scope (compEnvC scope cl C X.env) fp) ifs (tT X.K H0 G0 (put (put (wp2 δ i j) i (.fr d.1)) j (.fr d.2)) (c d)))
    (he : ∀ (s : Shared) (H : Hp) (C : Addr) (cl : List (Str × Addr)) (fp : List Addr) (d : D × D), PE (X.blk s H scope (compEnvC scope cl C X.env) fp) elt (tR (rF X.K) X.K H0 G0 (put (put (wp2 δ i j) i (.fr d.1)) j (.fr d.2)) (f d)))
    (hs : ∀ x, foldedSetIterable iter X.env x = pure x := by intro _; rfl) :
    PE X (.ListComp elt [⟨.Tuple [.Name xn px, .Name yn py] kk pt, iter, ifs, 0⟩] scope pos) (tR (rO X.K) X.K H0 G0 δ (lcG ms c f)) :=
  PE_imp (pe_lc (own := [(xn, i), (yn, j)]) (g := gTup X.K 2 (gCons (gName i) (gCons (gName j) gNil))) hc hN hi ok hg (fun s H C cl fp => PTs_ex fun d => ht s H C cl fp d) (fun s H C cl fp => PE_ex fun d => he s H C cl fp d) hs) fun _ _ _ h => lc_read2 hi' hj h
end
/-! ### calls of own defs -/
def spR {α : Type} (R : Rel α) (K : PySem.W.Frag) (bs : List Bool) (mf : Nat → List D → Option α) : Sp := fun vs H Q _ => ∃ G ds d n, Ex G H ∧ ArgsOk K H G bs vs ds ∧ mf n ds = some d ∧ ∀ v H' G', Grow H G H' G' → R H H' G' v d → Q v H'
theorem args_len {K : PySem.W.Frag} {H G : Hp} : ∀ {bs : List Bool} {vs : List V} {ds : List D}, ArgsOk K H G bs vs ds → vs.length = bs.length ∧ ds.length = bs.length
  | [], [], [], _ => ⟨rfl, rfl⟩
  | b :: bs, v :: vs, d :: ds, h => by
    obtain ⟨h1, h2⟩ := args_len (bs := bs) h.2
    exact ⟨by rw [List.length_cons, List.length_cons, h1], by rw [List.length_cons, List.length_cons, h2]⟩
  | [], [], _ :: _, h => h.elim
  | [], _ :: _, _, h => h.elim
  | _ :: _, [], _, h => h.elim
  | _ :: _, _ :: _, [], h => h.elim
/-- a def of the text that keeps its promise, as its callers see it -/
structure Cal (P : Program) (w : World) (K : PySem.W.Frag) (mg : Str → Option Value) (base : Heap) (x : Str) (ps : List Str) (k : Nat) (sp : Sp) : Prop where
  ex : ∃ f fd, FnOk P w K mg base CX0 k f fd ps sp ∧ mg x = some (.ref f) ∧ PySem.W.keepIn K (.ref f) = true ∧ Binds K fd ps []
theorem x_call {α : Type} {R : Rel α} {k : Nat} {x : Str} {ps : List Str} {bs : List Bool} {mf : Nat → List D → Option α} {es : List Expr} {ms : Option (List D)} (C : Cal X.prog X.w X.K X.mg X.base x ps k (spR R X.K bs mf)) (n : Nat) (hr : Room k X.A) (hg : Gl X x)
    (ww : ∀ H1 H2 H3 G2 v c, Ex H1 H2 → R H2 H3 G2 v c → R H1 H3 G2 v c) (ha : PA X (e :: es) (tAr X.K H0 G0 δ bs ms)) (hd : (x == ("__debug__" : Str)) = false := by decide)
    (he : starEach (e :: es) X.env = (false, eval e X.env) :: starEach es X.env := by rfl) (hpl : (backTo pos (starEach es X.env)).any (·.1) = false := by rfl) :
    PE X (.Call (.Name x p2) (e :: es) [] pos) (tR R X.K H0 G0 δ (ms.bind (mf n))) := by
  obtain ⟨f, fd, F, hm, hk, hb⟩ := C.ex
  exact PE_imp (pe_call (E := E0) F hr hg hm hk hb .nil pass0 ha hd he hpl) fun σ H Q ⟨G, s, c, ec, q⟩ => by
    cases ms with
    | none => cases ec
    | some ds =>
      refine ⟨G, s, ds, rfl, fun vs H1 G1 w r => ?_⟩
      show spR R X.K bs mf (vs ++ []) H1 Q E0
      rw [show vs ++ [] = vs from List.append_nil vs]
      exact ⟨G1, ds, c, n, w.gh, r, ec, fun v H2 G2 w2 r2 => q v H2 G2 (w.trans w2) (ww _ _ _ _ _ _ w.h r2)⟩
theorem ww_F : ∀ (H1 H2 H3 G2 : Hp) v c, Ex H1 H2 → rF K H2 H3 G2 v c → rF K H1 H3 G2 v c := fun _ _ _ _ _ _ _ h => h
theorem ww_O : ∀ (H1 H2 H3 G2 : Hp) v c, Ex H1 H2 → rO K H2 H3 G2 v c → rO K H1 H3 G2 v c := fun _ _ _ _ _ _ e ⟨p, vs, h1, h2, h3⟩ => ⟨p, vs, h1, e.none h2, h3⟩
end

/-! ### statements -/
def bnd {α β : Type} (m : Option α) (k : α → Option β) : Option β := m.bind k
inductive Fl (S α : Type) where
  | nx (s : S) | rt (d : α)
abbrev Zt (T : Type) := Hp → Hp → Hp → T → Ends → Prop
def tS {T : Type} (Z : Zt T) (K : PySem.W.Frag) (H0 G0 : Hp) (δ : En) (m : Option T) : TS := fun E σ H => ∃ G, S8 K H0 G0 δ σ H G ∧ ∃ t, m = some t ∧ Z H0 G0 G t E
def zQ {α : Type} (R : Rel α) : Zt α := fun H0 G0 _ d E => ∀ v H' G', Grow H0 G0 H' G' → R H0 H' G' v d → E.rt v H'
def zN {S : Type} (K : PySem.W.Frag) (enc : S → En) : Zt S := fun H0 G0 G s E => ∀ σ' H' G', Ex G G' → S8 K H0 G0 (enc s) σ' H' G' → E.nx σ' H'
def zM {S α : Type} (R : Rel α) (K : PySem.W.Frag) (enc : S → En) : Zt (Fl S α) := fun H0 G0 G f E => match f with
  | .nx s => zN K enc H0 G0 G s E
  | .rt d => zQ R H0 G0 G d E
/-- an outcome that holds from a moment on holds from a later one on -/
class ZC {T : Type} (Z : Zt T) : Prop where
  mono : ∀ {H0 G0 G G' : Hp} {t : T} {E : Ends}, Ex G G' → Z H0 G0 G t E → Z H0 G0 G' t E
instance {α : Type} (R : Rel α) : ZC (zQ R) := ⟨fun _ q => q⟩
instance {S : Type} (K : PySem.W.Frag) (enc : S → En) : ZC (zN K enc) := ⟨fun e q σ' H' G' e' s => q σ' H' G' (e.trans e') s⟩
instance {S α : Type} (R : Rel α) (K : PySem.W.Frag) (enc : S → En) : ZC (zM R K enc) := ⟨fun {H0 G0 G G' t E} e q => by
  cases t with
  | nx s => exact fun σ' H' G2 e' S => q σ' H' G2 (e.trans e') S
  | rt d => exact q⟩
theorem zcQ {α : Type} {R : Rel α} : ZC (zQ R) := inferInstance
theorem zcN {S : Type} {K : PySem.W.Frag} {enc : S → En} : ZC (zN K enc) := inferInstance
theorem zcM {S α : Type} {R : Rel α} {K : PySem.W.Frag} {enc : S → En} : ZC (zM R K enc) := inferInstance
section
variable {X : Cx} {H0 G0 : Hp} {δ : En} {e a b tg : Expr} {pos p2 px : Pos} {rest : List Stmt} {T : Type} {Z : Zt T}
/-! ends of blocks -/
theorem s_nilN {S : Type} {enc : S → En} {s : S} (mask : List Bool) (h : fg mask δ = enc s) : PSs X [] (tS (zN X.K enc) X.K H0 G0 δ (some s)) :=
  PSs_imp pss_nil fun E σ H ⟨G, S, t, et, q⟩ => by
    cases et
    exact q σ H G (Ex.refl G) (h ▸ S.fg mask)
theorem s_nilM {S α : Type} {R : Rel α} {enc : S → En} {s : S} (mask : List Bool) (h : fg mask δ = enc s) : PSs X [] (tS (zM R X.K enc) X.K H0 G0 δ (some (.nx s))) :=
  PSs_imp pss_nil fun E σ H ⟨G, S, t, et, q⟩ => by
    cases et
    exact q σ H G (Ex.refl G) (h ▸ S.fg mask)
theorem s_retQ {α : Type} {R : Rel α} {m : Option α} (ww : ∀ H1 H2 H3 G2 v c, Ex H1 H2 → R H2 H3 G2 v c → R H1 H3 G2 v c) (h : PE X e (tR R X.K H0 G0 δ m)) : PSs X (.Return (some e) pos :: rest) (tS (zQ R) X.K H0 G0 δ m) :=
  PSs_imp (pss_cons (ps_ret h) (pss_never (sts := rest))) fun E σ H ⟨G, S, t, et, q⟩ =>
    ⟨G, S, t, et, fun v H' G' w r => q v H' G' (S.gr.trans w) (ww _ _ _ _ _ _ S.gr.h r)⟩
theorem s_retM {S α : Type} {R : Rel α} {enc : S → En} {m : Option α} (ww : ∀ H1 H2 H3 G2 v c, Ex H1 H2 → R H2 H3 G2 v c → R H1 H3 G2 v c) (h : PE X e (tR R X.K H0 G0 δ m)) : PSs X (.Return (some e) pos :: rest) (tS (zM (S := S) R X.K enc) X.K H0 G0 δ (m.map .rt)) :=
  PSs_imp (pss_cons (ps_ret h) (pss_never (sts := rest))) fun E σ H ⟨G, S, t, et, q⟩ => by
    cases m with
    | none => cases et
    | some d =>
      cases et
      exact ⟨G, S, d, rfl, fun v H' G' w r => q v H' G' (S.gr.trans w) (ww _ _ _ _ _ _ S.gr.h r)⟩
/-- an own list is handed back -/
theorem s_retO {i : Nat} {ds : List D} (hn : PE X e (tVar i)) (h : nth δ i = .ow ds) : PSs X (.Return (some e) pos :: rest) (tS (zQ (rO X.K)) X.K H0 G0 δ (some ds)) :=
  PSs_imp (pss_cons (ps_ret hn) (pss_never (sts := rest))) fun E σ H ⟨G, S, t, et, q⟩ => by
    cases et
    have o := S.ok i
    rw [h] at o
    obtain ⟨p, vs, hp, h1, h2, h3, h4⟩ := o
    exact ⟨.ref p, hp, q _ H G S.gr ⟨p, vs, rfl, h1, h2, h3, h4⟩⟩
theorem s_never {st : Stmt} : PSs X (st :: rest) (tS Z X.K H0 G0 δ none) := PSs_imp (pss_cons ps_never (pss_never (sts := rest))) fun E σ H ⟨G, S, t, et, q⟩ => by cases et
theorem s_frz {i : Nat} {ds : List D} {sts : List Stmt} {m : Option T} (zc : ZC Z) (h : nth δ i = .ow ds) (k : PSs X sts (tS Z X.K H0 G0 (put δ i (.fr (.list ds))) m)) : PSs X sts (tS Z X.K H0 G0 δ m) :=
  PSs_imp k fun E σ H ⟨G, S, t, et, q⟩ => by
    obtain ⟨G', eg, S'⟩ := S.freeze h
    exact ⟨G', S', t, et, zc.mono eg q⟩
/-! name = value -/
structure Nm (X : Cx) (x : Str) (i : Nat) : Prop where
  nd : X.N.Nodup
  ix : X.N[i]? = some x
  lc : Loc X.env.scope x
  fn : X.fn x = true ∨ X.env.scope.names.lookup x = some .local
theorem s_set {x : Str} {i : Nat} {m : Option D} {k : D → Option T} (zc : ZC Z) (N : Nm X x i) (hi : i < δ.length) (h : PE X e (tR (rF X.K) X.K H0 G0 δ m)) (hr : ∀ d, PSs X rest (tS Z X.K H0 G0 (put δ i (.fr d)) (k d)))
    (hs : swapsWith e (some (.Name x px)) pos.line X.env = pure false) : PSs X (.Assign [.Name x px] e pos :: rest) (tS Z X.K H0 G0 δ (bnd m k)) := by
  cases m with
  | none => exact PSs_imp (pss_cons ps_never (pss_never (sts := rest))) fun E σ H ⟨G, S, t, et, q⟩ => by cases et
  | some d =>
    exact PSs_imp (pss_cons (ps_set N.nd N.ix N.lc h hs N.fn) (hr d)) fun E σ H ⟨G, S, t, et, q⟩ =>
      ⟨G, S, d, rfl, fun v H' G' w r => ⟨G', (S.grow w).setF hi r, t, et, zc.mono w.g q⟩⟩
theorem s_setO {x : Str} {i : Nat} {m : Option (List D)} {k : List D → Option T} (zc : ZC Z) (N : Nm X x i) (hi : i < δ.length) (h : PE X e (tR (rO X.K) X.K H0 G0 δ m)) (hr : ∀ d, PSs X rest (tS Z X.K H0 G0 (put δ i (.ow d)) (k d)))
    (hs : swapsWith e (some (.Name x px)) pos.line X.env = pure false) : PSs X (.Assign [.Name x px] e pos :: rest) (tS Z X.K H0 G0 δ (bnd m k)) := by
  cases m with
  | none => exact PSs_imp (pss_cons ps_never (pss_never (sts := rest))) fun E σ H ⟨G, S, t, et, q⟩ => by cases et
  | some d =>
    exact PSs_imp (pss_cons (ps_set N.nd N.ix N.lc h hs N.fn) (hr d)) fun E σ H ⟨G, S, t, et, q⟩ =>
      ⟨G, S, d, rfl, fun v H' G' w ⟨p, vs, ev, h1, h2, h3, h4⟩ => by
        subst ev
        exact ⟨G', S.setO w hi h1 h2 h3 h4, t, et, zc.mono w.g q⟩⟩
/-- name = [..] in the swapped form -/
theorem s_lcF {x : Str} {i : Nat} {m : Option (List D)} {k : D → Option T} {te : TE} (zc : ZC Z) (hi : i < δ.length) (h : PS X (.Assign [.Name x px] e pos) (tAsg te (gName i))) (ht : ∀ σ H Q, tR (rO X.K) X.K H0 G0 δ m σ H Q → te σ H Q) (hr : ∀ d, PSs X rest (tS Z X.K H0 G0 (put δ i (.fr d)) (k d))) :
    PSs X (.Assign [.Name x px] e pos :: rest) (tS Z X.K H0 G0 δ (bnd (lD m) k)) := by
  cases m with
  | none => exact PSs_imp (pss_cons ps_never (pss_never (sts := rest))) fun E σ H ⟨G, S, t, et, q⟩ => by cases et
  | some d =>
    exact PSs_imp (pss_cons h (hr (.list d))) fun E σ H ⟨G, S, t, et, q⟩ => by
      refine ht σ H _ ⟨G, S, d, rfl, fun v H' G' w ⟨p, vs, ev, h1, h2, h3, h4⟩ => ?_⟩
      subst ev
      have w' : Grow H G H' (upd G' p (.lst vs)) := ⟨fun a u ea => by
        by_cases hp : a = p
        · subst hp; rw [upd_same] at ea; rw [h3]; exact ea
        · rw [upd_ne hp] at ea; exact w.gh a u ea, w.g.trans (Ex.new h2), w.h, fun a u ea n => by
        rw [upd_ne (ne_of_none ea h1)]
        exact w.nw a u ea n⟩
      exact ⟨_, (S.grow w').setF hi (.lst (.inl (.inl upd_same)) (h4.to (Ex.new h2))), t, et, zc.mono w'.g q⟩
theorem s_lcO {x : Str} {i : Nat} {m : Option (List D)} {k : List D → Option T} {te : TE} (zc : ZC Z) (hi : i < δ.length) (h : PS X (.Assign [.Name x px] e pos) (tAsg te (gName i))) (ht : ∀ σ H Q, tR (rO X.K) X.K H0 G0 δ m σ H Q → te σ H Q) (hr : ∀ d, PSs X rest (tS Z X.K H0 G0 (put δ i (.ow d)) (k d))) :
    PSs X (.Assign [.Name x px] e pos :: rest) (tS Z X.K H0 G0 δ (bnd m k)) := by
  cases m with
  | none => exact PSs_imp (pss_cons ps_never (pss_never (sts := rest))) fun E σ H ⟨G, S, t, et, q⟩ => by cases et
  | some d =>
    exact PSs_imp (pss_cons h (hr d)) fun E σ H ⟨G, S, t, et, q⟩ => by
      refine ht σ H _ ⟨G, S, d, rfl, fun v H' G' w ⟨p, vs, ev, h1, h2, h3, h4⟩ => ?_⟩
      subst ev
      exact ⟨G', S.setO w hi h1 h2 h3 h4, t, et, zc.mono w.g q⟩
section
variable {elt iter : Expr} {ifs : List Expr} {scope : Scope} {spos py pt : Pos}
theorem q_lc1 {y : Str} {i j : Nat} {xn : Str} {ms : Option (List D)} {c : D → Option Bool} {f : D → Option D} (hc : X.calm = true) (hN : X.N.Nodup) (hy : X.N[i]? = some y) (hyl : X.env.scope.names.lookup y = some .local)
    (hsw : swapsWith (.ListComp elt [⟨.Name xn px, iter, ifs, 0⟩] scope pos) (some (.Name y py)) spos.line X.env = pure true) (hi : PI X (.Name xn px) iter (tI false (ρ1 X.K) X.K H0 G0 δ ms)) (ok : BlkOk X.N X.env.scope scope [(xn, j)])
    (hg : ∀ (s : Shared) (H : Hp) (C : Addr) (cl : List (Str × Addr)) (fp : List Addr), PG (X.blk s H scope (compEnvC scope cl C X.env) fp) (.Name xn px) (gName j))
    (ht : ∀ (s : Shared) (H : Hp) (C : Addr) (cl : List (Str × Addr)) (fp : List Addr) (d : D), PTs (X.blk s H scope (compEnvC scope cl C X.env) fp) ifs (tT X.K H0 G0 (put (wp1 δ j) j (.fr d)) (c d)))
    (he : ∀ (s : Shared) (H : Hp) (C : Addr) (cl : List (Str × Addr)) (fp : List Addr) (d : D), PE (X.blk s H scope (compEnvC scope cl C X.env) fp) elt (tR (rF X.K) X.K H0 G0 (put (wp1 δ j) j (.fr d)) (f d)))
    (hs : ∀ x, foldedSetIterable iter X.env x = pure x) :
    PS X (.Assign [.Name y py] (.ListComp elt [⟨.Name xn px, iter, ifs, 0⟩] scope pos) spos) (tAsg (tLc (tI false (ρ1 X.K) X.K H0 G0 δ ms) (gName j) (fun σ H Q => ∃ d, tT X.K H0 G0 (put (wp1 δ j) j (.fr d)) (c d) σ H Q) (fun σ H Q => ∃ d, tR (rF X.K) X.K H0 G0 (put (wp1 δ j) j (.fr d)) (f d) σ H Q) [j]) (gName i)) :=
  ps_setLc (i := i) (own := [(xn, j)]) (g := gName j) hc hN hy hyl hsw hi ok hg (fun s H C cl fp => PTs_ex fun d => ht s H C cl fp d) (fun s H C cl fp => PE_ex fun d => he s H C cl fp d) hs
theorem q_lc2 {y : Str} {l i j : Nat} {xn yn : Str} {ms : Option (List (D × D))} {kk : Nat} {pn : Pos} {c : D × D → Option Bool} {f : D × D → Option D} (hc : X.calm = true) (hN : X.N.Nodup) (hy : X.N[l]? = some y) (hyl : X.env.scope.names.lookup y = some .local)
    (hsw : swapsWith (.ListComp elt [⟨.Tuple [.Name xn px, .Name yn pn] kk pt, iter, ifs, 0⟩] scope pos) (some (.Name y py)) spos.line X.env = pure true) (hi : PI X (.Tuple [.Name xn px, .Name yn pn] kk pt) iter (tI false (ρ2 X.K) X.K H0 G0 δ ms)) (ok : BlkOk X.N X.env.scope scope [(xn, i), (yn, j)])
    (hg : ∀ (s : Shared) (H : Hp) (C : Addr) (cl : List (Str × Addr)) (fp : List Addr), PG (X.blk s H scope (compEnvC scope cl C X.env) fp) (.Tuple [.Name xn px, .Name yn pn] kk pt) (gTup X.K 2 (gCons (gName i) (gCons (gName j) gNil))))
    (ht : ∀ (s : Shared) (H : Hp) (C : Addr) (cl : List (Str × Addr)) (fp : List Addr) (d : D × D), PTs (X.blk s H scope (compEnvC scope cl C X.env) fp) ifs (tT X.K H0 G0 (put (put (wp2 δ i j) i (.fr d.1)) j (.fr d.2)) (c d)))
    (he : ∀ (s : Shared) (H : Hp) (C : Addr) (cl : List (Str × Addr)) (fp : List Addr) (d : D × D), PE (X.blk s H scope (compEnvC scope cl C X.env) fp) elt (tR (rF X.K) X.K H0 G0 (put (put (wp2 δ i j) i (.fr d.1)) j (.fr d.2)) (f d)))
    (hs : ∀ x, foldedSetIterable iter X.env x = pure x) :
    PS X (.Assign [.Name y py] (.ListComp elt [⟨.Tuple [.Name xn px, .Name yn pn] kk pt, iter, ifs, 0⟩] scope pos) spos) (tAsg (tLc (tI false (ρ2 X.K) X.K H0 G0 δ ms) (gTup X.K 2 (gCons (gName i) (gCons (gName j) gNil))) (fun σ H Q => ∃ d : D × D, tT X.K H0 G0 (put (put (wp2 δ i j) i (.fr d.1)) j (.fr d.2)) (c d) σ H Q) (fun σ H Q => ∃ d : D × D, tR (rF X.K) X.K H0 G0 (put (put (wp2 δ i j) i (.fr d.1)) j (.fr d.2)) (f d) σ H Q) [i, j]) (gName l)) :=
  ps_setLc (i := l) (own := [(xn, i), (yn, j)]) (g := gTup X.K 2 (gCons (gName i) (gCons (gName j) gNil))) hc hN hy hyl hsw hi ok hg (fun s H C cl fp => PTs_ex fun d => ht s H C cl fp d) (fun s H C cl fp => PE_ex fun d => he s H C cl fp d) hs
end
section
variable {elt iter : Expr} {ifs : List Expr} {scope : Scope} {spos py pt : Pos}
theorem s_lc1F {y : Str} {i j : Nat} {xn : Str} {ms : Option (List D)} {c : D → Option Bool} {f : D → Option D} {k : D → Option T} (zc : ZC Z) (hi' : i < δ.length) (hj : j < δ.length) (hc : X.calm = true) (hN : X.N.Nodup) (hy : X.N[i]? = some y) (hyl : X.env.scope.names.lookup y = some .local)
    (hsw : swapsWith (.ListComp elt [⟨.Name xn px, iter, ifs, 0⟩] scope pos) (some (.Name y py)) spos.line X.env = pure true) (hi : PI X (.Name xn px) iter (tI false (ρ1 X.K) X.K H0 G0 δ ms)) (ok : BlkOk X.N X.env.scope scope [(xn, j)])
    (hg : ∀ (s : Shared) (H : Hp) (C : Addr) (cl : List (Str × Addr)) (fp : List Addr), PG (X.blk s H scope (compEnvC scope cl C X.env) fp) (.Name xn px) (gName j))
    (ht : ∀ (s : Shared) (H : Hp) (C : Addr) (cl : List (Str × Addr)) (fp : List Addr) (d : D), PTs (X.blk s H scope (compEnvC scope cl C X.env) fp) ifs (tT X.K H0 G0 (put (wp1 δ j) j (.fr d)) (c d)))
    (he : ∀ (s : Shared) (H : Hp) (C : Addr) (cl : List (Str × Addr)) (fp : List Addr) (d : D), PE (X.blk s H scope (compEnvC scope cl C X.env) fp) elt (tR (rF X.K) X.K H0 G0 (put (wp1 δ j) j (.fr d)) (f d)))
    (hs : ∀ x, foldedSetIterable iter X.env x = pure x) (hr : ∀ d, PSs X rest (tS Z X.K H0 G0 (put δ i (.fr d)) (k d))) :
    PSs X (.Assign [.Name y py] (.ListComp elt [⟨.Name xn px, iter, ifs, 0⟩] scope pos) spos :: rest) (tS Z X.K H0 G0 δ (bnd (lD (lcG ms c f)) k)) :=
  s_lcF zc hi' (q_lc1 hc hN hy hyl hsw hi ok hg ht he hs) (fun _ _ _ h => lc_read1 hj h) hr
theorem s_lc2F {y : Str} {l i j : Nat} {xn yn : Str} {ms : Option (List (D × D))} {kk : Nat} {pn : Pos} {c : D × D → Option Bool} {f : D × D → Option D} {k : D → Option T} (zc : ZC Z) (hl : l < δ.length) (hi' : i < δ.length) (hj : j < δ.length) (hc : X.calm = true) (hN : X.N.Nodup) (hy : X.N[l]? = some y) (hyl : X.env.scope.names.lookup y = some .local)
    (hsw : swapsWith (.ListComp elt [⟨.Tuple [.Name xn px, .Name yn pn] kk pt, iter, ifs, 0⟩] scope pos) (some (.Name y py)) spos.line X.env = pure true) (hi : PI X (.Tuple [.Name xn px, .Name yn pn] kk pt) iter (tI false (ρ2 X.K) X.K H0 G0 δ ms)) (ok : BlkOk X.N X.env.scope scope [(xn, i), (yn, j)])
    (hg : ∀ (s : Shared) (H : Hp) (C : Addr) (cl : List (Str × Addr)) (fp : List Addr), PG (X.blk s H scope (compEnvC scope cl C X.env) fp) (.Tuple [.Name xn px, .Name yn pn] kk pt) (gTup X.K 2 (gCons (gName i) (gCons (gName j) gNil))))
    (ht : ∀ (s : Shared) (H : Hp) (C : Addr) (cl : List (Str × Addr)) (fp : List Addr) (d : D × D), PTs (X.blk s H scope (compEnvC scope cl C X.env) fp) ifs (tT X.K H0 G0 (put (put (wp2 δ i j) i (.fr d.1)) j (.fr d.2)) (c d)))
    (he : ∀ (s : Shared) (H : Hp) (C : Addr) (cl : List (Str × Addr)) (fp : List Addr) (d : D × D), PE (X.blk s H scope (compEnvC scope cl C X.env) fp) elt (tR (rF X.K) X.K H0 G0 (put (put (wp2 δ i j) i (.fr d.1)) j (.fr d.2)) (f d)))
    (hs : ∀ x, foldedSetIterable iter X.env x = pure x) (hr : ∀ d, PSs X rest (tS Z X.K H0 G0 (put δ l (.fr d)) (k d))) :
    PSs X (.Assign [.Name y py] (.ListComp elt [⟨.Tuple [.Name xn px, .Name yn pn] kk pt, iter, ifs, 0⟩] scope pos) spos :: rest) (tS Z X.K H0 G0 δ (bnd (lD (lcG ms c f)) k)) :=
  s_lcF zc hl (q_lc2 hc hN hy hyl hsw hi ok hg ht he hs) (fun _ _ _ h => lc_read2 hi' hj h) hr
theorem s_lc1O {y : Str} {i j : Nat} {xn : Str} {ms : Option (List D)} {c : D → Option Bool} {f : D → Option D} {k : List D → Option T} (zc : ZC Z) (hi' : i < δ.length) (hj : j < δ.length) (hc : X.calm = true) (hN : X.N.Nodup) (hy : X.N[i]? = some y) (hyl : X.env.scope.names.lookup y = some .local)
    (hsw : swapsWith (.ListComp elt [⟨.Name xn px, iter, ifs, 0⟩] scope pos) (some (.Name y py)) spos.line X.env = pure true) (hi : PI X (.Name xn px) iter (tI false (ρ1 X.K) X.K H0 G0 δ ms)) (ok : BlkOk X.N X.env.scope scope [(xn, j)])
    (hg : ∀ (s : Shared) (H : Hp) (C : Addr) (cl : List (Str × Addr)) (fp : List Addr), PG (X.blk s H scope (compEnvC scope cl C X.env) fp) (.Name xn px) (gName j))
    (ht : ∀ (s : Shared) (H : Hp) (C : Addr) (cl : List (Str × Addr)) (fp : List Addr) (d : D), PTs (X.blk s H scope (compEnvC scope cl C X.env) fp) ifs (tT X.K H0 G0 (put (wp1 δ j) j (.fr d)) (c d)))
    (he : ∀ (s : Shared) (H : Hp) (C : Addr) (cl : List (Str × Addr)) (fp : List Addr) (d : D), PE (X.blk s H scope (compEnvC scope cl C X.env) fp) elt (tR (rF X.K) X.K H0 G0 (put (wp1 δ j) j (.fr d)) (f d)))
    (hs : ∀ x, foldedSetIterable iter X.env x = pure x) (hr : ∀ d, PSs X rest (tS Z X.K H0 G0 (put δ i (.ow d)) (k d))) :
    PSs X (.Assign [.Name y py] (.ListComp elt [⟨.Name xn px, iter, ifs, 0⟩] scope pos) spos :: rest) (tS Z X.K H0 G0 δ (bnd (lcG ms c f) k)) :=
  s_lcO zc hi' (q_lc1 hc hN hy hyl hsw hi ok hg ht he hs) (fun _ _ _ h => lc_read1 hj h) hr
theorem s_lc2O {y : Str} {l i j : Nat} {xn yn : Str} {ms : Option (List (D × D))} {kk : Nat} {pn : Pos} {c : D × D → Option Bool} {f : D × D → Option D} {k : List D → Option T} (zc : ZC Z) (hl : l < δ.length) (hi' : i < δ.length) (hj : j < δ.length) (hc : X.calm = true) (hN : X.N.Nodup) (hy : X.N[l]? = some y) (hyl : X.env.scope.names.lookup y = some .local)
    (hsw : swapsWith (.ListComp elt [⟨.Tuple [.Name xn px, .Name yn pn] kk pt, iter, ifs, 0⟩] scope pos) (some (.Name y py)) spos.line X.env = pure true) (hi : PI X (.Tuple [.Name xn px, .Name yn pn] kk pt) iter (tI false (ρ2 X.K) X.K H0 G0 δ ms)) (ok : BlkOk X.N X.env.scope scope [(xn, i), (yn, j)])
    (hg : ∀ (s : Shared) (H : Hp) (C : Addr) (cl : List (Str × Addr)) (fp : List Addr), PG (X.blk s H scope (compEnvC scope cl C X.env) fp) (.Tuple [.Name xn px, .Name yn pn] kk pt) (gTup X.K 2 (gCons (gName i) (gCons (gName j) gNil))))
    (ht : ∀ (s : Shared) (H : Hp) (C : Addr) (cl : List (Str × Addr)) (fp : List Addr) (d : D × D), PTs (X.blk s H scope (compEnvC scope cl C X.env) fp) ifs (tT X.K H0 G0 (put (put (wp2 δ i j) i (.fr d.1)) j (.fr d.2)) (c d)))
    (he : ∀ (s : Shared) (H : Hp) (C : Addr) (cl : List (Str × Addr)) (fp : List Addr) (d : D × D), PE (X.blk s H scope (compEnvC scope cl C X.env) fp) elt (tR (rF X.K) X.K H0 G0 (put (put (wp2 δ i j) i (.fr d.1)) j (.fr d.2)) (f d)))
    (hs : ∀ x, foldedSetIterable iter X.env x = pure x) (hr : ∀ d, PSs X rest (tS Z X.K H0 G0 (put δ l (.ow d)) (k d))) :
    PSs X (.Assign [.Name y py] (.ListComp elt [⟨.Tuple [.Name xn px, .Name yn pn] kk pt, iter, ifs, 0⟩] scope pos) spos :: rest) (tS Z X.K H0 G0 δ (bnd (lcG ms c f) k)) :=
  s_lcO zc hl (q_lc2 hc hN hy hyl hsw hi ok hg ht he hs) (fun _ _ _ h => lc_read2 hi' hj h) hr
end
theorem s_drop {m : Option D} {k : Option T} (zc : ZC Z) (h : PE X e (tR (rF X.K) X.K H0 G0 δ m)) (hr : PSs X rest (tS Z X.K H0 G0 δ k)) (hs : swapsWith e none pos.line X.env = pure false) : PSs X (.Expr e pos :: rest) (tS Z X.K H0 G0 δ (bnd m fun _ => k)) := by
  cases m with
  | none => exact PSs_imp (pss_cons ps_never (pss_never (sts := rest))) fun E σ H ⟨G, S, t, et, q⟩ => by cases et
  | some d =>
    exact PSs_imp (pss_cons (ps_expr h hs) hr) fun E σ H ⟨G, S, t, et, q⟩ => ⟨G, S, d, rfl, fun v H' G' w r => ⟨G', S.grow w, t, et, zc.mono w.g q⟩⟩
/-! own lists changed -/
def appM (ds : List D) (d : D) : Option (List D) := grd (decide (ds.length < LN)) (some (ds ++ [d]))
theorem s_app {o : Expr} {i : Nat} {ds : List D} {m : Option D} {k : List D → Option T} {pa : Pos} (zc : ZC Z) (hn : PE X o (tVar i)) (hd : nth δ i = .ow ds) (h : PE X e (tR (rF X.K) X.K H0 G0 δ m)) (hr : ∀ d, PSs X rest (tS Z X.K H0 G0 (put δ i (.ow d)) (k d)))
    (bm : PE X (.Call (.Attribute o "append" pa) [e] [] p2) (tBM X.K "list" rAppend (tVar i) (tCons (tR (rF X.K) X.K H0 G0 δ m) tNil)) )
    (hs : swapsWith (.Call (.Attribute o "append" pa) [e] [] p2) none pos.line X.env = pure false) :
    PSs X (.Expr (.Call (.Attribute o "append" pa) [e] [] p2) pos :: rest) (tS Z X.K H0 G0 δ (bnd (m.bind (appM ds)) k)) := by
  have nv : ∀ {mm : Option T}, mm = none → PSs X (.Expr (.Call (.Attribute o "append" pa) [e] [] p2) pos :: rest) (tS Z X.K H0 G0 δ mm) := fun z =>
    PSs_imp (pss_cons ps_never (pss_never (sts := rest))) fun E σ H ⟨G, S, t, et, q⟩ => by rw [z] at et; cases et
  cases m with
  | none => exact nv rfl
  | some d =>
    cases hg : appM ds d with
    | none => exact nv (by rw [show ((some d : Option D).bind (appM ds)) = appM ds d from rfl, hg]; rfl)
    | some ds' =>
      obtain ⟨h1, h2⟩ := grd_some (show grd (decide (ds.length < LN)) (some (ds ++ [d])) = some ds' from hg)
      cases h2
      refine PSs_imp (pss_cons (ps_expr bm hs) (hr (ds ++ [d]))) fun E σ H ⟨G, S, t, et, q⟩ => ?_
      rw [show ((some d : Option D).bind (appM ds)) = appM ds d from rfl, hg] at et
      have o := S.ok i
      rw [hd] at o
      obtain ⟨p, vs, hp, k1, k2, k3, k4⟩ := o
      refine ⟨.ref p, hp, .inl ⟨rfl, vs, .inl (.inl k3)⟩, G, S, d, rfl, fun v H' G' w r => ?_⟩
      have k3' := w.h _ _ k3
      refine ⟨p, vs, v, rfl, rfl, k3', ln_lt (by rw [k4.length]; exact of_dec h1), ?_⟩
      exact ⟨G', (S.grow w).updO hd hp ((k4.to w.g).append (.cons r .nil)), t, et, zc.mono w.g q⟩
def popM (ds : List D) : Option (List D) := match ds with
  | [] => none
  | d :: r => some (d :: r).dropLast
theorem s_pop {o : Expr} {i : Nat} {ds : List D} {k : List D → Option T} {pa : Pos} (zc : ZC Z) (hn : PE X o (tVar i)) (hd : nth δ i = .ow ds) (hr : ∀ d, PSs X rest (tS Z X.K H0 G0 (put δ i (.ow d)) (k d)))
    (bm : PE X (.Call (.Attribute o "pop" pa) [] [] p2) (tBM0 X.K "list" rPop (tVar i))) (hs : swapsWith (.Call (.Attribute o "pop" pa) [] [] p2) none pos.line X.env = pure false) :
    PSs X (.Expr (.Call (.Attribute o "pop" pa) [] [] p2) pos :: rest) (tS Z X.K H0 G0 δ (bnd (popM ds) k)) := by
  cases ds with
  | nil => exact PSs_imp (pss_cons ps_never (pss_never (sts := rest))) fun E σ H ⟨G, S, t, et, q⟩ => by cases et
  | cons d r =>
    refine PSs_imp (pss_cons (ps_expr bm hs) (hr (d :: r).dropLast)) fun E σ H ⟨G, S, t, et, q⟩ => ?_
    have o := S.ok i
    rw [hd] at o
    obtain ⟨p, vs, hp, k1, k2, k3, k4⟩ := o
    have hl : vs.length = r.length + 1 := k4.length
    have hv : vs[vs.length - 1]? = some (vs[vs.length - 1]'(by omega)) := List.getElem?_eq_getElem _
    refine ⟨.ref p, hp, .inl ⟨rfl, vs, .inl (.inl k3)⟩, p, vs, _, rfl, rfl, k3, hv, ?_⟩
    exact ⟨G, S.updO hd hp k4.dropLast, t, et, q⟩
/-- own[i] = value -/
def setM (ds : List D) (ix v : D) : Option (List D) := match ix with
  | .int i => (ixN ds.length i).map fun j => ds.set j v
  | _ => none
theorem s_sub {o : Expr} {i : Nat} {ds : List D} {m n : Option D} {k : List D → Option T} (zc : ZC Z) (hn : PE X o (tVar i)) (hd : nth δ i = .ow ds) (h : PE X e (tR (rF X.K) X.K H0 G0 δ m)) (hx : PE X a (tR (rV X.K) X.K H0 G0 δ n)) (hr : ∀ d, PSs X rest (tS Z X.K H0 G0 (put δ i (.ow d)) (k d)))
    (hs : swapsWithSole [.Subscript o a px] e pos.line X.env = pure false) (hw : swappedStores [.Subscript o a px] e X.env = pure none)
    (h1 : (assignEach [.Subscript o a px] X.env).map (·.2) = [assign (.Subscript o a px) X.env])
    (ha : ∀ v, assign (.Subscript o a px) X.env v = (do
      let ov ← holding [v] (eval o X.env)
      let iv ← holding [v, ov] (eval a X.env)
      standAt px
      holding [v, ov, iv] (setItem ov iv v)
      release [v, ov, iv] [])) :
    PSs X (.Assign [.Subscript o a px] e pos :: rest) (tS Z X.K H0 G0 δ (bnd (b2 (fun v ix => setM ds ix v) m n) k)) := by
  have nv : ∀ {mm : Option T}, mm = none → PSs X (.Assign [.Subscript o a px] e pos :: rest) (tS Z X.K H0 G0 δ mm) := fun z =>
    PSs_imp (pss_cons ps_never (pss_never (sts := rest))) fun E σ H ⟨G, S, t, et, q⟩ => by rw [z] at et; cases et
  cases m with
  | none => exact nv rfl
  | some v =>
    cases n with
    | none => exact nv rfl
    | some ix =>
      cases hg : setM ds ix v with
      | none => exact nv (by rw [b2_ss, hg]; rfl)
      | some ds' =>
        cases ix with
        | int z =>
          have hz : (ixN ds.length z).map (fun j => ds.set j v) = some ds' := hg
          cases hj : ixN ds.length z with
          | none => rw [hj] at hz; cases hz
          | some j =>
            rw [hj] at hz
            cases hz
            refine PSs_imp (pss_cons (ps_asg h (pg_sub hn hx set_list ha) hs hw h1) (hr (ds.set j v))) fun E σ H ⟨G, S, t, et, q⟩ => ?_
            rw [b2_ss, hg] at et
            refine ⟨G, S, v, rfl, fun x H1 G1 w r => ?_⟩
            have S1 := S.grow w
            have o := S1.ok i
            rw [hd] at o
            obtain ⟨p, vs, hp, k1, k2, k3, k4⟩ := o
            refine ⟨.ref p, hp, G1, S1, .int z, rfl, fun y H2 G2 w2 r2 => ?_⟩
            refine ⟨p, vs, z, j, rfl, r2.int, w2.h _ _ k3, by rw [k4.length]; exact hj, ?_⟩
            exact ⟨G2, (S1.grow w2).updO hd hp ((k4.to w2.g).set (r.to w2.g) j), t, et, zc.mono (w.trans w2).g q⟩
        | _ => exact nv (by rw [b2_ss]; rfl)
/-! if -/
def ifM (c : Option Bool) (m n : Option T) : Option T := c.bind fun b => if b then m else n
/-- the first branch hands back -/
theorem s_ifQ {α : Type} {R : Rel α} {c : Expr} {A : List Stmt} {mc : Option Bool} {m n : Option α} (hc : PT X c (tT X.K H0 G0 δ mc)) (ha : PSs X A (tS (zQ R) X.K H0 G0 δ m)) (hr : PSs X rest (tS (zQ R) X.K H0 G0 δ n)) : PSs X (.If c A [] pos :: rest) (tS (zQ R) X.K H0 G0 δ (ifM mc m n)) := by
  cases mc with
  | none => exact PSs_imp (pss_cons ps_never (pss_never (sts := rest))) fun E σ H ⟨G, S, t, et, q⟩ => by cases et
  | some b =>
    refine PSs_imp (pss_cons (ps_if hc ha pss_nil) hr) fun E σ H ⟨G, S, t, et, q⟩ => ⟨G, S, b, rfl, fun H' G' w => ?_⟩
    cases b with
    | true => exact ⟨G', S.grow w, t, et, ZC.mono w.g q⟩
    | false => exact ⟨G', S.grow w, t, et, ZC.mono w.g q⟩
theorem s_ifQM {S α : Type} {R : Rel α} {enc : S → En} {c : Expr} {A : List Stmt} {mc : Option Bool} {m : Option α} {n : Option (Fl S α)} (hc : PT X c (tT X.K H0 G0 δ mc)) (ha : PSs X A (tS (zQ R) X.K H0 G0 δ m)) (hr : PSs X rest (tS (zM R X.K enc) X.K H0 G0 δ n)) : PSs X (.If c A [] pos :: rest) (tS (zM R X.K enc) X.K H0 G0 δ (ifM mc (m.map .rt) n)) := by
  cases mc with
  | none => exact PSs_imp (pss_cons ps_never (pss_never (sts := rest))) fun E σ H ⟨G, S, t, et, q⟩ => by cases et
  | some b =>
    refine PSs_imp (pss_cons (ps_if hc ha pss_nil) hr) fun E σ H ⟨G, S, t, et, q⟩ => ⟨G, S, b, rfl, fun H' G' w => ?_⟩
    cases b with
    | true =>
      cases m with
      | none => cases et
      | some d =>
        cases et
        exact ⟨G', S.grow w, d, rfl, q⟩
    | false => exact ⟨G', S.grow w, t, et, ZC.mono w.g q⟩
/-- both branches hand back -/
theorem s_ifQQ {α : Type} {R : Rel α} {c : Expr} {A B : List Stmt} {mc : Option Bool} {m n : Option α} (hc : PT X c (tT X.K H0 G0 δ mc)) (ha : PSs X A (tS (zQ R) X.K H0 G0 δ m)) (hb : PSs X B (tS (zQ R) X.K H0 G0 δ n)) : PSs X (.If c A B pos :: rest) (tS (zQ R) X.K H0 G0 δ (ifM mc m n)) := by
  cases mc with
  | none => exact PSs_imp (pss_cons ps_never (pss_never (sts := rest))) fun E σ H ⟨G, S, t, et, q⟩ => by cases et
  | some b =>
    refine PSs_imp (pss_cons (ps_if hc ha hb) (pss_never (sts := rest))) fun E σ H ⟨G, S, t, et, q⟩ => ⟨G, S, b, rfl, fun H' G' w => ?_⟩
    cases b with
    | true => exact ⟨G', S.grow w, t, et, ZC.mono w.g q⟩
    | false => exact ⟨G', S.grow w, t, et, ZC.mono w.g q⟩
/-- both branches go on -/
theorem s_ifN {S : Type} {enc : S → En} {c : Expr} {A B : List Stmt} {mc : Option Bool} {m n : Option S} {k : S → Option T} (zc : ZC Z) (hc : PT X c (tT X.K H0 G0 δ mc)) (ha : PSs X A (tS (zN X.K enc) X.K H0 G0 δ m)) (hb : PSs X B (tS (zN X.K enc) X.K H0 G0 δ n)) (hr : ∀ s, PSs X rest (tS Z X.K H0 G0 (enc s) (k s))) :
    PSs X (.If c A B pos :: rest) (tS Z X.K H0 G0 δ (bnd (ifM mc m n) k)) := by
  cases hm : ifM mc m n with
  | none => exact PSs_imp (pss_cons ps_never (pss_never (sts := rest))) fun E σ H ⟨G, S, t, et, q⟩ => by cases et
  | some s =>
    cases mc with
    | none => cases hm
    | some b =>
      refine PSs_imp (pss_cons (ps_if hc ha hb) (hr s)) fun E σ H ⟨G, S, t, et, q⟩ => ⟨G, S, b, rfl, fun H' G' w => ?_⟩
      cases b with
      | true => exact ⟨G', S.grow w, s, hm, fun σ2 H2 G2 e2 S2 => ⟨G2, S2, t, et, zc.mono (w.g.trans e2) q⟩⟩
      | false => exact ⟨G', S.grow w, s, hm, fun σ2 H2 G2 e2 S2 => ⟨G2, S2, t, et, zc.mono (w.g.trans e2) q⟩⟩
/-- some ways hand back, some go on -/
def flQ {S α : Type} (k : S → Option α) : Fl S α → Option α
  | .nx s => k s
  | .rt d => some d
def flM {S S' α : Type} (k : S → Option (Fl S' α)) : Fl S α → Option (Fl S' α)
  | .nx s => k s
  | .rt d => some (.rt d)
theorem s_ifM {S α : Type} {R : Rel α} {enc : S → En} {c : Expr} {A B : List Stmt} {mc : Option Bool} {m n : Option (Fl S α)} {k : S → Option α} (hc : PT X c (tT X.K H0 G0 δ mc)) (ha : PSs X A (tS (zM R X.K enc) X.K H0 G0 δ m)) (hb : PSs X B (tS (zM R X.K enc) X.K H0 G0 δ n)) (hr : ∀ s, PSs X rest (tS (zQ R) X.K H0 G0 (enc s) (k s))) :
    PSs X (.If c A B pos :: rest) (tS (zQ R) X.K H0 G0 δ (bnd (ifM mc m n) (flQ k))) := by
  cases hm : ifM mc m n with
  | none => exact PSs_imp (pss_cons ps_never (pss_never (sts := rest))) fun E σ H ⟨G, S, t, et, q⟩ => by cases et
  | some f =>
    cases mc with
    | none => cases hm
    | some b =>
      cases f with
      | nx s =>
        refine PSs_imp (pss_cons (ps_if hc ha hb) (hr s)) fun E σ H ⟨G, S, t, et, q⟩ => ⟨G, S, b, rfl, fun H' G' w => ?_⟩
        cases b with
        | true => exact ⟨G', S.grow w, _, hm, fun σ2 H2 G2 e2 S2 => ⟨G2, S2, t, et, ZC.mono (w.g.trans e2) q⟩⟩
        | false => exact ⟨G', S.grow w, _, hm, fun σ2 H2 G2 e2 S2 => ⟨G2, S2, t, et, ZC.mono (w.g.trans e2) q⟩⟩
      | rt d =>
        refine PSs_imp (pss_cons (ps_if hc ha hb) (pss_never (sts := rest))) fun E σ H ⟨G, S, t, et, q⟩ => ⟨G, S, b, rfl, fun H' G' w => ?_⟩
        cases et
        cases b with
        | true => exact ⟨G', S.grow w, _, hm, fun v H2 G2 w2 r2 => q v H2 G2 w2 r2⟩
        | false => exact ⟨G', S.grow w, _, hm, fun v H2 G2 w2 r2 => q v H2 G2 w2 r2⟩
theorem s_ifMM {S S' α : Type} {R : Rel α} {enc : S → En} {enc' : S' → En} {c : Expr} {A B : List Stmt} {mc : Option Bool} {m n : Option (Fl S α)} {k : S → Option (Fl S' α)} (hc : PT X c (tT X.K H0 G0 δ mc)) (ha : PSs X A (tS (zM R X.K enc) X.K H0 G0 δ m)) (hb : PSs X B (tS (zM R X.K enc) X.K H0 G0 δ n)) (hr : ∀ s, PSs X rest (tS (zM R X.K enc') X.K H0 G0 (enc s) (k s))) :
    PSs X (.If c A B pos :: rest) (tS (zM R X.K enc') X.K H0 G0 δ (bnd (ifM mc m n) (flM k))) := by
  cases hm : ifM mc m n with
  | none => exact PSs_imp (pss_cons ps_never (pss_never (sts := rest))) fun E σ H ⟨G, S, t, et, q⟩ => by cases et
  | some f =>
    cases mc with
    | none => cases hm
    | some b =>
      cases f with
      | nx s =>
        refine PSs_imp (pss_cons (ps_if hc ha hb) (hr s)) fun E σ H ⟨G, S, t, et, q⟩ => ⟨G, S, b, rfl, fun H' G' w => ?_⟩
        cases b with
        | true => exact ⟨G', S.grow w, _, hm, fun σ2 H2 G2 e2 S2 => ⟨G2, S2, t, et, ZC.mono (w.g.trans e2) q⟩⟩
        | false => exact ⟨G', S.grow w, _, hm, fun σ2 H2 G2 e2 S2 => ⟨G2, S2, t, et, ZC.mono (w.g.trans e2) q⟩⟩
      | rt d =>
        refine PSs_imp (pss_cons (ps_if hc ha hb) (pss_never (sts := rest))) fun E σ H ⟨G, S, t, et, q⟩ => ⟨G, S, b, rfl, fun H' G' w => ?_⟩
        cases et
        cases b with
        | true => exact ⟨G', S.grow w, _, hm, fun v H2 G2 w2 r2 => q v H2 G2 w2 r2⟩
        | false => exact ⟨G', S.grow w, _, hm, fun v H2 G2 w2 r2 => q v H2 G2 w2 r2⟩
end
end Bd
/-! Bd6: loops, defs. -/
namespace Bd
open PySem PySem.Spec PyProof.Rows L2 Evl
def foldO {ι S : Type} (f : ι → S → Option S) : List ι → S → Option S
  | [], s => some s
  | d :: r, s => (f d s).bind fun s' => foldO f r s'
def foldF {ι S α : Type} (f : ι → S → Option (Fl S α)) : List ι → S → Option (Fl S α)
  | [], s => some (.nx s)
  | d :: r, s => (f d s).bind fun o => match o with
    | .nx s' => foldF f r s'
    | .rt a => some (.rt a)
def whileO {S : Type} (c : S → Option Bool) (f : S → Option S) : Nat → S → Option S
  | 0, _ => none
  | n + 1, s => (c s).bind fun b => if b then (f s).bind fun s' => whileO c f n s' else some s
def whileF {S α : Type} (c : S → Option Bool) (f : S → Option (Fl S α)) : Nat → S → Option (Fl S α)
  | 0, _ => none
  | n + 1, s => (c s).bind fun b => if b then (f s).bind fun o => (match o with
    | .nx s' => whileF c f n s'
    | .rt a => some (.rt a)) else some (.nx s)
theorem foldF_O {ι S α : Type} {f : ι → S → Option S} : ∀ (ds : List ι) (s : S), foldF (α := α) (fun d s => (f d s).map .nx) ds s = (foldO f ds s).map .nx
  | [], _ => rfl
  | d :: r, s => by
    unfold foldF foldO
    cases f d s with
    | none => rfl
    | some s' => exact foldF_O r s'
theorem whileF_O {S α : Type} {c : S → Option Bool} {f : S → Option S} : ∀ (n : Nat) (s : S), whileF (α := α) c (fun s => (f s).map .nx) n s = (whileO c f n s).map .nx
  | 0, _ => rfl
  | n + 1, s => by
    unfold whileF whileO
    cases c s with
    | none => rfl
    | some b =>
      cases b with
      | false => rfl
      | true =>
        show ((f s).map Fl.nx).bind _ = ((f s).bind _).map Fl.nx
        cases f s with
        | none => rfl
        | some s' => exact whileF_O n s'
theorem PS_imp {X : Cx} {e : Stmt} {t t' : TS} (h : PS X e t) (k : ∀ E σ H, t' E σ H → t E σ H) : PS X e t' := ⟨fun pins s σ H Q I w => h.run pins s σ H Q I (k Q σ H w)⟩
section
variable {X : Cx} {H0 G0 : Hp} {δ : En} {e a b tg : Expr} {pos p2 px : Pos} {st : Stmt} {rest : List Stmt} {T : Type} {Z : Zt T}
theorem s_seqN {S : Type} {enc : S → En} {m : Option S} {k : S → Option T} (zc : ZC Z) (h : PS X st (tS (zN X.K enc) X.K H0 G0 δ m)) (hr : ∀ s, PSs X rest (tS Z X.K H0 G0 (enc s) (k s))) : PSs X (st :: rest) (tS Z X.K H0 G0 δ (bnd m k)) := by
  cases m with
  | none => exact PSs_imp (pss_cons ps_never (pss_never (sts := rest))) fun E σ H ⟨G, S, t, et, q⟩ => by cases et
  | some s => exact PSs_imp (pss_cons h (hr s)) fun E σ H ⟨G, S, t, et, q⟩ => ⟨G, S, s, rfl, fun σ' H' G' eg S' => ⟨G', S', t, et, zc.mono eg q⟩⟩
theorem s_seqQ {S α : Type} {R : Rel α} {enc : S → En} {m : Option (Fl S α)} {k : S → Option α} (h : PS X st (tS (zM R X.K enc) X.K H0 G0 δ m)) (hr : ∀ s, PSs X rest (tS (zQ R) X.K H0 G0 (enc s) (k s))) : PSs X (st :: rest) (tS (zQ R) X.K H0 G0 δ (bnd m (flQ k))) := by
  cases m with
  | none => exact PSs_imp (pss_cons ps_never (pss_never (sts := rest))) fun E σ H ⟨G, S, t, et, q⟩ => by cases et
  | some f =>
    cases f with
    | nx s => exact PSs_imp (pss_cons h (hr s)) fun E σ H ⟨G, S, t, et, q⟩ => ⟨G, S, .nx s, rfl, fun σ' H' G' eg S' => ⟨G', S', t, et, q⟩⟩
    | rt d =>
      exact PSs_imp (pss_cons h (pss_never (sts := rest))) fun E σ H ⟨G, S, t, et, q⟩ => by
        cases et
        exact ⟨G, S, .rt d, rfl, q⟩
theorem s_seqM {S S' α : Type} {R : Rel α} {enc : S → En} {enc' : S' → En} {m : Option (Fl S α)} {k : S → Option (Fl S' α)} (h : PS X st (tS (zM R X.K enc) X.K H0 G0 δ m)) (hr : ∀ s, PSs X rest (tS (zM R X.K enc') X.K H0 G0 (enc s) (k s))) : PSs X (st :: rest) (tS (zM R X.K enc') X.K H0 G0 δ (bnd m (flM k))) := by
  cases m with
  | none => exact PSs_imp (pss_cons ps_never (pss_never (sts := rest))) fun E σ H ⟨G, S, t, et, q⟩ => by cases et
  | some f =>
    cases f with
    | nx s => exact PSs_imp (pss_cons h (hr s)) fun E σ H ⟨G, S, t, et, q⟩ => ⟨G, S, .nx s, rfl, fun σ' H' G' eg S' => ⟨G', S', t, et, ZC.mono eg q⟩⟩
    | rt d =>
      exact PSs_imp (pss_cons h (pss_never (sts := rest))) fun E σ H ⟨G, S, t, et, q⟩ => by
        cases et
        exact ⟨G, S, .rt d, rfl, q⟩
/-- the heart of a for -/
theorem for_go {ι S α : Type} {ρ : ι → V → Hp → Prop} {K : PySem.W.Frag} {R : Rel α} {g : TG} {enc : S → En} {δx : ι → S → En} {ms : Option (List ι)} {f : ι → S → Option (Fl S α)} {s0 : S} (mask : List Bool)
    (h0 : fg mask δ = enc s0) (gT : ∀ d s x σ H G (Rr : L2.St → Hp → Prop), S8 K H0 G0 (enc s) σ H G → ρ d x G → (∀ σ2, S8 K H0 G0 (δx d s) σ2 H G → Rr σ2 H) → g x σ H Rr)
    (E : Ends) (σ : L2.St) (H : Hp) (h : tS (zM R K enc) K H0 G0 δ (bnd ms fun ds => foldF f ds s0) E σ H) :
    tFor (tI true ρ K H0 G0 δ ms) g (fun E' σ' H' => ∃ d s, tS (zM R K enc) K H0 G0 (δx d s) (f d s) E' σ' H') E σ H := by
  obtain ⟨G, S, fl, efl, q⟩ := h
  cases ms with
  | none => cases efl
  | some ds =>
    have efl : foldF f ds s0 = some fl := efl
    refine ⟨G, S, ds, rfl, fun J H1 G1 w src0 => ?_⟩
    have src : SrcOk ρ H0 G1 J ds := src0
    have q1 := ZC.mono w.g q
    refine ⟨fun i m σ H => m = ds.length - i ∧ i ≤ ds.length ∧ ∃ G s, Ex G1 G ∧ S8 K H0 G0 (enc s) σ H G ∧ foldF f (ds.drop i) s = some fl, ⟨_, rfl, Nat.zero_le _, G1, s0, Ex.refl _, h0 ▸ (S.grow w).fg mask, efl⟩, ?_⟩
    rintro i m σ2 H2 ⟨rfl, hi, G2, s, eg, S2, hf⟩
    obtain ⟨sg, ss⟩ := src H2 G2 eg S2.gh S2.gr.h i
    by_cases hlt : i < ds.length
    · have hd : ds[i]? = some ds[i] := List.getElem?_eq_getElem hlt
      rw [List.drop_eq_getElem_cons hlt] at hf
      obtain ⟨go, yl⟩ := sg _ hd
      refine .inr ⟨go, fun σ' H' => ∃ G s, Ex G1 G ∧ S8 K H0 G0 (enc s) σ' H' G ∧ foldF f (ds.drop (i + 1)) s = some fl, fun σ' H' ⟨G', s', a1, a2, a3⟩ => ⟨ds.length - (i + 1), by omega, rfl, hlt, G', s', a1, a2, a3⟩, fun x H' hy => ?_⟩
      obtain ⟨G', w', hρ⟩ := yl x H' hy
      refine gT ds[i] s x σ2 H' G' _ (S2.grow w') hρ fun σ3 S3 => ?_
      unfold foldF at hf
      cases hb : f ds[i] s with
      | none => rw [hb] at hf; cases hf
      | some o =>
        rw [hb] at hf
        refine ⟨ds[i], s, G', S3, o, hb, ?_⟩
        cases o with
        | nx s' => exact fun σ4 H4 G4 e4 S4 => ⟨G4, s', (eg.trans w'.g).trans e4, S4, hf⟩
        | rt d =>
          have e : fl = .rt d := by
            have hf : some (Fl.rt d) = some fl := hf
            exact (Option.some.inj hf).symm
          subst e
          exact fun v H4 G4 w4 r4 => q1 v H4 G4 w4 r4
    · have ei : i = ds.length := by omega
      subst ei
      rw [List.drop_length] at hf
      have e : fl = .nx s := by
        have hf : some (Fl.nx s) = some fl := hf
        exact (Option.some.inj hf).symm
      subst e
      exact .inl ⟨ss (Nat.le_refl _), q1 σ2 H2 G2 eg S2⟩
theorem PSs_ex {ι κ : Type} {sts : List Stmt} {t : ι → κ → TS} (h : ∀ d s, PSs X sts (t d s)) : PSs X sts (fun E σ H => ∃ d s, t d s E σ H) := ⟨fun pins s σ H Q I ⟨d, s', w⟩ => (h d s').run pins s σ H Q I w⟩
section
variable {iter : Expr} {body : List Stmt}
theorem p_for {S α : Type} {R : Rel α} {x : Str} {i : Nat} {enc : S → En} {ms : Option (List D)} {f : D → S → Option (Fl S α)} {s0 : S} (mask : List Bool) (N : Nm X x i) (hi : ∀ s, i < (enc s).length) (hp : PassesOwn (model X.prog X.w) X.A X.env X.xe) (hc : X.calm = true) (hit : PI X (.Name x px) iter (tI true (ρ1 X.K) X.K H0 G0 δ ms)) (h0 : fg mask δ = enc s0)
    (hb : ∀ d s, PSs X body (tS (zM R X.K enc) X.K H0 G0 (put (enc s) i (.fr d)) (f d s))) (hs : ∀ x, foldedSetIterable iter X.env x = pure x) :
    PS X (.For (.Name x px) iter body [] pos) (tS (zM R X.K enc) X.K H0 G0 δ (bnd ms fun ds => foldF f ds s0)) :=
  PS_imp (ps_for hp hc hit (pg_name N.nd N.ix N.lc N.fn) (PSs_ex hb) hs) fun E σ H h => for_go (ρ := ρ1 X.K) (g := gName i) (δx := fun d s => put (enc s) i (.fr d)) mask h0 (fun d s x σ H G Rr S hx k => k _ (S.setF (hi s) hx)) E σ H h
theorem p_for2 {S α : Type} {R : Rel α} {x y : Str} {i j : Nat} {py pt : Pos} {kk : Nat} {enc : S → En} {ms : Option (List (D × D))} {f : D × D → S → Option (Fl S α)} {s0 : S} (mask : List Bool) (Nx : Nm X x i) (Ny : Nm X y j) (hi : ∀ s, i < (enc s).length) (hj : ∀ s, j < (enc s).length) (hp : PassesOwn (model X.prog X.w) X.A X.env X.xe) (hc : X.calm = true)
    (hit : PI X (.Tuple [.Name x px, .Name y py] kk pt) iter (tI true (ρ2 X.K) X.K H0 G0 δ ms)) (h0 : fg mask δ = enc s0)
    (hb : ∀ (d : D × D) s, PSs X body (tS (zM R X.K enc) X.K H0 G0 (put (put (enc s) i (.fr d.1)) j (.fr d.2)) (f d s))) (hs : ∀ x, foldedSetIterable iter X.env x = pure x)
    (hn : (assignEach [.Name x px, .Name y py] X.env).length = 2) (hst : (assignEach [.Name x px, .Name y py] X.env).findIdx? (·.1) = none)
    (h1 : (assignEach [.Name x px, .Name y py] X.env).map (·.2) = assign (.Name x px) X.env :: (assignEach [.Name y py] X.env).map (·.2)) (h2 : (assignEach [.Name y py] X.env).map (·.2) = assign (.Name y py) X.env :: (assignEach [] X.env).map (·.2)) :
    PS X (.For (.Tuple [.Name x px, .Name y py] kk pt) iter body [] pos) (tS (zM R X.K enc) X.K H0 G0 δ (bnd ms fun ds => foldF f ds s0)) :=
  PS_imp (ps_for hp hc hit (pg_tup hc (pgs_cons (pg_name Nx.nd Nx.ix Nx.lc Nx.fn) (pgs_cons (pg_name Ny.nd Ny.ix Ny.lc Ny.fn) pgs_nil (hs := h2)) (hs := h1)) hn hst) (PSs_ex hb) hs) fun E σ H h => for_go (ρ := ρ2 X.K) (g := gTup X.K 2 (gCons (gName i) (gCons (gName j) gNil))) (δx := fun d s => put (put (enc s) i (.fr d.1)) j (.fr d.2)) mask h0 (fun d s x σ H G Rr S ⟨T, va, vb, ex, hT, ha, hb⟩ k => by
    refine ⟨T, [va, vb], ex, ex_t S.gh hT, rfl, va, [vb], rfl, vb, [], rfl, rfl, ?_⟩
    exact k _ ((S.setF (hi s) ha).setF (by rw [put_length]; exact hj s) hb)) E σ H h
/-- the body goes on at every end -/
theorem toM {S α : Type} {R : Rel α} {enc : S → En} {δ' : En} {sts : List Stmt} {m : Option S} (h : PSs X sts (tS (zN X.K enc) X.K H0 G0 δ' m)) : PSs X sts (tS (zM (α := α) R X.K enc) X.K H0 G0 δ' (m.map .nx)) :=
  PSs_imp h fun E σ H ⟨G, S, t, et, q⟩ => by
    cases m with
    | none => cases et
    | some s =>
      cases et
      exact ⟨G, S, s, rfl, q⟩
theorem toN {S : Type} {R : Rel Empty} {enc : S → En} {m : Option S} {m' : Option (Fl S Empty)} (h : PS X st (tS (zM R X.K enc) X.K H0 G0 δ m')) (e : m' = m.map .nx) : PS X st (tS (zN X.K enc) X.K H0 G0 δ m) :=
  PS_imp h fun E σ H ⟨G, S, t, et, q⟩ => by
    subst et
    exact ⟨G, S, .nx t, e, q⟩
abbrev rE : Rel Empty := fun _ _ _ _ _ => False
theorem p_forN {S : Type} {x : Str} {i : Nat} {enc : S → En} {ms : Option (List D)} {f : D → S → Option S} {s0 : S} (mask : List Bool) (N : Nm X x i) (hi : ∀ s, i < (enc s).length) (hp : PassesOwn (model X.prog X.w) X.A X.env X.xe) (hc : X.calm = true) (hit : PI X (.Name x px) iter (tI true (ρ1 X.K) X.K H0 G0 δ ms)) (h0 : fg mask δ = enc s0)
    (hb : ∀ d s, PSs X body (tS (zN X.K enc) X.K H0 G0 (put (enc s) i (.fr d)) (f d s))) (hs : ∀ x, foldedSetIterable iter X.env x = pure x) :
    PS X (.For (.Name x px) iter body [] pos) (tS (zN X.K enc) X.K H0 G0 δ (bnd ms fun ds => foldO f ds s0)) :=
  toN (R := rE) (p_for mask N hi hp hc hit h0 (fun d s => toM (hb d s)) hs) (by
    cases ms with
    | none => rfl
    | some ds => exact foldF_O ds s0)
theorem p_forN2 {S : Type} {x y : Str} {i j : Nat} {py pt : Pos} {kk : Nat} {enc : S → En} {ms : Option (List (D × D))} {f : D × D → S → Option S} {s0 : S} (mask : List Bool) (Nx : Nm X x i) (Ny : Nm X y j) (hi : ∀ s, i < (enc s).length) (hj : ∀ s, j < (enc s).length) (hp : PassesOwn (model X.prog X.w) X.A X.env X.xe) (hc : X.calm = true)
    (hit : PI X (.Tuple [.Name x px, .Name y py] kk pt) iter (tI true (ρ2 X.K) X.K H0 G0 δ ms)) (h0 : fg mask δ = enc s0)
    (hb : ∀ (d : D × D) s, PSs X body (tS (zN X.K enc) X.K H0 G0 (put (put (enc s) i (.fr d.1)) j (.fr d.2)) (f d s))) (hs : ∀ x, foldedSetIterable iter X.env x = pure x)
    (hn : (assignEach [.Name x px, .Name y py] X.env).length = 2) (hst : (assignEach [.Name x px, .Name y py] X.env).findIdx? (·.1) = none)
    (h1 : (assignEach [.Name x px, .Name y py] X.env).map (·.2) = assign (.Name x px) X.env :: (assignEach [.Name y py] X.env).map (·.2)) (h2 : (assignEach [.Name y py] X.env).map (·.2) = assign (.Name y py) X.env :: (assignEach [] X.env).map (·.2)) :
    PS X (.For (.Tuple [.Name x px, .Name y py] kk pt) iter body [] pos) (tS (zN X.K enc) X.K H0 G0 δ (bnd ms fun ds => foldO f ds s0)) :=
  toN (R := rE) (p_for2 mask Nx Ny hi hj hp hc hit h0 (fun d s => toM (hb d s)) hs hn hst h1 h2) (by
    cases ms with
    | none => rfl
    | some ds => exact foldF_O ds s0)
theorem PT_ex {ι : Type} {c : Expr} {t : ι → TT} (h : ∀ d, PT X c (t d)) : PT X c (fun σ H Q => ∃ d, t d σ H Q) := ⟨fun pins s σ H Q I ⟨d, w⟩ => (h d).run pins s σ H Q I w⟩
theorem PSs_ex1 {ι : Type} {sts : List Stmt} {t : ι → TS} (h : ∀ d, PSs X sts (t d)) : PSs X sts (fun E σ H => ∃ d, t d E σ H) := ⟨fun pins s σ H Q I ⟨d, w⟩ => (h d).run pins s σ H Q I w⟩
theorem p_while {S α : Type} {R : Rel α} {c : Expr} {enc : S → En} {cf : S → Option Bool} {f : S → Option (Fl S α)} {s0 : S} (n : Nat) (mask : List Bool) (hp : PassesOwn (model X.prog X.w) X.A X.env X.xe) (h0 : fg mask δ = enc s0) (ht : ∀ s, PT X c (tT X.K H0 G0 (enc s) (cf s)))
    (hb : ∀ s, PSs X body (tS (zM R X.K enc) X.K H0 G0 (enc s) (f s))) : PS X (.While c body [] pos) (tS (zM R X.K enc) X.K H0 G0 δ (whileF cf f n s0)) :=
  PS_imp (ps_while hp (PT_ex ht) (PSs_ex1 hb)) fun E σ H ⟨G, Sg, fl, efl, q⟩ => by
    refine ⟨fun m σ H => ∃ G1 s, Ex G G1 ∧ S8 X.K H0 G0 (enc s) σ H G1 ∧ whileF cf f m s = some fl, ⟨n, G, s0, Ex.refl _, h0 ▸ Sg.fg mask, efl⟩, ?_⟩
    rintro m σ2 H2 ⟨G2, s, eg, S2, hw⟩
    cases m with
    | zero => cases hw
    | succ m =>
      unfold whileF at hw
      cases hcs : cf s with
      | none => rw [hcs] at hw; cases hw
      | some b =>
        rw [hcs] at hw
        refine ⟨s, G2, S2, b, hcs, fun H3 G3 w3 => ?_⟩
        cases b with
        | false =>
          have e : fl = .nx s := by
            have hw : some (Fl.nx s) = some fl := hw
            exact (Option.some.inj hw).symm
          subst e
          exact q σ2 H3 G3 (eg.trans w3.g) (S2.grow w3)
        | true =>
          rw [if_pos rfl]
          refine ⟨fun σ' H' => ∃ G1 s, Ex G G1 ∧ S8 X.K H0 G0 (enc s) σ' H' G1 ∧ whileF cf f m s = some fl, fun σ' H' h' => ⟨m, Nat.lt_succ_self m, h'⟩, ?_⟩
          cases hfs : f s with
          | none =>
            have hw : ((f s).bind _ : Option (Fl S α)) = some fl := hw
            rw [hfs] at hw; cases hw
          | some o =>
            have hw : ((f s).bind _ : Option (Fl S α)) = some fl := hw
            rw [hfs] at hw
            refine ⟨s, G3, S2.grow w3, o, hfs, ?_⟩
            cases o with
            | nx s' => exact fun σ4 H4 G4 e4 S4 => ⟨G4, s', (eg.trans w3.g).trans e4, S4, hw⟩
            | rt d =>
              have e : fl = .rt d := by
                have hw : some (Fl.rt d) = some fl := hw
                exact (Option.some.inj hw).symm
              subst e
              exact fun v H4 G4 w4 r4 => q v H4 G4 w4 r4
theorem p_whileN {S : Type} {c : Expr} {enc : S → En} {cf : S → Option Bool} {f : S → Option S} {s0 : S} (n : Nat) (mask : List Bool) (hp : PassesOwn (model X.prog X.w) X.A X.env X.xe) (h0 : fg mask δ = enc s0) (ht : ∀ s, PT X c (tT X.K H0 G0 (enc s) (cf s)))
    (hb : ∀ s, PSs X body (tS (zN X.K enc) X.K H0 G0 (enc s) (f s))) : PS X (.While c body [] pos) (tS (zN X.K enc) X.K H0 G0 δ (whileO cf f n s0)) :=
  toN (R := rE) (p_while n mask hp h0 ht fun s => toM (hb s)) (whileF_O n s0)
end
end
/-! ### defs -/
def en0 : List Bool → List D → Nat → En
  | true :: bs, d :: ds, n + 1 => .fr d :: en0 bs ds n
  | false :: bs, d :: ds, n + 1 => .vw d :: en0 bs ds n
  | _, _, n => List.replicate n .no
theorem s8_start {K : PySem.W.Frag} {H G : Hp} (eg : Ex G H) {N : List Str} : ∀ {bs : List Bool} {vs : List V} {ds : List D}, ArgsOk K H G bs vs ds → bs.length ≤ N.length → S8 K H G (en0 bs ds N.length) (L2.start N vs) H G := by
  have len : ∀ (bs : List Bool) (ds : List D) (n : Nat), bs.length ≤ n → (en0 bs ds n).length = n := by
    intro bs
    induction bs with
    | nil => intro ds n _; unfold en0; exact List.length_replicate
    | cons b bs ih =>
      intro ds n hn
      cases n with
      | zero => simp at hn
      | succ n =>
        cases ds with
        | nil => cases b <;> (show (List.replicate (n + 1) Sl.no).length = n + 1; exact List.length_replicate)
        | cons d ds =>
          have hn' : bs.length ≤ n := Nat.le_of_succ_le_succ hn
          cases b <;> (show (en0 bs ds n).length + 1 = n + 1; rw [ih ds n hn'])
  have noOw : ∀ (bs : List Bool) (ds : List D) (n i : Nat), isOw (nth (en0 bs ds n) i) = false := by
    have rep : ∀ (n i : Nat), isOw (nth (List.replicate n Sl.no) i) = false := by
      intro n
      induction n with
      | zero => intro i; rfl
      | succ n ih =>
        intro i
        cases i with
        | zero => rfl
        | succ i => exact ih i
    intro bs
    induction bs with
    | nil => intro ds n i; exact rep n i
    | cons b bs ih =>
      intro ds n i
      cases n with
      | zero => cases b <;> cases ds <;> exact rep 0 i
      | succ n =>
        cases ds with
        | nil => cases b <;> exact rep (n + 1) i
        | cons d ds =>
          cases b with
          | true =>
            cases i with
            | zero => rfl
            | succ i => exact ih ds n i
          | false =>
            cases i with
            | zero => rfl
            | succ i => exact ih ds n i
  have rep : ∀ (v : Option (Option V)) (n i : Nat), SlOk K H G H G v (nth (List.replicate n Sl.no) i) := by
    intro v n
    induction n with
    | zero => intro i; trivial
    | succ n ih =>
      intro i
      cases i with
      | zero => trivial
      | succ i => exact ih i
  have sl : ∀ (bs : List Bool) (vs : List V) (ds : List D) (n i : Nat) (tl : List (Option V)), ArgsOk K H G bs vs ds → SlOk K H G H G ((vs.map some ++ tl)[i]?) (nth (en0 bs ds n) i) := by
    intro bs
    induction bs with
    | nil => intro vs ds n i tl _; exact rep _ n i
    | cons b bs ih =>
      intro vs ds n i tl h
      cases vs with
      | nil => exact h.elim
      | cons v vs =>
        cases ds with
        | nil => exact h.elim
        | cons d ds =>
          obtain ⟨h1, h2⟩ := h
          cases n with
          | zero => cases b <;> exact rep _ 0 i
          | succ n =>
            cases i with
            | zero =>
              cases b with
              | true => exact ⟨v, rfl, h1⟩
              | false => exact ⟨v, rfl, h1⟩
            | succ i =>
              cases b with
              | true => exact ih vs ds n i tl h2
              | false => exact ih vs ds n i tl h2
  intro bs vs ds h hn
  obtain ⟨l1, l2⟩ := args_len h
  refine ⟨.refl eg, ?_, fun i => sl bs vs ds N.length i _ h, fun i j p _ h1 _ => owA_no h1 (noOw _ _ _ _), eg⟩
  rw [len bs ds _ hn]
  unfold L2.start
  rw [List.length_append, List.length_map, List.length_replicate]
  omega
section
variable {P : Program} {w : World} {K : PySem.W.Frag} {mg : Str → Option Value} {base : Heap}
theorem def_ok {α : Type} {R : Rel α} {x qual : Str} {st : Stmt} {f : Addr} {fd : FuncData} {N ps : List Str} {k : Nat} {bs : List Bool} {mf : Nat → List D → Option α} (F : Fun K x qual st f fd) (S : FnScope N ps (defScope st)) (hbs : bs.length = ps.length) (hN : ps.length ≤ N.length)
    (hb : ∀ (cdv : Value) (A : Around) (outer : List Env) (s : Shared) (H : Hp) (E : XK), Room k (A.deeper (envOfC qual (defScope st) s.heap.objs.size f cdv)) → ∀ (G : Hp) (n : Nat) (ds : List D), ds.length = bs.length →
      PSs (cxOf CX0 P w K mg base N qual (defScope st) f cdv A outer s H E).nox (defBody st) (tS (zQ R) K H G (en0 bs ds N.length) (mf n ds))) : FnOk P w K mg base CX0 (k + 1) f fd ps (spR R K bs mf) := by
  refine F.ok S (fun vs H Q E h => ?_) (fun cdv A outer s H vs Q E hr h => ?_)
  · obtain ⟨G, ds, d, _, _, ha, _⟩ := h
    rw [(args_len ha).1, hbs]
  · obtain ⟨G, ds, d, n, eg, ha, hm, q⟩ := h
    refine ⟨_, hb cdv A outer s H E hr G n ds (args_len ha).2, G, s8_start eg ha (by omega), d, hm, fun v H' G' w r => q v H' G' w r⟩
/-- where its end may be reached without a return -/
def flN {S : Type} : Option (Fl S D) → Option D
  | some (.nx _) => some .none
  | some (.rt d) => some d
  | none => none
theorem def_okN {S : Type} {enc : S → En} {x qual : Str} {st : Stmt} {f : Addr} {fd : FuncData} {N ps : List Str} {k : Nat} {bs : List Bool} {mf : Nat → List D → Option (Fl S D)} (F : Fun K x qual st f fd) (Sc : FnScope N ps (defScope st)) (hbs : bs.length = ps.length) (hN : ps.length ≤ N.length)
    (hb : ∀ (cdv : Value) (A : Around) (outer : List Env) (s : Shared) (H : Hp) (E : XK), Room k (A.deeper (envOfC qual (defScope st) s.heap.objs.size f cdv)) → ∀ (G : Hp) (n : Nat) (ds : List D), ds.length = bs.length →
      PSs (cxOf CX0 P w K mg base N qual (defScope st) f cdv A outer s H E).nox (defBody st) (tS (zM (rF K) K enc) K H G (en0 bs ds N.length) (mf n ds))) : FnOk P w K mg base CX0 (k + 1) f fd ps (spR (rF K) K bs fun n ds => flN (mf n ds)) := by
  refine F.ok Sc (fun vs H Q E h => ?_) (fun cdv A outer s H vs Q E hr h => ?_)
  · obtain ⟨G, ds, d, _, _, ha, _⟩ := h
    rw [(args_len ha).1, hbs]
  · obtain ⟨G, ds, d, n, eg, ha, hm, q⟩ := h
    have hm : flN (mf n ds) = some d := hm
    cases hf : mf n ds with
    | none => rw [hf] at hm; cases hm
    | some fl =>
      rw [hf] at hm
      refine ⟨_, hb cdv A outer s H E hr G n ds (args_len ha).2, G, s8_start eg ha (by omega), fl, hf, ?_⟩
      cases fl with
      | nx s' =>
        cases hm
        exact fun σ' H' G' _ S' => q .non H' G' S'.gr .non
      | rt d' =>
        cases hm
        exact fun v H' G' w r => q v H' G' w r
end
end Bd
/-! Bd7: constants of the text; places of items. -/
namespace Bd
open PySem PySem.Spec PyProof.Rows L2 Evl
structure Cst (K : PySem.W.Frag) (mg : Str → Option Value) (x : Str) (d : D) : Prop where
  ex : ∃ u v, mg x = some u ∧ RelV v u ∧ ∀ G, Dp K G v d
section
variable {X : Cx} {H0 G0 : Hp} {δ : En} {e a b : Expr} {pos p2 : Pos}
theorem x_cst {x : Str} {d : D} (C : Cst X.K X.mg x d) (hg : Gl X x) (hd : (x == ("__debug__" : Str)) = false := by decide) : PE X (.Name x pos) (tR (rF X.K) X.K H0 G0 δ (some d)) := by
  obtain ⟨u, v, hm, r, h⟩ := C.ex
  exact x_c (pe_glob hg hm r hd) h
theorem cst_int {K : PySem.W.Frag} {mg : Str → Option Value} {x : Str} {i : Int} {t : Tok} (h : mg x = some (.int i t)) : Cst K mg x (.int i) := ⟨_, .int i, h, ⟨t, rfl⟩, fun _ => .int i⟩
theorem cst_str {K : PySem.W.Frag} {mg : Str → Option Value} {x : Str} {z : Str} {t : Tok} (h : mg x = some (.str z t)) : Cst K mg x (.str z) := ⟨_, .str z, h, ⟨t, rfl⟩, fun _ => .str z⟩
/-- a tuple of texts of the module -/
theorem cst_tup {K : PySem.W.Frag} {mg : Str → Option Value} {x : Str} {a : Addr} {zs : List Str} {us : List Value} {dd : Option Addr} {n : Nat} {sl : Array (Option Value)} (h : mg x = some (.ref a)) (l : K.lookup a = some ⟨.type "tuple", dd, .seq us.toArray n, sl⟩) (hz : us.length ≤ 1000) (r : Vals (zs.map V.str) us) : Cst K mg x (.tuple (zs.map PyData.str)) := by
  refine ⟨_, .ref a, h, rfl, fun G => .tup (.inr ⟨_, us.toArray, n, l, rfl, rfl, ?_, r⟩) ?_⟩
  · exact ln_line (show us.length ≤ LN from Nat.le_trans hz (by decide))
  · induction zs generalizing us with
    | nil => exact .nil
    | cons z zs ih =>
      have go : ∀ zs : List Str, DpAll K G (zs.map V.str) (zs.map PyData.str) := fun zs => by
        induction zs with
        | nil => exact .nil
        | cons y ys ih => exact .cons (.str y) ih
      exact go (z :: zs)
end
end Bd
/-! Bd8: the law's own promise. -/
namespace Bd
open PySem PySem.Spec PyProof.Rows L2 Evl
def spLaw (K : PySem.W.Frag) : Sp := fun vs H Q _ => ∃ (a : Addr) (ns : List Int), vs = [.ref a] ∧ SqL K H a (ns.map V.int) ∧ ns.length ≤ 63 ∧ ∀ H', Q (.bl true) H'
section
variable {P : Program} {w : World} {K : PySem.W.Frag} {mg : Str → Option Value} {base : Heap}
theorem law_imp {k : Nat} {f : Addr} {fd : FuncData} {ps : List Str} {mf : Nat → List D → Option D} (F : FnOk P w K mg base CX0 k f fd ps (spR (rF K) K [true] mf)) (hm : ∀ ns : List Int, ns.length ≤ 63 → ∃ n, mf n [.list (ns.map PyData.int)] = some (.bool true)) : FnOk P w K mg base CX0 k f fd ps (spLaw K) :=
  F.imp fun vs H Q E ⟨a, ns, ev, hS, hl, q⟩ => by
    obtain ⟨n, hn⟩ := hm ns hl
    subst ev
    refine ⟨H, [.list (ns.map PyData.int)], .bool true, n, Ex.refl H, ⟨.lst hS (L2.DpAll.ofInts ns), trivial⟩, hn, fun v H' G' w r => ?_⟩
    cases r
    exact q H'
theorem cal_of {x : Str} {ps : List Str} {k : Nat} {sp : Sp} {f : Addr} {fd : FuncData} (F : FnOk P w K mg base CX0 k f fd ps sp) (hm : mg x = some (.ref f)) (hk : PySem.W.keepIn K (.ref f) = true) (hb : Binds K fd ps []) : Cal P w K mg base x ps k sp := ⟨f, fd, F, hm, hk, hb⟩
end
end Bd
/-! Bd9: list(reversed(a list)); places of items by index. -/
namespace RT
open PySem PySem.Spec PyProof.Rows L2
section
variable {prog : Program} {w : World} {A : Around} {E : Value → Shared → Prop} {s : Shared} {R : Result → Shared → Prop}
theorem lr_more {ri p : Addr} {zs : Array Value} {S : Addr} {c0 : Nat} {res : Value} (hh : A.handled = none) (hr : s.heap.IsRevIter ri p ((zs.size : Int) - 1)) (hp : s.heap.IsList p zs) (npr : p ≠ ri) (hz : zs.size ≤ sizeLine) (nsr : S ≠ ri) (nsp : S ≠ p)
    (hS : s.heap.get? S = some { cls := .type "list", data := .seq #[] c0 })
    (fin : ∀ h2 tk2 zz c2, (∀ b o, b ≠ S → b ≠ ri → s.heap.get? b = some o → h2.get? b = some o) → h2.get? S = some { cls := .type "list", dict := none, data := .seq zz c2, slots := #[] } → ItemsOf (fun i v => zs[zs.size - 1 - i]? = some v) zz zs.size → R (.ok (.ret res)) { s with heap := h2, toks := tk2 }) :
    wpAny (model prog w) A.in1 (Builtin.List.listExtendWith (.ref S) (.ref ri) res) (fun o s' => match o with | .done f => R (.ok f) s' | .again c' => c'.quiet = true ∧ codeAny (model prog w) A c' R s') (fun e s' => R (.error e) s') s := by
  have WK := (Walks.listRev (prog := prog) (w := w) (A := A.in1) hh ri p npr zs).toS
  have notin : S ∉ [ri, p] := fun hm => by rcases List.mem_cons.mp hm with e | hm <;> first | exact nsr e | exact nsp (List.mem_singleton.mp hm)
  have ty : s.TypeIs (.ref ri) "list_reverseiterator" := hr.typeIs
  have same : Builtin.List.listSameRef (.ref S) (.ref ri) = false := by simp [Builtin.List.listSameRef, nsr]
  unfold Builtin.List.listExtendWith
  refine wpAny_bind (wpAny_typeOf ty ?_); rw [if_neg (by rw [same]; decide)]; refine wpAny_bind (wpAny_pyIter_revIter hr ?_); refine wpAny_bind (wpAny_holding ?_)
  unfold Builtin.List.listLengthHint; refine wpAny_bind (wpAny_specialOf ty nolen_lri ?_); show wpAny _ A.in1 (specialOf (.ref ri) (Str.ofString "__length_hint__") >>= _) _ _ _
  refine wpAny_bind (wpAny_specialOf ty hint_lri ?_); generalize hq : ("list_reverseiterator.__length_hint__" : String) = q
  wp_delta
  rw [show splitId q = some ("list_reverseiterator", "__length_hint__") from by subst hq; decide +kernel]; subst hq
  refine wpAny_bind (wpAny_isInstance (b := true) ty (by rw [isSubtype_type]; kernel_rfl) ?_); refine wpAny_pure ?_; rw [if_neg (by decide)]
  have z0 : ((zs.size : Nat) : Int) - 1 - ((0 : Nat) : Int) = (zs.size : Int) - 1 := by omega
  refine wpAny_pure ⟨plainId_quiet F.plain_extend_loop _, codeAny_extend_loopS WK hz S notin res zs.size 0 _ _ _ rfl (Nat.zero_le _) ⟨Nat.zero_le _, by rw [z0]; exact hr, hp⟩ hS (ItemsOf.nil _) fun s2 zz c2 mv hS2 hi => ?_⟩
  rw [Moved.eq_with mv]
  exact fin s2.heap s2.toks zz c2 (fun b o n1 n2 e => mv.heap b o (fun hm => by rcases List.mem_cons.mp hm with z | hm <;> first | exact n1 z | exact n2 (List.mem_singleton.mp hm)) e) hS2 hi
theorem lr_init {ri p : Addr} {zs : Array Value} {S : Addr} (hh : A.handled = none) (hr : s.heap.IsRevIter ri p ((zs.size : Int) - 1)) (hp : s.heap.IsList p zs) (npr : p ≠ ri) (hz : zs.size ≤ sizeLine) (nsr : S ≠ ri) (nsp : S ≠ p)
    (hS : s.heap.get? S = some { cls := .type "list", data := .seq #[] })
    (fin : ∀ h2 tk2 zz c2, (∀ b o, b ≠ S → b ≠ ri → s.heap.get? b = some o → h2.get? b = some o) → h2.get? S = some { cls := .type "list", dict := none, data := .seq zz c2, slots := #[] } → ItemsOf (fun i v => zs[zs.size - 1 - i]? = some v) zz zs.size → R (.ok (.ret .none)) { s with heap := h2, toks := tk2 }) :
    wpAny (model prog w) A.in1 (Builtin.«list.__init__» ⟨[.ref S, .ref ri], []⟩) (fun o s' => match o with | .done f => R (.ok f) s' | .again c' => c'.quiet = true ∧ codeAny (model prog w) A c' R s') (fun e s' => R (.error e) s') s := by
  show wpAny _ _ (Builtin.List.listItems (.ref S) >>= fun old => Builtin.List.listUpdate (.ref S) (fun _ => #[]) >>= fun _ => letGo old.toList.reverse >>= fun _ => Builtin.List.listExtendWith (.ref S) (.ref ri) .none) _ _ s
  refine wpAny_bind ?_; unfold Builtin.List.listItems; refine wpAny_bind (wpAny_seqItems hS rfl (wpAny_pure ?_))
  show wpAny _ _ (updateSeq S (fun _ => #[]) >>= fun _ => letGo (#[] : Array Value).toList.reverse >>= fun _ => Builtin.List.listExtendWith (.ref S) (.ref ri) .none) _ _ s
  have kept : ∀ b o, b ≠ S → s.heap.get? b = some o → (s.heap.update S (Obj.mapSeq (fun _ => (#[] : Array Value)))).get? b = some o := fun b o n e => (Heap.get?_update_other _ _ (Ne.symm n)).trans e
  refine wpAny_bind (wpAny_updateSeq hS rfl ?_); refine wpAny_bind (wpAny_letGo ?_)
  exact lr_more (s := { s with heap := s.heap.update S (Obj.mapSeq (fun _ => (#[] : Array Value))) }) hh (hr.at fun o e => kept _ o (Ne.symm nsr) e) (hp.at fun o e => kept _ o (Ne.symm nsp) e) npr hz nsr nsp (Heap.get?_update_self (Obj.mapSeq (fun _ => (#[] : Array Value))) hS rfl)
    fun h2 tk2 zz c2 kk hS2 hi => fin h2 tk2 zz c2 (fun b o n1 n2 e => kk b o n1 n2 (kept b o n1 e)) hS2 hi
theorem lr_call {ri p : Addr} {zs : Array Value} {Q : Value → Shared → Prop} (hh : A.handled = none) (hr : s.heap.IsRevIter ri p ((zs.size : Int) - 1)) (hp : s.heap.IsList p zs) (npr : p ≠ ri) (hz : zs.size ≤ sizeLine)
    (fin : ∀ h2 tk2 zz c2, (∀ b o, b ≠ ri → s.heap.get? b = some o → h2.get? b = some o) → h2.get? s.heap.objs.size = some { cls := .type "list", dict := none, data := .seq zz c2, slots := #[] } → ItemsOf (fun i v => zs[zs.size - 1 - i]? = some v) zz zs.size → Q (.ref s.heap.objs.size) { s with heap := h2, toks := tk2 }) :
    wpAny (model prog w) A (call (.type "list") [.ref ri]) Q E s := by
  obtain ⟨o1, ho1, _⟩ := id hr
  obtain ⟨o2, ho2, _⟩ := id hp
  refine callType_codes (Q₁ := fun ob s1 => ob = .ref s.heap.objs.size ∧ s1 = { s with heap := s.heap.push { cls := .type "list", data := .seq #[] } }) PySem.F.called_list (PySem.F.typeCall_list_1 _) PySem.F.entry_list_init (code_list_new _ ⟨rfl, rfl⟩) fun ob s1 q1 => ?_
  obtain ⟨rfl, rfl⟩ := q1
  have hS : (s.heap.push { cls := .type "list", data := .seq #[] }).get? s.heap.objs.size = some { cls := .type "list", data := .seq #[] } := Heap.get?_push_size _ rfl
  refine ⟨⟨_, hS, rfl⟩, PySem.F.args_list_init_2 _ _, lr_init (A := A.in1) (s := { s with heap := s.heap.push { cls := .type "list", data := .seq #[] } }) hh (hr.at fun o e => Heap.get?_push_of_some _ e) (hp.push _) npr hz (Nat.ne_of_gt (Heap.lt_size ho1)) (Nat.ne_of_gt (Heap.lt_size ho2)) hS fun h2 tk2 zz c2 kk hS2 hi => ?_⟩
  exact ⟨rfl, fin h2 tk2 zz c2 (fun b o n e => kk b o (Nat.ne_of_lt (Heap.lt_size e)) n (Heap.get?_push_of_some _ e)) hS2 hi⟩
end
def tLstRev (K : PySem.W.Frag) (te : TE) : TE := fun σ H Q => te σ H fun v H1 => ∃ (a : Addr) (xs : List V), v = .ref a ∧ SqL K H1 a xs ∧ ∀ q, H1 q = none → Q (.ref q) (upd H1 q (.lst xs.reverse))
section
variable {X : Cx}
theorem pe_lstRev {e : Expr} {te : TE} {p p2 pos pos2 : Pos} (hc : X.calm = true) (hg : Gl X "list") (hm : X.mg "list" = none) (hg2 : Gl X "reversed") (hm2 : X.mg "reversed" = none) (he : PE X e te)
    (hs : starEach [e] X.env = (false, eval e X.env) :: starEach [] X.env := by rfl)
    (hs2 : starEach [.Call (.Name "reversed" p2) [e] [] pos2] X.env = (false, eval (.Call (.Name "reversed" p2) [e] [] pos2) X.env) :: starEach [] X.env := by rfl) :
    PE X (.Call (.Name "list" p) [.Call (.Name "reversed" p2) [e] [] pos2] [] pos) (tLstRev X.K te) := by
  refine ⟨fun pins s σ H Q I h => ?_⟩
  refine Call_ (ld_blt I hg hm boot_list (PyProof.Rows.callWith_type1 (args_cons (Call_ (ld_blt I hg2 hm2 PyProof.Rows.boot_reversed (PyProof.Rows.callWith_type1 (args_cons (thn (he.run pins s σ H _ I h) fun u s1 ⟨v, H1, I1, r1, q1⟩ => args_nil ?_) hs) hs rfl))) hs2) hs2 rfl))
  obtain ⟨a, xs, ev, hq, q⟩ := q1
  subst ev; obtain rfl : u = Value.ref a := r1
  obtain ⟨its, rv, pl, hz⟩ := I1.list hq
  refine call_reversed_list pl.isList (args_nil ?_)
  have il := pl.isList
  obtain ⟨ol, hol, _⟩ := id il
  refine lr_call (s := { s1 with heap := s1.heap.push (revObj a ((its.toArray.size : Int) - 1)) }) (I1.ok.hd hc) ⟨_, Heap.get?_push_size _ rfl, rfl, rfl⟩ (il.push _) (Nat.ne_of_lt (Heap.lt_size hol)) (by rw [List.size_toArray, ← rv.length]; exact hz) fun h2 tk2 zz c2 kk hS hi => ?_
  have hle : s1.heap.objs.size ≤ (s1.heap.push (revObj a ((its.toArray.size : Int) - 1))).objs.size := by rw [size_push']; exact Nat.le_succ _
  refine ⟨.ref _, upd H1 _ (.lst xs.reverse), I1.laid (t' := tk2) (fun b o e => kk b o (Nat.ne_of_lt (Heap.lt_size e)) (Heap.get?_push_of_some _ e)) hle (show ObjOk X.prog X.w _ h2 _ (.lst xs.reverse) from ⟨by rw [List.length_reverse]; exact hz, zz.toList, c2, vals_rev rv hi, by rw [Array.toArray_toList]; exact hS⟩), rfl, q _ (I1.hok.fresh hle)⟩
end
end RT
namespace Bd
open PySem PySem.Spec PyProof.Rows L2 Evl
def revD : D → Option (List D)
  | .list ds => some ds.reverse
  | _ => none
theorem DpAll_rev {K : PySem.W.Frag} {G : Hp} : ∀ {vs : List V} {ds : List D}, DpAll K G vs ds → DpAll K G vs.reverse ds.reverse
  | [], [], _ => .nil
  | v :: vs, d :: ds, .cons h t => by
    rw [List.reverse_cons, List.reverse_cons]
    exact (DpAll_rev t).append (.cons h .nil)
section
variable {X : Cx} {H0 G0 : Hp} {δ : En} {e : Expr} {pos p1 p2 : Pos} {m : Option D}
theorem x_lrev {pos2 : Pos} (hg : Gl X "list") (hm : X.mg "list" = none) (hg2 : Gl X "reversed") (hm2 : X.mg "reversed" = none) (h : PE X e (tR (rV X.K) X.K H0 G0 δ m)) (hc : X.calm = true := by rfl)
    (hs : starEach [e] X.env = (false, eval e X.env) :: starEach [] X.env := by rfl)
    (hs2 : starEach [.Call (.Name "reversed" p2) [e] [] pos2] X.env = (false, eval (.Call (.Name "reversed" p2) [e] [] pos2) X.env) :: starEach [] X.env := by rfl) :
    PE X (.Call (.Name "list" p1) [.Call (.Name "reversed" p2) [e] [] pos2] [] pos) (tR (rO X.K) X.K H0 G0 δ (m.bind revD)) :=
  PE_imp (RT.pe_lstRev hc hg hm hg2 hm2 h hs hs2) fun σ H Q ⟨G, s, c, ec, q⟩ => by
    cases m with
    | none => cases ec
    | some d =>
      refine ⟨G, s, d, rfl, fun v H1 G1 w r1 => ?_⟩
      cases d with
      | list ds =>
        cases ec
        obtain ⟨p, vs, rfl, sp, ap⟩ := r1.list w.gh
        exact ⟨p, vs, rfl, sp, fun l hl => q _ _ _ (w.trans (Grow.newO w.gh hl)) ⟨l, vs.reverse, rfl, w.h.none hl, w.gh.none hl, upd_same, DpAll_rev ap⟩⟩
      | _ => cases ec
end
end Bd
/-! BdK: dicts keyed by tuples of tuples: the rules at the heap. -/
namespace Bd
open PySem PySem.Spec PyProof.Rows L2 Evl
/-- the keys stand where they are told to stand -/
def KeysIn (K : PySem.W.Frag) (H : Hp) (xs : List NX) : Prop := ∀ x ∈ xs, ∃ d, kyD d = some x.1 ∧ x.1.depth ≤ 8 ∧ Dp K H (.ref x.2.1) d
section
variable {X : Cx} {pins : List (Addr × Obj)} {σ : L2.St} {H : Hp} {s : Shared}
mutual
theorem ky_is (I : Inv X pins σ H s) : ∀ (d : PyData) (k : NestedKey) (v : V) (u : Value), kyD d = some k → Dp X.K H v d → RelV v u → NestedIs s.heap k u
  | .none, _, _, _, e, h, r => by
    cases e; cases h; cases r
    exact NestedIs.none
  | .int i, _, _, _, e, h, r => by
    cases e; cases h
    obtain ⟨t, rfl⟩ := r
    exact NestedIs.int _ _
  | .bool b, _, _, _, e, h, r => by
    cases e; cases h; cases r
    exact NestedIs.bool rfl
  | .str x, _, _, _, e, h, r => by
    cases e; cases h
    obtain ⟨t, rfl⟩ := r
    exact NestedIs.text _ _
  | .tuple ds, k, v, u, e, h, r => by
    unfold kyD at e
    cases hk : kyL ds with
    | none => rw [hk] at e; cases e
    | some ks =>
      rw [hk] at e
      cases e
      cases h with
      | tup hs ha =>
        cases r
        obtain ⟨its, rv, pl, hz⟩ := I.tuple hs
        obtain ⟨o, ho, hc, n, hd⟩ := pl
        exact NestedIs.tup ho hc hd (by simpa using ky_all I ds ks _ its hk ha rv)
  | .list _, _, _, _, e, _, _ => by cases e
  | .dict _, _, _, _, e, _, _ => by cases e
theorem ky_all (I : Inv X pins σ H s) : ∀ (ds : List PyData) (ks : List NestedKey) (vs : List V) (us : List Value), kyL ds = some ks → DpAll X.K H vs ds → Vals vs us → NestedAll s.heap ks us
  | [], _, _, _, e, h, r => by
    cases e; cases h; cases r
    exact NestedAll.nil
  | d :: ds, ks, vs, us, e, h, r => by
    unfold kyL at e
    cases hk : kyD d with
    | none => rw [hk] at e; cases e
    | some k =>
      rw [hk] at e
      cases hl : kyL ds with
      | none => rw [hl] at e; cases e
      | some kl =>
        rw [hl] at e
        cases e
        cases h with
        | cons h1 h2 =>
          cases r with
          | cons r1 r2 => exact NestedAll.cons (ky_is I d k _ _ hk h1 r1) (ky_all I ds kl _ _ hl h2 r2)
end
theorem dk_at {p : Addr} {xs : List NX} (I : Inv X pins σ H s) (hp : H p = some (.ext (φN X.w p xs))) (hk : KeysIn X.K H xs) : s.heap.DictOfH (nestedKind X.prog X.w) p xs := by
  obtain ⟨⟨o, es, ep, h1, h2, h3, h4, h5⟩, _⟩ := (show ObjOk X.prog X.w H s.heap p (.ext (φN X.w p xs)) from I.hok p _ hp)
  refine ⟨o, es, ep, h1, h2, h3, h4, fun x hx => ?_, h5⟩
  obtain ⟨d, e, z, q⟩ := hk x hx
  exact ⟨ky_is I d _ _ _ e q rfl, z⟩
theorem dk_ok {H' : Hp} {h : Heap} {p : Addr} {xs : List NX} (dd : h.DictOfH (nestedKind X.prog X.w) p xs) : ObjOk X.prog X.w H' h p (.ext (φN X.w p xs)) := by
  obtain ⟨o, es, ep, h1, h2, h3, h4, _, h5⟩ := dd
  exact ⟨⟨o, es, ep, h1, h2, h3, h4, h5⟩, ⟨o, h1⟩, fun a b ⟨o, es, ep, k1, k2, k3, k4, k5⟩ k => ⟨o, es, ep, k o k1, k2, k3, k4, k5⟩⟩
/-- what is asked of a key -/
def KeyIn (K : PySem.W.Frag) (H : Hp) (x : V) (k : NestedKey) : Prop := ∃ a d, x = .ref a ∧ kyD d = some k ∧ k.depth ≤ 8 ∧ Dp K H x d
theorem key_at {x : V} {u : Value} {k : NestedKey} (I : Inv X pins σ H s) (h : KeyIn X.K H x k) (r : RelV x u) : ∃ a, u = .ref a ∧ x = .ref a ∧ (nestedKind X.prog X.w).is s.heap k a := by
  obtain ⟨a, d, rfl, e, z, q⟩ := h
  obtain rfl : u = Value.ref a := r
  exact ⟨a, rfl, rfl, ky_is I d _ _ _ e q rfl, z⟩
theorem nk_room (hu : X.A.units + 64 < cLine) : (nestedKind X.prog X.w).room X.A := by
  show X.A.units + 8 < cLine
  omega
theorem nk_room1 (hu : X.A.units + 64 < cLine) : (nestedKind X.prog X.w).room X.A.in1 := by
  show X.A.in1.units + 8 < cLine
  have : X.A.in1.units ≤ X.A.units + 1 := by show _ ≤ _; first | exact Nat.le_refl _ | simp [Around.in1] | decide
  omega
def rDkIn (K : PySem.W.Frag) (w : World) (neg : Bool) : R2 := fun x y H Q => ∃ p xs k, y = .ref p ∧ H p = some (.ext (φN w p xs)) ∧ (p == sysModules) = false ∧ KeysIn K H xs ∧ KeyIn K H x k ∧ Q (.bl (if neg = true then !(atKey xs k).isSome else (atKey xs k).isSome)) H
theorem op_inN (hu : X.A.units + 64 < cLine) : OpR X (compareOp .In) (rDkIn X.K X.w false) := by
  intro pins s σ H x y v u Q I rx ry h
  obtain ⟨p, xs, k, rfl, hp, hm, hk, hx, q⟩ := h
  obtain rfl : u = Value.ref p := ry
  obtain ⟨a, rfl, rfl, ka⟩ := key_at I hx rx
  exact wpAny_in_heap (nk_room1 hu) ka hm (dk_at I hp hk) ⟨.bl _, H, I.tok _, rfl, q⟩
theorem op_ninN (hu : X.A.units + 64 < cLine) : OpR X (compareOp .NotIn) (rDkIn X.K X.w true) := by
  intro pins s σ H x y v u Q I rx ry h
  obtain ⟨p, xs, k, rfl, hp, hm, hk, hx, q⟩ := h
  obtain rfl : u = Value.ref p := ry
  obtain ⟨a, rfl, rfl, ka⟩ := key_at I hx rx
  have dd := dk_at I hp hk
  refine notIn_keyed (kvs := pairsH xs) (nk_room1 hu) ka hm ⟨xs, dd, rfl⟩ ⟨.bl _, H, I.tok _, ?_, q⟩
  rw [valueAt_pairsH, Option.isSome_map]; rfl
def rDkGet (K : PySem.W.Frag) (w : World) : R2 := fun x y H Q => ∃ p xs k a0 u0, x = .ref p ∧ H p = some (.ext (φN w p xs)) ∧ KeysIn K H xs ∧ KeyIn K H y k ∧ atKey xs k = some (a0, u0) ∧ ∃ v0, RelV v0 u0 ∧ Q v0 H
theorem ix_N (hu : X.A.units + 64 < cLine) : IxR X (rDkGet X.K X.w) := by
  intro value slice pins s σ H x y v u Q I rx ry h hs
  obtain ⟨p, xs, k, a0, u0, rfl, hp, hk, hy, ha, v0, r0, q⟩ := h
  obtain rfl : v = Value.ref p := rx
  obtain ⟨a, rfl, rfl, ka⟩ := key_at I hy ry
  have dd := dk_at I hp hk
  exact tail_any dd.typeIs slot_dict_getitem.lookup (wpAny_getItem_heap (nk_room1 hu) ka dd ha ⟨v0, H, I.tok _, r0, q⟩) hs
def rDkSet (K : PySem.W.Frag) (w : World) : TSet := fun o i v H Q => ∃ p xs k a, o = .ref p ∧ i = .ref a ∧ H p = some (.ext (φN w p xs)) ∧ xs.length ≤ sizeLine ∧ KeysIn K H xs ∧ KeyIn K H i k ∧ ∀ u, RelV v u → Q (upd H p (.ext (φN w p (storedH xs k a u))))
theorem set_N (hu : X.A.units + 64 < cLine) : PSet X (rDkSet X.K X.w) := by
  intro pins s σ H o i v ov iv u Q I ro ri rv h
  obtain ⟨p, xs, k, a, rfl, rfl, hp, hz, hk, hi, q⟩ := h
  obtain rfl : ov = Value.ref p := ro
  obtain ⟨b, rfl, e, ka⟩ := key_at I hi ri
  cases e
  have dd := dk_at I hp hk
  refine wpAny_setItem_heap (hsz := hz) (nk_room1 hu) ka dd fun h' dd' hs => ⟨_, ?_, q u rv⟩
  have he : ∃ z, h'.get? p = some z := let ⟨z, _, _, hz, _⟩ := dd'; ⟨z, hz⟩
  exact I.write (x := p) (e := p) (by rw [hp]; exact True.intro) (.inl rfl) (fun b o hb e => (hs.2 b hb).trans e) he (dk_ok dd')
/-- {k: v}: the new dict stands empty while the pair is made -/
def tDkNew (K : PySem.W.Frag) (w : World) (tk tv : TE) : TE := fun σ H Q => ∀ p, H p = none → (p == sysModules) = false → tPairs [(tk, tv)] σ (upd H p (.ext (φN w p []))) fun ps H2 => H2 p = some (.ext (φN w p [])) ∧ ∃ x y k a, ps = [(x, y)] ∧ x = .ref a ∧ KeyIn K H2 x k ∧ ∀ u, RelV y u → Q (.ref p) (upd H2 p (.ext (φN w p [(k, a, u)])))
theorem φN_empty (w : World) (h : Heap) : φN w h.objs.size [] (h.push { cls := .type "dict", data := .dict #[] }) := ⟨_, #[], 0, Heap.get?_push_size _ rfl, ⟨rfl, rfl, rfl⟩, rfl, rfl, List.nodup_nil⟩
theorem pe_dkNew {pos : Pos} {ke ve : Expr} {tk tv : TE} (hu : X.A.units + 64 < cLine) (hk : PE X ke tk) (hv : PE X ve tv) : PE X (.Dict [some ke] [ve] pos) (tDkNew X.K X.w tk tv) := by
  refine ⟨fun pins s σ H Q I q => ?_⟩
  have hn := I.hok.fresh (Nat.le_refl s.heap.objs.size)
  have hm : (s.heap.objs.size == sysModules) = false := beq_eq_false_iff_ne.mpr (Nat.ne_of_gt I.big)
  have I1 := I.laid (a := s.heap.objs.size) (o := .ext (φN X.w s.heap.objs.size [])) (h' := s.heap.push { cls := .type "dict", data := .dict #[] }) (t' := s.toks) (fun _ _ q => Heap.get?_push_of_some _ q) (Nat.le_refl _)
    ⟨φN_empty X.w s.heap, ⟨_, Heap.get?_push_size _ rfl⟩, fun a b ⟨o, es, ep, k1, k2, k3, k4, k5⟩ k => ⟨o, es, ep, k o k1, k2, k3, k4, k5⟩⟩
  have PP : PPs X pos [some ke] [ve] [(tk, tv)] := pps_cons hk hv pps_nil
  have lz := pairTrees_length [some ke] [ve] X.env pos rfl rfl
  rw [arm_eval_Dict, zip_pairTrees [some ke] [ve] X.env pos rfl rfl, dictDisplay_pairs (pairTrees [some ke] [ve] X.env pos) (by intro z; cases z) (by show (1 : Nat) < _; decide)]
  refine wpAny_bind (wpAny_standAt (wpAny_bind (wpAny_subDictH (knd := nestedKind X.prog X.w) (Q := fun d s' => wpAny (model X.prog X.w) X.A (pure (Value.ref d)) (EP X pins σ Q) X.xe s') (nk_room hu) (by show (1 : Nat) ≤ 15; decide) (thn (PP.run pins _ σ _ _ I1 (q _ hn hm)) fun ws s2 ⟨ps, H2, I2, rel, e, x, y, k, a, ep, ex, kx, q2⟩ => ?_))))
  subst ep
  cases rel with
  | @cons p0 b0 l1 l2 r0 rn =>
    cases rn
    obtain ⟨u1, u2⟩ := b0
    obtain ⟨r1, r2⟩ := r0
    obtain ⟨b, eb, eb2, kb⟩ := key_at I2 kx r1
    subst ex
    cases eb2
    have eb3 : u1 = Value.ref a := eb
    subst eb3
    have dd0 : s2.heap.DictOfH (nestedKind X.prog X.w) s.heap.objs.size [] := dk_at I2 e (fun _ h => nomatch h)
    refine ⟨[(k, a, u2)], ⟨rfl, rfl, kb, True.intro⟩, dd0, fun h' tk' dd' hs => wpAny_pure ⟨.ref s.heap.objs.size, _, ?_, rfl, q2 u2 r2⟩⟩
    have hx' : h'.DictOfH (nestedKind X.prog X.w) s.heap.objs.size [(k, a, u2)] := dd'
    have he : ∃ z, h'.get? s.heap.objs.size = some z := let ⟨z, _, _, hz, _⟩ := hx'; ⟨z, hz⟩
    exact I2.write (x := s.heap.objs.size) (e := s.heap.objs.size) (by rw [e]; exact True.intro) (.inl rfl) (fun b o hb e => (hs.2 b hb).trans e) he (dk_ok hx')
end
end Bd
/-! BdL: dicts and new things in the slots. -/
namespace Bd
open PySem PySem.Spec PyProof.Rows L2 Evl
/-- new since the def's entry -/
abbrev rN (K : PySem.W.Frag) (H0 : Hp) : Rel D := fun _ _ G' v d => Np (nwG H0 G') v d
def nwD (m : Option (List D)) : Option D := m.bind fun ds => grd (ds.all flatD) (some (.list ds))
def scD (m : Option D) : Option D := m.bind fun d => grd (flatD d) (some d)
def dkAt (es : List (D × D)) (k : NestedKey) : Option (D × D) := es.find? fun e => decide (kyD e.1 = some k)
def kyT (d : D) : Option NestedKey := match d with
  | .tuple ds => (kyD (.tuple ds)).bind fun k => grd (decide (k.depth ≤ 8)) (some k)
  | _ => none
def dkHas (neg : Bool) (es : List (D × D)) (d : D) : Option Bool := (kyT d).map fun k => if neg = true then !(dkAt es k).isSome else (dkAt es k).isSome
def dkGet (es : List (D × D)) (d : D) : Option D := (kyT d).bind fun k => (dkAt es k).map (·.2)
def dkPut (es : List (D × D)) (k : NestedKey) (d v : D) : List (D × D) := if (dkAt es k).isSome = true then es.map (fun e => if kyD e.1 = some k then (e.1, v) else e) else es ++ [(d, v)]
def dkSet (es : List (D × D)) (d v : D) : Option (List (D × D)) := (kyT d).bind fun k => grd (decide (es.length ≤ LN)) (some (dkPut es k d v))
def dkNew (d v : D) : Option (List (D × D)) := (kyT d).map fun _ => [(d, v)]
theorem flat_any {K : PySem.W.Frag} {G G' : Hp} {v : V} {d : D} (f : flatD d = true) (h : Dp K G v d) : Dp K G' v d := by
  cases d with
  | int i => cases h; exact .int i
  | str x => cases h; exact .str x
  | bool b => cases h; exact .bl b
  | none => cases h; exact .non
  | _ => cases f
theorem flats_any {K : PySem.W.Frag} {G G' : Hp} : ∀ {vs : List V} {ds : List D}, ds.all flatD = true → DpAll K G vs ds → DpAll K G' vs ds
  | _, [], _, h => by cases h; exact .nil
  | _, d :: ds, f, h => by
    cases h with
    | cons a b =>
      rw [List.all_cons, Bool.and_eq_true] at f
      exact .cons (flat_any f.1 a) (flats_any f.2 b)
theorem flat_np {K : PySem.W.Frag} {G G' : Hp} {v : V} {d : D} (f : flatD d = true) (h : Dp K G v d) : Np G' v d := by
  cases d with
  | int i => cases h; exact .int i
  | str x => cases h; exact .str x
  | bool b => cases h; exact .bl b
  | none => cases h; exact .non
  | _ => cases f
theorem flats_np {K : PySem.W.Frag} {G G' : Hp} : ∀ {vs : List V} {ds : List D}, ds.all flatD = true → DpAll K G vs ds → NpAll G' vs ds
  | _, [], _, h => by cases h; exact .nil
  | _, d :: ds, f, h => by
    cases h with
    | cons a b =>
      rw [List.all_cons, Bool.and_eq_true] at f
      exact .cons (flat_np f.1 a) (flats_np f.2 b)
theorem nwG_at {H0 G : Hp} {p : Addr} (h : H0 p = none) : nwG H0 G p = G p := by unfold nwG; rw [h]
section
variable {X : Cx} {H0 G0 : Hp} {δ : En} {e a o : Expr} {pos px : Pos}
theorem x_NF {m : Option D} (h : PE X e (tR (rN X.K H0) X.K H0 G0 δ m)) : PE X e (tR (rF X.K) X.K H0 G0 δ m) :=
  x_imp h fun y ey => ⟨y, ey, fun _ _ _ _ G' _ w r => ⟨G', w, (r.to (nwG_le H0 G')).dp⟩⟩
theorem x_FN {m : Option D} (h : PE X e (tR (rF X.K) X.K H0 G0 δ m)) : PE X e (tR (rN X.K H0) X.K H0 G0 δ (scD m)) :=
  x_imp h fun y ey => by
    cases m with
    | none => cases ey
    | some d =>
      obtain ⟨h1, h2⟩ := grd_some ey
      cases h2
      exact ⟨_, rfl, fun _ _ _ _ G' _ w r => ⟨G', w, flat_np h1 r⟩⟩
theorem x_ON {m : Option (List D)} (h : PE X e (tR (rO X.K) X.K H0 G0 δ m)) : PE X e (tR (rN X.K H0) X.K H0 G0 δ (nwD m)) :=
  PE_imp h fun σ H Q ⟨G, s, y, ey, q⟩ => by
    cases m with
    | none => cases ey
    | some ds =>
      obtain ⟨f1, f2⟩ := grd_some ey
      cases f2
      refine ⟨G, s, ds, rfl, fun v H' G' w ⟨p, vs, ev, h1, h2, h3, h4⟩ => ?_⟩
      subst ev
      have h0 : H0 p = none := s.gr.h.none h1
      refine q _ H' (upd G' p (.lst vs)) ⟨fun a u ea => ?_, w.g.trans (Ex.new h2), w.h, fun a u ea n => ?_⟩ (.lst (by rw [nwG_at h0, upd_same]) (flats_np f1 h4))
      · by_cases hp : a = p
        · subst hp; rw [upd_same] at ea; rw [h3]; exact ea
        · rw [upd_ne hp] at ea; exact w.gh a u ea
      · rw [upd_ne (ne_of_none ea h1)]
        exact w.nw a u ea n
theorem x_ff {i : Nat} {d : D} (hn : PE X e (tVar i)) (h : nth δ i = .ff d) : PE X e (tR (rN X.K H0) X.K H0 G0 δ (some d)) :=
  PE_imp hn fun σ H Q ⟨G, s, y, ey, q⟩ => by
    cases ey
    have o := s.ok i
    rw [h] at o
    obtain ⟨x, ex, dx⟩ := o
    exact ⟨x, ex, q x H G (.refl s.gh) dx⟩
/-! the keys -/
theorem kyT_is {d : D} {k : NestedKey} (h : kyT d = some k) : kyD d = some k ∧ k.depth ≤ 8 ∧ ∃ ds, d = .tuple ds := by
  cases d with
  | tuple ds =>
    have h : (kyD (.tuple ds)).bind (fun k => grd (decide (k.depth ≤ 8)) (some k)) = some k := h
    cases hk : kyD (.tuple ds) with
    | none => rw [hk] at h; cases h
    | some k' =>
      rw [hk] at h
      obtain ⟨h1, h2⟩ := grd_some h
      cases h2
      exact ⟨rfl, of_decide_eq_true h1, ds, rfl⟩
  | _ => cases h
theorem key_in {K : PySem.W.Frag} {G H : Hp} {v : V} {d : D} {k : NestedKey} (h : kyT d = some k) (g : Ex G H) (r : Dp K G v d) : KeyIn K H v k := by
  obtain ⟨h1, h2, ds, rfl⟩ := kyT_is h
  cases r with
  | tup hs ha => exact ⟨_, _, rfl, h1, h2, (Dp.tup hs ha).to g⟩
theorem keys_in {K : PySem.W.Frag} {H0 G H : Hp} {es : List (D × D)} {xs : List NX} (h : Paired (DkR K H0 G) es xs) (g : Ex G H) : KeysIn K H xs := by
  induction h with
  | nil => exact fun _ h => nomatch h
  | cons r _ ih =>
    intro x hx
    cases hx with
    | head => exact ⟨_, r.1, r.2.1, r.2.2.1.to g⟩
    | tail _ hx => exact ih x hx
theorem dk_find {K : PySem.W.Frag} {H0 G : Hp} {k : NestedKey} {es : List (D × D)} {xs : List NX} (h : Paired (DkR K H0 G) es xs) : (dkAt es k).isSome = (atKey xs k).isSome ∧ ∀ e, dkAt es k = some e → ∃ x, atKey xs k = some x ∧ ∃ v, RelV v x.2 ∧ Np (nwG H0 G) v e.2 := by
  unfold dkAt atKey
  induction h with
  | nil => exact ⟨rfl, fun e h => nomatch h⟩
  | @cons e x es xs r t ih =>
    rw [List.find?_cons, List.find?_cons]
    by_cases hk : x.1 = k
    · rw [decide_eq_true (show kyD e.1 = some k by rw [r.1, hk]), decide_eq_true hk]
      refine ⟨rfl, fun e' he => ?_⟩
      cases he
      exact ⟨x.2, rfl, r.2.2.2⟩
    · rw [decide_eq_false (show ¬ kyD e.1 = some k by rw [r.1]; exact fun z => hk (Option.some.inj z)), decide_eq_false hk]
      exact ih
theorem paired_map {α β : Type} {F : α → β → Prop} {f : α → α} {g : β → β} {as : List α} {bs : List β} (h : Paired F as bs) (k : ∀ a b, F a b → F (f a) (g b)) : Paired F (as.map f) (bs.map g) := by
  induction h with
  | nil => exact .nil
  | cons r _ ih => exact .cons (k _ _ r) ih
theorem dk_put {K : PySem.W.Frag} {H0 G : Hp} {k : NestedKey} {es : List (D × D)} {xs : List NX} {d v : D} {b : Addr} {u : Value} {y : V} (h : Paired (DkR K H0 G) es xs) (hk : kyT d = some k) (hb : Dp K G (.ref b) d) (hu : RelV y u) (hv : Np (nwG H0 G) y v) : Paired (DkR K H0 G) (dkPut es k d v) (storedH xs k b u) := by
  obtain ⟨k1, k2, ds, rfl⟩ := kyT_is hk
  unfold dkPut storedH
  rw [(dk_find h).1]
  by_cases hc : (atKey xs k).isSome = true
  · rw [if_pos hc, if_pos hc]
    refine paired_map h fun e x r => ?_
    unfold putAt
    by_cases hx : x.1 = k
    · rw [if_pos hx, if_pos (show kyD e.1 = some k by rw [r.1, hx])]
      exact ⟨r.1, r.2.1, r.2.2.1, y, hu, hv⟩
    · rw [if_neg hx, if_neg (show ¬ kyD e.1 = some k by rw [r.1]; exact fun z => hx (Option.some.inj z))]
      exact r
  · rw [if_neg hc, if_neg hc]
    exact h.snoc ⟨k1, k2, hb, y, hu, hv⟩
theorem paired_len {α β : Type} {F : α → β → Prop} {as : List α} {bs : List β} (h : Paired F as bs) : as.length = bs.length := by
  induction h with
  | nil => rfl
  | cons _ _ ih => rw [List.length_cons, List.length_cons, ih]
/-! reading -/
theorem x_dget {i : Nat} {es : List (D × D)} {m : Option D} (hu : X.A.units + 64 < cLine) (hn : PE X o (tVar i)) (hd : nth δ i = .dk X.w es) (ha : PE X a (tR (rF X.K) X.K H0 G0 δ m)) (hs : PlainIx a := by exact fun _ _ => rfl) : PE X (.Subscript o a pos) (tR (rN X.K H0) X.K H0 G0 δ (m.bind (dkGet es))) :=
  PE_imp (pe_ix (ix_N hu) hn ha hs) fun σ H Q ⟨G, s, c, ec, q⟩ => by
    cases m with
    | none => cases ec
    | some d =>
      have ob := s.ok i
      rw [hd] at ob
      obtain ⟨p, xs, hp, k1, k2, hm, k3, k4⟩ := ob
      refine ⟨.ref p, hp, G, s, d, rfl, fun y H1 G1 w1 r1 => ?_⟩
      have ec' : (kyT d).bind (fun k => (dkAt es k).map (·.2)) = some c := ec
      cases hk : kyT d with
      | none => rw [hk] at ec'; cases ec'
      | some k =>
        rw [hk] at ec'
        cases hf : dkAt es k with
        | none =>
          have ec2 : (dkAt es k).map (·.2) = some c := ec'
          rw [hf] at ec2; cases ec2
        | some en =>
          have ec2 : (dkAt es k).map (·.2) = some c := ec'
          rw [hf] at ec2
          cases ec2
          have k5 := dkAll_to k4 w1.g
          obtain ⟨x, hx, v0, r0, d0⟩ := (dk_find k5).2 en hf
          exact ⟨p, xs, k, x.1, x.2, rfl, w1.h _ _ k3, keys_in k5 w1.gh, key_in hk w1.gh r1, hx, v0, r0, q v0 H1 G1 w1 d0⟩
theorem x_din0 {i : Nat} {es : List (D × D)} {m : Option D} {neg : Bool} {σ : L2.St} {H : Hp} {Q : Bool → Hp → Prop} (hd : nth δ i = .dk X.w es) (h : ∃ G, S8 X.K H0 G0 δ σ H G ∧ ∃ b, m.bind (dkHas neg es) = some b ∧ ∀ H' G', Grow H G H' G' → Q b H') :
    tR (rF X.K) X.K H0 G0 δ m σ H fun x H1 => tVar i σ H1 fun y H2 => rDkIn X.K X.w neg x y H2 fun v H3 => ∃ b, v = .bl b ∧ Q b H3 := by
  obtain ⟨G, s, c, ec, q⟩ := h
  cases m with
  | none => cases ec
  | some d =>
    have ob := s.ok i
    rw [hd] at ob
    obtain ⟨p, xs, hp, k1, k2, hm, k3, k4⟩ := ob
    refine ⟨G, s, d, rfl, fun y H1 G1 w1 r1 => ⟨.ref p, hp, ?_⟩⟩
    have ec' : (kyT d).map (fun k => if neg = true then !(dkAt es k).isSome else (dkAt es k).isSome) = some c := ec
    cases hk : kyT d with
    | none => rw [hk] at ec'; cases ec'
    | some k =>
      rw [hk] at ec'
      cases ec'
      have k5 := dkAll_to k4 w1.g
      refine ⟨p, xs, k, rfl, w1.h _ _ k3, hm, keys_in k5 w1.gh, key_in hk w1.gh r1, _, rfl, ?_⟩
      rw [← (dk_find (k := k) k5).1]
      exact q H1 G1 w1
theorem x_dinT {i : Nat} {es : List (D × D)} {m : Option D} (hu : X.A.units + 64 < cLine) (hn : PE X o (tVar i)) (hd : nth δ i = .dk X.w es) (ha : PE X a (tR (rF X.K) X.K H0 G0 δ m)) (hm : behindInMarks .In o = false) : PT X (.Compare a [.In] [o] pos) (tT X.K H0 G0 δ (m.bind (dkHas false es))) :=
  PT_imp (pt_cmpR (op_inN hu) ha hn hm) fun σ H Q h => x_din0 hd h
theorem x_dninT {i : Nat} {es : List (D × D)} {m : Option D} (hu : X.A.units + 64 < cLine) (hn : PE X o (tVar i)) (hd : nth δ i = .dk X.w es) (ha : PE X a (tR (rF X.K) X.K H0 G0 δ m)) (hm : behindInMarks .NotIn o = false) : PT X (.Compare a [.NotIn] [o] pos) (tT X.K H0 G0 δ (m.bind (dkHas true es))) :=
  PT_imp (pt_cmpR (op_ninN hu) ha hn hm) fun σ H Q h => x_din0 hd h
end
section
variable {X : Cx} {H0 G0 : Hp} {δ : En} {e a o ke ve : Expr} {pos px p2 : Pos} {rest : List Stmt} {T : Type} {Z : Zt T}
theorem s_setN {x : Str} {i : Nat} {m : Option D} {k : D → Option T} (zc : ZC Z) (N : Nm X x i) (hi : i < δ.length) (h : PE X e (tR (rN X.K H0) X.K H0 G0 δ m)) (hr : ∀ d, PSs X rest (tS Z X.K H0 G0 (put δ i (.ff d)) (k d)))
    (hs : swapsWith e (some (.Name x px)) pos.line X.env = pure false) : PSs X (.Assign [.Name x px] e pos :: rest) (tS Z X.K H0 G0 δ (bnd m k)) := by
  cases m with
  | none => exact PSs_imp (pss_cons ps_never (pss_never (sts := rest))) fun E σ H ⟨G, S, t, et, q⟩ => by cases et
  | some d =>
    exact PSs_imp (pss_cons (ps_set N.nd N.ix N.lc h hs N.fn) (hr d)) fun E σ H ⟨G, S, t, et, q⟩ =>
      ⟨G, S, d, rfl, fun v H' G' w r => ⟨G', (S.grow w).setN hi r, t, et, zc.mono w.g q⟩⟩
/-- name = {k: v} -/
theorem s_setD {x : Str} {i : Nat} {m n : Option D} {k : List (D × D) → Option T} (hu : X.A.units + 64 < cLine) (zc : ZC Z) (N : Nm X x i) (hi : i < δ.length) (hk : PE X ke (tR (rF X.K) X.K H0 G0 δ m)) (hv : PE X ve (tR (rN X.K H0) X.K H0 G0 δ n)) (hr : ∀ d, PSs X rest (tS Z X.K H0 G0 (put δ i (.dk X.w d)) (k d)))
    (hs : swapsWith (.Dict [some ke] [ve] p2) (some (.Name x px)) pos.line X.env = pure false) : PSs X (.Assign [.Name x px] (.Dict [some ke] [ve] p2) pos :: rest) (tS Z X.K H0 G0 δ (bnd (b2 dkNew m n) k)) := by
  have nv : ∀ {mm : Option T}, mm = none → PSs X (.Assign [.Name x px] (.Dict [some ke] [ve] p2) pos :: rest) (tS Z X.K H0 G0 δ mm) := fun z =>
    PSs_imp (pss_cons ps_never (pss_never (sts := rest))) fun E σ H ⟨G, S, t, et, q⟩ => by rw [z] at et; cases et
  cases m with
  | none => exact nv rfl
  | some d =>
    cases n with
    | none => exact nv rfl
    | some v =>
      cases hkt : kyT d with
      | none => exact nv (by rw [b2_ss]; unfold dkNew; rw [hkt]; rfl)
      | some kk =>
        refine PSs_imp (pss_cons (ps_set N.nd N.ix N.lc (pe_dkNew hu hk hv) hs N.fn) (hr [(d, v)])) fun E σ H ⟨G, S, t, et, q⟩ => ?_
        rw [b2_ss] at et
        unfold dkNew at et
        rw [hkt] at et
        intro p hp hm
        have g0 : G p = none := S.gh.none hp
        have W0 : Grow H G (upd H p (.ext (φN X.w p []))) G := Grow.newO S.gh hp
        refine ⟨G, S.grow W0, d, rfl, fun xv H1 G1 w1 r1 => ?_⟩
        refine ⟨G1, (S.grow W0).grow w1, v, rfl, fun yv H2 G2 w2 r2 => ?_⟩
        have hp2 : H2 p = some (.ext (φN X.w p [])) := w2.h _ _ (w1.h _ _ upd_same)
        refine ⟨hp2, ?_⟩
        have r1' := r1.to w2.g
        obtain ⟨c1, c2, ds, rfl⟩ := kyT_is hkt
        have kin := key_in (K := X.K) hkt w2.gh r1'
        obtain ⟨a, d', ea, _⟩ := id kin
        refine ⟨xv, yv, kk, a, rfl, ea, kin, fun u hu2 => ?_⟩
        have gn : G2 p = none := w2.nw p _ (w1.h _ _ upd_same) (w1.nw p _ upd_same g0)
        have gr : Grow H G (upd H2 p (.ext (φN X.w p [(kk, a, u)]))) G2 := by
          have ww := (W0.trans w1).trans w2
          exact ⟨ww.gh.mut gn, ww.g, ww.h.mut hp, ww.nw⟩
        refine ⟨G2, S.setD gr hi hp gn hm upd_same (.cons ⟨c1, c2, by rw [← ea]; exact r1', yv, hu2, r2⟩ .nil), t, et, zc.mono gr.g q⟩
/-- own[d] = value -/
theorem s_dset {i : Nat} {es : List (D × D)} {m n : Option D} {k : List (D × D) → Option T} (hu : X.A.units + 64 < cLine) (zc : ZC Z) (hn : PE X o (tVar i)) (hd : nth δ i = .dk X.w es) (h : PE X e (tR (rN X.K H0) X.K H0 G0 δ m)) (hx : PE X a (tR (rF X.K) X.K H0 G0 δ n)) (hr : ∀ d, PSs X rest (tS Z X.K H0 G0 (put δ i (.dk X.w d)) (k d)))
    (hs : swapsWithSole [.Subscript o a px] e pos.line X.env = pure false) (hw : swappedStores [.Subscript o a px] e X.env = pure none)
    (h1 : (assignEach [.Subscript o a px] X.env).map (·.2) = [assign (.Subscript o a px) X.env])
    (ha : ∀ v, assign (.Subscript o a px) X.env v = (eval o X.env |> holding [v]) >>= fun ov => (eval a X.env |> holding [v, ov]) >>= fun iv => standAt px >>= fun _ => holding [v, ov, iv] (setItem ov iv v) >>= fun _ => release [v, ov, iv] []) :
    PSs X (.Assign [.Subscript o a px] e pos :: rest) (tS Z X.K H0 G0 δ (bnd (b2 (fun v d => dkSet es d v) m n) k)) := by
  have nv : ∀ {mm : Option T}, mm = none → PSs X (.Assign [.Subscript o a px] e pos :: rest) (tS Z X.K H0 G0 δ mm) := fun z =>
    PSs_imp (pss_cons ps_never (pss_never (sts := rest))) fun E σ H ⟨G, S, t, et, q⟩ => by rw [z] at et; cases et
  cases m with
  | none => exact nv rfl
  | some v =>
    cases n with
    | none => exact nv rfl
    | some d =>
      cases hg : dkSet es d v with
      | none => exact nv (by rw [b2_ss, hg]; rfl)
      | some es' =>
        have hg' : (kyT d).bind (fun k => grd (decide (es.length ≤ LN)) (some (dkPut es k d v))) = some es' := hg
        cases hkt : kyT d with
        | none => rw [hkt] at hg'; cases hg'
        | some kk =>
          rw [hkt] at hg'
          obtain ⟨z1, z2⟩ := grd_some (show grd (decide (es.length ≤ LN)) (some (dkPut es kk d v)) = some es' from hg')
          cases z2
          refine PSs_imp (pss_cons (ps_asg h (pg_sub hn hx (set_N hu) ha) hs hw h1) (hr (dkPut es kk d v))) fun E σ H ⟨G, S, t, et, q⟩ => ?_
          rw [b2_ss, hg] at et
          refine ⟨G, S, v, rfl, fun x H1 G1 w r => ?_⟩
          have S1 := S.grow w
          have ob := S1.ok i
          rw [hd] at ob
          obtain ⟨p, xs, hp, k1, k2, hm, k3, k4⟩ := ob
          refine ⟨.ref p, hp, G1, S1, d, rfl, fun y H2 G2 w2 r2 => ?_⟩
          have k5 := dkAll_to k4 w2.g
          have kin := key_in hkt w2.gh r2
          obtain ⟨b, d', eb, _⟩ := id kin
          subst eb
          refine ⟨p, xs, kk, b, rfl, rfl, w2.h _ _ k3, by rw [← paired_len k4]; exact ln_line (of_decide_eq_true z1), keys_in k5 w2.gh, kin, fun u hu2 => ?_⟩
          exact ⟨G2, (S1.grow w2).updD hd hp hm (dk_put k5 hkt r2 hu2 (r.to (nwG_mono H0 w2.g))), t, et, zc.mono (w.trans w2).g q⟩
end
end Bd
/-! BdI: the place of a text in a list or a tuple of texts. -/
namespace Bd
open PySem PySem.Spec PyProof.Rows L2 Evl
def allS : List D → Option (List Str)
  | [] => some []
  | .str x :: r => (allS r).map fun xs => x :: xs
  | _ :: _ => none
theorem allS_is : ∀ {ds : List D} {xs : List Str}, allS ds = some xs → ds = xs.map PyData.str
  | [], _, h => by cases h; rfl
  | d :: ds, xs, h => by
    cases d with
    | str x =>
      have h' : (allS ds).map (fun xs => x :: xs) = some xs := h
      cases hr : allS ds with
      | none => rw [hr] at h'; cases h'
      | some ys => rw [hr] at h'; cases h'; rw [List.map_cons, ← allS_is hr]
    | _ => cases h
def ixS (ys : List Str) (z : Str) : Option Nat := ys.findIdx? fun y => decide (y = z)
def lixD : D → D → Option D
  | .list ds, .str z => (allS ds).bind fun ys => (ixS ys z).map fun j => .int (j : Int)
  | _, _ => none
theorem ixS_is {z : Str} : ∀ {ys : List Str} {j : Nat}, ixS ys z = some j → ys[j]? = some z ∧ ∀ m, m < j → ys[m]? ≠ some z := by
  intro ys
  unfold ixS
  induction ys with
  | nil => intro j h; simp at h
  | cons y ys ih =>
    intro j h
    rw [List.findIdx?_cons] at h
    by_cases hy : y = z
    · rw [if_pos (decide_eq_true hy)] at h
      cases h
      exact ⟨by rw [hy]; rfl, fun m hm => by omega⟩
    · rw [if_neg (by simpa using hy)] at h
      cases hj : List.findIdx? (fun y => decide (y = z)) ys with
      | none => rw [hj] at h; cases h
      | some i =>
        rw [hj] at h
        cases h
        obtain ⟨a, b⟩ := ih hj
        refine ⟨a, fun m hm => ?_⟩
        cases m with
        | zero => exact fun e => hy (Option.some.inj e)
        | succ m => exact b m (by have : m + 1 < i + 1 := hm; omega)
theorem dp_strs {K : PySem.W.Frag} {G : Hp} : ∀ {vs : List V} {xs : List Str}, DpAll K G vs (xs.map PyData.str) → vs = xs.map V.str
  | _, [], h => by cases h; rfl
  | _, x :: r, h => by
    cases h with
    | cons a b => cases a; rw [dp_strs b]; rfl
/-- a tuple of texts of the module, its object plain -/
structure CstI (K : PySem.W.Frag) (mg : Str → Option Value) (x : Str) (ys : List Str) : Prop where
  ex : ∃ p, mg x = some (.ref p) ∧ (∃ o, K.lookup p = some o ∧ o.cls = .type "tuple" ∧ o.dict = none) ∧ ∀ G, SqT K G p (ys.map V.str)
theorem cst_ix {K : PySem.W.Frag} {mg : Str → Option Value} {x : Str} {a : Addr} {zs : List Str} {us : List Value} {n : Nat} {sl : Array (Option Value)} (h : mg x = some (.ref a)) (l : K.lookup a = some ⟨.type "tuple", none, .seq us.toArray n, sl⟩) (hz : us.length ≤ 1000) (r : Vals (zs.map V.str) us) : CstI K mg x zs :=
  ⟨a, h, ⟨_, l, rfl, rfl⟩, fun G => .inr ⟨_, us.toArray, n, l, rfl, rfl, ln_line (show us.length ≤ LN from Nat.le_trans hz (by decide)), r⟩⟩
section
variable {X : Cx} {H0 G0 : Hp} {δ : En} {a b : Expr} {pos pa p2 : Pos} {m n : Option D}
theorem x_lix (ha : PE X a (tR (rV X.K) X.K H0 G0 δ m)) (hb : PE X b (tR (rF X.K) X.K H0 G0 δ n))
    (bm : PE X (.Call (.Attribute a "index" pa) [b] [] p2) (tBM X.K "list" (rIndex X.K) (tR (rV X.K) X.K H0 G0 δ m) (tCons (tR (rF X.K) X.K H0 G0 δ n) tNil))) : PE X (.Call (.Attribute a "index" pa) [b] [] p2) (tR (rF X.K) X.K H0 G0 δ (b2 lixD m n)) :=
  PE_imp bm fun σ H Q ⟨G, s, c, ec, q⟩ => by
    cases m with
    | none => cases ec
    | some d =>
      cases n with
      | none => cases ec
      | some z =>
        have ec' : lixD d z = some c := ec
        cases d with
        | list ds =>
          cases z with
          | str z =>
            have e1 : (allS ds).bind (fun ys => (ixS ys z).map fun j => PyData.int (j : Int)) = some c := ec'
            cases h1 : allS ds with
            | none => rw [h1] at e1; cases e1
            | some ys =>
              rw [h1] at e1
              have e2 : (ixS ys z).map (fun j => PyData.int (j : Int)) = some c := e1
              cases h2 : ixS ys z with
              | none => rw [h2] at e2; cases e2
              | some j =>
                rw [h2] at e2
                cases e2
                obtain ⟨j1, j2⟩ := ixS_is h2
                have hds := allS_is h1
                subst hds
                refine ⟨G, s, _, rfl, fun x H1 G1 w1 r1 => ?_⟩
                obtain ⟨p, vs, rfl, sp, ap⟩ := r1.list w1.gh
                have hvs := dp_strs ap
                subst hvs
                refine ⟨.inl ⟨rfl, _, sp⟩, G1, s.grow w1, _, rfl, fun y H2 G2 w2 r2 => ?_⟩
                cases r2
                refine ⟨p, ys.map V.str, .str z, j, .str z, rfl, rfl, ex_l w2.h sp, rfl, flat_strs ys, by rw [List.getElem?_map, j1]; rfl, by show decide _ = true; exact decide_eq_true rfl, fun k z' hk hz => ?_, ?_⟩
                · rw [List.getElem?_map] at hz
                  cases hy : ys[k]? with
                  | none => rw [hy] at hz; cases hz
                  | some y =>
                    rw [hy] at hz
                    cases hz
                    exact decide_eq_false fun e => j2 k hk (by rw [hy, e])
                · exact q _ H2 G2 (w1.trans w2) (.int _)
          | _ => cases ec'
        | _ => cases ec'
end
def tixD (ys : List Str) : D → Option D
  | .str z => (ixS ys z).map fun j => .int (j : Int)
  | _ => none
section
variable {X : Cx} {H0 G0 : Hp} {δ : En} {b : Expr} {pos pa p2 : Pos} {n : Option D}
theorem x_tix {x : Str} {ys : List Str} (C : CstI X.K X.mg x ys) (hg : Gl X x) (hb : PE X b (tR (rF X.K) X.K H0 G0 δ n))
    (bm : ∀ (p : Addr), X.mg x = some (.ref p) → PE X (.Call (.Attribute (.Name x pos) "index" pa) [b] [] p2) (tBM X.K "tuple" (fun x xs H Q => ∃ p, ∃ ys : List Str, ∃ z j, x = .ref p ∧ xs = [.str z] ∧ SqT X.K H p (ys.map V.str) ∧ ys[j]? = some z ∧ (∀ m, m < j → ys[m]? ≠ some z) ∧ Q (.int (j : Nat)) H) (tC (.ref p)) (tCons (tR (rF X.K) X.K H0 G0 δ n) tNil))) : PE X (.Call (.Attribute (.Name x pos) "index" pa) [b] [] p2) (tR (rF X.K) X.K H0 G0 δ (n.bind (tixD ys))) := by
  obtain ⟨p, hp, ho, hs⟩ := C.ex
  refine PE_imp (bm p hp) fun σ H Q ⟨G, s, c, ec, q⟩ => ?_
  cases n with
  | none => cases ec
  | some z =>
    cases z with
    | str z =>
      have e2 : (ixS ys z).map (fun j => PyData.int (j : Int)) = some c := ec
      cases h2 : ixS ys z with
      | none => rw [h2] at e2; cases e2
      | some j =>
        rw [h2] at e2
        cases e2
        obtain ⟨j1, j2⟩ := ixS_is h2
        refine ⟨.inr (.inl ⟨rfl, ho⟩), G, s, _, rfl, fun y H2 G2 w2 r2 => ?_⟩
        cases r2
        exact ⟨p, ys, z, j, rfl, rfl, hs H2, j1, j2, q _ H2 G2 w2 (.int _)⟩
    | _ => cases ec
end
end Bd
/-! BdN: tuples of new things. -/
namespace Bd
open PySem PySem.Spec PyProof.Rows L2 Evl
def nAr (K : PySem.W.Frag) (H0 G0 : Hp) (δ : En) (m : Option (List D)) : TA := fun σ H Q => ∃ G, S8 K H0 G0 δ σ H G ∧ ∃ ds, m = some ds ∧ ∀ vs H' G', Grow H G H' G' → NpAll (nwG H0 G') vs ds → Q vs H'
section
variable {X : Cx} {H0 G0 : Hp} {δ : En} {e : Expr} {es : List Expr} {pos : Pos} {m : Option D} {ms : Option (List D)}
theorem n_nil : PA X [] (nAr X.K H0 G0 δ (some [])) := PA_imp pa_nil fun σ H Q ⟨G, s, ds, ed, q⟩ => by
  cases ed
  exact q [] H G (.refl s.gh) .nil
theorem n_cons (h : PE X e (tR (rN X.K H0) X.K H0 G0 δ m)) (hr : PA X es (nAr X.K H0 G0 δ ms)) (hs : starEach (e :: es) X.env = (false, eval e X.env) :: starEach es X.env := by rfl) : PA X (e :: es) (nAr X.K H0 G0 δ (consO m ms)) :=
  PA_imp (pa_cons h hr hs) fun σ H Q ⟨G, s, ds, ed, q⟩ => by
    cases m with
    | none => cases ed
    | some d =>
      cases ms with
      | none => cases ed
      | some r =>
        cases ed
        refine ⟨G, s, d, rfl, fun x H1 G1 w1 r1 => ?_⟩
        exact ⟨G1, s.grow w1, r, rfl, fun vs H2 G2 w2 r2 => q (x :: vs) H2 G2 (w1.trans w2) (.cons (r1.to (nwG_mono H0 w2.g)) r2)⟩
theorem x_tupN {k : Nat} (h : PA X es (nAr X.K H0 G0 δ ms)) : PE X (.Tuple es k pos) (tR (rN X.K H0) X.K H0 G0 δ ((ms.bind fun ds => grd (decide (ds.length ≤ 1000)) (some ds)).map PyData.tuple)) :=
  PE_imp (pe_tup h) fun σ H Q ⟨G, s, c, ec, q⟩ => by
    cases ms with
    | none => cases ec
    | some ds =>
      cases hl : decide (ds.length ≤ 1000) with
      | false =>
        have ec' : (grd (decide (ds.length ≤ 1000)) (some ds)).map PyData.tuple = some c := ec
        rw [hl] at ec'; cases ec'
      | true =>
        have ec' : (grd (decide (ds.length ≤ 1000)) (some ds)).map PyData.tuple = some c := ec
        rw [hl] at ec'; cases ec'
        refine ⟨G, s, ds, rfl, fun vs H1 G1 w r => ?_⟩
        refine ⟨ln_line (by rw [r.length]; exact Nat.le_trans (of_decide_eq_true hl) (by decide)), fun p hp => ?_⟩
        have h0 : H0 p = none := s.gr.h.none (w.h.none hp)
        have eg : Ex G1 (upd G1 p (.tup vs)) := Ex.new (w.gh.none hp)
        exact q _ _ _ (w.trans (Grow.newF w.gh hp)) (.tup (by rw [nwG_at h0, upd_same]) (r.to (nwG_mono H0 eg)))
/-- a new list of two -/
def addN : D → D → Option D
  | .list x, .list y => grd (decide (x.length + y.length ≤ LN) && (x ++ y).all flatD) (some (.list (x ++ y)))
  | _, _ => none
theorem x_catN {a b : Expr} {m n : Option D} (ha : PE X a (tR (rV X.K) X.K H0 G0 δ m)) (hb : PE X b (tR (rV X.K) X.K H0 G0 δ n)) : PE X (.BinOp a .Add b pos) (tR (rN X.K H0) X.K H0 G0 δ (b2 addN m n)) :=
  PE_imp (pe_op op_catS ha hb) fun σ H Q ⟨G, s, c, ec, q⟩ => by
    cases m with
    | none => cases ec
    | some a =>
      cases n with
      | none => cases ec
      | some b =>
        have ec' : addN a b = some c := ec
        cases a with
        | list as =>
          cases b with
          | list bs =>
            obtain ⟨h1, h2⟩ := grd_some ec'
            cases h2
            rw [Bool.and_eq_true] at h1
            refine ⟨G, s, _, rfl, fun x H1 G1 w1 r1 => ?_⟩
            refine ⟨G1, s.grow w1, _, rfl, fun y H2 G2 w2 r2 => ?_⟩
            obtain ⟨p, vs, rfl, sp, ap⟩ := (r1.to w2.h w2.g).list w2.gh
            obtain ⟨r, ws, rfl, sr, ar⟩ := r2.list w2.gh
            refine ⟨p, r, vs, ws, rfl, rfl, sp, sr, by rw [ap.length, ar.length]; exact ln_line (of_decide_eq_true h1.1), fun l hl => ?_⟩
            have h0 : H0 l = none := s.gr.h.none (w1.h.none (w2.h.none hl))
            exact q _ _ _ ((w1.trans w2).trans (Grow.newF w2.gh hl)) (.lst (by rw [nwG_at h0, upd_same]) (flats_np h1.2 (ap.append ar)))
          | _ => cases ec'
        | _ => cases ec'
end
end Bd
/-! BdT: a triple handed back whose third is a list of one's own. -/
namespace Bd
open PySem PySem.Spec PyProof.Rows L2 Evl
/-- none, or a triple that is new, its third a new list -/
abbrev rT (K : PySem.W.Frag) : Rel D := fun H H' G' v d => ∃ l, TlR K H H' G' v l d
theorem TlR.start {K : PySem.W.Frag} {H0 H H' G' : Hp} {v : V} {l : Addr} {d : D} (e : Ex H0 H) (h : TlR K H H' G' v l d) : TlR K H0 H' G' v l d := by
  rcases h with h | ⟨p, a, b, va, vb, vs, cs, e1, e2, h1, h2, h3, h4, h5, h6, h7, h8, h9, h10⟩
  · exact .inl h
  · exact .inr ⟨p, a, b, va, vb, vs, cs, e1, e2, e.none h1, h2, h3, h4, h5, h6, e.none h7, h8, h9, h10⟩
theorem ww_T {K : PySem.W.Frag} : ∀ (H1 H2 H3 G2 : Hp) v c, Ex H1 H2 → rT K H2 H3 G2 v c → rT K H1 H3 G2 v c := fun _ _ _ _ _ _ e ⟨l, h⟩ => ⟨l, h.start e⟩
theorem nwG_some {H0 G : Hp} {p : Addr} {u : HO} (h : nwG H0 G p = some u) : H0 p = none ∧ G p = some u := by
  unfold nwG at h
  cases e : H0 p with
  | none => rw [e] at h; exact ⟨rfl, h⟩
  | some o => rw [e] at h; cases h
def tlG : D → Option D
  | .none => some .none
  | .tuple [a, b, .list cs] => grd (flatD a && flatD b && cs.all flatD) (some (.tuple [a, b, .list cs]))
  | _ => none
theorem np_flat {K : PySem.W.Frag} {H G : Hp} {v : V} {d : D} (f : flatD d = true) (h : Np H v d) : Dp K G v d := flat_any f (h.dp (K := K))
theorem nps_flat {K : PySem.W.Frag} {H G : Hp} {vs : List V} {ds : List D} (f : ds.all flatD = true) (h : NpAll H vs ds) : DpAll K G vs ds := flats_any f (h.dp (K := K))
theorem tl_of {K : PySem.W.Frag} {H0 G0 H G : Hp} {v : V} {d d' : D} (w : Grow H0 G0 H G) (e0 : Ex G0 H0) (h : tlG d = some d') (r : Np (nwG H0 G) v d) : rT K H0 H G0 v d' := by
  have key : ∀ {p u}, nwG H0 G p = some u → H0 p = none ∧ G0 p = none ∧ H p = some u := fun {p u} q => by
    obtain ⟨h1, h2⟩ := nwG_some q
    exact ⟨h1, e0.none h1, w.gh _ _ h2⟩
  cases d with
  | none =>
    cases h; cases r
    exact ⟨0, .inl ⟨rfl, rfl⟩⟩
  | tuple ds =>
    match ds, h, r with
    | [a, b, .list cs], h, r =>
      obtain ⟨f1, f2⟩ := grd_some (show grd (flatD a && flatD b && cs.all flatD) (some (.tuple [a, b, .list cs])) = some d' from h)
      cases f2
      rw [Bool.and_eq_true, Bool.and_eq_true] at f1
      cases r with
      | @tup p xs _ hs ha =>
        cases ha with
        | cons ra t1 => cases t1 with
          | cons rb t2 => cases t2 with
            | cons rc t3 =>
              cases t3
              cases rc with
              | @lst l vs _ hl hv =>
                obtain ⟨k1, k2, k3⟩ := key hs
                obtain ⟨j1, j2, j3⟩ := key hl
                exact ⟨l, .inr ⟨p, a, b, _, _, vs, cs, rfl, rfl, k1, k2, k3, np_flat f1.1.1 ra, np_flat f1.1.2 rb, (fun z => by rw [z, j3] at k3; cases k3), j1, j2, j3, nps_flat f1.2 hv⟩⟩
    | [], h, _ => cases h
    | [_], h, _ => cases h
    | [_, _], h, _ => cases h
    | [_, _, .none], h, _ => cases h
    | [_, _, .bool _], h, _ => cases h
    | [_, _, .int _], h, _ => cases h
    | [_, _, .str _], h, _ => cases h
    | [_, _, .tuple _], h, _ => cases h
    | [_, _, .dict _], h, _ => cases h
    | _ :: _ :: c :: _ :: _, h, _ => cases c <;> cases h
  | _ => cases h
/-! the slots -/
section
variable {K : PySem.W.Frag} {H0 G0 H G H1 G1 : Hp} {δ : En} {σ : L2.St}
theorem put_put : ∀ (δ : En) (i : Nat) (s t : Sl), put (put δ i s) i t = put δ i t
  | [], _, _, _ => rfl
  | _ :: _, 0, _, _ => rfl
  | x :: r, n + 1, s, t => by
    show x :: put (put r n s) n t = x :: put r n t
    rw [put_put r n s t]
theorem S8.setT {i : Nat} {l : Addr} {d : D} {v : V} (s : S8 K H0 G0 δ σ H G) (g : Grow H G H1 G1) (hi : i < δ.length) (h : TlR K H H1 G1 v l d) : S8 K H0 G0 (put δ i (.tl l d)) (σ.set i (some v)) H1 G1 :=
  (s.grow g).set hi ⟨v, rfl, h.start s.gr.h⟩ fun a z j _ o => by
    obtain ⟨rfl, z2⟩ := z
    rcases h with ⟨rfl, _⟩ | ⟨p, a', b, va, vb, vs, cs, e1, e2, h1, h2, h3, h4, h5, h6, h7, h8, h9, h10⟩
    · exact z2 rfl
    · exact s.fresh h7 j o
/-- one thing more is frozen; slot i is read anew -/
theorem S8.frz1 {i : Nat} {t : Sl} {q : Addr} {o : HO} (s : S8 K H0 G0 δ σ H G) (hi : i < δ.length) (hg : G q = none) (ho : H q = some o) (hq : H0 q = none) (ht : SlOk K H0 G0 H (upd G q o) σ[i]? t) (hk : ∀ a, owA σ[i]? t a → owA σ[i]? (nth δ i) a) (hn : ∀ j, j ≠ i → ¬ owA σ[j]? (nth δ j) q) (hn2 : ∀ j l d x, j ≠ i → nth δ j = .tl l d → σ[j]? = some (some (.ref x)) → x ≠ q) : S8 K H0 G0 (put δ i t) σ H (upd G q o) := by
  have eg : Ex G (upd G q o) := Ex.new hg
  refine ⟨⟨fun a u e => ?_, s.gr.g.trans eg, s.gr.h, fun a u e n => ?_⟩, by rw [put_length]; exact s.len, fun j => ?_, fun a b r hab k1 k2 => ?_, s.g0⟩
  · by_cases ha : a = q
    · subst ha; rw [upd_same] at e; rw [ho]; exact e
    · rw [upd_ne ha] at e; exact s.gr.gh a u e
  · rw [upd_ne (ne_of_none e hq)]
    exact s.gr.nw a u e n
  · by_cases hj : j = i
    · subst hj
      rw [nth_put_same _ _ _ hi]
      exact ht
    · rw [nth_put_ne _ _ _ _ hj]
      exact (s.ok j).froze hg ho (hn j hj) fun l d x ex ev => hn2 j l d x hj ex ev
  · have k : ∀ c, owA σ[c]? (nth (put δ i t) c) r → owA σ[c]? (nth δ c) r := fun c h => by
      by_cases hc : c = i
      · subst hc; rw [nth_put_same _ _ _ hi] at h; exact hk r h
      · rw [nth_put_ne _ _ _ _ hc] at h; exact h
    exact s.ap a b r hab (k a k1) (k b k2)
theorem tl_tup {v : Option (Option V)} {l : Addr} {d : D} {x : Addr} (h : SlOk K H0 G0 H G v (.tl l d)) (e : v = some (some (.ref x))) : ∃ va vb vs, H x = some (.tup [va, vb, .ref l]) ∧ G l = none ∧ H l = some (.lst vs) := by
  obtain ⟨y, ey, q⟩ := h
  rw [e] at ey
  cases ey
  rcases q with ⟨q, _⟩ | ⟨p, a, b, va, vb, vs, cs, e1, e2, h1, h2, h3, h4, h5, h6, h7, h8, h9, h10⟩
  · cases q
  · cases e1; exact ⟨va, vb, vs, h3, h8, h9⟩
theorem S8.freezeT {i : Nat} {l : Addr} {d : D} (s : S8 K H0 G0 δ σ H G) (hd : nth δ i = .tl l d) : ∃ G', Ex G G' ∧ S8 K H0 G0 (put δ i (.fr d)) σ H G' := by
  have o := s.ok i
  have hi := lt_of_nth hd (by intro z; cases z)
  have od := o
  rw [hd] at o
  obtain ⟨x, hx, q⟩ := o
  rcases q with ⟨rfl, rfl⟩ | ⟨p, a, b, va, vb, vs, cs, rfl, rfl, h1, h2, h3, h4, h5, h6, h7, h8, h9, h10⟩
  · refine ⟨G, Ex.refl G, ?_⟩
    refine ⟨s.gr, by rw [put_length]; exact s.len, fun j => ?_, fun a b r hab k1 k2 => ?_, s.g0⟩
    · by_cases hj : j = i
      · subst hj
        rw [nth_put_same _ _ _ hi]
        exact ⟨_, hx, .non⟩
      · rw [nth_put_ne _ _ _ _ hj]; exact s.ok j
    · have k : ∀ c, owA σ[c]? (nth (put δ i (.fr .none)) c) r → owA σ[c]? (nth δ c) r := fun c h => by
        by_cases hc : c = i
        · subst hc; rw [nth_put_same _ _ _ hi] at h; cases h
        · rw [nth_put_ne _ _ _ _ hc] at h; exact h
      exact s.ap a b r hab (k a k1) (k b k2)
  · have oi : owA σ[i]? (nth δ i) l := by rw [hd]; exact ⟨rfl, by rw [hx]; intro z; cases z⟩
    have e1 : Ex G (upd G l (.lst vs)) := Ex.new h8
    have s1 : S8 K H0 G0 (put δ i .no) σ H (upd G l (.lst vs)) := s.frz1 hi h8 h9 h7 trivial (fun a z => nomatch z) (fun j hj z => s.ap j i l hj z oi) fun j l' d' y hj ej ev z => by
      subst z
      have oj := s.ok j
      rw [ej] at oj
      obtain ⟨va', vb', vs', k1, _⟩ := tl_tup oj ev
      rw [h9] at k1; cases k1
    have hp : upd G l (.lst vs) p = none := by rw [upd_ne h6]; exact h2
    have e2 : Ex (upd G l (.lst vs)) (upd (upd G l (.lst vs)) p (.tup [va, vb, .ref l])) := Ex.new hp
    refine ⟨upd (upd G l (.lst vs)) p (.tup [va, vb, .ref l]), e1.trans e2, ?_⟩
    rw [← put_put δ i .no]
    refine s1.frz1 (by rw [put_length]; exact hi) hp h3 h1 ⟨_, hx, .tup (.inl (.inl upd_same)) (.cons (h4.to (e1.trans e2)) (.cons (h5.to (e1.trans e2)) (.cons (.lst (.inl (.inl (e2 _ _ upd_same))) (h10.to (e1.trans e2))) .nil)))⟩ (fun a z => nomatch z) (fun j hj z => ?_) fun j l' d' y hj ej ev z => ?_
    · rcases ((s1.ok j).owned z).2.2 with ⟨_, k⟩ | ⟨_, k⟩ <;> rw [h3] at k <;> cases k
    · subst z
      have oj := s1.ok j
      rw [ej] at oj
      obtain ⟨va', vb', vs', k1, k2, _⟩ := tl_tup oj ev
      rw [h3] at k1
      cases k1
      rw [upd_same] at k2; cases k2
theorem S8.updT {i : Nat} {l : Addr} {a b : D} {cs es : List D} {ws : List V} {x : V} (s : S8 K H0 G0 δ σ H G) (hd : nth δ i = .tl l (.tuple [a, b, .list cs])) (hw : DpAll K G ws es) : S8 K H0 G0 (put δ i (.tl l (.tuple [a, b, .list es]))) σ (upd H l (.lst ws)) G := by
  have hi := lt_of_nth hd (by intro z; cases z)
  have o := s.ok i
  rw [hd] at o
  obtain ⟨x, hx, q⟩ := o
  rcases q with ⟨rfl, q⟩ | ⟨p, a', b', va, vb, vs, cs', rfl, e2, h1, h2, h3, h4, h5, h6, h7, h8, h9, h10⟩
  · cases q
  · cases e2
    have oi : owA σ[i]? (nth δ i) l := by rw [hd]; exact ⟨rfl, by rw [hx]; intro z; cases z⟩
    exact s.updA hi oi ⟨_, hx, .inr ⟨p, a, b, va, vb, ws, es, rfl, rfl, h1, h2, by rw [upd_ne h6]; exact h3, h4, h5, h6, h7, h8, upd_same, hw⟩⟩ fun z h => by
      rw [hd]; exact h
end
section
variable {X : Cx} {H0 G0 : Hp} {δ : En} {e o : Expr} {pos px p2 : Pos} {rest : List Stmt} {T : Type} {Z : Zt T}
theorem PSs_exL {ι : Type} {sts : List Stmt} {t : ι → TS} (h : ∀ i, PSs X sts (t i)) : PSs X sts (fun E σ H => ∃ i, t i E σ H) := ⟨fun pins s σ H Q I ⟨i, w⟩ => (h i).run pins s σ H Q I w⟩
theorem s_retT {m : Option D} (h : PE X e (tR (rN X.K H0) X.K H0 G0 δ m)) : PSs X (.Return (some e) pos :: rest) (tS (zQ (rT X.K)) X.K H0 G0 δ (m.bind tlG)) :=
  PSs_imp (pss_cons (ps_ret h) (pss_never (sts := rest))) fun E σ H ⟨G, S, t, et, q⟩ => by
    cases m with
    | none => cases et
    | some d =>
      have et' : tlG d = some t := et
      refine ⟨G, S, d, rfl, fun v H' G' w r => ?_⟩
      have w2 := S.gr.trans w
      exact q v H' G0 ⟨w2.g.trans w2.gh, Ex.refl G0, w2.h, fun _ _ _ n => n⟩ (tl_of w2 S.g0 et' r)
theorem s_setT {x : Str} {i : Nat} {m : Option D} {k : D → Option T} (zc : ZC Z) (N : Nm X x i) (hi : i < δ.length) (h : PE X e (tR (rT X.K) X.K H0 G0 δ m)) (hr : ∀ d l, PSs X rest (tS Z X.K H0 G0 (put δ i (.tl l d)) (k d)))
    (hs : swapsWith e (some (.Name x px)) pos.line X.env = pure false) : PSs X (.Assign [.Name x px] e pos :: rest) (tS Z X.K H0 G0 δ (bnd m k)) := by
  cases m with
  | none => exact PSs_imp (pss_cons ps_never (pss_never (sts := rest))) fun E σ H ⟨G, S, t, et, q⟩ => by cases et
  | some d =>
    exact PSs_imp (pss_cons (ps_set N.nd N.ix N.lc h hs N.fn) (PSs_exL fun l => hr d l)) fun E σ H ⟨G, S, t, et, q⟩ =>
      ⟨G, S, d, rfl, fun v H' G' w ⟨l, r⟩ => ⟨l, G', S.setT w hi r, t, et, zc.mono w.g q⟩⟩
theorem s_frzT {i : Nat} {l : Addr} {d : D} {sts : List Stmt} {m : Option T} (zc : ZC Z) (h : nth δ i = .tl l d) (k : PSs X sts (tS Z X.K H0 G0 (put δ i (.fr d)) m)) : PSs X sts (tS Z X.K H0 G0 δ m) :=
  PSs_imp k fun E σ H ⟨G, S, t, et, q⟩ => by
    obtain ⟨G', eg, S'⟩ := S.freezeT h
    exact ⟨G', S', t, et, zc.mono eg q⟩
/-- a test that reads it -/
theorem y_bor {i : Nat} {l : Addr} {d : D} {m : Option Bool} (h : nth δ i = .tl l d) (k : PT X e (tT X.K H0 G0 (put δ i (.fr d)) m)) : PT X e (tT X.K H0 G0 δ m) :=
  PT_imp k fun σ H Q ⟨G, S, b, eb, q⟩ => by
    obtain ⟨G', eg, S'⟩ := S.freezeT h
    exact ⟨G', S', b, eb, fun H1 G1 w => q H1 G ⟨eg.trans (w.g.trans w.gh), Ex.refl G, w.h, fun _ _ _ n => n⟩⟩
def tlApp (d x : D) : Option D := match d with
  | .tuple [a, b, .list cs] => grd (decide (cs.length < LN)) (some (.tuple [a, b, .list (cs ++ [x])]))
  | _ => none
theorem tlApp_is {d x d' : D} (h : tlApp d x = some d') : ∃ a b cs, d = .tuple [a, b, .list cs] ∧ cs.length < LN ∧ d' = .tuple [a, b, .list (cs ++ [x])] := by
  unfold tlApp at h
  split at h
  · obtain ⟨h1, h2⟩ := grd_some h
    cases h2
    exact ⟨_, _, _, rfl, of_decide_eq_true h1, rfl⟩
  · cases h
/-- name[2].append(value) -/
theorem s_appT {i : Nat} {l : Addr} {d : D} {m : Option D} {k : D → Option T} {pa ps pc : Pos} {j : Nat} (zc : ZC Z) (hn : PE X o (tVar i)) (hd : nth δ i = .tl l d) (h : PE X e (tR (rF X.K) X.K H0 G0 δ m)) (hr : ∀ d, PSs X rest (tS Z X.K H0 G0 (put δ i (.tl l d)) (k d)))
    (bm : PE X (.Call (.Attribute (.Subscript o (.Constant (.int 2) j pc) ps) "append" pa) [e] [] p2) (tBM X.K "list" rAppend (tOp (rIxT X.K) (tVar i) (tC (.int 2))) (tCons (tR (rF X.K) X.K H0 G0 δ m) tNil)))
    (hs : swapsWith (.Call (.Attribute (.Subscript o (.Constant (.int 2) j pc) ps) "append" pa) [e] [] p2) none pos.line X.env = pure false) :
    PSs X (.Expr (.Call (.Attribute (.Subscript o (.Constant (.int 2) j pc) ps) "append" pa) [e] [] p2) pos :: rest) (tS Z X.K H0 G0 δ (bnd (m.bind (tlApp d)) k)) := by
  have nv : ∀ {mm : Option T}, mm = none → PSs X (.Expr (.Call (.Attribute (.Subscript o (.Constant (.int 2) j pc) ps) "append" pa) [e] [] p2) pos :: rest) (tS Z X.K H0 G0 δ mm) := fun z =>
    PSs_imp (pss_cons ps_never (pss_never (sts := rest))) fun E σ H ⟨G, S, t, et, q⟩ => by rw [z] at et; cases et
  cases m with
  | none => exact nv rfl
  | some y =>
    cases hg : tlApp d y with
    | none => exact nv (by rw [show ((some y : Option D).bind (tlApp d)) = tlApp d y from rfl, hg]; rfl)
    | some d' =>
      obtain ⟨a, b, cs, rfl, hl, rfl⟩ := tlApp_is hg
      refine PSs_imp (pss_cons (ps_expr bm hs) (hr (.tuple [a, b, .list (cs ++ [y])]))) fun E σ H ⟨G, S, t, et, q⟩ => ?_
      rw [show ((some y : Option D).bind (tlApp (.tuple [a, b, .list cs]))) = tlApp (.tuple [a, b, .list cs]) y from rfl, hg] at et
      have ob := S.ok i
      rw [hd] at ob
      obtain ⟨x, hx, r⟩ := ob
      rcases r with ⟨rfl, r⟩ | ⟨p, a', b', va, vb, vs, cs', rfl, e2, h1, h2, h3, h4, h5, h6, h7, h8, h9, h10⟩
      · cases r
      · cases e2
        refine ⟨.ref p, hx, p, [va, vb, .ref l], 2, .ref l, rfl, rfl, .inl (.inl h3), rfl, .inl ⟨rfl, vs, .inl (.inl h9)⟩, G, S, y, rfl, fun v H' G' w r => ?_⟩
        refine ⟨l, vs, v, rfl, rfl, w.h _ _ h9, ln_lt (by rw [h10.length]; exact hl), ?_⟩
        exact ⟨G', (S.grow w).updT (x := v) hd ((h10.to w.g).append (.cons r .nil)), t, et, zc.mono w.g q⟩
end
end Bd
namespace Bw
open PySem PySem.Spec PyProof.Rows L2 Bd
/-! ### mirrors -/
def m_homes (n : Nat) (u_rows : D) : Option (List D) :=
  (bnd (some []) fun u_found => (bnd (some []) fun u_opened => (bnd (bnd (((some u_rows).bind listD).map (enL 0)) fun ds => foldO (fun (p_u_at : D × D) (s1 : (List D) × (List D)) => (bnd ((some (.int 1)).bind negD) fun u_home => (bnd (ifM (b2 (ordD gtI) ((some (.list s1.2)).bind lenD) (some (.int 0))) (bnd (b2 idxD (some (.list s1.2)) ((some (.int 1)).bind negD)) fun u_home => (some u_home)) (some u_home)) fun s2 : D => (bnd ((some s2).bind (appM s1.1)) fun u_found => (bnd (ifM (b2 inD (b2 idxD (some p_u_at.2) (some (.int 0))) (some (.tuple [(.str "lend"), (.str "pick"), (.str "either"), (.str "again")]))) (bnd ((some p_u_at.1).bind (appM s1.2)) fun u_opened => (some u_opened)) (bnd (ifM (b2 eqD (b2 idxD (some p_u_at.2) (some (.int 0))) (some (.str "end"))) (bnd (popM s1.2) fun u_opened => (some u_opened)) (some s1.2)) fun s4 : (List D) => (some s4))) fun s3 : (List D) => (some (u_found, s3))))))) ds (u_found, u_opened)) fun s1 : (List D) × (List D) => (some s1.1))))
def l_homes (n : Nat) : List D → Option (List D)
  | [a0] => m_homes n a0
  | _ => none
def m_is_asleep (n : Nat) (u_held : D) (u_word : D) : Option D :=
  ((lD (lcG ((some u_held).bind itD) (fun u_one => (some true)) (fun u_one => (andV (b2 idxD (some u_one) (some (.int 4))) (bD (b2 eqD (b2 idxD (some u_one) (some (.int 3))) (some u_word))))))).bind anyD)
def l_is_asleep (n : Nat) : List D → Option D
  | [a0, a1] => m_is_asleep n a0 a1
  | _ => none
def m_hand_of (n : Nat) (u_row : D) : Option D :=
  (ifM (orT (b2 eqD (b2 idxD (some u_row) (some (.int 0))) (some (.str "look"))) (b2 eqD (b2 idxD (some u_row) (some (.int 0))) (some (.str "change")))) (b2 idxD (some u_row) (some (.int 1))) (ifM (andT (b2 eqD (b2 idxD (some u_row) (some (.int 0))) (some (.str "lend"))) ((b2 idxD (some u_row) (some (.int 3))).map isStr)) (b2 idxD (some u_row) (some (.int 3))) (some (.str ""))))
def l_hand_of (n : Nat) : List D → Option D
  | [a0] => m_hand_of n a0
  | _ => none
def m_is_word (n : Nat) (u_value : D) : Option D :=
  (ifM (orT (notT ((some u_value).map isStr)) (orT (b2 eqD ((some u_value).bind lenD) (some (.int 0))) (b2 (ordD gtI) ((some u_value).bind lenD) (some (.int 12))))) (some (.bool false)) ((lD (lcG ((some u_value).bind itD) (fun u_sign => (some true)) (fun u_sign => (bD (b2 inD (some u_sign) (some (.str "abcdefghijklmnopqrstuvwxyz"))))))).bind allD))
def l_is_word (n : Nat) : List D → Option D
  | [a0] => m_is_word n a0
  | _ => none
def m_is_thing (n : Nat) (u_value : D) : Option D :=
  (andV ((some u_value).map fun d => PyData.bool (isInt d)) (andV (notV ((some u_value).map fun d => PyData.bool (isBool d))) (andV (bD (b2 (ordD leI) (some (.int 0)) (some u_value))) (bD (b2 (ordD ltI) (some u_value) (some (.int 1000000000)))))))
def l_is_thing (n : Nat) : List D → Option D
  | [a0] => m_is_thing n a0
  | _ => none
def m_kind_of (n : Nat) (u_opened : D) (u_word : D) : Option D :=
  (bnd (bnd ((some u_opened).bind itD) fun ds => foldF (fun (u_row : D) (s1 : Unit) => (ifM (andT (b2 inD (b2 idxD (some u_row) (some (.int 0))) ((consO (some (.str "lend")) (consO (some (.str "pick")) (some []))).map PyData.tuple)) (b2 eqD (b2 idxD (some u_row) (some (.int 1))) (some u_word))) ((ifM (b2 eqD (b2 idxD (some u_row) (some (.int 0))) (some (.str "pick"))) (some (.str "pick")) (b2 idxD (some u_row) (some (.int 2)))).map .rt) (some (.nx ())))) ds ()) (flQ fun s1 : Unit => (some (.str ""))))
def l_kind_of (n : Nat) : List D → Option D
  | [a0, a1] => m_kind_of n a0 a1
  | _ => none
def m_entry_of (n : Nat) (u_held : D) (u_word : D) : Option D :=
  (bnd (bnd ((some u_held).bind itD) fun ds => foldF (fun (u_one : D) (s1 : Unit) => (ifM (b2 eqD (b2 idxD (some u_one) (some (.int 0))) (some u_word)) ((some u_one).map .rt) (some (.nx ())))) ds ()) (flQ fun s1 : Unit => (some .none)))
def l_entry_of (n : Nat) : List D → Option D
  | [a0, a1] => m_entry_of n a0 a1
  | _ => none
def m_given_back (n : Nat) (u_held : D) (u_word : D) : Option D :=
  (bnd (consO (some u_word) (some [])) fun u_gone => (bnd ((some []).map PyData.tuple) fun u_found => (bnd (bnd ((some u_held).bind itD) fun ds => foldO (fun (u_one : D) (s1 : (List D) × D) => (bnd (ifM (orT (b2 eqD (b2 idxD (some u_one) (some (.int 0))) (some u_word)) (b2 inD (b2 idxD (some u_one) (some (.int 3))) (some (.list s1.1)))) (bnd ((b2 idxD (some u_one) (some (.int 0))).bind (appM s1.1)) fun u_gone => (bnd ((consO (b2 idxD (some u_one) (some (.int 0))) (consO (b2 idxD (some u_one) (some (.int 1))) (consO (b2 idxD (some u_one) (some (.int 2))) (consO (b2 idxD (some u_one) (some (.int 3))) (consO (some (.bool false)) (some [])))))).map PyData.tuple) fun u_one => (some (u_gone, u_one)))) (some (s1.1, u_one))) fun s2 : (List D) × D => (bnd (b2 addD (some s1.2) ((consO (some s2.2) (some [])).map PyData.tuple)) fun u_found => (some (s2.1, u_found))))) ds (u_gone, u_found)) fun s1 : (List D) × D => (some s1.2))))
def l_given_back (n : Nat) : List D → Option D
  | [a0, a1] => m_given_back n a0 a1
  | _ => none
def m_left (n : Nat) (u_rows : D) (u_home : D) (u_at : D) (u_held : D) : Option D :=
  (ifM (b2 eqD (b2 idxD (b2 idxD (some u_rows) (some u_home)) (some (.int 0))) (some (.str "again"))) ((consO (some u_home) (consO (some u_held) (some []))).map PyData.tuple) (ifM (b2 eqD (b2 idxD (b2 idxD (some u_rows) (some u_home)) (some (.int 0))) (some (.str "either"))) ((consO (b2 addD (some u_at) (some (.int 1))) (consO (some u_held) (some []))).map PyData.tuple) ((consO (b2 addD (some u_at) (some (.int 1))) (consO (slcD (some u_held) (some none) ((((some (.int 1)).bind negD).bind asI).map some)) (some []))).map PyData.tuple)))
def l_left (n : Nat) : List D → Option D
  | [a0, a1, a2, a3] => m_left n a0 a1 a2 a3
  | _ => none
def m_chooses (n : Nat) (u_row : D) : Option D :=
  (bD (b2 inD (b2 idxD (some u_row) (some (.int 0))) ((consO (some (.str "pick")) (consO (some (.str "either")) (consO (some (.str "again")) (some [])))).map PyData.tuple)))
def l_chooses (n : Nat) : List D → Option D
  | [a0] => m_chooses n a0
  | _ => none
def m_sooner (n : Nat) (u_told : D) (u_at : D) (u_word : D) : Option D :=
  (ifM (orT (b2 isN (some u_told) (some .none)) (b2 (ordD ltI) (some u_at) (b2 idxD (some u_told) (some (.int 0))))) (some (.bool true)) (andV (bD (b2 eqD (some u_at) (b2 idxD (some u_told) (some (.int 0))))) (bD (b2 (ordD ltI) ((some u_word).bind (tixD ["beside", "empty", "asleep"])) ((b2 idxD (some u_told) (some (.int 1))).bind (tixD ["beside", "empty", "asleep"]))))))
def l_sooner (n : Nat) : List D → Option D
  | [a0, a1, a2] => m_sooner n a0 a1 a2
  | _ => none
def m_law_cell_at (n : Nat) (u_law_script : D) (u_law_k : D) : Option D :=
  (ifM (b2 (ordD ltI) (some u_law_k) ((some u_law_script).bind lenD)) (b2 idxD (some u_law_script) (some u_law_k)) (some (.int 0)))
def l_law_cell_at (n : Nat) : List D → Option D
  | [a0, a1] => m_law_cell_at n a0 a1
  | _ => none
def m_law_word (n : Nat) (u_law_one : D) (u_law_two : D) (u_law_deep : D) (u_law_draw_here : D) : Option D :=
  (bnd (some (.str "abcdefghijklmnopqrstuvwxyz")) fun u_law_letters => (bnd (b2 idxD (some u_law_letters) (b2 modD (b2 addD (b2 idxD (some u_law_draw_here) (some (.int 4))) (b2 mulD (some (.int 5)) (some u_law_deep))) (some (.int 26)))) fun u_law_sign => (ifM (b2 eqD (b2 idxD (some u_law_draw_here) (some (.int 1))) (some (.int 0))) (b2 mulD (b2 idxD (some u_law_letters) (b2 modD (b2 idxD (some u_law_draw_here) (some (.int 4))) (some (.int 26)))) (b2 addD (some u_law_deep) (some (.int 1)))) (bnd (some (.str "")) fun u_law_found => (bnd (bnd ((b2 idxD (some u_law_draw_here) (some (.int 2))).bind rng1) fun ds => foldO (fun (u_law_k : D) (s1 : D) => (bnd (ifM (b2 eqD (some u_law_k) (b2 idxD (some u_law_draw_here) (some (.int 3)))) (bnd (b2 addD (some s1) (some u_law_sign)) fun u_law_found => (some u_law_found)) (bnd (ifM (b2 eqD (b2 idxD (some u_law_draw_here) (some (.int 1))) (some (.int 1))) (bnd (b2 addD (some s1) (b2 idxD (some u_law_letters) (b2 modD (b2 addD (some u_law_one) (b2 mulD (some u_law_k) (some u_law_two))) (some (.int 26))))) fun u_law_found => (some u_law_found)) (bnd (b2 addD (some s1) (b2 idxD (some u_law_letters) (b2 idxD (some u_law_draw_here) (some (.int 2))))) fun u_law_found => (some u_law_found))) fun s3 : D => (some s3))) fun s2 : D => (some s2))) ds u_law_found) fun s1 : D => (some s1))))))
def l_law_word (n : Nat) : List D → Option D
  | [a0, a1, a2, a3] => m_law_word n a0 a1 a2 a3
  | _ => none
def m_law_thing (n : Nat) (u_law_cell : D) (u_law_base : D) : Option D :=
  (ifM (b2 eqD (b2 modD (some u_law_cell) (some (.int 8))) (some (.int 7))) (b2 modD (b2 fdivD (some u_law_cell) (some (.int 8))) (b2 powD (some (.int 10)) (some (.int 9)))) (b2 modD (b2 addD (some u_law_base) (b2 modD (some u_law_cell) (some (.int 3)))) (b2 powD (some (.int 10)) (some (.int 9)))))
def l_law_thing (n : Nat) : List D → Option D
  | [a0, a1] => m_law_thing n a0 a1
  | _ => none
def m_law_deed (n : Nat) (u_law_one : D) (u_law_two : D) (u_law_hands_here : D) : Option D :=
  (bnd (b2 idxD (some u_law_hands_here) (b2 modD (some u_law_two) ((some u_law_hands_here).bind lenD))) fun u_law_hand => (bnd (b2 idxD (lD (consO (some (.str "look")) (consO (some (.str "back")) (consO (some (.str "change")) (some []))))) (b2 modD (some u_law_one) (some (.int 3)))) fun u_law_word_here => (bnd (ifM (andT (b2 eqD (some u_law_word_here) (some (.str "change"))) (b2 eqD (b2 idxD (some u_law_hand) (some (.int 2))) (some (.str "read")))) (bnd (some (.str "look")) fun u_law_word_here => (some u_law_word_here)) (some u_law_word_here)) fun s1 : D => ((consO (some s1) (consO (b2 idxD (some u_law_hand) (some (.int 1))) (some []))).map PyData.tuple))))
def l_law_deed (n : Nat) : List D → Option D
  | [a0, a1, a2] => m_law_deed n a0 a1 a2
  | _ => none
def m_law_first_four (n : Nat) (u_law_way : D) (u_law_one : D) (u_law_two : D) (u_law_names : D) (u_law_thing_here : D) : Option D :=
  (bnd (b2 idxD (some u_law_names) (some (.int 0))) fun u_law_a => (bnd (b2 idxD (some u_law_names) (some (.int 1))) fun u_law_b => (bnd (b2 idxD (some u_law_names) (some (.int 2))) fun u_law_c => (bnd (b2 idxD (lD (consO (some (.str "read")) (consO (some (.str "write")) (some [])))) (b2 modD (b2 fdivD (some u_law_one) (some (.int 8))) (some (.int 2)))) fun u_law_kind => (bnd ((consO (some (.str "end")) (some [])).map PyData.tuple) fun u_law_end => (ifM (b2 eqD (some u_law_way) (some (.int 0))) (lD (consO ((consO (some (.str "lend")) (consO (some u_law_a) (consO (some u_law_kind) (consO (some u_law_thing_here) (some []))))).map PyData.tuple) (consO ((consO (some (.str "again")) (some [])).map PyData.tuple) (consO ((consO (some (.str "look")) (consO (some u_law_a) (some []))).map PyData.tuple) (consO ((consO (some (.str "back")) (consO (some u_law_a) (some []))).map PyData.tuple) (consO (some u_law_end) (consO (some u_law_end) (some [])))))))) (ifM (b2 eqD (some u_law_way) (some (.int 1))) (bnd (lD (consO ((consO (some (.str "lend")) (consO (some u_law_a) (consO (some u_law_kind) (consO (some u_law_thing_here) (some []))))).map PyData.tuple) (consO ((consO (some (.str "either")) (some [])).map PyData.tuple) (consO ((consO (some (.str "back")) (consO (some u_law_a) (some []))).map PyData.tuple) (consO ((consO (some (.str "or")) (some [])).map PyData.tuple) (consO ((consO (some (.str "look")) (consO (some u_law_a) (some []))).map PyData.tuple) (consO (some u_law_end) (some [])))))))) fun u_law_rows => (b2 addD (some u_law_rows) (lD (consO ((consO (some (.str "look")) (consO (some u_law_a) (some []))).map PyData.tuple) (consO (some u_law_end) (some [])))))) (bnd ((consO (some (.str "lend")) (consO (some u_law_a) (consO (some (.str "write")) (consO (some u_law_thing_here) (some []))))).map PyData.tuple) fun u_law_first => (ifM (b2 eqD (some u_law_way) (some (.int 2))) (bnd (lD (consO (some u_law_first) (consO ((consO (some (.str "lend")) (consO (some u_law_b) (consO (some (.str "write")) (consO (some u_law_a) (some []))))).map PyData.tuple) (consO ((consO (some (.str "lend")) (consO (some u_law_c) (consO (some u_law_kind) (consO (some u_law_b) (some []))))).map PyData.tuple) (some []))))) fun u_law_rows => (b2 addD (some u_law_rows) (lD (consO ((consO (some (.str "back")) (consO (b2 idxD (lD (consO (some u_law_a) (consO (some u_law_b) (consO (some u_law_a) (some []))))) (b2 modD (some u_law_two) (some (.int 3)))) (some []))).map PyData.tuple) (consO ((consO (some (.str "look")) (consO (b2 idxD (lD (consO (some u_law_c) (consO (some u_law_c) (consO (some u_law_b) (some []))))) (b2 modD (some u_law_one) (some (.int 3)))) (some []))).map PyData.tuple) (consO (some u_law_end) (consO (some u_law_end) (consO (some u_law_end) (some []))))))))) (bnd (lD (consO (some u_law_first) (consO ((consO (some (.str "lend")) (consO (some u_law_b) (consO (some (.str "read")) (consO (some u_law_a) (some []))))).map PyData.tuple) (consO ((consO (some (.str "lend")) (consO (some u_law_c) (consO (b2 idxD (lD (consO (some (.str "read")) (consO (some (.str "write")) (some [])))) (b2 modD (some u_law_two) (some (.int 2)))) (consO (some u_law_thing_here) (some []))))).map PyData.tuple) (consO ((consO (some (.str "again")) (some [])).map PyData.tuple) (some [])))))) fun u_law_rows => (b2 addD (some u_law_rows) (lD (consO ((consO (some (.str "back")) (consO (some u_law_b) (some []))).map PyData.tuple) (consO (some u_law_end) (consO (some u_law_end) (consO (some u_law_end) (consO (some u_law_end) (some []))))))))))))))))))
def l_law_first_four (n : Nat) : List D → Option D
  | [a0, a1, a2, a3, a4] => m_law_first_four n a0 a1 a2 a3 a4
  | _ => none
def m_law_homes (n : Nat) (u_law_rows : D) : Option D :=
  (bnd (some []) fun u_law_found => (bnd (consO ((some (.int 1)).bind negD) (some [])) fun u_law_opened => (bnd (bnd (((some u_law_rows).bind listD).map (enL 0)) fun ds => foldO (fun (p_u_law_at : D × D) (s1 : (List D) × (List D)) => (bnd ((b2 idxD (some (.list s1.2)) ((some (.int 1)).bind negD)).bind (appM s1.1)) fun u_law_found => (bnd (ifM (b2 inD (b2 idxD (some p_u_law_at.2) (some (.int 0))) (lD (consO (some (.str "lend")) (consO (some (.str "pick")) (consO (some (.str "either")) (consO (some (.str "again")) (some []))))))) (bnd ((some p_u_law_at.1).bind (appM s1.2)) fun u_law_opened => (some u_law_opened)) (some s1.2)) fun s2 : (List D) => (bnd (ifM (b2 eqD (b2 idxD (some p_u_law_at.2) (some (.int 0))) (some (.str "end"))) (bnd (popM s2) fun u_law_opened => (some u_law_opened)) (some s2)) fun s3 : (List D) => (some (u_law_found, s3)))))) ds (u_law_found, u_law_opened)) fun s1 : (List D) × (List D) => (some (.list s1.1)))))
def l_law_homes (n : Nat) : List D → Option D
  | [a0] => m_law_homes n a0
  | _ => none
def m_law_last (n : Nat) (u_law_rows : D) (u_law_home : D) (u_law_at : D) : Option D :=
  (bnd (bnd (b2 rng2 (b2 addD (some u_law_at) (some (.int 1))) ((some u_law_rows).bind lenD)) fun ds => foldF (fun (u_law_place : D) (s1 : Unit) => (ifM (andT (b2 eqD (b2 idxD (some u_law_home) (some u_law_place)) (some u_law_at)) (b2 eqD (b2 idxD (b2 idxD (some u_law_rows) (some u_law_place)) (some (.int 0))) (some (.str "end")))) ((some u_law_place).map .rt) (some (.nx ())))) ds ()) (flQ fun s1 : Unit => ((some (.int 1)).bind negD)))
def l_law_last (n : Nat) : List D → Option D
  | [a0, a1, a2] => m_law_last n a0 a1 a2
  | _ => none
def m_law_starts (n : Nat) (u_law_rows : D) (u_law_home : D) (u_law_at : D) : Option D :=
  (bnd (consO (b2 addD (some u_law_at) (some (.int 1))) (some [])) fun u_law_found => (bnd (bnd (b2 rng2 (b2 addD (some u_law_at) (some (.int 1))) ((some u_law_rows).bind lenD)) fun ds => foldO (fun (u_law_place : D) (s1 : (List D)) => (bnd (ifM (andT (b2 eqD (b2 idxD (some u_law_home) (some u_law_place)) (some u_law_at)) (b2 eqD (b2 idxD (b2 idxD (some u_law_rows) (some u_law_place)) (some (.int 0))) (some (.str "or")))) (bnd ((b2 addD (some u_law_place) (some (.int 1))).bind (appM s1)) fun u_law_found => (some u_law_found)) (some s1)) fun s2 : (List D) => (some s2))) ds u_law_found) fun s1 : (List D) => (some (.list s1))))
def l_law_starts (n : Nat) : List D → Option D
  | [a0, a1, a2] => m_law_starts n a0 a1 a2
  | _ => none
def m_law_lent (n : Nat) (u_law_held : D) (u_law_row_here : D) : Option D :=
  (bnd (b2 idxD (some u_law_row_here) (some (.int 3))) fun u_law_thing_here => (bnd (some (.str "")) fun u_law_source => (bnd (some (.bool true)) fun u_law_out => (bnd (bnd ((some u_law_held).bind itD) fun ds => foldO (fun (u_law_one : D) (s1 : D × D × D) => (bnd (ifM (b2 eqD (b2 idxD (some u_law_one) (some (.int 0))) (b2 idxD (some u_law_row_here) (some (.int 3)))) (bnd (b2 idxD (some u_law_one) (some (.int 2))) fun u_law_thing_here => (bnd (b2 idxD (some u_law_one) (some (.int 4))) fun u_law_out => (bnd (ifM (b2 neD (b2 idxD (some u_law_one) (some (.int 1))) (some (.str "pick"))) (bnd (b2 idxD (some u_law_one) (some (.int 0))) fun u_law_source => (some u_law_source)) (some s1.2.1)) fun s3 : D => (some (u_law_thing_here, s3, u_law_out))))) (some (s1.1, s1.2.1, s1.2.2))) fun s2 : D × D × D => (some (s2.1, s2.2.1, s2.2.2)))) ds (u_law_thing_here, u_law_source, u_law_out)) fun s1 : D × D × D => (b2 addD (some u_law_held) ((consO ((consO (b2 idxD (some u_law_row_here) (some (.int 1))) (consO (b2 idxD (some u_law_row_here) (some (.int 2))) (consO (some s1.1) (consO (some s1.2.1) (consO (some s1.2.2) (some [])))))).map PyData.tuple) (some [])).map PyData.tuple))))))
def l_law_lent (n : Nat) : List D → Option D
  | [a0, a1] => m_law_lent n a0 a1
  | _ => none
def m_law_back (n : Nat) (u_law_held : D) (u_law_word_here : D) : Option D :=
  (bnd (consO (some u_law_word_here) (some [])) fun u_law_gone => (bnd ((some []).map PyData.tuple) fun u_law_found => (bnd (bnd ((some u_law_held).bind itD) fun ds => foldO (fun (u_law_one : D) (s1 : (List D) × D) => (bnd (ifM (orT (b2 inD (b2 idxD (some u_law_one) (some (.int 0))) (some (.list s1.1))) (b2 inD (b2 idxD (some u_law_one) (some (.int 3))) (some (.list s1.1)))) (bnd ((b2 idxD (some u_law_one) (some (.int 0))).bind (appM s1.1)) fun u_law_gone => (bnd (b2 addD (slcD (some u_law_one) (some none) (((some (.int 4)).bind asI).map some)) ((consO (some (.bool false)) (some [])).map PyData.tuple)) fun u_law_one => (some (u_law_gone, u_law_one)))) (some (s1.1, u_law_one))) fun s2 : (List D) × D => (bnd (b2 addD (some s1.2) ((consO (some s2.2) (some [])).map PyData.tuple)) fun u_law_found => (some (s2.1, u_law_found))))) ds (u_law_gone, u_law_found)) fun s1 : (List D) × D => (some s1.2))))
def l_law_back (n : Nat) : List D → Option D
  | [a0, a1] => m_law_back n a0 a1
  | _ => none
def m_law_awake (n : Nat) (u_law_held : D) : Option D :=
  (bnd (lD (lcG ((some u_law_held).bind itD) (fun u_law_one => ((b2 idxD (some u_law_one) (some (.int 4))).bind asB)) (fun u_law_one => (b2 idxD (some u_law_one) (some (.int 3)))))) fun u_law_lending => (bnd (lD (lcG ((some u_law_held).bind itD) (fun u_law_one => (andT (b2 neD (b2 idxD (some u_law_one) (some (.int 1))) (some (.str "pick"))) ((b2 idxD (some u_law_one) (some (.int 4))).bind asB))) (fun u_law_one => (some u_law_one)))) fun u_law_hands_here => (lD (lcG ((some u_law_hands_here).bind itD) (fun u_law_one => (b2 ninD (b2 idxD (some u_law_one) (some (.int 0))) (some u_law_lending))) (fun u_law_one => (some u_law_one))))))
def l_law_awake (n : Nat) : List D → Option D
  | [a0] => m_law_awake n a0
  | _ => none
def m_law_whole (n : Nat) (u_law_found : D) : Option D :=
  (andV ((some u_law_found).map fun d => PyData.bool (isInt d)) (notV ((some u_law_found).map fun d => PyData.bool (isBool d))))
def l_law_whole (n : Nat) : List D → Option D
  | [a0] => m_law_whole n a0
  | _ => none
def m_law_rows_alike (n : Nat) (u_law_rows : D) (u_law_kept : D) : Option D :=
  (ifM (orT (notT ((some u_law_rows).map isLst)) (b2 neD ((some u_law_rows).bind lenD) ((some u_law_kept).bind lenD))) (some (.bool false)) ((lD (lcG (b2 (fun c d => some (List.zip c d)) ((some u_law_rows).bind listD) ((some u_law_kept).bind listD)) (fun p_u_law_row_here => (some true)) (fun p_u_law_row_here => (andV ((some p_u_law_row_here.1).map fun d => PyData.bool (isTup d)) (bD (b2 eqD (some p_u_law_row_here.1) (some p_u_law_row_here.2))))))).bind allD))
def l_law_rows_alike (n : Nat) : List D → Option D
  | [a0, a1] => m_law_rows_alike n a0 a1
  | _ => none
def m_law_choices (n : Nat) (u_law_script : D) : Option D :=
  (lD (lcG ((slcD (lD ((some u_law_script).bind revD)) (some none) (((some (.int 20)).bind asI).map some)).bind itD) (fun u_law_cell => (some true)) (fun u_law_cell => (b2 modD (some u_law_cell) (some (.int 60))))))
def l_law_choices (n : Nat) : List D → Option D
  | [a0] => m_law_choices n a0
  | _ => none
def m_ends (n : Nat) (u_rows : D) : Option (List D) :=
  (bnd (lcG ((some u_rows).bind itD) (fun u_row => (some true)) (fun u_row => ((some (.int 1)).bind negD))) fun u_found => (bnd (bnd (((lD ((consO (some u_rows) (some [])).bind (l_homes n))).bind listD).map (enL 0)) fun ds => foldO (fun (p_u_at : D × D) (s1 : (List D)) => (bnd (ifM (b2 eqD (b2 idxD (b2 idxD (some u_rows) (some p_u_at.1)) (some (.int 0))) (some (.str "end"))) (bnd (b2 (fun v ix => setM s1 ix v) (some p_u_at.1) (some p_u_at.2)) fun u_found => (some u_found)) (some s1)) fun s2 : (List D) => (some s2))) ds u_found) fun s1 : (List D) => (some s1)))
def l_ends (n : Nat) : List D → Option (List D)
  | [a0] => m_ends n a0
  | _ => none
def m_branches (n : Nat) (u_rows : D) (u_at : D) : Option D :=
  (bnd (consO (b2 addD (some u_at) (some (.int 1))) (some [])) fun u_found => (bnd (bnd (((lD ((consO (some u_rows) (some [])).bind (l_homes n))).bind listD).map (enL 0)) fun ds => foldO (fun (p_u_place : D × D) (s1 : (List D)) => (bnd (ifM (andT (b2 eqD (some p_u_place.2) (some u_at)) (b2 eqD (b2 idxD (b2 idxD (some u_rows) (some p_u_place.1)) (some (.int 0))) (some (.str "or")))) (bnd ((b2 addD (some p_u_place.1) (some (.int 1))).bind (appM s1)) fun u_found => (some u_found)) (some s1)) fun s2 : (List D) => (some s2))) ds u_found) fun s1 : (List D) => (some (.list s1))))
def l_branches (n : Nat) : List D → Option D
  | [a0, a1] => m_branches n a0 a1
  | _ => none
def m_awake (n : Nat) (u_held : D) : Option (List D) :=
  (bnd (some []) fun u_found => (bnd (bnd ((some u_held).bind itD) fun ds => foldO (fun (u_one : D) (s1 : (List D)) => (bnd (ifM (andT (b2 neD (b2 idxD (some u_one) (some (.int 1))) (some (.str "pick"))) (andT ((b2 idxD (some u_one) (some (.int 4))).bind asB) (notT (((consO (some u_held) (consO (b2 idxD (some u_one) (some (.int 0))) (some []))).bind (l_is_asleep n)).bind asB)))) (bnd ((some u_one).bind (appM s1)) fun u_found => (some u_found)) (some s1)) fun s2 : (List D) => (some s2))) ds u_found) fun s1 : (List D) => (some s1)))
def l_awake (n : Nat) : List D → Option (List D)
  | [a0] => m_awake n a0
  | _ => none
def m_is_row (n : Nat) (u_row : D) : Option D :=
  (ifM (orT (notT ((some u_row).map isTup)) (orT (b2 eqD ((some u_row).bind lenD) (some (.int 0))) (notT ((b2 idxD (some u_row) (some (.int 0))).map isStr)))) (some (.bool false)) (ifM (b2 inD (b2 idxD (some u_row) (some (.int 0))) ((consO (some (.str "either")) (consO (some (.str "or")) (consO (some (.str "again")) (consO (some (.str "end")) (some []))))).map PyData.tuple)) (bD (b2 eqD ((some u_row).bind lenD) (some (.int 1)))) (ifM (b2 inD (b2 idxD (some u_row) (some (.int 0))) ((consO (some (.str "back")) (consO (some (.str "look")) (consO (some (.str "change")) (some [])))).map PyData.tuple)) (andV (bD (b2 eqD ((some u_row).bind lenD) (some (.int 2)))) ((consO (b2 idxD (some u_row) (some (.int 1))) (some [])).bind (l_is_word n))) (ifM (b2 eqD (b2 idxD (some u_row) (some (.int 0))) (some (.str "lend"))) (bnd (andV (bD (b2 eqD ((some u_row).bind lenD) (some (.int 4)))) (andV ((consO (b2 idxD (some u_row) (some (.int 1))) (some [])).bind (l_is_word n)) (andV ((b2 idxD (some u_row) (some (.int 2))).map fun d => PyData.bool (isStr d)) (bD (b2 inD (b2 idxD (some u_row) (some (.int 2))) ((consO (some (.str "read")) (consO (some (.str "write")) (some []))).map PyData.tuple)))))) fun u_good => (andV (some u_good) (orV ((consO (b2 idxD (some u_row) (some (.int 3))) (some [])).bind (l_is_thing n)) ((consO (b2 idxD (some u_row) (some (.int 3))) (some [])).bind (l_is_word n))))) (ifM (orT (b2 neD (b2 idxD (some u_row) (some (.int 0))) (some (.str "pick"))) (orT (b2 neD ((some u_row).bind lenD) (some (.int 3))) (orT (notT (((consO (b2 idxD (some u_row) (some (.int 1))) (some [])).bind (l_is_word n)).bind asB)) (notT ((b2 idxD (some u_row) (some (.int 2))).map isTup))))) (some (.bool false)) (andV (bD (b2 (ordD ltI) (some (.int 0)) ((b2 idxD (some u_row) (some (.int 2))).bind lenD))) (andV (bD (b2 (ordD leI) ((b2 idxD (some u_row) (some (.int 2))).bind lenD) (some (.int 5)))) ((lD (lcG ((b2 idxD (some u_row) (some (.int 2))).bind itD) (fun u_thing => (some true)) (fun u_thing => ((consO (some u_thing) (some [])).bind (l_is_thing n))))).bind allD))))))))
def l_is_row (n : Nat) : List D → Option D
  | [a0] => m_is_row n a0
  | _ => none
def m_checked_words (n : Nat) (u_at : D) (u_row : D) (u_opened : D) : Option (Fl Unit D) :=
  (bnd (ifM (b2 inD (b2 idxD (some u_row) (some (.int 0))) ((consO (some (.str "back")) (consO (some (.str "look")) (consO (some (.str "change")) (some [])))).map PyData.tuple)) (bnd ((consO (some u_opened) (consO (b2 idxD (some u_row) (some (.int 1))) (some []))).bind (l_kind_of n)) fun u_kind => (ifM (orT (b2 eqD (some u_kind) (some (.str ""))) (b2 eqD (some u_kind) (some (.str "pick")))) (none.map .rt) (ifM (andT (b2 eqD (b2 idxD (some u_row) (some (.int 0))) (some (.str "change"))) (b2 eqD (some u_kind) (some (.str "read")))) (none.map .rt) (some (.nx ()))))) (some (.nx ()))) (flM fun s1 : Unit => (ifM (andT (b2 eqD (b2 idxD (some u_row) (some (.int 0))) (some (.str "lend"))) (andT ((b2 idxD (some u_row) (some (.int 3))).map isStr) (b2 eqD ((consO (some u_opened) (consO (b2 idxD (some u_row) (some (.int 3))) (some []))).bind (l_kind_of n)) (some (.str ""))))) (none.map .rt) (ifM (andT (b2 inD (b2 idxD (some u_row) (some (.int 0))) ((consO (some (.str "lend")) (consO (some (.str "pick")) (some []))).map PyData.tuple)) (b2 neD ((consO (some u_opened) (consO (b2 idxD (some u_row) (some (.int 1))) (some []))).bind (l_kind_of n)) (some (.str "")))) (none.map .rt) (ifM (andT (b2 eqD (b2 idxD (some u_row) (some (.int 0))) (some (.str "lend"))) (andT (b2 eqD (b2 idxD (some u_row) (some (.int 2))) (some (.str "write"))) (andT ((b2 idxD (some u_row) (some (.int 3))).map isStr) (b2 eqD ((consO (some u_opened) (consO (b2 idxD (some u_row) (some (.int 3))) (some []))).bind (l_kind_of n)) (some (.str "read")))))) (none.map .rt) (some (.nx ())))))))
def k_checked_words (n : Nat) : List D → Option (Fl Unit D)
  | [a0, a1, a2] => m_checked_words n a0 a1 a2
  | _ => none
def l_checked_words (n : Nat) (ds : List D) : Option D := flN (k_checked_words n ds)
def m_lent (n : Nat) (u_held : D) (u_row : D) : Option D :=
  (bnd (b2 idxD (some u_row) (some (.int 3))) fun u_source => (ifM ((some u_source).map isInt) (b2 addD (some u_held) ((consO ((consO (b2 idxD (some u_row) (some (.int 1))) (consO (b2 idxD (some u_row) (some (.int 2))) (consO (some u_source) (consO (some (.str "")) (consO (some (.bool true)) (some [])))))).map PyData.tuple) (some [])).map PyData.tuple)) (bnd ((consO (some u_held) (consO (some u_source) (some []))).bind (l_entry_of n)) fun u_holder => (ifM (b2 eqD (b2 idxD (some u_holder) (some (.int 1))) (some (.str "pick"))) (b2 addD (some u_held) ((consO ((consO (b2 idxD (some u_row) (some (.int 1))) (consO (b2 idxD (some u_row) (some (.int 2))) (consO (b2 idxD (some u_holder) (some (.int 2))) (consO (some (.str "")) (consO (some (.bool true)) (some [])))))).map PyData.tuple) (some [])).map PyData.tuple)) (b2 addD (some u_held) ((consO ((consO (b2 idxD (some u_row) (some (.int 1))) (consO (b2 idxD (some u_row) (some (.int 2))) (consO (b2 idxD (some u_holder) (some (.int 2))) (consO (some u_source) (consO (b2 idxD (some u_holder) (some (.int 4))) (some [])))))).map PyData.tuple) (some [])).map PyData.tuple))))))
def l_lent (n : Nat) : List D → Option D
  | [a0, a1] => m_lent n a0 a1
  | _ => none
def m_law_draw (n : Nat) (u_law_script : D) : Option D :=
  (bnd (b2 mulD (b2 modD (b2 fdivD ((consO (some u_law_script) (consO (some (.int 1)) (some []))).bind (l_law_cell_at n)) (some (.int 2))) (b2 powD (some (.int 10)) (some (.int 9)))) (b2 modD ((consO (some u_law_script) (consO (some (.int 1)) (some []))).bind (l_law_cell_at n)) (some (.int 2)))) fun u_law_base => (bnd (b2 fdivD ((consO (some u_law_script) (consO (some (.int 2)) (some []))).bind (l_law_cell_at n)) (some (.int 8))) fun u_law_style => (bnd (b2 addD (some (.int 1)) (b2 modD (b2 fdivD (some u_law_style) (some (.int 4))) (some (.int 12)))) fun u_law_size => (lD (consO (some u_law_base) (consO (b2 modD (some u_law_style) (some (.int 4))) (consO (some u_law_size) (consO (b2 modD ((consO (some u_law_script) (consO (some (.int 1)) (some []))).bind (l_law_cell_at n)) (some u_law_size)) (consO (b2 modD ((consO (some u_law_script) (consO (some (.int 0)) (some []))).bind (l_law_cell_at n)) (some (.int 26))) (some []))))))))))
def l_law_draw (n : Nat) : List D → Option D
  | [a0] => m_law_draw n a0
  | _ => none
def m_law_lend (n : Nat) (u_law_one : D) (u_law_two : D) (u_law_named : D) (u_law_draw_here : D) : Option D :=
  (bnd (b2 idxD (lD (consO (some (.str "read")) (consO (some (.str "write")) (some [])))) (b2 modD (some u_law_one) (some (.int 2)))) fun u_law_kind => (bnd ((consO (some u_law_two) (consO (b2 idxD (some u_law_draw_here) (some (.int 0))) (some []))).bind (l_law_thing n)) fun u_law_source => (bnd (ifM (andT (b2 eqD (b2 modD (b2 fdivD (some u_law_one) (some (.int 2))) (some (.int 2))) (some (.int 1))) (b2 (ordD gtI) ((some u_law_named).bind lenD) (some (.int 0)))) (bnd (b2 idxD (some u_law_named) (b2 modD (some u_law_two) ((some u_law_named).bind lenD))) fun u_law_holder => (bnd (b2 idxD (some u_law_holder) (some (.int 1))) fun u_law_source => (bnd (ifM (andT (b2 eqD (b2 idxD (some u_law_holder) (some (.int 0))) (some (.str "lend"))) (b2 eqD (b2 idxD (some u_law_holder) (some (.int 2))) (some (.str "read")))) (bnd (some (.str "read")) fun u_law_kind => (some u_law_kind)) (some u_law_kind)) fun s2 : D => (some (s2, u_law_source))))) (some (u_law_kind, u_law_source))) fun s1 : D × D => ((consO (some (.str "lend")) (consO ((consO (some u_law_one) (consO (some u_law_two) (consO ((some u_law_named).bind lenD) (consO (some u_law_draw_here) (some []))))).bind (l_law_word n)) (consO (some s1.1) (consO (some s1.2) (some []))))).map PyData.tuple))))
def l_law_lend (n : Nat) : List D → Option D
  | [a0, a1, a2, a3] => m_law_lend n a0 a1 a2 a3
  | _ => none
def m_law_hands (n : Nat) (u_law_one : D) (u_law_two : D) (u_law_deep : D) (u_law_draw_here : D) : Option D :=
  (bnd (lD (consO ((consO (some u_law_one) (consO (some u_law_two) (consO (some u_law_deep) (consO (some u_law_draw_here) (some []))))).bind (l_law_word n)) (consO ((consO (some u_law_two) (consO (some u_law_one) (consO (b2 addD (some u_law_deep) (some (.int 1))) (consO (some u_law_draw_here) (some []))))).bind (l_law_word n)) (some [])))) fun u_law_found => (b2 addD (some u_law_found) (lD (consO ((consO (some u_law_one) (consO (some u_law_one) (consO (b2 addD (some u_law_deep) (some (.int 2))) (consO (some u_law_draw_here) (some []))))).bind (l_law_word n)) (some [])))))
def l_law_hands (n : Nat) : List D → Option D
  | [a0, a1, a2, a3] => m_law_hands n a0 a1 a2 a3
  | _ => none
def m_law_step (n : Nat) (u_law_rows : D) (u_law_home : D) (u_law_standing : D) (u_law_choice : D) : Option D :=
  (bnd (b2 idxD (some u_law_standing) (some (.int 0))) fun u_law_at => (bnd (b2 idxD (some u_law_standing) (some (.int 1))) fun u_law_held => (bnd (b2 idxD (b2 idxD (some u_law_rows) (some u_law_at)) (some (.int 0))) fun u_law_word_here => (bnd (ifM (b2 eqD (some u_law_word_here) (some (.str "lend"))) (bnd ((consO (some u_law_held) (consO (b2 idxD (some u_law_rows) (some u_law_at)) (some []))).bind (l_law_lent n)) fun u_law_held => (some u_law_held)) (some u_law_held)) fun s1 : D => (bnd (ifM (b2 eqD (some u_law_word_here) (some (.str "pick"))) (bnd (b2 idxD (b2 idxD (some u_law_rows) (some u_law_at)) (some (.int 2))) fun u_law_things => (bnd (b2 addD (some s1) ((consO ((consO (b2 idxD (b2 idxD (some u_law_rows) (some u_law_at)) (some (.int 1))) (consO (some (.str "pick")) (consO (b2 idxD (some u_law_things) (b2 modD (some u_law_choice) ((some u_law_things).bind lenD))) (consO (some (.str "")) (consO (some (.bool true)) (some [])))))).map PyData.tuple) (some [])).map PyData.tuple)) fun u_law_held => (some u_law_held))) (some s1)) fun s2 : D => (bnd (ifM (b2 eqD (some u_law_word_here) (some (.str "back"))) (bnd ((consO (some s2) (consO (b2 idxD (b2 idxD (some u_law_rows) (some u_law_at)) (some (.int 1))) (some []))).bind (l_law_back n)) fun u_law_held => (some u_law_held)) (some s2)) fun s3 : D => (ifM (b2 eqD (some u_law_word_here) (some (.str "either"))) (bnd ((consO (some u_law_rows) (consO (some u_law_home) (consO (some u_law_at) (some [])))).bind (l_law_starts n)) fun u_law_starts_here => ((consO (b2 idxD (some u_law_starts_here) (b2 modD (some u_law_choice) ((some u_law_starts_here).bind lenD))) (consO (some s3) (some []))).map PyData.tuple)) (ifM (b2 eqD (some u_law_word_here) (some (.str "or"))) ((consO ((consO (some u_law_rows) (consO (some u_law_home) (consO (b2 idxD (some u_law_home) (some u_law_at)) (some [])))).bind (l_law_last n)) (consO (some s3) (some []))).map PyData.tuple) (ifM (andT (b2 eqD (some u_law_word_here) (some (.str "again"))) (b2 eqD (b2 modD (some u_law_choice) (some (.int 2))) (some (.int 0)))) ((consO (b2 addD ((consO (some u_law_rows) (consO (some u_law_home) (consO (some u_law_at) (some [])))).bind (l_law_last n)) (some (.int 1))) (consO (some s3) (some []))).map PyData.tuple) (ifM (andT (b2 eqD (some u_law_word_here) (some (.str "end"))) (b2 eqD (b2 idxD (b2 idxD (some u_law_rows) (b2 idxD (some u_law_home) (some u_law_at))) (some (.int 0))) (some (.str "again")))) ((consO (b2 idxD (some u_law_home) (some u_law_at)) (consO (some s3) (some []))).map PyData.tuple) (bnd (ifM (andT (b2 eqD (some u_law_word_here) (some (.str "end"))) (b2 neD (b2 idxD (b2 idxD (some u_law_rows) (b2 idxD (some u_law_home) (some u_law_at))) (some (.int 0))) (some (.str "either")))) (bnd (slcD (some s3) (some none) ((((some (.int 1)).bind negD).bind asI).map some)) fun u_law_held => (some u_law_held)) (some s3)) fun s4 : D => ((consO (b2 addD (some u_law_at) (some (.int 1))) (consO (some s4) (some []))).map PyData.tuple))))))))))))
def l_law_step (n : Nat) : List D → Option D
  | [a0, a1, a2, a3] => m_law_step n a0 a1 a2 a3
  | _ => none
def m_law_fault (n : Nat) (u_law_row_here : D) (u_law_held : D) : Option D :=
  (bnd ((consO (some u_law_held) (some [])).bind (l_law_awake n)) fun u_law_loans => (bnd (bnd (((some u_law_loans).bind listD).map (enL 0)) fun ds => foldF (fun (p_u_law_place : D × D) (s1 : Unit) => (bnd (bnd ((slcD (some u_law_loans) (some none) (((some p_u_law_place.1).bind asI).map some)).bind itD) fun ds => foldF (fun (u_law_other : D) (s2 : Unit) => (ifM (andT (b2 eqD (b2 idxD (some p_u_law_place.2) (some (.int 2))) (b2 idxD (some u_law_other) (some (.int 2)))) (b2 inD (some (.str "write")) (lD (consO (b2 idxD (some p_u_law_place.2) (some (.int 1))) (consO (b2 idxD (some u_law_other) (some (.int 1))) (some [])))))) ((some (.str "beside")).map .rt) (some (.nx ())))) ds ()) (flM fun s2 : Unit => (some (.nx ()))))) ds ()) (flQ fun s1 : Unit => (bnd (some (.str "")) fun u_law_hand => (bnd (ifM (b2 inD (b2 idxD (some u_law_row_here) (some (.int 0))) (lD (consO (some (.str "look")) (consO (some (.str "change")) (some []))))) (bnd (b2 idxD (some u_law_row_here) (some (.int 1))) fun u_law_hand => (some u_law_hand)) (some u_law_hand)) fun s3 : D => (bnd (ifM (andT (b2 eqD (b2 idxD (some u_law_row_here) (some (.int 0))) (some (.str "lend"))) ((b2 idxD (some u_law_row_here) (some (.int 3))).map isStr)) (bnd (b2 idxD (some u_law_row_here) (some (.int 3))) fun u_law_hand => (some u_law_hand)) (some s3)) fun s4 : D => (bnd (bnd ((some u_law_held).bind itD) fun ds => foldF (fun (u_law_one : D) (s5 : Unit) => (ifM (andT (b2 eqD (b2 idxD (some u_law_one) (some (.int 0))) (some s4)) (notT ((b2 idxD (some u_law_one) (some (.int 4))).bind asB))) ((some (.str "empty")).map .rt) (some (.nx ())))) ds ()) (flQ fun s5 : Unit => (ifM (andT (b2 inD (b2 idxD (some u_law_row_here) (some (.int 0))) (lD (consO (some (.str "look")) (consO (some (.str "change")) (some []))))) (b2 ninD (some s4) (lD (lcG ((some u_law_loans).bind itD) (fun u_law_one => (some true)) (fun u_law_one => (b2 idxD (some u_law_one) (some (.int 0)))))))) (some (.str "asleep")) (some (.str "")))))))))))
def l_law_fault (n : Nat) : List D → Option D
  | [a0, a1] => m_law_fault n a0 a1
  | _ => none
def m_law_told (n : Nat) (u_law_told_here : D) : Option D :=
  (ifM (orT (notT ((some u_law_told_here).map isTup)) (orT (b2 neD ((some u_law_told_here).bind lenD) (some (.int 3))) (notT (((consO (b2 idxD (some u_law_told_here) (some (.int 0))) (some [])).bind (l_law_whole n)).bind asB)))) (some (.bool false)) (ifM (orT (notT ((b2 idxD (some u_law_told_here) (some (.int 1))).map isStr)) (orT (b2 ninD (b2 idxD (some u_law_told_here) (some (.int 1))) (lD (consO (some (.str "beside")) (consO (some (.str "empty")) (consO (some (.str "asleep")) (some [])))))) (notT ((b2 idxD (some u_law_told_here) (some (.int 2))).map isLst)))) (some (.bool false)) ((lD (lcG ((b2 idxD (some u_law_told_here) (some (.int 2))).bind itD) (fun u_law_choice => (some true)) (fun u_law_choice => (andV ((consO (some u_law_choice) (some [])).bind (l_law_whole n)) (bD (b2 (ordD geI) (some u_law_choice) (some (.int 0)))))))).bind allD)))
def l_law_told (n : Nat) : List D → Option D
  | [a0] => m_law_told n a0
  | _ => none
def m_law_long (n : Nat) (u_law_script : D) (u_law_rows : D) : Option D :=
  (ifM (orT (b2 neD (b2 modD ((consO (some u_law_script) (consO (some (.int 1)) (some []))).bind (l_law_cell_at n)) (some (.int 16))) (some (.int 5))) (b2 (ordD gtI) ((some u_law_rows).bind lenD) (some (.int 62)))) (some u_law_rows) (bnd (lD (some [])) fun u_law_some => (bnd (bnd ((b2 addD (some (.int 45)) (b2 modD ((consO (some u_law_script) (consO (some (.int 2)) (some []))).bind (l_law_cell_at n)) (some (.int 25)))).bind rng1) fun ds => foldO (fun (u_law_k : D) (s1 : D) => (bnd (b2 addD (some s1) (lD (consO ((consO (some (.str "lend")) (consO (some (.str "ahead")) (consO (some (.str "read")) (consO (some u_law_k) (some []))))).map PyData.tuple) (consO ((consO (some (.str "end")) (some [])).map PyData.tuple) (some []))))) fun u_law_some => (some u_law_some))) ds u_law_some) fun s1 : D => (b2 addD (some s1) (some u_law_rows)))))
def l_law_long (n : Nat) : List D → Option D
  | [a0, a1] => m_law_long n a0 a1
  | _ => none
def m_law_some_ways (n : Nat) (u_law_rows : D) (u_law_home : D) (u_law_at : D) : Option D :=
  (ifM (b2 eqD (b2 idxD (b2 idxD (some u_law_rows) (some u_law_at)) (some (.int 0))) (some (.str "pick"))) ((b2 idxD (b2 idxD (some u_law_rows) (some u_law_at)) (some (.int 2))).bind lenD) (ifM (b2 eqD (b2 idxD (b2 idxD (some u_law_rows) (some u_law_at)) (some (.int 0))) (some (.str "either"))) (((consO (some u_law_rows) (consO (some u_law_home) (consO (some u_law_at) (some [])))).bind (l_law_starts n)).bind lenD) (b2 idxD (lD (consO (some (.int 1)) (consO (some (.int 2)) (some [])))) ((bD (b2 eqD (b2 idxD (b2 idxD (some u_law_rows) (some u_law_at)) (some (.int 0))) (some (.str "again")))).bind intD))))
def l_law_some_ways (n : Nat) : List D → Option D
  | [a0, a1, a2] => m_law_some_ways n a0 a1 a2
  | _ => none
def m_is_beside (n : Nat) (u_held : D) : Option D :=
  (bnd (lD ((consO (some u_held) (some [])).bind (l_awake n))) fun u_loans => (bnd (bnd (((some u_loans).bind listD).map (enL 0)) fun ds => foldF (fun (p_u_place : D × D) (s1 : Unit) => (bnd (bnd ((slcD (some u_loans) (some none) (((some p_u_place.1).bind asI).map some)).bind itD) fun ds => foldF (fun (u_other : D) (s2 : Unit) => (ifM (andT (b2 eqD (b2 idxD (some p_u_place.2) (some (.int 2))) (b2 idxD (some u_other) (some (.int 2)))) (orT (b2 eqD (b2 idxD (some p_u_place.2) (some (.int 1))) (some (.str "write"))) (b2 eqD (b2 idxD (some u_other) (some (.int 1))) (some (.str "write"))))) ((some (.bool true)).map .rt) (some (.nx ())))) ds ()) (flM fun s2 : Unit => (some (.nx ()))))) ds ()) (flQ fun s1 : Unit => (some (.bool false)))))
def l_is_beside (n : Nat) : List D → Option D
  | [a0] => m_is_beside n a0
  | _ => none
def m_checked (n : Nat) (u_rows : D) : Option (Fl Unit D) :=
  (bnd (some []) fun u_opened => (bnd (some []) fun u_numbers => (bnd (bnd (((some u_rows).bind listD).map (enL 0)) fun ds => foldF (fun (p_u_at : D × D) (s1 : (List D) × (List D)) => (ifM (notT (((consO (some p_u_at.2) (some [])).bind (l_is_row n)).bind asB)) (none.map .rt) (ifM (andT (b2 eqD (b2 idxD (some p_u_at.2) (some (.int 0))) (some (.str "end"))) (b2 eqD ((some (.list s1.1)).bind lenD) (some (.int 0)))) (none.map .rt) (ifM (andT (b2 eqD (b2 idxD (some p_u_at.2) (some (.int 0))) (some (.str "or"))) (orT (b2 eqD ((some (.list s1.1)).bind lenD) (some (.int 0))) (b2 neD (b2 idxD (b2 idxD (some (.list s1.1)) ((some (.int 1)).bind negD)) (some (.int 0))) (some (.str "either"))))) (none.map .rt) (bnd ((consO (some p_u_at.1) (consO (some p_u_at.2) (consO (some (.list s1.1)) (some [])))).bind (l_checked_words n)) fun _ => (bnd (ifM (b2 inD (b2 idxD (some p_u_at.2) (some (.int 0))) (some (.tuple [(.str "lend"), (.str "pick"), (.str "either"), (.str "again")]))) (bnd ((some p_u_at.2).bind (appM s1.1)) fun u_opened => (bnd ((some p_u_at.1).bind (appM s1.2)) fun u_numbers => (some (u_opened, u_numbers)))) (bnd (ifM (b2 eqD (b2 idxD (some p_u_at.2) (some (.int 0))) (some (.str "end"))) (bnd (popM s1.1) fun u_opened => (bnd (popM s1.2) fun u_numbers => (some (u_opened, u_numbers)))) (some (s1.1, s1.2))) fun s3 : (List D) × (List D) => (some (s3.1, s3.2)))) fun s2 : (List D) × (List D) => (some (.nx (s2.1, s2.2))))))))) ds (u_opened, u_numbers)) (flM fun s1 : (List D) × (List D) => (ifM (b2 (ordD gtI) ((some (.list s1.2)).bind lenD) (some (.int 0))) (none.map .rt) (some (.nx ())))))))
def k_checked (n : Nat) : List D → Option (Fl Unit D)
  | [a0] => m_checked n a0
  | _ => none
def l_checked (n : Nat) (ds : List D) : Option D := flN (k_checked n ds)
def m_ways (n : Nat) (u_rows : D) (u_standing : D) : Option D :=
  (bnd (b2 idxD (some u_rows) (b2 idxD (some u_standing) (some (.int 0)))) fun u_row => (ifM (b2 eqD (b2 idxD (some u_row) (some (.int 0))) (some (.str "pick"))) ((b2 idxD (some u_row) (some (.int 2))).bind lenD) (ifM (b2 eqD (b2 idxD (some u_row) (some (.int 0))) (some (.str "either"))) (((consO (some u_rows) (consO (b2 idxD (some u_standing) (some (.int 0))) (some []))).bind (l_branches n)).bind lenD) (ifM (b2 eqD (b2 idxD (some u_row) (some (.int 0))) (some (.str "again"))) (some (.int 2)) (some (.int 1))))))
def l_ways (n : Nat) : List D → Option D
  | [a0, a1] => m_ways n a0 a1
  | _ => none
def m_stepped_by (n : Nat) (u_rows : D) (u_home : D) (u_last : D) (u_standing : D) (u_choice : D) : Option D :=
  (bnd (b2 idxD (some u_standing) (some (.int 0))) fun u_at => (bnd (b2 idxD (some u_standing) (some (.int 1))) fun u_held => (bnd (b2 idxD (some u_rows) (some u_at)) fun u_row => (ifM (b2 eqD (b2 idxD (some u_row) (some (.int 0))) (some (.str "lend"))) ((consO (b2 addD (some u_at) (some (.int 1))) (consO ((consO (some u_held) (consO (some u_row) (some []))).bind (l_lent n)) (some []))).map PyData.tuple) (ifM (b2 eqD (b2 idxD (some u_row) (some (.int 0))) (some (.str "pick"))) (bnd (b2 idxD (b2 idxD (some u_row) (some (.int 2))) (b2 modD (some u_choice) ((b2 idxD (some u_row) (some (.int 2))).bind lenD))) fun u_thing => ((consO (b2 addD (some u_at) (some (.int 1))) (consO (b2 addD (some u_held) ((consO ((consO (b2 idxD (some u_row) (some (.int 1))) (consO (some (.str "pick")) (consO (some u_thing) (consO (some (.str "")) (consO (some (.bool true)) (some [])))))).map PyData.tuple) (some [])).map PyData.tuple)) (some []))).map PyData.tuple)) (ifM (b2 eqD (b2 idxD (some u_row) (some (.int 0))) (some (.str "either"))) (bnd ((consO (some u_rows) (consO (some u_at) (some []))).bind (l_branches n)) fun u_starts => ((consO (b2 idxD (some u_starts) (b2 modD (some u_choice) ((some u_starts).bind lenD))) (consO (some u_held) (some []))).map PyData.tuple)) (ifM (b2 eqD (b2 idxD (some u_row) (some (.int 0))) (some (.str "again"))) (ifM (b2 eqD (b2 modD (some u_choice) (some (.int 2))) (some (.int 1))) ((consO (b2 addD (some u_at) (some (.int 1))) (consO (some u_held) (some []))).map PyData.tuple) ((consO (b2 addD (b2 idxD (some u_last) (some u_at)) (some (.int 1))) (consO (some u_held) (some []))).map PyData.tuple)) (ifM (b2 eqD (b2 idxD (some u_row) (some (.int 0))) (some (.str "or"))) ((consO (b2 idxD (some u_last) (b2 idxD (some u_home) (some u_at))) (consO (some u_held) (some []))).map PyData.tuple) (ifM (b2 eqD (b2 idxD (some u_row) (some (.int 0))) (some (.str "end"))) ((consO (some u_rows) (consO (b2 idxD (some u_home) (some u_at)) (consO (some u_at) (consO (some u_held) (some []))))).bind (l_left n)) (ifM (b2 eqD (b2 idxD (some u_row) (some (.int 0))) (some (.str "back"))) ((consO (b2 addD (some u_at) (some (.int 1))) (consO ((consO (some u_held) (consO (b2 idxD (some u_row) (some (.int 1))) (some []))).bind (l_given_back n)) (some []))).map PyData.tuple) ((consO (b2 addD (some u_at) (some (.int 1))) (consO (some u_held) (some []))).map PyData.tuple)))))))))))
def l_stepped_by (n : Nat) : List D → Option D
  | [a0, a1, a2, a3, a4] => m_stepped_by n a0 a1 a2 a3 a4
  | _ => none
def m_law_row (n : Nat) (u_law_way : D) (u_law_one : D) (u_law_two : D) (u_law_opened : D) (u_law_draw_here : D) : Option D :=
  (bnd (lD (lcG ((some u_law_opened).bind itD) (fun u_law_row_here => (b2 inD (b2 idxD (some u_law_row_here) (some (.int 0))) (lD (consO (some (.str "lend")) (consO (some (.str "pick")) (some [])))))) (fun u_law_row_here => (some u_law_row_here)))) fun u_law_named => (bnd (lD (lcG ((some u_law_named).bind itD) (fun u_law_row_here => (b2 eqD (b2 idxD (some u_law_row_here) (some (.int 0))) (some (.str "lend")))) (fun u_law_row_here => (some u_law_row_here)))) fun u_law_hands_here => (ifM (andT (b2 (ordD ltI) (some u_law_way) (some (.int 4))) (b2 (ordD ltI) ((some u_law_hands_here).bind lenD) (some (.int 6)))) ((consO (some u_law_one) (consO (some u_law_two) (consO (some u_law_named) (consO (some u_law_draw_here) (some []))))).bind (l_law_lend n)) (ifM (andT (b2 eqD (some u_law_way) (some (.int 4))) (b2 (ordD ltI) (b2 subD ((some u_law_named).bind lenD) ((some u_law_hands_here).bind lenD)) (some (.int 3)))) (bnd ((lD (lcG ((b2 addD (some (.int 1)) (b2 modD (some u_law_one) (some (.int 5)))).bind rng1) (fun u_law_k => (some true)) (fun u_law_k => ((consO (b2 addD (some u_law_two) (b2 mulD (some u_law_k) (b2 addD (some (.int 1)) (b2 modD (some u_law_one) (some (.int 2)))))) (consO (b2 idxD (some u_law_draw_here) (some (.int 0))) (some []))).bind (l_law_thing n))))).bind tupD) fun u_law_things => ((consO (some (.str "pick")) (consO ((consO (some u_law_one) (consO (some u_law_two) (consO ((some u_law_named).bind lenD) (consO (some u_law_draw_here) (some []))))).bind (l_law_word n)) (consO (some u_law_things) (some [])))).map PyData.tuple)) (ifM (andT (b2 inD (some u_law_way) (lD (consO (some (.int 5)) (consO (some (.int 6)) (some []))))) (b2 (ordD ltI) ((some u_law_opened).bind lenD) (some (.int 12)))) ((consO (b2 idxD (lD (consO (some (.str "either")) (consO (some (.str "again")) (some [])))) (b2 subD (some u_law_way) (some (.int 5)))) (some [])).map PyData.tuple) (ifM (andT (b2 eqD (some u_law_way) (some (.int 7))) (andT (b2 (ordD gtI) ((some u_law_opened).bind lenD) (some (.int 0))) (b2 eqD (b2 idxD (b2 idxD (some u_law_opened) ((some (.int 1)).bind negD)) (some (.int 0))) (some (.str "either"))))) ((consO (some (.str "or")) (some [])).map PyData.tuple) (ifM (andT (b2 (ordD ltI) (some u_law_way) (some (.int 10))) (b2 (ordD gtI) ((some u_law_hands_here).bind lenD) (some (.int 0)))) ((consO (some u_law_one) (consO (some u_law_two) (consO (some u_law_hands_here) (some [])))).bind (l_law_deed n)) (ifM (b2 (ordD gtI) ((some u_law_opened).bind lenD) (some (.int 0))) ((consO (some (.str "end")) (some [])).map PyData.tuple) ((consO (some u_law_one) (consO (some u_law_two) (consO (some u_law_named) (consO (some u_law_draw_here) (some []))))).bind (l_law_lend n))))))))))
def l_law_row (n : Nat) : List D → Option D
  | [a0, a1, a2, a3, a4] => m_law_row n a0 a1 a2 a3 a4
  | _ => none
def m_law_gadget (n : Nat) (u_law_one : D) (u_law_two : D) (u_law_deep : D) (u_law_draw_here : D) : Option D :=
  (bnd ((consO (some u_law_one) (consO (some u_law_two) (consO (some u_law_deep) (consO (some u_law_draw_here) (some []))))).bind (l_law_hands n)) fun u_law_names => (bnd (b2 idxD (some u_law_names) (some (.int 0))) fun u_law_a => (bnd (b2 idxD (some u_law_names) (some (.int 1))) fun u_law_b => (bnd ((consO (some u_law_two) (consO (b2 idxD (some u_law_draw_here) (some (.int 0))) (some []))).bind (l_law_thing n)) fun u_law_thing_here => (bnd (b2 modD (b2 addD (some u_law_thing_here) (some (.int 1))) (b2 powD (some (.int 10)) (some (.int 9)))) fun u_law_far => (bnd (b2 modD (b2 addD (some u_law_thing_here) (some (.int 2))) (b2 powD (some (.int 10)) (some (.int 9)))) fun u_law_last_here => (bnd (b2 idxD (lD (consO (some (.str "read")) (consO (some (.str "write")) (some [])))) (b2 modD (b2 fdivD (some u_law_one) (some (.int 8))) (some (.int 2)))) fun u_law_kind => (bnd ((consO (some (.str "end")) (some [])).map PyData.tuple) fun u_law_end => (bnd (b2 modD (some u_law_one) (some (.int 8))) fun u_law_way => (ifM (b2 (ordD ltI) (some u_law_way) (some (.int 4))) ((consO (some u_law_way) (consO (some u_law_one) (consO (some u_law_two) (consO (some u_law_names) (consO (some u_law_thing_here) (some [])))))).bind (l_law_first_four n)) (ifM (b2 eqD (some u_law_way) (some (.int 4))) (bnd (lD (consO ((consO (some (.str "pick")) (consO (b2 idxD (some u_law_names) (some (.int 2))) (consO ((consO (some u_law_thing_here) (consO (some u_law_thing_here) (consO (some u_law_far) (consO (some u_law_far) (consO (some u_law_last_here) (some [])))))).map PyData.tuple) (some [])))).map PyData.tuple) (some []))) fun u_law_rows => (bnd (b2 addD (some u_law_rows) (lD (consO ((consO (some (.str "lend")) (consO (some u_law_a) (consO (some (.str "write")) (consO (b2 idxD (lD (consO (some u_law_thing_here) (consO (some u_law_far) (consO (some u_law_last_here) (some []))))) (b2 modD (some u_law_two) (some (.int 3)))) (some []))))).map PyData.tuple) (consO ((consO (some (.str "lend")) (consO (some u_law_b) (consO (some u_law_kind) (consO (b2 idxD (some u_law_names) (some (.int 2))) (some []))))).map PyData.tuple) (some []))))) fun u_law_rows => (b2 addD (some u_law_rows) (lD (consO (some u_law_end) (consO (some u_law_end) (consO (some u_law_end) (some [])))))))) (ifM (b2 eqD (some u_law_way) (some (.int 5))) (bnd (lD (consO ((consO (some (.str "lend")) (consO (some u_law_a) (consO (some (.str "write")) (consO (some u_law_thing_here) (some []))))).map PyData.tuple) (consO ((consO (some (.str "lend")) (consO (some u_law_b) (consO (some (.str "read")) (consO (some u_law_a) (some []))))).map PyData.tuple) (consO ((consO (some (.str "either")) (some [])).map PyData.tuple) (consO ((consO (some (.str "back")) (consO (b2 idxD (lD (consO (some u_law_a) (consO (some u_law_b) (some [])))) (b2 modD (some u_law_two) (some (.int 2)))) (some []))).map PyData.tuple) (some [])))))) fun u_law_rows => (b2 addD (some u_law_rows) (lD (consO ((consO (some (.str "or")) (some [])).map PyData.tuple) (consO ((consO (some (.str "look")) (consO (some u_law_b) (some []))).map PyData.tuple) (consO (some u_law_end) (consO ((consO (some (.str "look")) (consO (some u_law_a) (some []))).map PyData.tuple) (consO (some u_law_end) (consO (some u_law_end) (some [])))))))))) (ifM (b2 eqD (some u_law_way) (some (.int 6))) (bnd (lD (consO ((consO (some (.str "lend")) (consO (some u_law_a) (consO (some u_law_kind) (consO (some u_law_far) (some []))))).map PyData.tuple) (consO ((consO (some (.str "lend")) (consO (some u_law_b) (consO (b2 idxD (lD (consO (some (.str "read")) (consO (some (.str "write")) (some [])))) (b2 modD (some u_law_two) (some (.int 2)))) (consO (some u_law_thing_here) (some []))))).map PyData.tuple) (some [])))) fun u_law_rows => (b2 addD (some u_law_rows) (lD (consO ((consO (some (.str "lend")) (consO (b2 idxD (some u_law_names) (some (.int 2))) (consO (some (.str "write")) (consO (some u_law_thing_here) (some []))))).map PyData.tuple) (consO ((consO (some (.str "look")) (consO (some u_law_b) (some []))).map PyData.tuple) (consO (some u_law_end) (consO (some u_law_end) (consO (some u_law_end) (some []))))))))) (ifM (b2 eqD (b2 modD (some u_law_two) (some (.int 3))) (some (.int 0))) (lD (consO ((consO (some (.str "lend")) (consO (some u_law_a) (consO (some (.str "write")) (consO (some u_law_thing_here) (some []))))).map PyData.tuple) (consO ((consO (some (.str "back")) (consO (some u_law_a) (some []))).map PyData.tuple) (consO ((consO (some (.str "lend")) (consO (some u_law_b) (consO (some u_law_kind) (consO (some u_law_a) (some []))))).map PyData.tuple) (consO ((consO (some (.str "look")) (consO (some u_law_b) (some []))).map PyData.tuple) (consO (some u_law_end) (consO (some u_law_end) (some [])))))))) (bnd (lD (consO ((consO (some (.str "pick")) (consO (b2 idxD (some u_law_names) (some (.int 2))) (consO ((consO (some u_law_far) (consO (some u_law_thing_here) (some []))).map PyData.tuple) (some [])))).map PyData.tuple) (consO ((consO (some (.str "lend")) (consO (some u_law_a) (consO (some (.str "write")) (consO (some u_law_thing_here) (some []))))).map PyData.tuple) (consO ((consO (some (.str "either")) (some [])).map PyData.tuple) (consO ((consO (some (.str "back")) (consO (some u_law_a) (some []))).map PyData.tuple) (some [])))))) fun u_law_rows => (b2 addD (some u_law_rows) (lD (consO ((consO (some (.str "or")) (some [])).map PyData.tuple) (consO (some u_law_end) (consO ((consO (some (.str "lend")) (consO (some u_law_b) (consO (some u_law_kind) (consO (b2 idxD (some u_law_names) (some (.int 2))) (some []))))).map PyData.tuple) (consO ((consO (some (.str "look")) (consO (some u_law_a) (some []))).map PyData.tuple) (consO (some u_law_end) (consO (some u_law_end) (consO (some u_law_end) (some [])))))))))))))))))))))))))
def l_law_gadget (n : Nat) : List D → Option D
  | [a0, a1, a2, a3] => m_law_gadget n a0 a1 a2 a3
  | _ => none
def m_law_run (n : Nat) (u_law_rows : D) (u_law_choices_here : D) : Option D :=
  (bnd ((consO (some u_law_rows) (some [])).bind (l_law_homes n)) fun u_law_home => (bnd (some []) fun u_law_found => (bnd ((consO (some (.int 0)) (consO ((some []).map PyData.tuple) (some []))).map PyData.tuple) fun u_law_standing => (bnd (some (.int 0)) fun u_law_taken => (bnd (whileO (fun s1 : (List D) × D × D => (b2 (ordD ltI) (b2 idxD (some s1.2.1) (some (.int 0))) ((some u_law_rows).bind lenD))) (fun s1 : (List D) × D × D => (bnd ((some s1.2.1).bind (appM s1.1)) fun u_law_found => (bnd (some (.int 0)) fun u_law_choice => (bnd (ifM (b2 inD (b2 idxD (b2 idxD (some u_law_rows) (b2 idxD (some s1.2.1) (some (.int 0)))) (some (.int 0))) (lD (consO (some (.str "pick")) (consO (some (.str "either")) (consO (some (.str "again")) (some [])))))) (bnd (ifM (b2 (ordD ltI) (some s1.2.2) ((some u_law_choices_here).bind lenD)) (bnd (b2 idxD (some u_law_choices_here) (some s1.2.2)) fun u_law_choice => (some u_law_choice)) (some u_law_choice)) fun s3 : D => (bnd (b2 addD (some s1.2.2) (some (.int 1))) fun u_law_taken => (some (u_law_taken, s3)))) (some (s1.2.2, u_law_choice))) fun s2 : D × D => (bnd ((consO (some u_law_rows) (consO (some u_law_home) (consO (some s1.2.1) (consO (some s2.2) (some []))))).bind (l_law_step n)) fun u_law_standing => (some (u_law_found, u_law_standing, s2.1))))))) n (u_law_found, u_law_standing, u_law_taken)) fun s1 : (List D) × D × D => (some (.list s1.1)))))))
def l_law_run (n : Nat) : List D → Option D
  | [a0, a1] => m_law_run n a0 a1
  | _ => none
def m_law_few (n : Nat) (u_law_rows : D) (u_law_most : D) : Option D :=
  (bnd ((consO (some u_law_rows) (some [])).bind (l_law_homes n)) fun u_law_home => (bnd (consO ((consO (some (.int 0)) (consO ((some []).map PyData.tuple) (some []))).map PyData.tuple) (some [])) fun u_law_queue => (bnd (b2 dkNew ((consO (some (.int 0)) (consO ((some []).map PyData.tuple) (some []))).map PyData.tuple) (scD (some (.bool true)))) fun u_law_seen => (bnd (some (.int 0)) fun u_law_place => (bnd (whileF (fun s1 : (List D) × (List (D × D)) × D => (andT (b2 (ordD ltI) (some s1.2.2) ((some (.list s1.1)).bind lenD)) (b2 (ordD gtI) ((some u_law_rows).bind lenD) (some (.int 0))))) (fun s1 : (List D) × (List (D × D)) × D => (ifM (b2 (ordD gtI) ((some (.list s1.1)).bind lenD) (some u_law_most)) ((some (.bool false)).map .rt) (bnd (b2 idxD (some (.list s1.1)) (some s1.2.2)) fun u_law_standing => (bnd (bnd (((consO (some u_law_rows) (consO (some u_law_home) (consO (b2 idxD (some u_law_standing) (some (.int 0))) (some [])))).bind (l_law_some_ways n)).bind rng1) fun ds => foldO (fun (u_law_choice : D) (s2 : (List D) × (List (D × D))) => (bnd ((consO (some u_law_rows) (consO (some u_law_home) (consO (some u_law_standing) (consO (some u_law_choice) (some []))))).bind (l_law_step n)) fun u_law_other => (bnd (ifM (andT (b2 (ordD ltI) (b2 idxD (some u_law_other) (some (.int 0))) ((some u_law_rows).bind lenD)) ((some u_law_other).bind (dkHas true s2.2))) (bnd (b2 (fun v d => dkSet s2.2 d v) (scD (some (.bool true))) (some u_law_other)) fun u_law_seen => (bnd ((some u_law_other).bind (appM s2.1)) fun u_law_queue => (some (u_law_queue, u_law_seen)))) (some (s2.1, s2.2))) fun s3 : (List D) × (List (D × D)) => (some (s3.1, s3.2))))) ds (s1.1, s1.2.1)) fun s2 : (List D) × (List (D × D)) => (bnd (b2 addD (some s1.2.2) (some (.int 1))) fun u_law_place => (some (.nx (s2.1, s2.2, u_law_place)))))))) n (u_law_queue, u_law_seen, u_law_place)) (flQ fun s1 : (List D) × (List (D × D)) × D => (some (.bool true))))))))
def l_law_few (n : Nat) : List D → Option D
  | [a0, a1] => m_law_few n a0 a1
  | _ => none
def m_fault (n : Nat) (u_rows : D) (u_standing : D) : Option D :=
  (bnd (b2 idxD (some u_rows) (b2 idxD (some u_standing) (some (.int 0)))) fun u_row => (bnd (b2 idxD (some u_standing) (some (.int 1))) fun u_held => (ifM (((consO (some u_held) (some [])).bind (l_is_beside n)).bind asB) (some (.str "beside")) (bnd (bnd ((some u_held).bind itD) fun ds => foldF (fun (u_one : D) (s1 : Unit) => (ifM (andT (b2 neD (b2 idxD (some u_one) (some (.int 1))) (some (.str "pick"))) (andT (b2 eqD (b2 idxD (some u_one) (some (.int 0))) ((consO (some u_row) (some [])).bind (l_hand_of n))) (notT ((b2 idxD (some u_one) (some (.int 4))).bind asB)))) ((some (.str "empty")).map .rt) (some (.nx ())))) ds ()) (flQ fun s1 : Unit => (ifM (andT (b2 inD (b2 idxD (some u_row) (some (.int 0))) ((consO (some (.str "look")) (consO (some (.str "change")) (some []))).map PyData.tuple)) (((consO (some u_held) (consO (b2 idxD (some u_row) (some (.int 1))) (some []))).bind (l_is_asleep n)).bind asB)) (some (.str "asleep")) (some (.str ""))))))))
def l_fault (n : Nat) : List D → Option D
  | [a0, a1] => m_fault n a0 a1
  | _ => none
def m_law_sheet (n : Nat) (u_law_cells : D) (u_law_draw_here : D) (u_law_most : D) (u_law_odd : D) : Option D :=
  (bnd (lD (some [])) fun u_law_rows => (bnd (some []) fun u_law_opened => (bnd (bnd ((b2 fdivD ((some u_law_cells).bind lenD) (some (.int 3))).bind rng1) fun ds => foldO (fun (u_law_k : D) (s1 : D × (List D)) => (bnd (lD (lcG ((some (.list s1.2)).bind itD) (fun u_law_row_here => (b2 inD (b2 idxD (some u_law_row_here) (some (.int 0))) (lD (consO (some (.str "lend")) (consO (some (.str "pick")) (some [])))))) (fun u_law_row_here => (some u_law_row_here)))) fun u_law_named => (bnd (b2 idxD (some u_law_cells) (b2 mulD (some (.int 3)) (some u_law_k))) fun u_law_way => (bnd (ifM (andT ((some u_law_odd).bind asB) (andT (b2 eqD (b2 modD (some u_law_way) (some (.int 2))) (some (.int 0))) (b2 (ordD ltI) ((some u_law_named).bind lenD) (some (.int 3))))) (bnd (b2 addD (some s1.1) ((consO (b2 idxD (some u_law_cells) (b2 addD (b2 mulD (some (.int 3)) (some u_law_k)) (some (.int 1)))) (consO (b2 idxD (some u_law_cells) (b2 addD (b2 mulD (some (.int 3)) (some u_law_k)) (some (.int 2)))) (consO ((some u_law_named).bind lenD) (consO (some u_law_draw_here) (some []))))).bind (l_law_gadget n))) fun u_law_rows => (some (u_law_rows, s1.2))) (bnd ((consO (b2 modD (some u_law_way) (some u_law_most)) (consO (b2 idxD (some u_law_cells) (b2 addD (b2 mulD (some (.int 3)) (some u_law_k)) (some (.int 1)))) (consO (b2 idxD (some u_law_cells) (b2 addD (b2 mulD (some (.int 3)) (some u_law_k)) (some (.int 2)))) (consO (some (.list s1.2)) (consO (some u_law_draw_here) (some [])))))).bind (l_law_row n)) fun u_law_row_here => (bnd (b2 addD (some s1.1) (lD (consO (some u_law_row_here) (some [])))) fun u_law_rows => (bnd (ifM (b2 inD (b2 idxD (some u_law_row_here) (some (.int 0))) (lD (consO (some (.str "lend")) (consO (some (.str "pick")) (consO (some (.str "either")) (consO (some (.str "again")) (some []))))))) (bnd ((some u_law_row_here).bind (appM s1.2)) fun u_law_opened => (some u_law_opened)) (some s1.2)) fun s3 : (List D) => (bnd (ifM (b2 eqD (b2 idxD (some u_law_row_here) (some (.int 0))) (some (.str "end"))) (bnd (popM s3) fun u_law_opened => (some u_law_opened)) (some s3)) fun s4 : (List D) => (some (u_law_rows, s4))))))) fun s2 : D × (List D) => (some (s2.1, s2.2)))))) ds (u_law_rows, u_law_opened)) fun s1 : D × (List D) => (b2 addD (some s1.1) (lD (lcG ((some (.list s1.2)).bind itD) (fun u_law_row_here => (some true)) (fun u_law_row_here => ((consO (some (.str "end")) (some [])).map PyData.tuple))))))))
def l_law_sheet (n : Nat) : List D → Option D
  | [a0, a1, a2, a3] => m_law_sheet n a0 a1 a2 a3
  | _ => none
def m_looked (n : Nat) (u_rows : D) : Option D :=
  (bnd ((consO (some u_rows) (some [])).bind (l_checked n)) fun _ => (ifM (b2 eqD ((some u_rows).bind lenD) (some (.int 0))) ((scD (some .none)).bind tlG) (bnd (lD ((consO (some u_rows) (some [])).bind (l_homes n))) fun u_home => (bnd (lD ((consO (some u_rows) (some [])).bind (l_ends n))) fun u_last => (bnd (consO ((consO (some (.int 0)) (consO ((some []).map PyData.tuple) (some []))).map PyData.tuple) (some [])) fun u_queue => (bnd (b2 dkNew ((consO (some (.int 0)) (consO ((some []).map PyData.tuple) (some []))).map PyData.tuple) (nwD (some []))) fun u_choices => (bnd (scD (some .none)) fun u_told => (bnd (some (.int 0)) fun u_place => (bnd (whileO (fun s1 : (List D) × (List (D × D)) × D × D => (b2 (ordD ltI) (some s1.2.2.2) ((some (.list s1.1)).bind lenD))) (fun s1 : (List D) × (List (D × D)) × D × D => (bnd (b2 idxD (some (.list s1.1)) (some s1.2.2.2)) fun u_standing => (bnd (b2 addD (some s1.2.2.2) (some (.int 1))) fun u_place => (bnd ((consO (some u_rows) (consO (some u_standing) (some []))).bind (l_fault n)) fun u_word => (bnd (ifM (andT (b2 neD (some u_word) (some (.str ""))) (((consO (some s1.2.2.1) (consO (b2 idxD (some u_standing) (some (.int 0))) (consO (some u_word) (some [])))).bind (l_sooner n)).bind asB)) (bnd (((consO (scD (b2 idxD (some u_standing) (some (.int 0)))) (consO (scD (some u_word)) (consO ((some u_standing).bind (dkGet s1.2.1)) (some [])))).bind fun ds => grd (decide (ds.length ≤ 1000)) (some ds)).map PyData.tuple) fun u_told => (some u_told)) (some s1.2.2.1)) fun s2 : D => (bnd (bnd (((consO (some u_rows) (consO (some u_standing) (some []))).bind (l_ways n)).bind rng1) fun ds => foldO (fun (u_choice : D) (s3 : (List D) × (List (D × D))) => (bnd ((consO (some u_rows) (consO (some u_home) (consO (some u_last) (consO (some u_standing) (consO (some u_choice) (some [])))))).bind (l_stepped_by n)) fun u_found => (bnd (ifM (andT (b2 (ordD ltI) (b2 idxD (some u_found) (some (.int 0))) ((some u_rows).bind lenD)) ((some u_found).bind (dkHas true s3.2))) (bnd (b2 (fun v d => dkSet s3.2 d v) ((some u_standing).bind (dkGet s3.2)) (some u_found)) fun u_choices => (bnd (ifM (((consO (b2 idxD (some u_rows) (b2 idxD (some u_standing) (some (.int 0)))) (some [])).bind (l_chooses n)).bind asB) (bnd (b2 (fun v d => dkSet u_choices d v) (b2 addN ((some u_standing).bind (dkGet u_choices)) (lD (consO (some u_choice) (some [])))) (some u_found)) fun u_choices => (some u_choices)) (some u_choices)) fun s5 : (List (D × D)) => (bnd ((some u_found).bind (appM s3.1)) fun u_queue => (some (u_queue, s5))))) (some (s3.1, s3.2))) fun s4 : (List D) × (List (D × D)) => (some (s4.1, s4.2))))) ds (s1.1, s1.2.1)) fun s3 : (List D) × (List (D × D)) => (some (s3.1, s3.2, s2, u_place)))))))) n (u_queue, u_choices, u_told, u_place)) fun s1 : (List D) × (List (D × D)) × D × D => ((some s1.2.2.1).bind tlG))))))))))
def l_looked (n : Nat) : List D → Option D
  | [a0] => m_looked n a0
  | _ => none
def m_law_drawn (n : Nat) (u_law_script : D) (u_law_most : D) : Option D :=
  (bnd (ifM (b2 eqD (b2 modD (b2 fdivD ((consO (some u_law_script) (consO (some (.int 2)) (some []))).bind (l_law_cell_at n)) (some (.int 384))) (some (.int 4))) (some (.int 3))) (bnd (b2 addD (some u_law_most) (some (.int 10))) fun u_law_most => (some u_law_most)) (some u_law_most)) fun s1 : D => (bnd (b2 modD ((consO (some u_law_script) (consO (some (.int 0)) (some []))).bind (l_law_cell_at n)) (some s1)) fun u_law_many => (bnd (b2 modD ((consO (some u_law_script) (consO (some (.int 2)) (some []))).bind (l_law_cell_at n)) (some (.int 8))) fun u_law_way => (bnd (ifM (b2 (ordD gtI) (some u_law_way) (some (.int 3))) (bnd (b2 modD (some u_law_many) (some (.int 6))) fun u_law_many => (some u_law_many)) (some u_law_many)) fun s2 : D => (bnd (lD (lcG ((b2 mulD (some (.int 3)) (some s2)).bind rng1) (fun u_law_k => (some true)) (fun u_law_k => ((consO (some u_law_script) (consO (b2 addD (some (.int 3)) (some u_law_k)) (some []))).bind (l_law_cell_at n))))) fun u_law_cells => (bnd ((consO (some u_law_cells) (consO ((consO (some u_law_script) (some [])).bind (l_law_draw n)) (consO (b2 idxD (lD (consO (some (.int 12)) (consO (some (.int 12)) (consO (some (.int 5)) (consO (some (.int 10)) (consO (some (.int 12)) (consO (some (.int 12)) (consO (some (.int 10)) (consO (some (.int 12)) (some [])))))))))) (some u_law_way)) (consO (bD (b2 (ordD gtI) (some u_law_way) (some (.int 3)))) (some []))))).bind (l_law_sheet n)) fun u_law_rows => (bnd (ifM (andT (b2 inD (some u_law_way) (lD (consO (some (.int 1)) (consO (some (.int 6)) (some []))))) (b2 (ordD ltI) ((some u_law_rows).bind lenD) (some (.int 21)))) (bnd (b2 addD (b2 addD (b2 addD (some u_law_rows) (some u_law_rows)) (some u_law_rows)) (some u_law_rows)) fun u_law_rows => (some u_law_rows)) (some u_law_rows)) fun s3 : D => (some s3))))))))
def l_law_drawn (n : Nat) : List D → Option D
  | [a0, a1] => m_law_drawn n a0 a1
  | _ => none
def m_law (n : Nat) (u_law_script : D) : Option D :=
  (bnd ((consO (some u_law_script) (consO ((consO (some u_law_script) (consO (some (.int 14)) (some []))).bind (l_law_drawn n)) (some []))).bind (l_law_long n)) fun u_law_rows => (bnd ((consO (some u_law_script) (some [])).bind (l_law_choices n)) fun u_law_choices_here => (ifM (notT (((consO (some u_law_rows) (consO (some (.int 400)) (some []))).bind (l_law_few n)).bind asB)) (some (.bool true)) (bnd (lD ((some u_law_rows).bind seqD)) fun u_law_kept => (bnd ((consO (some u_law_kept) (some [])).bind (l_looked n)) fun u_law_told_here => (ifM (orT (notT (((consO (some u_law_kept) (consO (some u_law_rows) (some []))).bind (l_law_rows_alike n)).bind asB)) (andT (b2 notN (some u_law_told_here) (some .none)) (notT (((consO (some u_law_told_here) (some [])).bind (l_law_told n)).bind asB)))) (some (.bool false)) (bnd (ifM (b2 notN (some u_law_told_here) (some .none)) (bnd ((some (.int 1)).bind (tlApp u_law_told_here)) fun u_law_told_here => (bnd ((consO (some u_law_kept) (some [])).bind (l_looked n)) fun u_law_again => (ifM (orT (b2 isN (some u_law_again) (some .none)) (orT (notT (((consO (some u_law_again) (some [])).bind (l_law_told n)).bind asB)) (orT (b2 neD (b2 idxD (some u_law_again) (some (.int 0))) (b2 idxD (some u_law_told_here) (some (.int 0)))) (b2 neD (b2 idxD (some u_law_again) (some (.int 1))) (b2 idxD (some u_law_told_here) (some (.int 1))))))) ((some (.bool false)).map .rt) (some (.nx u_law_told_here))))) (some (.nx u_law_told_here))) (flQ fun s1 : D => (bnd (lD (consO (some (.str "beside")) (consO (some (.str "empty")) (consO (some (.str "asleep")) (some []))))) fun u_law_order => (bnd (bnd ((b2 idxD (lD (consO (some (.int 5)) (consO (some (.int 1)) (some [])))) ((bD (b2 (ordD gtI) ((some u_law_rows).bind lenD) (some (.int 30)))).bind intD)).bind rng1) fun ds => foldF (fun (u_law_turn : D) (s2 : Unit) => (bnd (some u_law_choices_here) fun u_law_some => (bnd (ifM (b2 (ordD gtI) (some u_law_turn) (some (.int 0))) (bnd (b2 addD (lD (lcG ((slcD (some u_law_choices_here) (some none) (((some (.int 4)).bind asI).map some)).bind itD) (fun u_law_choice => (some true)) (fun u_law_choice => (b2 addD (some u_law_choice) (some u_law_turn))))) (lD (consO (some u_law_turn) (some [])))) fun u_law_some => (some u_law_some)) (some u_law_some)) fun s3 : D => (bnd (bnd (((consO (some u_law_rows) (consO (some s3) (some []))).bind (l_law_run n)).bind itD) fun ds => foldF (fun (u_law_standing : D) (s4 : Unit) => (bnd ((consO (b2 idxD (some u_law_rows) (b2 idxD (some u_law_standing) (some (.int 0)))) (consO (b2 idxD (some u_law_standing) (some (.int 1))) (some []))).bind (l_law_fault n)) fun u_law_word_here => (bnd (ifM (b2 neD (some u_law_word_here) (some (.str ""))) (ifM (orT (b2 isN (some s1) (some .none)) (b2 (ordD ltI) (b2 idxD (some u_law_standing) (some (.int 0))) (b2 idxD (some s1) (some (.int 0))))) ((some (.bool false)).map .rt) (ifM (andT (b2 eqD (b2 idxD (some u_law_standing) (some (.int 0))) (b2 idxD (some s1) (some (.int 0)))) (b2 (ordD ltI) (b2 lixD (some u_law_order) (some u_law_word_here)) (b2 lixD (some u_law_order) (b2 idxD (some s1) (some (.int 1)))))) ((some (.bool false)).map .rt) (some (.nx ())))) (some (.nx ()))) (flM fun s5 : Unit => (some (.nx ())))))) ds ()) (flM fun s4 : Unit => (some (.nx ()))))))) ds ()) (flQ fun s2 : Unit => (some (.bool true)))))))))))))
def l_law (n : Nat) : List D → Option D
  | [a0] => m_law n a0
  | _ => none
end Bw
/-! Ma1: reckoning with the mirrors' combinators. -/
namespace Bd
open PySem
theorem nd {α : Type} {a b : α} (h : a = b) : a = b := h
section
variable {α β γ S : Type}
@[simp] theorem bnd_some (a : α) (k : α → Option β) : bnd (some a) k = k a := nd rfl
@[simp] theorem bnd_none (k : α → Option β) : bnd none k = none := nd rfl
@[simp] theorem bnd_id (m : Option α) : bnd m (fun s => some s) = m := by cases m <;> rfl
@[simp] theorem ifM_t (m n : Option α) : ifM (some true) m n = m := nd rfl
@[simp] theorem ifM_f (m n : Option α) : ifM (some false) m n = n := nd rfl
theorem ifM_some (b : Bool) (m n : Option α) : ifM (some b) m n = if b = true then m else n := by cases b <;> rfl
theorem ifM_ss (b : Bool) (x y : α) : ifM (some b) (some x) (some y) = some (if b = true then x else y) := by cases b <;> rfl
@[simp] theorem andT_t (n : Option Bool) : andT (some true) n = n := nd rfl
@[simp] theorem andT_f (n : Option Bool) : andT (some false) n = some false := nd rfl
theorem andT_ss (a b : Bool) : andT (some a) (some b) = some (a && b) := by cases a <;> rfl
@[simp] theorem orT_t (n : Option Bool) : orT (some true) n = some true := nd rfl
@[simp] theorem orT_f (n : Option Bool) : orT (some false) n = n := nd rfl
theorem orT_ss (a b : Bool) : orT (some a) (some b) = some (a || b) := by cases a <;> rfl
@[simp] theorem notT_s (a : Bool) : notT (some a) = some (!a) := nd rfl
@[simp] theorem andV_t (n : Option D) : andV (some (.bool true)) n = n := nd rfl
@[simp] theorem andV_f (n : Option D) : andV (some (.bool false)) n = some (.bool false) := nd rfl
theorem andV_s (a : Bool) (n : Option D) : andV (some (.bool a)) n = if a = true then n else some (.bool false) := by cases a <;> rfl
theorem andV_ss (a b : Bool) : andV (some (.bool a)) (some (.bool b)) = some (.bool (a && b)) := by cases a <;> rfl
@[simp] theorem orV_t (n : Option D) : orV (some (.bool true)) n = some (.bool true) := nd rfl
@[simp] theorem orV_f (n : Option D) : orV (some (.bool false)) n = n := nd rfl
theorem orV_ss (a b : Bool) : orV (some (.bool a)) (some (.bool b)) = some (.bool (a || b)) := by cases a <;> rfl
@[simp] theorem notV_s (a : Bool) : notV (some (.bool a)) = some (.bool (!a)) := nd rfl
@[simp] theorem b2_some (f : α → β → Option γ) (a : α) (b : β) : b2 f (some a) (some b) = f a b := nd rfl
@[simp] theorem lD_some (a : List D) : lD (some a) = some (.list a) := nd rfl
@[simp] theorem bD_some (a : Bool) : bD (some a) = some (.bool a) := nd rfl
@[simp] theorem asB_b (a : Bool) : asB (.bool a) = some a := nd rfl
@[simp] theorem consO_some (d : D) (ds : List D) : consO (some d) (some ds) = some (d :: ds) := nd rfl
@[simp] theorem listD_l (ds : List D) : listD (.list ds) = some ds := nd rfl
@[simp] theorem itD_l (ds : List D) : itD (.list ds) = some ds := nd rfl
@[simp] theorem itD_t (ds : List D) : itD (.tuple ds) = some ds := nd rfl
@[simp] theorem seqD_l (ds : List D) : seqD (.list ds) = some ds := nd rfl
@[simp] theorem lenD_l (ds : List D) : lenD (.list ds) = some (.int ds.length) := nd rfl
@[simp] theorem lenD_t (ds : List D) : lenD (.tuple ds) = some (.int ds.length) := nd rfl
@[simp] theorem asI_i (i : Int) : asI (.int i) = some i := nd rfl
@[simp] theorem grd_true (m : Option α) : grd true m = m := nd rfl
theorem grd_pos {p : Prop} [Decidable p] (h : p) (m : Option α) : grd (decide p) m = m := by rw [decide_eq_true h]; rfl
@[simp] theorem addD_ii (i j : Int) : addD (.int i) (.int j) = some (.int (i + j)) := nd rfl
theorem addD_ss (x y : Str) (h : x.length + y.length ≤ LN) : addD (.str x) (.str y) = some (.str (x ++ y)) := grd_pos h _
theorem addD_ll (x y : List D) (h : x.length + y.length ≤ LN) : addD (.list x) (.list y) = some (.list (x ++ y)) := grd_pos h _
theorem addD_tt (x y : List D) (h : x.length + y.length ≤ LN) : addD (.tuple x) (.tuple y) = some (.tuple (x ++ y)) := grd_pos h _
@[simp] theorem subD_ii (i j : Int) : subD (.int i) (.int j) = some (.int (i - j)) := nd rfl
theorem fdivD_ii (i j : Int) (h : 0 < j ∧ j < 1073741824) : fdivD (.int i) (.int j) = some (.int (i / j)) := grd_pos h _
theorem modD_ii (i j : Int) (h : 0 < j) : modD (.int i) (.int j) = some (.int (i % j)) := grd_pos h _
theorem mulD_ii (i j : Int) (h : (-(2 ^ 64) < i ∧ i < 2 ^ 64) ∨ (-(2 ^ 64) < j ∧ j < 2 ^ 64)) : mulD (.int i) (.int j) = some (.int (i * j)) := grd_pos h _
theorem mulD_si (x : Str) (j : Int) (h : x.length ≤ 1000 ∧ 0 ≤ j ∧ j ≤ 1000) : mulD (.str x) (.int j) = some (.str (repS x j)) := grd_pos h _
@[simp] theorem negD_i (i : Int) : negD (.int i) = some (.int (-i)) := nd rfl
@[simp] theorem ordD_ii (p : Int → Int → Bool) (i j : Int) : ordD p (.int i) (.int j) = some (p i j) := nd rfl
@[simp] theorem eqD_ii (i j : Int) : eqD (.int i) (.int j) = some (i == j) := nd rfl
@[simp] theorem eqD_ss (i j : Str) : eqD (.str i) (.str j) = some (decide (i = j)) := nd rfl
@[simp] theorem eqD_bb (i j : Bool) : eqD (.bool i) (.bool j) = some (i == j) := nd rfl
@[simp] theorem neD_ii (i j : Int) : neD (.int i) (.int j) = some (!(i == j)) := nd rfl
@[simp] theorem neD_ss (i j : Str) : neD (.str i) (.str j) = some (!decide (i = j)) := nd rfl
@[simp] theorem isN_n (a : D) : isN a .none = some (nonD a) := nd rfl
@[simp] theorem notN_n (a : D) : notN a .none = some (!nonD a) := nd rfl
@[simp] theorem intD_b (b : Bool) : intD (.bool b) = some (.int (if b = true then 1 else 0)) := nd rfl
@[simp] theorem intD_i (b : Int) : intD (.int b) = some (.int b) := nd rfl
@[simp] theorem tupD_l (ds : List D) : tupD (.list ds) = some (.tuple ds) := nd rfl
@[simp] theorem isInt_i (i : Int) : isInt (.int i) = true := nd rfl
@[simp] theorem isBool_i (i : Int) : isBool (.int i) = false := nd rfl
@[simp] theorem isInt_s (i : Str) : isInt (.str i) = false := nd rfl
@[simp] theorem isBool_b (i : Bool) : isBool (.bool i) = true := nd rfl
@[simp] theorem isStr_s (i : Str) : isStr (.str i) = true := nd rfl
@[simp] theorem isStr_i (i : Int) : isStr (.int i) = false := nd rfl
@[simp] theorem isTup_t (i : List D) : isTup (.tuple i) = true := nd rfl
@[simp] theorem isTup_l (i : List D) : isTup (.list i) = false := nd rfl
@[simp] theorem isLst_l (i : List D) : isLst (.list i) = true := nd rfl
@[simp] theorem isLst_t (i : List D) : isLst (.tuple i) = false := nd rfl
theorem pow9 : powD (.int 10) (.int 9) = some (.int 1000000000) := nd rfl
/-- places -/
theorem idxD_l (ds : List D) (k : Nat) : idxD (.list ds) (.int (k : Int)) = ds[k]? := by
  show L2.atI ds (k : Int) = ds[k]?
  unfold L2.atI L2.ixN
  by_cases h : k < ds.length
  · rw [if_pos (by omega), if_pos (by omega)]; simp
  · rw [if_pos (by omega), if_neg (by omega)]; simp; omega
theorem idxD_t (ds : List D) (k : Nat) : idxD (.tuple ds) (.int (k : Int)) = ds[k]? := idxD_l ds k
theorem idxD_li (ds : List D) (i : Int) (h : 0 ≤ i) : idxD (.list ds) (.int i) = ds[i.toNat]? := by
  obtain ⟨k, rfl⟩ := Int.eq_ofNat_of_zero_le h
  exact idxD_l ds k
theorem idxD_last (ds : List D) (h : ds ≠ []) : idxD (.list ds) (.int (-1)) = ds.getLast? := by
  cases hl : ds.getLast? with
  | none => rw [List.getLast?_eq_none_iff] at hl; exact absurd hl h
  | some d =>
    obtain ⟨ys, rfl⟩ := List.getLast?_eq_some_iff.mp hl
    exact L2.atI_last ys d
@[simp] theorem idl0 (a : D) (r : List D) : idxD (.list (a :: r)) (.int 0) = some a := idxD_l (a :: r) 0
@[simp] theorem idl1 (a b : D) (r : List D) : idxD (.list (a :: b :: r)) (.int 1) = some b := idxD_l (a :: b :: r) 1
@[simp] theorem idl2 (a b c : D) (r : List D) : idxD (.list (a :: b :: c :: r)) (.int 2) = some c := idxD_l (a :: b :: c :: r) 2
@[simp] theorem idl3 (a b c d : D) (r : List D) : idxD (.list (a :: b :: c :: d :: r)) (.int 3) = some d := idxD_l (a :: b :: c :: d :: r) 3
@[simp] theorem idl4 (a b c d e : D) (r : List D) : idxD (.list (a :: b :: c :: d :: e :: r)) (.int 4) = some e := idxD_l (a :: b :: c :: d :: e :: r) 4
@[simp] theorem idt0 (a : D) (r : List D) : idxD (.tuple (a :: r)) (.int 0) = some a := idxD_t (a :: r) 0
@[simp] theorem idt1 (a b : D) (r : List D) : idxD (.tuple (a :: b :: r)) (.int 1) = some b := idxD_t (a :: b :: r) 1
@[simp] theorem idt2 (a b c : D) (r : List D) : idxD (.tuple (a :: b :: c :: r)) (.int 2) = some c := idxD_t (a :: b :: c :: r) 2
@[simp] theorem idt3 (a b c d : D) (r : List D) : idxD (.tuple (a :: b :: c :: d :: r)) (.int 3) = some d := idxD_t (a :: b :: c :: d :: r) 3
@[simp] theorem idt4 (a b c d e : D) (r : List D) : idxD (.tuple (a :: b :: c :: d :: e :: r)) (.int 4) = some e := idxD_t (a :: b :: c :: d :: e :: r) 4
/-- a place by a remainder, in a list of n -/
theorem idx_mod (ds : List D) (i : Int) (h : 0 < ds.length) : ∃ d, idxD (.list ds) (.int (i % (ds.length : Int))) = some d ∧ d ∈ ds := by
  have h1 : 0 ≤ i % (ds.length : Int) := Int.emod_nonneg _ (by omega)
  have h2 : i % (ds.length : Int) < ds.length := Int.emod_lt_of_pos _ (by omega)
  rw [idxD_li _ _ h1]
  have h3 : (i % (ds.length : Int)).toNat < ds.length := by omega
  exact ⟨_, List.getElem?_eq_getElem h3, List.getElem_mem h3⟩
theorem idx_mem {ds : List D} {i : Int} (h0 : 0 ≤ i) (h : i < ds.length) : ∃ d, idxD (.list ds) (.int i) = some d ∧ d ∈ ds := by
  rw [idxD_li _ _ h0]
  have h3 : i.toNat < ds.length := by omega
  exact ⟨_, List.getElem?_eq_getElem h3, List.getElem_mem h3⟩
/-- loops -/
@[simp] theorem foldO_nil {ι : Type} (f : ι → S → Option S) (s : S) : foldO f [] s = some s := nd rfl
theorem foldO_cons {ι : Type} (f : ι → S → Option S) (d : ι) (r : List ι) (s : S) : foldO f (d :: r) s = (f d s).bind (foldO f r) := rfl
theorem foldO_append {ι : Type} (f : ι → S → Option S) : ∀ (a b : List ι) (s : S), foldO f (a ++ b) s = (foldO f a s).bind (foldO f b)
  | [], _, _ => rfl
  | d :: r, b, s => by
    rw [List.cons_append, foldO_cons, foldO_cons]
    cases f d s with
    | none => rfl
    | some s' => exact foldO_append f r b s'
/-- what holds from turn to turn -/
theorem foldO_inv {ι : Type} {f : ι → S → Option S} (P : Nat → S → Prop) {ds : List ι} (hs : ∀ i d s, ds[i]? = some d → P i s → ∃ s', f d s = some s' ∧ P (i + 1) s') {s : S} (h0 : P 0 s) : ∃ s', foldO f ds s = some s' ∧ P ds.length s' := by
  induction ds generalizing P s with
  | nil => exact ⟨s, rfl, h0⟩
  | cons d r ih =>
    obtain ⟨s1, e1, p1⟩ := hs 0 d s rfl h0
    obtain ⟨s2, e2, p2⟩ := ih (P := fun i => P (i + 1)) (fun i d s hd p => hs (i + 1) d s (by simpa using hd) p) p1
    exact ⟨s2, by rw [foldO_cons, e1]; exact e2, p2⟩
/-- a fold that never fails is a plain one -/
theorem foldO_pure {ι : Type} {f : ι → S → Option S} {g : S → ι → S} (P : S → Prop) {ds : List ι} (hs : ∀ d s, d ∈ ds → P s → f d s = some (g s d) ∧ P (g s d)) {s : S} (h0 : P s) : foldO f ds s = some (ds.foldl g s) ∧ P (ds.foldl g s) := by
  induction ds generalizing s with
  | nil => exact ⟨rfl, h0⟩
  | cons d r ih =>
    obtain ⟨e1, p1⟩ := hs d s List.mem_cons_self h0
    obtain ⟨e2, p2⟩ := ih (fun d s hd p => hs d s (List.mem_cons_of_mem _ hd) p) p1
    exact ⟨by rw [foldO_cons, e1]; exact e2, p2⟩
/-- comprehensions -/
theorem lcM_pure {ι : Type} {c : ι → Option Bool} {f : ι → Option D} {p : ι → Bool} {g : ι → D} : ∀ {ds : List ι}, (∀ d ∈ ds, c d = some (p d)) → (∀ d ∈ ds, p d = true → f d = some (g d)) → lcM c f ds = some ((ds.filter p).map g)
  | [], _, _ => rfl
  | d :: r, hc, hf => by
    have ih := lcM_pure (ds := r) (fun x hx => hc x (List.mem_cons_of_mem _ hx)) (fun x hx => hf x (List.mem_cons_of_mem _ hx))
    unfold lcM
    rw [hc d List.mem_cons_self]
    cases hp : p d with
    | false =>
      rw [List.filter_cons_of_neg (by rw [hp]; exact Bool.false_ne_true)]
      exact ih
    | true =>
      rw [List.filter_cons_of_pos hp, List.map_cons]
      show (f d).bind _ = _
      rw [hf d List.mem_cons_self hp]
      show (lcM c f r).map _ = _
      rw [ih]
      rfl
theorem lcG_pure {ι : Type} {c : ι → Option Bool} {f : ι → Option D} {p : ι → Bool} {g : ι → D} {ds : List ι} (hl : ds.length ≤ LN) (hc : ∀ d ∈ ds, c d = some (p d)) (hf : ∀ d ∈ ds, p d = true → f d = some (g d)) : lcG (some ds) c f = some ((ds.filter p).map g) := by
  show grd _ _ = _
  rw [grd_pos hl, lcM_pure hc hf]
theorem lcG_map {ι : Type} {f : ι → Option D} {g : ι → D} {ds : List ι} (hl : ds.length ≤ LN) (hf : ∀ d ∈ ds, f d = some (g d)) : lcG (some ds) (fun _ => some true) f = some (ds.map g) := by
  rw [lcG_pure (p := fun _ => true) hl (fun _ _ => rfl) (fun d hd _ => hf d hd)]
  rw [List.filter_eq_self.mpr (fun _ _ => rfl)]
theorem allB_map (bs : List Bool) : allD (.list (bs.map PyData.bool)) = some (.bool (bs.all id)) := by
  show (allB _).map _ = _
  rw [allB_of]; rfl
theorem anyB_map (bs : List Bool) : anyD (.list (bs.map PyData.bool)) = some (.bool (bs.any id)) := by
  show (allB _).map _ = _
  rw [allB_of]; rfl
theorem sumI_map (ns : List Int) : sumD (.list (ns.map PyData.int)) = some (.int ns.sum) := by
  show (allI _).map _ = _
  rw [allI_of]; rfl
theorem rngL_length (lo : Int) (n : Nat) : (rngL lo n).length = n := by unfold rngL; rw [List.length_map, List.length_range]
theorem rngL_get {lo : Int} {n i : Nat} {d : D} (h : (rngL lo n)[i]? = some d) : i < n ∧ d = .int (lo + i) := by
  unfold rngL at h
  rw [List.getElem?_map] at h
  by_cases hi : i < n
  · rw [List.getElem?_range hi] at h
    cases h
    exact ⟨hi, rfl⟩
  · rw [List.getElem?_eq_none (by rw [List.length_range]; omega)] at h
    cases h
theorem rng1_i (n : Int) (h : -(2 ^ 62) ≤ n ∧ n < 2 ^ 62) : rng1 (.int n) = some (rngL 0 n.toNat) := grd_pos h _
theorem rng2_i (l n : Int) (h : -(2 ^ 62) ≤ l ∧ l < 2 ^ 62 ∧ -(2 ^ 62) ≤ n ∧ n < 2 ^ 62) : rng2 (.int l) (.int n) = some (rngL l (n - l).toNat) := grd_pos h _
theorem appM_some {ds : List D} {d : D} (h : ds.length < LN) : appM ds d = some (ds ++ [d]) := grd_pos h _
/-- data that == may see -/
theorem shaped_of {d : D} (h1 : d.canLay0 = true) (h2 : d.depth ≤ 64) : SeqAt.shaped d = true := by
  unfold SeqAt.shaped
  rw [h1, decide_eq_true h2]; rfl
theorem eqD_refl {d : D} (h : SeqAt.shaped d = true) : eqD d d = some true := by
  have h1 : PyData.eqv d d = true := SeqAt.eqv_refl d (SeqAt.canLay_of_shaped h)
  have h2 : grd (SeqAt.shaped d && SeqAt.shaped d) (some (PyData.eqv d d)) = some true := by rw [h, h1]; rfl
  cases d with
  | int i => simp
  | str i => simp
  | bool i => simp
  | none => rfl
  | list a => exact h2
  | tuple a => exact h2
  | dict a => exact h2
theorem neD_refl {d : D} (h : SeqAt.shaped d = true) : neD d d = some false := by
  unfold neD
  rw [eqD_refl h]; rfl
/-- over encoded items -/
theorem lcG_pureE {ε ι : Type} {enc : ε → ι} {c : ι → Option Bool} {f : ι → Option D} {p : ε → Bool} {g : ε → D} {es : List ε} (hl : es.length ≤ LN) (hc : ∀ e ∈ es, c (enc e) = some (p e)) (hf : ∀ e ∈ es, p e = true → f (enc e) = some (g e)) : lcG (some (es.map enc)) c f = some ((es.filter p).map g) := by
  show grd _ _ = _
  rw [grd_pos (by rw [List.length_map]; exact hl)]
  clear hl
  induction es with
  | nil => rfl
  | cons e r ih =>
    have ih := ih (fun x hx => hc x (List.mem_cons_of_mem _ hx)) (fun x hx => hf x (List.mem_cons_of_mem _ hx))
    rw [List.map_cons]
    unfold lcM
    rw [hc e List.mem_cons_self]
    cases hp : p e with
    | false =>
      rw [List.filter_cons_of_neg (by rw [hp]; exact Bool.false_ne_true)]
      exact ih
    | true =>
      rw [List.filter_cons_of_pos hp, List.map_cons]
      show (f (enc e)).bind _ = _
      rw [hf e List.mem_cons_self hp]
      show (lcM c f (r.map enc)).map _ = _
      rw [ih]
      rfl
theorem lcG_mapE {ε ι : Type} {enc : ε → ι} {f : ι → Option D} {g : ε → D} {es : List ε} (hl : es.length ≤ LN) (hf : ∀ e ∈ es, f (enc e) = some (g e)) : lcG (some (es.map enc)) (fun _ => some true) f = some (es.map g) := by
  rw [lcG_pureE (enc := enc) (c := fun _ => some true) (f := f) (p := fun _ => true) (g := g) hl (fun _ _ => rfl) (fun d hd _ => hf d hd)]
  rw [List.filter_eq_self.mpr (fun _ _ => rfl)]
theorem foldO_map {ε ι : Type} {enc : ε → ι} (f : ι → S → Option S) : ∀ (es : List ε) (s : S), foldO f (es.map enc) s = foldO (fun e => f (enc e)) es s
  | [], _ => rfl
  | e :: r, s => by
    rw [List.map_cons, foldO_cons, foldO_cons]
    cases f (enc e) s with
    | none => rfl
    | some s' => exact foldO_map f r s'
/-- a list made by appends -/
theorem foldO_filter {ε : Type} {f : ε → List D → Option (List D)} {p : ε → Bool} {g : ε → D} {es : List ε} (hl : es.length ≤ LN) (hf : ∀ e ∈ es, ∀ acc, acc.length < LN → f e acc = some (if p e then acc ++ [g e] else acc)) : foldO f es [] = some ((es.filter p).map g) := by
  obtain ⟨s, h1, h2⟩ := foldO_inv (f := f) (ds := es) (s := []) (fun i acc => acc = ((es.take i).filter p).map g) (fun i e acc hi ha => by
    have hlt := (List.getElem?_eq_some_iff.mp hi).1
    have hm : e ∈ es := List.mem_of_getElem? hi
    have hz : acc.length < LN := by
      rw [ha, List.length_map]
      have h3 := List.length_filter_le p (es.take i)
      rw [List.length_take] at h3
      exact Nat.lt_of_lt_of_le (Nat.lt_of_le_of_lt h3 (by omega)) hl
    refine ⟨_, hf e hm acc hz, ?_⟩
    rw [List.take_add_one, hi, List.filter_append, List.map_append, ← ha]
    cases hp : p e with
    | true => simp [hp]
    | false => simp [hp]) rfl
  rw [List.take_length] at h2
  rw [h1, h2]
/-- data of no greater depth, its texts sound -/
def shD (k : Nat) (d : D) : Prop := d.canLay0 = true ∧ d.depth ≤ k
theorem shD_int (k : Nat) (i : Int) : shD k (.int i) := ⟨by simp [PyData.canLay0], by simp [PyData.depth]⟩
theorem shD_bool (k : Nat) (i : Bool) : shD k (.bool i) := ⟨by simp [PyData.canLay0], by simp [PyData.depth]⟩
theorem shD_none (k : Nat) : shD k .none := ⟨by simp [PyData.canLay0], by simp [PyData.depth]⟩
theorem shD_str (k : Nat) {x : Str} (h : PyData.strOk x = true) : shD k (.str x) := ⟨by simp [PyData.canLay0, h], by simp [PyData.depth]⟩
theorem shD_all {k : Nat} : ∀ {xs : List D}, (∀ x ∈ xs, shD k x) → PyData.canLayAll0 xs = true ∧ PyData.depthAll xs ≤ k
  | [], _ => ⟨by simp [PyData.canLayAll0], by simp [PyData.depthAll]⟩
  | x :: xs, h => by
    obtain ⟨h1, h2⟩ := h x List.mem_cons_self
    obtain ⟨h3, h4⟩ := shD_all (xs := xs) fun y hy => h y (List.mem_cons_of_mem _ hy)
    refine ⟨by simp [PyData.canLayAll0, h1, h3], ?_⟩
    rw [PyData.depthAll]
    exact Nat.max_le.mpr ⟨h2, h4⟩
theorem shD_list {k : Nat} {xs : List D} (h : ∀ x ∈ xs, shD k x) : shD (k + 1) (.list xs) := by
  obtain ⟨h1, h2⟩ := shD_all h
  exact ⟨by rw [PyData.canLay0]; exact h1, by rw [PyData.depth]; omega⟩
theorem shD_tup {k : Nat} {xs : List D} (h : ∀ x ∈ xs, shD k x) : shD (k + 1) (.tuple xs) := by
  obtain ⟨h1, h2⟩ := shD_all h
  exact ⟨by rw [PyData.canLay0]; exact h1, by rw [PyData.depth]; omega⟩
theorem shD_mono {k j : Nat} {d : D} (h : shD k d) (e : k ≤ j) : shD j d := ⟨h.1, Nat.le_trans h.2 e⟩
theorem shD.ok {k : Nat} {d : D} (h : shD k d) (e : k ≤ 64) : SeqAt.shaped d = true := shaped_of h.1 (Nat.le_trans h.2 e)
theorem ln100 {n : Nat} (h : n ≤ 100000) : n ≤ LN := Nat.le_trans h (by decide)
theorem lt100 {n : Nat} (h : n < 100000) : n < LN := Nat.lt_of_lt_of_le h (by decide)
/-- cuts -/
theorem cutL_to {α : Type} (xs : List α) (k : Nat) : cutL xs none (some (k : Int)) = xs.take k := by
  unfold cutL
  rw [HT.sIx_none, HT.sIx_nat, List.drop_zero, Nat.sub_zero]
  apply List.ext_getElem?
  intro i
  simp only [List.getElem?_take]
  by_cases h : i < k
  · by_cases h2 : i < xs.length
    · rw [if_pos (by omega), if_pos h]
    · rw [if_neg (by omega), if_pos h, List.getElem?_eq_none (by omega)]
  · rw [if_neg (by omega), if_neg h]
theorem cutL_from {α : Type} (xs : List α) (k : Nat) : cutL xs (some (k : Int)) none = xs.drop k := by
  unfold cutL
  rw [HT.sIx_none, HT.sIx_nat]
  by_cases h : k ≤ xs.length
  · rw [Nat.min_eq_left h]
    exact List.take_of_length_le (by rw [List.length_drop]; omega)
  · rw [Nat.min_eq_right (by omega), Nat.sub_self, List.take_zero, List.drop_eq_nil_of_le (by omega)]
theorem cutL_butLast {α : Type} (xs : List α) : cutL xs none (some (-1)) = xs.dropLast := by
  unfold cutL
  have e : HT.sIx xs.length xs.length (some (-1)) = xs.length - 1 := by
    show (if (-1 : Int) < 0 then ((-1 : Int) + (xs.length : Int)).toNat else min (-1 : Int).toNat xs.length) = xs.length - 1
    rw [if_pos (by decide)]
    omega
  rw [HT.sIx_none, e, List.drop_zero, Nat.sub_zero, List.dropLast_eq_take]
@[simp] theorem cutD_l (ds : List D) (l h : Option Int) : cutD (.list ds) l h = some (.list (cutL ds l h)) := nd rfl
@[simp] theorem cutD_t (ds : List D) (l h : Option Int) : cutD (.tuple ds) l h = some (.tuple (cutL ds l h)) := nd rfl
@[simp] theorem slcD_s (d : D) (l h : Option Int) : slcD (some d) (some l) (some h) = cutD d l h := nd rfl
end
end Bd
/-! ### rows, and how they nest -/
namespace Bd
open PySem
theorem obs {α β : Type} (a : α) (f : α → Option β) : (some a).bind f = f a := nd rfl
theorem oms {α β : Type} (a : α) (f : α → β) : (some a).map f = some (f a) := nd rfl
theorem foldO_bnd {ι S β : Type} {f : ι → S → Option S} {ds : List ι} {s : S} {k : S → Option β} {R : Option β} (P : Nat → S → Prop) (hs : ∀ i d s, ds[i]? = some d → P i s → ∃ s', f d s = some s' ∧ P (i + 1) s') (h0 : P 0 s) (hk : ∀ s', P ds.length s' → k s' = R) : bnd (foldO f ds s) k = R := by
  obtain ⟨s', e, p⟩ := foldO_inv P hs h0
  rw [e]
  exact hk s' p
theorem foldO_bndE {ι S β : Type} {f : ι → S → Option S} {ds : List ι} {s : S} {k : S → Option β} {Q : Option β → Prop} (P : Nat → S → Prop) (hs : ∀ i d s, ds[i]? = some d → P i s → ∃ s', f d s = some s' ∧ P (i + 1) s') (h0 : P 0 s) (hk : ∀ s', P ds.length s' → Q (k s')) : Q (bnd (foldO f ds s) k) := by
  obtain ⟨s', e, p⟩ := foldO_inv P hs h0
  rw [e]
  exact hk s' p
theorem en_get {ε : Type} {enc : ε → D} {es : List ε} {i : Nat} {d : D × D} (h : (enL 0 (es.map enc))[i]? = some d) : ∃ e, es[i]? = some e ∧ d = (.int (i : Int), enc e) := by
  rw [enL_get, List.getElem?_map, Nat.zero_add] at h
  cases he : es[i]? with
  | none => rw [he] at h; cases h
  | some e => rw [he] at h; cases h; exact ⟨e, rfl, rfl⟩
theorem getD_lt {ε : Type} {es : List ε} {i : Nat} {e : ε} (h : es[i]? = some e) : i < es.length := (List.getElem?_eq_some_iff.mp h).1
theorem popM_ne {ds : List D} (h : ds ≠ []) : popM ds = some ds.dropLast := by
  cases ds with
  | nil => exact absurd rfl h
  | cons => rfl
end Bd
namespace Bw
open PySem Bd
inductive Src where
  | th (t : Int) | of (w : Str)
def Src.enc : Src → D
  | .th t => .int t
  | .of w => .str w
inductive Rw where
  | lend (w : Str) (b : Bool) (s : Src)
  | pick (w : Str) (ts : List Int)
  | either | again | or_ | fin
  | look (w : Str) | back (w : Str) | change (w : Str)
def kS (b : Bool) : Str := if b = true then Str.ofString "write" else Str.ofString "read"
def Rw.hd : Rw → Str
  | .lend _ _ _ => Str.ofString "lend"
  | .pick _ _ => Str.ofString "pick"
  | .either => Str.ofString "either"
  | .again => Str.ofString "again"
  | .or_ => Str.ofString "or"
  | .fin => Str.ofString "end"
  | .look _ => Str.ofString "look"
  | .back _ => Str.ofString "back"
  | .change _ => Str.ofString "change"
def Rw.tl : Rw → List D
  | .lend w b s => [.str w, .str (kS b), s.enc]
  | .pick w ts => [.str w, .tuple (ts.map PyData.int)]
  | .look w => [.str w]
  | .back w => [.str w]
  | .change w => [.str w]
  | _ => []
def Rw.enc (r : Rw) : D := .tuple (.str r.hd :: r.tl)
def Rw.opn : Rw → Bool
  | .lend _ _ _ => true
  | .pick _ _ => true
  | .either => true
  | .again => true
  | _ => false
def Rw.isF : Rw → Bool
  | .fin => true
  | _ => false
def Rw.isO : Rw → Bool
  | .or_ => true
  | _ => false
def Rw.isE : Rw → Bool
  | .either => true
  | _ => false
def Rw.isG : Rw → Bool
  | .again => true
  | _ => false
def Rw.isN : Rw → Bool
  | .lend _ _ _ => true
  | .pick _ _ => true
  | _ => false
def Rw.isL : Rw → Bool
  | .lend _ _ _ => true
  | _ => false
def Rw.isP : Rw → Bool
  | .pick _ _ => true
  | _ => false
theorem hd0 (r : Rw) : idxD r.enc (.int 0) = some (.str r.hd) := idt0 _ _
theorem hdF (r : Rw) : eqD (.str r.hd) (.str (Str.ofString "end")) = some r.isF := by
  rw [eqD_ss]; generalize hx : r.hd = x; cases r <;> simp only [Rw.hd] at hx <;> subst hx <;> simp only [Rw.isF] <;> decide +kernel
theorem hdO (r : Rw) : eqD (.str r.hd) (.str (Str.ofString "or")) = some r.isO := by
  rw [eqD_ss]; generalize hx : r.hd = x; cases r <;> simp only [Rw.hd] at hx <;> subst hx <;> simp only [Rw.isO] <;> decide +kernel
theorem hdE (r : Rw) : eqD (.str r.hd) (.str (Str.ofString "either")) = some r.isE := by
  rw [eqD_ss]; generalize hx : r.hd = x; cases r <;> simp only [Rw.hd] at hx <;> subst hx <;> simp only [Rw.isE] <;> decide +kernel
theorem hdG (r : Rw) : eqD (.str r.hd) (.str (Str.ofString "again")) = some r.isG := by
  rw [eqD_ss]; generalize hx : r.hd = x; cases r <;> simp only [Rw.hd] at hx <;> subst hx <;> simp only [Rw.isG] <;> decide +kernel
theorem hdL (r : Rw) : eqD (.str r.hd) (.str (Str.ofString "lend")) = some r.isL := by
  rw [eqD_ss]; generalize hx : r.hd = x; cases r <;> simp only [Rw.hd] at hx <;> subst hx <;> simp only [Rw.isL] <;> decide +kernel
theorem hdP (r : Rw) : eqD (.str r.hd) (.str (Str.ofString "pick")) = some r.isP := by
  rw [eqD_ss]; generalize hx : r.hd = x; cases r <;> simp only [Rw.hd] at hx <;> subst hx <;> simp only [Rw.isP] <;> decide +kernel
theorem inS_l (x : Str) (ys : List Str) : inD (.str x) (.list (ys.map PyData.str)) = some (ys.any fun y => decide (y = x)) := by
  show memD _ _ = _
  unfold memD
  rw [show (flatD (.str x) && (ys.map PyData.str).all flatD) = true by simp [flatD, List.all_map, Function.comp_def], grd_true, List.any_map]
  rfl
theorem inS_t (x : Str) (ys : List Str) : inD (.str x) (.tuple (ys.map PyData.str)) = some (ys.any fun y => decide (y = x)) := inS_l x ys
theorem opn_l (r : Rw) : inD (.str r.hd) (.list [.str (Str.ofString "lend"), .str (Str.ofString "pick"), .str (Str.ofString "either"), .str (Str.ofString "again")]) = some r.opn := by
  rw [show [PyData.str (Str.ofString "lend"), .str (Str.ofString "pick"), .str (Str.ofString "either"), .str (Str.ofString "again")] = [Str.ofString "lend", Str.ofString "pick", Str.ofString "either", Str.ofString "again"].map PyData.str from rfl, inS_l]
  generalize hx : r.hd = x; cases r <;> simp only [Rw.hd] at hx <;> subst hx <;> simp only [Rw.opn] <;> decide +kernel
theorem opn_t (r : Rw) : inD (.str r.hd) (.tuple [.str (Str.ofString "lend"), .str (Str.ofString "pick"), .str (Str.ofString "either"), .str (Str.ofString "again")]) = some r.opn := opn_l r
theorem nmd_l (r : Rw) : inD (.str r.hd) (.list [.str (Str.ofString "lend"), .str (Str.ofString "pick")]) = some r.isN := by
  rw [show [PyData.str (Str.ofString "lend"), .str (Str.ofString "pick")] = [Str.ofString "lend", Str.ofString "pick"].map PyData.str from rfl, inS_l]
  generalize hx : r.hd = x; cases r <;> simp only [Rw.hd] at hx <;> subst hx <;> simp only [Rw.isN] <;> decide +kernel
theorem nmd_t (r : Rw) : inD (.str r.hd) (.tuple [.str (Str.ofString "lend"), .str (Str.ofString "pick")]) = some r.isN := nmd_l r
theorem isF_eq {r : Rw} (h : r.isF = true) : r = .fin := by cases r <;> first | rfl | cases h
theorem isO_eq {r : Rw} (h : r.isO = true) : r = .or_ := by cases r <;> first | rfl | cases h
theorem isE_eq {r : Rw} (h : r.isE = true) : r = .either := by cases r <;> first | rfl | cases h
theorem isG_eq {r : Rw} (h : r.isG = true) : r = .again := by cases r <;> first | rfl | cases h
theorem isF_opn {r : Rw} (h : r.opn = true) : r.isF = false := by cases r <;> first | rfl | cases h
def rowsD (rows : List Rw) : D := .list (rows.map Rw.enc)
/-- the blocks open ahead of a row, the innermost first -/
def nxt (rows : List Rw) (p : Nat) (s : List Nat) : List Nat := match rows[p]? with
  | some r => if r.opn = true then p :: s else if r.isF = true then s.tail else s
  | none => s
def sk (rows : List Rw) : Nat → List Nat
  | 0 => []
  | p + 1 => nxt rows p (sk rows p)
theorem sk_op {rows : List Rw} {p : Nat} {r : Rw} (h : rows[p]? = some r) (o : r.opn = true) : sk rows (p + 1) = p :: sk rows p := by
  show nxt _ _ _ = _
  unfold nxt
  rw [h]; simp only [o, if_true]
theorem sk_fin {rows : List Rw} {p : Nat} {r : Rw} (h : rows[p]? = some r) (o : r.isF = true) : sk rows (p + 1) = (sk rows p).tail := by
  rw [isF_eq o] at h
  show nxt _ _ _ = _
  unfold nxt
  rw [h]; rfl
theorem sk_id {rows : List Rw} {p : Nat} {r : Rw} (h : rows[p]? = some r) (o : r.opn = false) (f : r.isF = false) : sk rows (p + 1) = sk rows p := by
  show nxt _ _ _ = _
  unfold nxt
  rw [h]; simp [o, f]
theorem sk_disc (rows : List Rw) : ∀ (p h : Nat) (t : List Nat), sk rows p = h :: t → h < p ∧ sk rows h = t ∧ ∃ r, rows[h]? = some r ∧ r.opn = true := by
  intro p
  induction p using Nat.strongRecOn with
  | ind p ih =>
    intro h t e
    cases p with
    | zero => cases e
    | succ p =>
      cases hr : rows[p]? with
      | none =>
        have e' : sk rows (p + 1) = sk rows p := by show nxt _ _ _ = _; unfold nxt; rw [hr]
        rw [e'] at e
        obtain ⟨a, b⟩ := ih p (Nat.lt_succ_self _) h t e
        exact ⟨by omega, b⟩
      | some r =>
        by_cases o : r.opn = true
        · rw [sk_op hr o] at e
          cases e
          exact ⟨Nat.lt_succ_self _, rfl, r, hr, o⟩
        · have o' : r.opn = false := by simpa using o
          by_cases f : r.isF = true
          · rw [sk_fin hr f] at e
            cases hs : sk rows p with
            | nil => rw [hs] at e; cases e
            | cons h1 t1 =>
              rw [hs] at e
              obtain ⟨a, b, _⟩ := ih p (Nat.lt_succ_self _) h1 t1 hs
              have e2 : sk rows h1 = h :: t := b.trans e
              obtain ⟨a2, b2⟩ := ih h1 (by omega) h t e2
              exact ⟨by omega, b2⟩
          · rw [sk_id hr o' (by simpa using f)] at e
            obtain ⟨a, b⟩ := ih p (Nat.lt_succ_self _) h t e
            exact ⟨by omega, b⟩
theorem sk_lt {rows : List Rw} : ∀ (p : Nat) {x : Nat}, x ∈ sk rows p → x < p := by
  intro p
  induction p using Nat.strongRecOn with
  | ind p ih =>
    intro x hx
    cases hs : sk rows p with
    | nil => rw [hs] at hx; cases hx
    | cons h t =>
      obtain ⟨a, b, _⟩ := sk_disc rows p h t hs
      rw [hs] at hx
      cases hx with
      | head => exact a
      | tail _ hx =>
        rw [← b] at hx
        have := ih h a hx
        omega
structure Nst (rows : List Rw) : Prop where
  pop : ∀ p, rows[p]? = some .fin → sk rows p ≠ []
  fin : sk rows rows.length = []
/-- the ends -/
def atE (rows : List Rw) (h e : Nat) : Bool := match rows[e]? with
  | some .fin => decide ((sk rows e).head? = some h)
  | _ => false
theorem atE_is {rows : List Rw} {h e : Nat} (a : atE rows h e = true) : rows[e]? = some .fin ∧ (sk rows e).head? = some h := by
  unfold atE at a
  split at a
  · exact ⟨by assumption, of_decide_eq_true a⟩
  · cases a
theorem atE_mk {rows : List Rw} {h e : Nat} (a : rows[e]? = some .fin) (b : (sk rows e).head? = some h) : atE rows h e = true := by
  unfold atE
  rw [a]
  exact decide_eq_true b
theorem head_cons {α : Type} {l : List α} {h : α} (e : l.head? = some h) : ∃ t, l = h :: t := by
  cases l with
  | nil => cases e
  | cons a t => cases e; exact ⟨t, rfl⟩
theorem atE_lt {rows : List Rw} {h e : Nat} (a : atE rows h e = true) : h < e := by
  obtain ⟨_, b⟩ := atE_is a
  obtain ⟨t, b⟩ := head_cons b
  exact (sk_disc rows e h t b).1
/-- behind its end a block is closed for good -/
theorem gone {rows : List Rw} {h e : Nat} (a : atE rows h e = true) : ∀ p, e < p → h ∉ sk rows p := by
  intro p hp
  have lt := atE_lt a
  obtain ⟨a1, b1⟩ := atE_is a
  obtain ⟨t, b1⟩ := head_cons b1
  have b2 := (sk_disc rows e h t b1).2.1
  induction p with
  | zero => omega
  | succ p ih =>
    by_cases he : p = e
    · subst he
      rw [sk_fin a1 rfl, b1, List.tail_cons, ← b2]
      intro hx
      have := sk_lt h hx
      omega
    · have ih := ih (by omega)
      intro hx
      cases hr : rows[p]? with
      | none =>
        have e' : sk rows (p + 1) = sk rows p := by show nxt _ _ _ = _; unfold nxt; rw [hr]
        rw [e'] at hx
        exact ih hx
      | some r =>
        by_cases o : r.opn = true
        · rw [sk_op hr o] at hx
          cases hx with
          | head => omega
          | tail _ hx => exact ih hx
        · have o' : r.opn = false := by simpa using o
          by_cases f : r.isF = true
          · rw [sk_fin hr f] at hx
            exact ih (List.mem_of_mem_tail hx)
          · rw [sk_id hr o' (by simpa using f)] at hx
            exact ih hx
theorem atE_uniq {rows : List Rw} {h e e' : Nat} (a : atE rows h e = true) (b : atE rows h e' = true) : e = e' := by
  rcases Nat.lt_trichotomy e e' with x | x | x
  · obtain ⟨t, q⟩ := head_cons (atE_is b).2
    exact absurd (by rw [q]; exact List.mem_cons_self) (gone a e' x)
  · exact x
  · obtain ⟨t, q⟩ := head_cons (atE_is a).2
    exact absurd (by rw [q]; exact List.mem_cons_self) (gone b e x)
theorem atE_ex {rows : List Rw} (N : Nst rows) {h : Nat} {r : Rw} (hr : rows[h]? = some r) (o : r.opn = true) : ∃ e, atE rows h e = true := by
  apply Classical.byContradiction
  intro hn
  have hlt := getD_lt hr
  have key : ∀ k, ∃ l, sk rows (h + 1 + k) = l ++ h :: sk rows h := by
    intro k
    induction k with
    | zero => exact ⟨[], sk_op hr o⟩
    | succ k ih =>
      obtain ⟨l, e⟩ := ih
      cases hq : rows[h + 1 + k]? with
      | none =>
        have e' : sk rows (h + 1 + k + 1) = sk rows (h + 1 + k) := by show nxt _ _ _ = _; unfold nxt; rw [hq]
        exact ⟨l, e'.trans e⟩
      | some q =>
        by_cases oq : q.opn = true
        · exact ⟨(h + 1 + k) :: l, by rw [show h + 1 + (k + 1) = h + 1 + k + 1 from rfl, sk_op hq oq, e]; rfl⟩
        · have oq' : q.opn = false := by simpa using oq
          by_cases f : q.isF = true
          · cases l with
            | nil => exact absurd ⟨_, atE_mk (by rw [hq, isF_eq f]) (by rw [e]; rfl)⟩ hn
            | cons a l => exact ⟨l, by rw [show h + 1 + (k + 1) = h + 1 + k + 1 from rfl, sk_fin hq f, e]; rfl⟩
          · exact ⟨l, by rw [show h + 1 + (k + 1) = h + 1 + k + 1 from rfl, sk_id hq oq' (by simpa using f), e]⟩
  obtain ⟨l, e⟩ := key (rows.length - (h + 1))
  rw [show h + 1 + (rows.length - (h + 1)) = rows.length by omega, N.fin] at e
  cases l <;> cases e
/-- homes, ends, as the document's lists -/
def hmI (rows : List Rw) (p : Nat) : Int := match sk rows p with
  | [] => -1
  | h :: _ => (h : Int)
def hmL (rows : List Rw) : List D := (List.range rows.length).map fun p => .int (hmI rows p)
def enU (rows : List Rw) (i h : Nat) : Int := match (List.range i).find? (atE rows h) with
  | some e => (e : Int)
  | none => -1
def enI (rows : List Rw) (h : Nat) : Int := enU rows rows.length h
def enLs (rows : List Rw) : List D := (List.range rows.length).map fun h => .int (enI rows h)
theorem hmL_get {rows : List Rw} {p : Nat} (h : p < rows.length) : (hmL rows)[p]? = some (.int (hmI rows p)) := by
  unfold hmL
  rw [List.getElem?_map, List.getElem?_range h]; rfl
theorem enLs_get {rows : List Rw} {p : Nat} (h : p < rows.length) : (enLs rows)[p]? = some (.int (enI rows p)) := by
  unfold enLs
  rw [List.getElem?_map, List.getElem?_range h]; rfl
theorem hmI_eq {rows : List Rw} {p h : Nat} : (hmI rows p == (h : Int)) = decide ((sk rows p).head? = some h) := by
  unfold hmI
  split
  · rename_i e; rw [e]
    have : ¬ ((-1 : Int) = (h : Int)) := by omega
    simp [this]
  · rename_i a t e; rw [e]
    by_cases q : a = h
    · subst q; simp
    · have q' : ¬ ((a : Int) = (h : Int)) := by omega
      simp [q, q']
theorem enU_of {rows : List Rw} {i h e : Nat} (a : atE rows h e = true) (hi : e < i) : enU rows i h = (e : Int) := by
  unfold enU
  cases hf : (List.range i).find? (atE rows h) with
  | none => 
    rw [List.find?_eq_none] at hf
    exact absurd a (hf e (List.mem_range.mpr hi))
  | some e' => 
    have := List.find?_some hf
    rw [atE_uniq a this]
theorem enU_none {rows : List Rw} {i h : Nat} (a : ∀ e, e < i → atE rows h e = false) : enU rows i h = -1 := by
  unfold enU
  cases hf : (List.range i).find? (atE rows h) with
  | none => rfl
  | some e' => 
    have h1 := List.find?_some hf
    have h2 := List.mem_range.mp (List.mem_of_find?_eq_some hf)
    rw [a e' h2] at h1; cases h1
theorem enU_succ (rows : List Rw) (i h : Nat) : enU rows (i + 1) h = if atE rows h i = true then (i : Int) else enU rows i h := by
  by_cases a : atE rows h i = true
  · rw [if_pos a, enU_of a (Nat.lt_succ_self _)]
  · rw [if_neg a]
    unfold enU
    rw [List.range_succ, List.find?_append]
    cases hf : (List.range i).find? (atE rows h) with
    | some e => rfl
    | none => simp [a]
theorem enI_of {rows : List Rw} {h e : Nat} (a : atE rows h e = true) : enI rows h = (e : Int) := enU_of a (getD_lt (atE_is a).1)
theorem enI_op {rows : List Rw} {h : Nat} {r : Rw} (hr : rows[h]? = some r) (o : r.opn = false) : enI rows h = -1 := by
  apply enU_none
  intro e he
  cases a : atE rows h e with
  | false => rfl
  | true =>
    obtain ⟨t, q⟩ := head_cons (atE_is a).2
    obtain ⟨_, _, r', h1, h2⟩ := sk_disc rows e h t q
    rw [hr] at h1; cases h1; rw [o] at h2; cases h2
/-- the branches -/
def atO (rows : List Rw) (h p : Nat) : Bool := match rows[p]? with
  | some .or_ => decide ((sk rows p).head? = some h)
  | _ => false
def brL (rows : List Rw) (h : Nat) : List D := .int ((h : Int) + 1) :: ((List.range rows.length).filter (atO rows h)).map fun (p : Nat) => .int ((p : Int) + 1)
theorem atO_lt {rows : List Rw} {h p : Nat} (a : atO rows h p = true) : h < p := by
  unfold atO at a
  split at a
  · obtain ⟨t, b⟩ := head_cons (of_decide_eq_true a)
    exact (sk_disc rows p h t b).1
  · cases a
/-- what the tests read -/
theorem homeF {rows : List Rw} {p h : Nat} {r : Rw} (hr : rows[p]? = some r) : andT (some (hmI rows p == (h : Int))) (some r.isF) = some (atE rows h p) := by
  rw [andT_ss, hmI_eq]
  unfold atE
  rw [hr]
  cases r <;> simp [Rw.isF]
theorem homeO {rows : List Rw} {p h : Nat} {r : Rw} (hr : rows[p]? = some r) : andT (some (hmI rows p == (h : Int))) (some r.isO) = some (atO rows h p) := by
  rw [andT_ss, hmI_eq]
  unfold atO
  rw [hr]
  cases r <;> simp [Rw.isO]
theorem rows_get {rows : List Rw} {p : Nat} : (rows.map Rw.enc)[p]? = rows[p]?.map Rw.enc := List.getElem?_map
end Bw
/-! ### the law's own homes, ends, branches -/
namespace Bw
open PySem Bd
theorem last_cast (l : List Nat) : (PyData.int (-1) :: l.reverse.map fun (h : Nat) => PyData.int (h : Int)).getLast? = some (.int (match l with | [] => -1 | h :: _ => (h : Int))) := by
  cases l with
  | nil => rfl
  | cons h t => rw [List.reverse_cons, List.map_append, ← List.cons_append]; exact List.getLast?_concat
theorem rev_cons_int (l : List Nat) (h : Nat) : ((l.reverse.map fun (h : Nat) => PyData.int (h : Int)) ++ [.int (h : Int)]) = (h :: l).reverse.map fun (h : Nat) => PyData.int (h : Int) := by
  rw [List.reverse_cons, List.map_append]; rfl
theorem drop_tail (l : List Nat) : (l.reverse.map fun (h : Nat) => PyData.int (h : Int)).dropLast = l.tail.reverse.map fun (h : Nat) => PyData.int (h : Int) := by
  cases l with
  | nil => rfl
  | cons h t => rw [List.reverse_cons, List.map_append, List.tail_cons]; exact List.dropLast_concat
theorem sk_len (rows : List Rw) : ∀ p, (sk rows p).length ≤ p
  | 0 => Nat.le_refl _
  | p + 1 => by
    have ih := sk_len rows p
    show (nxt _ _ _).length ≤ _
    unfold nxt
    split
    · split
      · rw [List.length_cons]; omega
      · split
        · rw [List.length_tail]; omega
        · omega
    · omega
theorem range_succ_map {α : Type} (f : Nat → α) (i : Nat) : (List.range i).map f ++ [f i] = (List.range (i + 1)).map f := by
  rw [List.range_succ, List.map_append]; rfl
theorem law_homes_eq (n : Nat) (rows : List Rw) (N : Nst rows) (hl : rows.length ≤ 1000) : m_law_homes n (rowsD rows) = some (.list (hmL rows)) := by
  unfold m_law_homes rowsD
  simp only [Option.bind_some, negD_i, consO_some, bnd_some, listD_l, Option.map_some]
  refine foldO_bnd (fun i s => s = ((List.range i).map fun p => .int (hmI rows p), .int (-1) :: (sk rows i).reverse.map fun (h : Nat) => .int (h : Int))) ?_ rfl ?_
  · intro i d s hd hs
    subst hs
    obtain ⟨r, hr, rfl⟩ := en_get hd
    have hi := getD_lt hr
    refine ⟨_, ?_, rfl⟩
    simp only [b2_some]
    rw [idxD_last _ (by simp), last_cast, Option.bind_some, appM_some (lt100 (by rw [List.length_map, List.length_range]; omega))]
    simp only [bnd_some]
    rw [show (PyData.int (match sk rows i with | [] => -1 | h :: _ => (h : Int))) = .int (hmI rows i) from rfl, range_succ_map (fun p => PyData.int (hmI rows p)) i]
    simp only [hd0, b2_some, lD_some, opn_l, hdF]
    by_cases o : r.opn = true
    · rw [o, ifM_t, appM_some (lt100 (by rw [List.length_cons, List.length_map, List.length_reverse]; have := sk_len rows i; omega)), bnd_some, bnd_some, isF_opn o, ifM_f, bnd_some, sk_op hr o, List.cons_append, rev_cons_int]
    · rw [show r.opn = false by simpa using o, ifM_f, bnd_some]
      by_cases f : r.isF = true
      · have hne := N.pop i (by rw [hr, isF_eq f])
        rw [f, ifM_t, popM_ne (by simp), bnd_some, bnd_some, sk_fin hr f]
        cases hs : sk rows i with
        | nil => exact absurd hs hne
        | cons h t =>
          rw [List.dropLast_cons_of_ne_nil (by simp), drop_tail]
      · rw [show r.isF = false by simpa using f, ifM_f, bnd_some, sk_id hr (by simpa using o) (by simpa using f)]
  · intro s' hs
    subst hs
    rw [enL_length, List.length_map]
    rfl
theorem llaw_homes_eq (n : Nat) (rows : List Rw) (N : Nst rows) (hl : rows.length ≤ 1000) : l_law_homes n [rowsD rows] = some (.list (hmL rows)) := law_homes_eq n rows N hl
/-- a walk that stops at the first -/
theorem foldF_find {ι S α : Type} {f : ι → S → Option (Fl S α)} {s : S} {a : α} : ∀ {ds : List ι} (k : Nat) (d : ι), ds[k]? = some d → f d s = some (.rt a) → (∀ i x, i < k → ds[i]? = some x → f x s = some (.nx s)) → foldF f ds s = some (.rt a)
  | [], k, d, h, _, _ => by cases h
  | x :: r, 0, d, h, e, _ => by
    cases h
    show (f x s).bind _ = _
    rw [e]; rfl
  | x :: r, k + 1, d, h, e, q => by
    show (f x s).bind _ = _
    rw [q 0 x (by omega) rfl]
    exact foldF_find (ds := r) k d h e fun i y hi hy => q (i + 1) y (by omega) hy
theorem foldF_all {ι S α : Type} {f : ι → S → Option (Fl S α)} {s : S} : ∀ {ds : List ι}, (∀ x ∈ ds, f x s = some (.nx s)) → foldF f ds s = some (.nx s)
  | [], _ => rfl
  | x :: r, q => by
    show (f x s).bind _ = _
    rw [q x List.mem_cons_self]
    exact foldF_all fun y hy => q y (List.mem_cons_of_mem _ hy)
theorem law_last_eq (n : Nat) (rows : List Rw) (hl : rows.length ≤ 1000) {h e : Nat} (a : atE rows h e = true) : m_law_last n (rowsD rows) (.list (hmL rows)) (.int (h : Int)) = some (.int (e : Int)) := by
  have lt := atE_lt a
  have le := getD_lt (atE_is a).1
  unfold m_law_last rowsD
  simp only [b2_some, addD_ii, Option.bind_some, lenD_l, List.length_map, negD_i]
  rw [rng2_i _ _ (by omega), bnd_some]
  have turn : ∀ p : Nat, p < rows.length → (ifM (andT (b2 eqD (b2 idxD (some (.list (hmL rows))) (some (.int (p : Int)))) (some (.int (h : Int)))) (b2 eqD (b2 idxD (b2 idxD (some (.list (rows.map Rw.enc))) (some (.int (p : Int)))) (some (.int 0))) (some (.str "end")))) ((some (PyData.int (p : Int))).map Fl.rt) (some (.nx ()))) = some (if atE rows h p = true then .rt (.int (p : Int)) else .nx ()) := by
    intro p hp
    have hr := List.getElem?_eq_getElem hp
    simp only [b2_some]
    rw [idxD_l, idxD_l, hmL_get hp, rows_get, hr]
    simp only [b2_some, Option.map_some, hd0, hdF, eqD_ii]
    rw [homeF hr, ifM_some]
    split <;> rfl
  rw [foldF_find (a := .int (e : Int)) (e - (h + 1)) (.int ((h : Int) + 1 + ((e - (h + 1) : Nat) : Int)))]
  · rfl
  · unfold rngL
    rw [List.getElem?_map, List.getElem?_range (by omega)]; rfl
  · rw [show (h : Int) + 1 + ((e - (h + 1) : Nat) : Int) = (e : Int) by omega]
    refine (turn e le).trans ?_
    rw [if_pos a]
  · intro i x hi hx
    obtain ⟨h1, rfl⟩ := rngL_get hx
    rw [show (h : Int) + 1 + (i : Int) = ((h + 1 + i : Nat) : Int) by omega]
    refine (turn (h + 1 + i) (by omega)).trans ?_
    rw [if_neg]
    intro b
    have := atE_uniq a b
    omega
theorem llaw_last_eq (n : Nat) (rows : List Rw) (hl : rows.length ≤ 1000) {h e : Nat} (a : atE rows h e = true) : l_law_last n [rowsD rows, .list (hmL rows), .int (h : Int)] = some (.int (e : Int)) := law_last_eq n rows hl a
theorem filt_shift (q : Nat → Bool) (h m : Nat) (hq : ∀ p, q p = true → h < p) (hm : h < m) : (List.range m).filter q = ((List.range (m - (h + 1))).map fun i => h + 1 + i).filter q := by
  have e : List.range m = List.range (h + 1) ++ (List.range (m - (h + 1))).map fun i => h + 1 + i := by
    rw [← List.range_add]; congr 1; omega
  rw [e, List.filter_append, List.filter_eq_nil_iff.mpr (fun x hx qx => by have := hq x qx; have := List.mem_range.mp hx; omega), List.nil_append]
theorem law_starts_eq (n : Nat) (rows : List Rw) (hl : rows.length ≤ 1000) (h : Nat) (hh : h < rows.length) : m_law_starts n (rowsD rows) (.list (hmL rows)) (.int (h : Int)) = some (.list (brL rows h)) := by
  unfold m_law_starts rowsD
  simp only [b2_some, addD_ii, Option.bind_some, lenD_l, List.length_map, consO_some, bnd_some]
  rw [rng2_i _ _ (by omega), bnd_some]
  refine foldO_bnd (fun i s => s = .int ((h : Int) + 1) :: ((((List.range i).map fun i => h + 1 + i).filter (atO rows h)).map fun (p : Nat) => PyData.int ((p : Int) + 1))) ?_ rfl ?_
  · intro i d s hd hs
    subst hs
    obtain ⟨h1, rfl⟩ := rngL_get hd
    refine ⟨_, ?_, rfl⟩
    have hp : h + 1 + i < rows.length := by omega
    have hr := List.getElem?_eq_getElem hp
    rw [show (h : Int) + 1 + (i : Int) = ((h + 1 + i : Nat) : Int) by omega, idxD_l, idxD_l, hmL_get hp, rows_get, hr]
    simp only [b2_some, Option.map_some, hd0, hdO, eqD_ii, addD_ii, Option.bind_some]
    rw [homeO hr, appM_some (lt100 (by
      rw [List.length_cons, List.length_map]
      have := List.length_filter_le (atO rows h) ((List.range i).map fun i => h + 1 + i)
      rw [List.length_map, List.length_range] at this
      omega)), bnd_some, ifM_ss, bnd_some, List.range_succ, List.map_append, List.filter_append, List.map_append]
    show some _ = some _
    congr 1
    cases a : atO rows h (h + 1 + i) with
    | true => simp [a]
    | false => simp [a]
  · intro s' hs
    subst hs
    rw [rngL_length]
    unfold brL
    rw [filt_shift (atO rows h) h rows.length (fun p => atO_lt) hh, show ((rows.length : Int) - ((h : Int) + 1)).toNat = rows.length - (h + 1) by omega]
theorem llaw_starts_eq (n : Nat) (rows : List Rw) (hl : rows.length ≤ 1000) (h : Nat) (hh : h < rows.length) : l_law_starts n [rowsD rows, .list (hmL rows), .int (h : Int)] = some (.list (brL rows h)) := law_starts_eq n rows hl h hh
end Bw
/-! ### the program's homes, ends, branches -/
namespace Bw
open PySem Bd
theorem last_casp (l : List Nat) (h : l ≠ []) : (l.reverse.map fun (h : Nat) => PyData.int (h : Int)).getLast? = some (.int (match l with | [] => -1 | h :: _ => (h : Int))) := by
  cases l with
  | nil => exact absurd rfl h
  | cons h t => rw [List.reverse_cons, List.map_append]; exact List.getLast?_concat
theorem homes_eq (n : Nat) (rows : List Rw) (N : Nst rows) (hl : rows.length ≤ 1000) : m_homes n (rowsD rows) = some (hmL rows) := by
  unfold m_homes rowsD
  simp only [Option.bind_some, negD_i, bnd_some, listD_l, Option.map_some]
  refine foldO_bnd (fun i s => s = ((List.range i).map fun p => .int (hmI rows p), (sk rows i).reverse.map fun (h : Nat) => .int (h : Int))) ?_ rfl ?_
  · intro i d s hd hs
    subst hs
    obtain ⟨r, hr, rfl⟩ := en_get hd
    have hi := getD_lt hr
    refine ⟨_, ?_, rfl⟩
    simp only [b2_some, lenD_l, ordD_ii, Option.bind_some, bnd_some, List.length_map, List.length_reverse]
    have top : (ifM (some (gtI ((sk rows i).length : Int) 0)) (bnd (idxD (.list ((sk rows i).reverse.map fun (h : Nat) => .int (h : Int))) (.int (-1))) fun u_home => some u_home) (some (.int (-1)))) = some (PyData.int (hmI rows i)) := by
      cases hs : sk rows i with
      | nil => unfold hmI; rw [hs]; rfl
      | cons h t =>
        rw [show gtI ((h :: t).length : Int) 0 = true from decide_eq_true (by rw [List.length_cons]; omega), ifM_t, idxD_last _ (by simp), last_casp _ (by simp)]
        unfold hmI; rw [hs]; rfl
    rw [top, bnd_some, appM_some (lt100 (by rw [List.length_map, List.length_range]; omega)), bnd_some]
    rw [range_succ_map (fun p => PyData.int (hmI rows p)) i]
    simp only [hd0, b2_some, opn_t, hdF, bnd_id]
    by_cases o : r.opn = true
    · rw [o, ifM_t, appM_some (lt100 (by rw [List.length_map, List.length_reverse]; have := sk_len rows i; omega)), bnd_some, sk_op hr o, rev_cons_int]
    · rw [show r.opn = false by simpa using o, ifM_f]
      by_cases f : r.isF = true
      · have hne := N.pop i (by rw [hr, isF_eq f])
        rw [f, ifM_t, popM_ne (by simpa using hne), bnd_some, sk_fin hr f, drop_tail]
      · rw [show r.isF = false by simpa using f, ifM_f, bnd_some, sk_id hr (by simpa using o) (by simpa using f)]
  · intro s' hs
    subst hs
    rw [enL_length, List.length_map]
    rfl
theorem lhomes_eq (n : Nat) (rows : List Rw) (N : Nst rows) (hl : rows.length ≤ 1000) : l_homes n [rowsD rows] = some (hmL rows) := homes_eq n rows N hl
theorem enm_get {rows : List Rw} {i : Nat} {d : D × D} (h : (enL 0 (hmL rows))[i]? = some d) : i < rows.length ∧ d = (.int (i : Int), .int (hmI rows i)) := by
  unfold hmL at h
  obtain ⟨e, he, rfl⟩ := en_get h
  obtain ⟨a, b⟩ := List.getElem?_eq_some_iff.mp he
  rw [List.length_range] at a
  rw [List.getElem_range] at b
  subst b
  exact ⟨a, rfl⟩
theorem ends_eq (n : Nat) (rows : List Rw) (N : Nst rows) (hl : rows.length ≤ 1000) : m_ends n (rowsD rows) = some (enLs rows) := by
  unfold m_ends
  simp only [Option.bind_some, negD_i, consO_some, lhomes_eq n rows N hl, lD_some, listD_l, Option.map_some, bnd_some]
  unfold rowsD
  simp only [itD_l]
  rw [lcG_mapE (enc := Rw.enc) (f := fun _ => some (.int (-1))) (g := fun _ => .int (-1)) (ln100 (by omega)) (fun _ _ => rfl), bnd_some]
  refine foldO_bnd (fun i s => s = ((List.range rows.length).map fun h => .int (enU rows i h))) ?_ ?_ ?_
  · intro i d s hd hs
    subst hs
    obtain ⟨hi, rfl⟩ := enm_get hd
    refine ⟨_, ?_, rfl⟩
    have hr := List.getElem?_eq_getElem hi
    simp only [b2_some, bnd_id]
    rw [idxD_l, rows_get, hr]
    simp only [b2_some, Option.map_some, hd0, hdF]
    by_cases f : rows[i].isF = true
    · rw [f, ifM_t]
      cases hs : sk rows i with
      | nil => exact absurd hs (N.pop i (by rw [hr, isF_eq f]))
      | cons h t =>
        obtain ⟨lt, _⟩ := sk_disc rows i h t hs
        rw [show hmI rows i = (h : Int) by unfold hmI; rw [hs]]
        have a : atE rows h i = true := atE_mk (by rw [hr, isF_eq f]) (by rw [hs]; rfl)
        show (L2.ixN _ _).map _ = _
        rw [show L2.ixN ((List.range rows.length).map fun h => PyData.int (enU rows i h)).length (h : Int) = some h from by
          unfold L2.ixN
          rw [List.length_map, List.length_range, if_pos (by omega), if_pos (by omega)]; simp]
        simp only [Option.map_some, Option.some.injEq]
        apply List.ext_getElem?
        intro j
        rw [List.getElem?_set]
        by_cases hj : j < rows.length
        · by_cases e : h = j
          · subst e
            rw [if_pos rfl, List.length_map, List.length_range, if_pos hj, List.getElem?_map, List.getElem?_range hj, Option.map_some, enU_succ, if_pos a]
          · rw [if_neg e, List.getElem?_map, List.getElem?_map, List.getElem?_range hj, Option.map_some, Option.map_some, enU_succ, if_neg]
            intro b
            obtain ⟨_, q⟩ := atE_is b
            rw [hs] at q
            exact e (Option.some.inj q)
        · rw [if_neg (by omega), List.getElem?_eq_none (by simp; omega), List.getElem?_eq_none (by simp; omega)]
    · rw [show rows[i].isF = false by simpa using f, ifM_f]
      congr 1
      apply List.map_congr_left
      intro h _
      rw [enU_succ, if_neg]
      intro b
      have := (atE_is b).1
      rw [hr] at this
      rw [Option.some.inj this] at f
      exact f rfl
  · apply List.ext_getElem?
    intro j
    by_cases hj : j < rows.length
    · rw [List.getElem?_map, List.getElem?_map, List.getElem?_range hj, List.getElem?_eq_getElem hj]; rfl
    · rw [List.getElem?_eq_none (by simp; omega), List.getElem?_eq_none (by simp; omega)]
  · intro s' hs
    subst hs
    rw [enL_length]
    unfold enLs hmL
    rw [List.length_map, List.length_range]
    rfl
theorem lends_eq (n : Nat) (rows : List Rw) (N : Nst rows) (hl : rows.length ≤ 1000) : l_ends n [rowsD rows] = some (enLs rows) := ends_eq n rows N hl
theorem branches_eq (n : Nat) (rows : List Rw) (N : Nst rows) (hl : rows.length ≤ 1000) (h : Nat) : m_branches n (rowsD rows) (.int (h : Int)) = some (.list (brL rows h)) := by
  unfold m_branches
  simp only [b2_some, addD_ii, Option.bind_some, consO_some, lhomes_eq n rows N hl, lD_some, listD_l, Option.map_some, bnd_some]
  unfold rowsD
  refine foldO_bnd (fun i s => s = .int ((h : Int) + 1) :: (((List.range i).filter (atO rows h)).map fun (p : Nat) => PyData.int ((p : Int) + 1))) ?_ rfl ?_
  · intro i d s hd hs
    subst hs
    obtain ⟨hi, rfl⟩ := enm_get hd
    refine ⟨_, ?_, rfl⟩
    have hr := List.getElem?_eq_getElem hi
    simp only [b2_some, bnd_id]
    rw [idxD_l, rows_get, hr]
    simp only [b2_some, Option.map_some, hd0, hdO, eqD_ii, addD_ii, Option.bind_some]
    rw [homeO hr, appM_some (lt100 (by
      rw [List.length_cons, List.length_map]
      have := List.length_filter_le (atO rows h) (List.range i)
      rw [List.length_range] at this
      omega)), ifM_ss, List.range_succ, List.filter_append, List.map_append]
    show some _ = some _
    congr 1
    cases a : atO rows h i with
    | true => simp [a]
    | false => simp [a]
  · intro s' hs
    subst hs
    rw [enL_length]
    unfold brL hmL
    rw [List.length_map, List.length_range]
theorem lbranches_eq (n : Nat) (rows : List Rw) (N : Nst rows) (hl : rows.length ≤ 1000) (h : Nat) : l_branches n [rowsD rows, .int (h : Int)] = some (.list (brL rows h)) := branches_eq n rows N hl h
end Bw
/-! ### the script's cells, words, things -/
namespace Bw
open PySem Bd
def sD (ns : List Int) : D := .list (ns.map PyData.int)
def cellI (ns : List Int) (k : Nat) : Int := ns.getD k 0
theorem cell_eq (n : Nat) (ns : List Int) (i : Int) (h : 0 ≤ i) : m_law_cell_at n (sD ns) (.int i) = some (.int (cellI ns i.toNat)) := by
  obtain ⟨k, rfl⟩ := Int.eq_ofNat_of_zero_le h
  unfold m_law_cell_at sD cellI
  simp only [Option.bind_some, lenD_l, b2_some, ordD_ii, List.length_map]
  by_cases hk : (k : Int) < ns.length
  · rw [show ltI (k : Int) (ns.length : Int) = true from decide_eq_true hk, ifM_t, idxD_l, List.getElem?_map]
    have hk' : k < ns.length := by omega
    simp [hk']
  · rw [show ltI (k : Int) (ns.length : Int) = false from decide_eq_false hk, ifM_f]
    have hk' : ns.length ≤ k := by omega
    simp [hk']
theorem lcell_eq (n : Nat) (ns : List Int) (i : Int) (h : 0 ≤ i) : l_law_cell_at n [sD ns, .int i] = some (.int (cellI ns i.toNat)) := cell_eq n ns i h
/-- a text by its codes -/
def mkS (l : List Nat) : Str := ⟨l.toArray⟩
theorem mkS_len (l : List Nat) : (mkS l).length = l.length := by show l.toArray.size = _; simp
theorem mkS_app (a b : List Nat) : mkS a ++ mkS b = mkS (a ++ b) := by
  show Str.mk (a.toArray ++ b.toArray) = Str.mk _
  simp [mkS]
theorem mkS_inj {a b : List Nat} (h : mkS a = mkS b) : a = b := by
  unfold mkS at h
  simpa using h
theorem mkS_codes (l : List Nat) : (mkS l).cps.toList = l := by simp [mkS]
theorem addD_mk (a b : List Nat) (h : a.length + b.length ≤ 1000) : addD (.str (mkS a)) (.str (mkS b)) = some (.str (mkS (a ++ b))) := by
  rw [addD_ss _ _ (by rw [mkS_len, mkS_len]; exact Nat.le_trans h (by decide)), mkS_app]
/-- small letters -/
def Low (l : List Nat) : Prop := ∀ c ∈ l, 97 ≤ c ∧ c ≤ 122
theorem low_ok {l : List Nat} (h : Low l) : PyData.strOk (mkS l) = true := by
  unfold PyData.strOk mkS
  simp only [List.all_toArray, List.all_eq_true, decide_eq_true_eq]
  intro c hc
  have := h c hc
  omega
structure Dr where
  base : Int
  sty : Int
  size : Int
  pos : Int
  le : Int
  h1 : 0 ≤ base ∧ base < 1000000000
  h2 : 0 ≤ sty ∧ sty < 4
  h3 : 1 ≤ size ∧ size ≤ 12
  h4 : 0 ≤ pos ∧ pos < size
  h5 : 0 ≤ le ∧ le < 26
def Dr.enc (d : Dr) : D := .list [.int d.base, .int d.sty, .int d.size, .int d.pos, .int d.le]
theorem draw_eq (n : Nat) (ns : List Int) : ∃ d : Dr, m_law_draw n (sD ns) = some d.enc := by
  have c1 : l_law_cell_at n [sD ns, .int 1] = some (.int (cellI ns 1)) := lcell_eq n ns 1 (by decide)
  have c2 : l_law_cell_at n [sD ns, .int 2] = some (.int (cellI ns 2)) := lcell_eq n ns 2 (by decide)
  have c0 : l_law_cell_at n [sD ns, .int 0] = some (.int (cellI ns 0)) := lcell_eq n ns 0 (by decide)
  generalize cellI ns 1 = x at c1
  generalize cellI ns 2 = y at c2
  generalize cellI ns 0 = z at c0
  have hb : 0 ≤ x / 2 % 1000000000 * (x % 2) ∧ x / 2 % 1000000000 * (x % 2) < 1000000000 := by
    have h1 : 0 ≤ x / 2 % 1000000000 := Int.emod_nonneg _ (by decide)
    have h2 : x / 2 % 1000000000 < 1000000000 := Int.emod_lt_of_pos _ (by decide)
    rcases Int.emod_two_eq x with e | e
    · rw [e]; omega
    · rw [e]; omega
  refine ⟨⟨x / 2 % 1000000000 * (x % 2), y / 8 % 4, 1 + y / 8 / 4 % 12, x % (1 + y / 8 / 4 % 12), z % 26, hb, by omega, by omega, ⟨Int.emod_nonneg _ (by omega), Int.emod_lt_of_pos _ (by omega)⟩, by omega⟩, ?_⟩
  unfold m_law_draw
  simp only [consO_some, Option.bind_some, c1, c2, c0, b2_some, fdivD_ii x 2 (by decide), fdivD_ii y 8 (by decide), pow9, modD_ii _ _ (show (0 : Int) < 1000000000 by decide), modD_ii _ _ (show (0 : Int) < 2 by decide), bnd_some, fdivD_ii _ 4 (by decide), modD_ii _ _ (show (0 : Int) < 12 by decide), modD_ii _ _ (show (0 : Int) < 4 by decide), modD_ii _ _ (show (0 : Int) < 26 by decide), addD_ii]
  rw [mulD_ii _ _ (by omega)]
  simp only [bnd_some]
  rw [modD_ii _ _ (by omega)]
  rfl
theorem thing_eq (n : Nat) (c b : Int) : ∃ t, m_law_thing n (.int c) (.int b) = some (.int t) ∧ 0 ≤ t ∧ t < 1000000000 := by
  unfold m_law_thing
  simp only [b2_some, modD_ii _ _ (show (0 : Int) < 8 by decide), eqD_ii, fdivD_ii c 8 (by decide), pow9, modD_ii _ _ (show (0 : Int) < 1000000000 by decide), modD_ii _ _ (show (0 : Int) < 3 by decide), addD_ii]
  rw [ifM_ss]
  split
  · exact ⟨_, rfl, Int.emod_nonneg _ (by decide), Int.emod_lt_of_pos _ (by decide)⟩
  · exact ⟨_, rfl, Int.emod_nonneg _ (by decide), Int.emod_lt_of_pos _ (by decide)⟩
theorem lthing_eq (n : Nat) (c b : Int) : ∃ t, l_law_thing n [.int c, .int b] = some (.int t) ∧ 0 ≤ t ∧ t < 1000000000 := thing_eq n c b
theorem letters_codes : (Str.ofString "abcdefghijklmnopqrstuvwxyz").cps.toList = (List.range 26).map (97 + ·) := by decide +kernel
theorem letter_at (i : Int) (h : 0 ≤ i) (h2 : i < 26) : idxD (.str (Str.ofString "abcdefghijklmnopqrstuvwxyz")) (.int i) = some (.str (mkS [97 + i.toNat])) := by
  obtain ⟨k, rfl⟩ := Int.eq_ofNat_of_zero_le h
  have hk : k < 26 := by omega
  show grd _ ((L2.atI _ _).map _) = _
  rw [letters_codes, L2.atI_nat (v := 97 + k) (by rw [List.getElem?_map, List.getElem?_range hk]; rfl)]
  exact grd_pos (by decide +kernel) _
/-- what a word at that depth is -/
structure Wd (d : Dr) (deep : Nat) (l : List Nat) : Prop where
  low : Low l
  one : d.sty = 0 → l.length = deep + 1
  two : d.sty ≠ 0 → (l.length : Int) = d.size ∧ l[d.pos.toNat]? = some (97 + ((d.le + 5 * (deep : Int)) % 26).toNat)
theorem Wd.len {d : Dr} {deep : Nat} {l : List Nat} (w : Wd d deep l) (h : deep < 12) : 1 ≤ l.length ∧ l.length ≤ 12 := by
  by_cases hs : d.sty = 0
  · have := w.one hs; omega
  · have := (w.two hs).1; have := d.h3; omega
theorem Wd.ne {d : Dr} {i j : Nat} {a b : List Nat} (x : Wd d i a) (y : Wd d j b) (h : i ≠ j) (hi : i < 26) (hj : j < 26) : a ≠ b := by
  intro e
  subst e
  by_cases hs : d.sty = 0
  · have := x.one hs; have := y.one hs; omega
  · have h1 := (x.two hs).2
    have h2 := (y.two hs).2
    rw [h1] at h2
    have h3 := Option.some.inj h2
    have := d.h5
    omega
theorem rep_codes (c k : Nat) : repS (mkS [c]) ((k : Int) + 1) = mkS (List.replicate (k + 1) c) := by
  unfold repS Txt.mul
  rw [if_neg (by omega)]
  by_cases hk : k = 0
  · subst hk
    rw [if_pos (by rfl)]
    rfl
  · rw [if_neg (by
      have : (((k : Int) + 1) == 1) = false := by
        rw [beq_eq_false_iff_ne]; omega
      rw [this]
      simp [mkS_len])]
    have e : ((k : Int) + 1).toNat = k + 1 := by omega
    rw [e]
    have go : ∀ (m : Nat) (acc : Array Nat), ((List.replicate m (mkS [c]).cps).foldl (· ++ ·) acc) = acc ++ (List.replicate m c).toArray := by
      intro m
      induction m with
      | zero => intro acc; simp
      | succ m ih =>
        intro acc
        rw [List.replicate_succ, List.foldl_cons, ih]
        apply Array.toList_inj.mp
        simp [mkS, List.replicate_succ]
    rw [go]
    simp [mkS]
theorem word_eq (n : Nat) (d : Dr) (one two : Int) (deep : Nat) (hd : deep < 26) : ∃ l, m_law_word n (.int one) (.int two) (.int (deep : Int)) d.enc = some (.str (mkS l)) ∧ Wd d deep l := by
  have hs0 := d.h2
  have hz := d.h3
  have hp := d.h4
  have hl := d.h5
  unfold m_law_word Dr.enc
  simp only [bnd_some, b2_some, idl4, idl1, idl2, idl3, idl0, mulD_ii 5 _ (.inl (by decide)), addD_ii, modD_ii _ _ (show (0 : Int) < 26 by decide), eqD_ii]
  rw [letter_at _ (by omega) (by omega)]
  simp only [bnd_some]
  by_cases hs : d.sty = 0
  · rw [show (d.sty == 0) = true from by rw [hs]; rfl, ifM_t, letter_at _ (by omega) (by omega)]
    simp only [b2_some]
    rw [mulD_si _ _ ⟨by rw [mkS_len]; exact (by decide : 1 ≤ 1000), by omega, by omega⟩, rep_codes]
    refine ⟨_, rfl, fun c hc => ?_, fun _ => by rw [List.length_replicate], fun h => absurd hs h⟩
    have := List.eq_of_mem_replicate hc
    omega
  · rw [show (d.sty == 0) = false from by rw [beq_eq_false_iff_ne]; exact hs, ifM_f]
    rw [Option.bind_some, rng1_i _ (by omega)]
    simp only [bnd_some, bnd_id]
    have main : ∀ (f : D → D → Option D), (∀ (i : Nat) (l : List Nat), (i : Int) < d.size → l.length = i → Low l → ∃ c, (97 ≤ c ∧ c ≤ 122 ∧ ((i : Int) = d.pos → c = 97 + ((d.le + 5 * (deep : Int)) % 26).toNat)) ∧ f (.int (0 + (i : Int))) (.str (mkS l)) = some (.str (mkS (l ++ [c])))) →
        ∃ l, foldO f (rngL 0 d.size.toNat) (.str (Str.ofString "")) = some (.str (mkS l)) ∧ Wd d deep l := by
      intro f hf
      obtain ⟨s', e', l, el, hlen, hlow, hpos⟩ := foldO_inv (f := f) (ds := rngL 0 d.size.toNat) (s := .str (Str.ofString "")) (fun i s => ∃ l, s = .str (mkS l) ∧ l.length = i ∧ Low l ∧ ((d.pos < (i : Int)) → l[d.pos.toNat]? = some (97 + ((d.le + 5 * (deep : Int)) % 26).toNat)))
        (fun i x s hx ⟨l, es, h1, h2, h3⟩ => by
          obtain ⟨hi, ex⟩ := rngL_get hx
          subst es ex
          obtain ⟨c, ⟨c1, c2, c3⟩, e⟩ := hf i l (by omega) h1 h2
          refine ⟨_, e, _, rfl, by rw [List.length_append, h1]; rfl, fun y hy => ?_, fun hlt => ?_⟩
          · rcases List.mem_append.mp hy with hy | hy
            · exact h2 y hy
            · rw [List.mem_singleton.mp hy]; exact ⟨c1, c2⟩
          · by_cases hpi : (i : Int) = d.pos
            · rw [List.getElem?_append_right (by omega), show d.pos.toNat - l.length = 0 by omega, ← c3 hpi]
              rfl
            · rw [List.getElem?_append_left (by omega)]
              exact h3 (by omega))
        ⟨[], rfl, rfl, (fun _ h => by cases h), fun h => by omega⟩
      rw [rngL_length] at hlen hpos
      subst el
      exact ⟨l, e', hlow, fun h => absurd h hs, fun _ => ⟨by omega, hpos (by omega)⟩⟩
    refine main _ (fun i l hi hlen hlow => ?_)
    · have hsz : ∀ c : Nat, l.length + [c].length ≤ 1000 := fun c => by show l.length + 1 ≤ 1000; omega
      rw [eqD_ii]
      have hb : (97 ≤ 97 + ((d.le + 5 * (deep : Int)) % 26).toNat ∧ 97 + ((d.le + 5 * (deep : Int)) % 26).toNat ≤ 122) := by omega
      by_cases hpi : (i : Int) = d.pos
      · refine ⟨_, ⟨hb.1, hb.2, fun _ => rfl⟩, ?_⟩
        rw [show ((0 : Int) + (i : Int) == d.pos) = true from by rw [beq_iff_eq]; omega]
        simp only [ifM_t]
        rw [addD_mk _ _ (hsz _)]
      · rw [show ((0 : Int) + (i : Int) == d.pos) = false from by rw [beq_eq_false_iff_ne]; omega]
        simp only [ifM_f]
        by_cases h1 : d.sty = 1
        · rw [show (d.sty == 1) = true from by rw [h1]; rfl]
          simp only [ifM_t]
          rw [mulD_ii _ _ (.inl (by omega))]
          simp only [b2_some, addD_ii, modD_ii _ _ (show (0 : Int) < 26 by decide)]
          rw [letter_at _ (Int.emod_nonneg _ (by decide)) (Int.emod_lt_of_pos _ (by decide))]
          have q1 := Int.emod_nonneg (one + (0 + (i : Int)) * two) (show (26 : Int) ≠ 0 by decide)
          have q2 := Int.emod_lt_of_pos (one + (0 + (i : Int)) * two) (show (0 : Int) < 26 by decide)
          refine ⟨97 + ((one + (0 + (i : Int)) * two) % 26).toNat, ⟨by omega, by omega, fun h => absurd h hpi⟩, ?_⟩
          simp only [b2_some]
          rw [addD_mk _ _ (hsz _)]
        · rw [show (d.sty == 1) = false from by rw [beq_eq_false_iff_ne]; exact h1]
          simp only [ifM_f]
          rw [letter_at _ (by omega) (by omega)]
          refine ⟨97 + d.size.toNat, ⟨by omega, by omega, fun h => absurd h hpi⟩, ?_⟩
          simp only [b2_some]
          rw [addD_mk _ _ (hsz _)]
theorem lword_eq (n : Nat) (d : Dr) (one two : Int) (deep : Nat) (hd : deep < 26) : ∃ l, l_law_word n [.int one, .int two, .int (deep : Int), d.enc] = some (.str (mkS l)) ∧ Wd d deep l := word_eq n d one two deep hd
end Bw
/-! ### good sheets -/
namespace Bw
open PySem Bd
def lowB (c : Nat) : Bool := decide (97 ≤ c ∧ c ≤ 122)
def wOk (w : Str) : Bool := decide (1 ≤ w.length ∧ w.length ≤ 12) && w.cps.toList.all lowB
def tOk (t : Int) : Bool := decide (0 ≤ t ∧ t < 1000000000)
inductive Kd where
  | rd | wr | pk
def kB (b : Bool) : Kd := if b = true then .wr else .rd
def kdOf : List Rw → Str → Option Kd
  | [], _ => none
  | .lend v b _ :: st, w => if v = w then some (kB b) else kdOf st w
  | .pick v _ :: st, w => if v = w then some .pk else kdOf st w
  | _ :: st, w => kdOf st w
def srcOk (st : List Rw) (b : Bool) : Src → Bool
  | .th t => tOk t
  | .of v => match kdOf st v with
    | none => false
    | some .rd => !b
    | some .wr => true
    | some .pk => true
def hOk (st : List Rw) (w : Str) : Bool := match kdOf st w with
  | some .rd => true
  | some .wr => true
  | _ => false
def cOk (st : List Rw) (w : Str) : Bool := match kdOf st w with
  | some .wr => true
  | _ => false
/-- a row behind those, the innermost first: what is open then -/
def ck (st : List Rw) : Rw → Option (List Rw)
  | .lend w b s => if (wOk w && ((kdOf st w).isNone && srcOk st b s)) = true then some (.lend w b s :: st) else none
  | .pick w ts => if (wOk w && ((kdOf st w).isNone && (decide (1 ≤ ts.length ∧ ts.length ≤ 5) && ts.all tOk))) = true then some (.pick w ts :: st) else none
  | .either => some (.either :: st)
  | .again => some (.again :: st)
  | .or_ => match st with
    | .either :: t => some (.either :: t)
    | _ => none
  | .fin => match st with
    | _ :: t => some t
    | [] => none
  | .look w => if (wOk w && hOk st w) = true then some st else none
  | .back w => if (wOk w && hOk st w) = true then some st else none
  | .change w => if (wOk w && cOk st w) = true then some st else none
def cks : List Rw → List Rw → Option (List Rw)
  | st, [] => some st
  | st, r :: rs => (ck st r).bind fun st' => cks st' rs
theorem cks_append : ∀ (a b st : List Rw), cks st (a ++ b) = (cks st a).bind fun st' => cks st' b
  | [], _, _ => rfl
  | r :: a, b, st => by
    rw [List.cons_append]
    show (ck st r).bind _ = ((ck st r).bind _).bind _
    cases ck st r with
    | none => rfl
    | some st' => exact cks_append a b st'
theorem cks_one (st : List Rw) (r : Rw) : cks st [r] = ck st r := by
  show (ck st r).bind _ = _
  cases ck st r <;> rfl
theorem cks_fins : ∀ st : List Rw, cks st (List.replicate st.length .fin) = some []
  | [] => rfl
  | r :: st => cks_fins st
theorem if_some {α : Type} {c : Prop} [Decidable c] {a b : α} (h : (if c then some a else none) = some b) : c ∧ a = b := by
  by_cases hc : c
  · rw [if_pos hc] at h; exact ⟨hc, Option.some.inj h⟩
  · rw [if_neg hc] at h; cases h
theorem ck_op {st st' : List Rw} {r : Rw} (h : ck st r = some st') (o : r.opn = true) : st' = r :: st := by
  cases r with
  | lend w b s => exact (if_some h).2.symm
  | pick w ts => exact (if_some h).2.symm
  | either => cases h; rfl
  | again => cases h; rfl
  | _ => cases o
theorem ck_fin {st st' : List Rw} (h : ck st .fin = some st') : ∃ x, st = x :: st' := by
  cases st with
  | nil => cases h
  | cons x t => cases h; exact ⟨x, rfl⟩
theorem ck_id {st st' : List Rw} {r : Rw} (h : ck st r = some st') (o : r.opn = false) (f : r.isF = false) : st' = st := by
  cases r with
  | look w => exact (if_some h).2.symm
  | back w => exact (if_some h).2.symm
  | change w => exact (if_some h).2.symm
  | or_ =>
    cases st with
    | nil => cases h
    | cons x t => cases x <;> first | (cases h; rfl) | cases h
  | fin => cases f
  | _ => cases o
/-- a good sheet nests -/
def stk (rows : List Rw) (p : Nat) : List Rw := (sk rows p).filterMap fun i => rows[i]?
theorem stk_op {rows : List Rw} {p : Nat} {r : Rw} (h : rows[p]? = some r) (o : r.opn = true) : stk rows (p + 1) = r :: stk rows p := by
  unfold stk
  rw [sk_op h o, List.filterMap_cons, h]
theorem stk_fin {rows : List Rw} {p : Nat} {r : Rw} (h : rows[p]? = some r) (o : r.isF = true) : stk rows (p + 1) = (stk rows p).tail := by
  unfold stk
  rw [sk_fin h o]
  cases hs : sk rows p with
  | nil => rfl
  | cons a t =>
    obtain ⟨_, _, q, hq, _⟩ := sk_disc rows p a t hs
    rw [List.filterMap_cons, hq]; rfl
theorem stk_id {rows : List Rw} {p : Nat} {r : Rw} (h : rows[p]? = some r) (o : r.opn = false) (f : r.isF = false) : stk rows (p + 1) = stk rows p := by
  unfold stk
  rw [sk_id h o f]
theorem cks_take {rows : List Rw} {s : List Rw} (h : cks [] rows = some s) : ∀ p, p ≤ rows.length → cks [] (rows.take p) = some (stk rows p)
  | 0, _ => by rw [List.take_zero]; rfl
  | p + 1, hp => by
    have ih := cks_take h p (by omega)
    have hr := List.getElem?_eq_getElem (show p < rows.length by omega)
    generalize rows[p] = r at hr
    have e : rows.take (p + 1) = rows.take p ++ [r] := by rw [List.take_add_one, hr]; rfl
    have h2 : cks [] (rows.take (p + 1) ++ rows.drop (p + 1)) = some s := by rw [List.take_append_drop]; exact h
    rw [cks_append, e, cks_append, ih, Option.bind_some, cks_one] at h2
    rw [e, cks_append, ih, Option.bind_some, cks_one]
    cases hc : ck (stk rows p) r with
    | none => rw [hc] at h2; cases h2
    | some st' =>
      congr 1
      by_cases o : r.opn = true
      · rw [ck_op hc o, stk_op hr o]
      · by_cases f : r.isF = true
        · have hf := isF_eq f
          subst hf
          obtain ⟨x, hx⟩ := ck_fin hc
          rw [stk_fin hr rfl, hx]; rfl
        · rw [ck_id hc (by simpa using o) (by simpa using f), stk_id hr (by simpa using o) (by simpa using f)]
theorem cks_at {rows : List Rw} {s : List Rw} (h : cks [] rows = some s) {p : Nat} {r : Rw} (hr : rows[p]? = some r) : ck (stk rows p) r = some (stk rows (p + 1)) := by
  have hp := getD_lt hr
  have h1 := cks_take h p (by omega)
  have h2 := cks_take h (p + 1) (by omega)
  have e : rows.take (p + 1) = rows.take p ++ [r] := by rw [List.take_add_one, hr]; rfl
  rw [e, cks_append, h1, Option.bind_some, cks_one] at h2
  exact h2
theorem stk_nil {rows : List Rw} {p : Nat} (h : stk rows p = []) : sk rows p = [] := by
  cases hs : sk rows p with
  | nil => rfl
  | cons a t =>
    obtain ⟨_, _, q, hq, _⟩ := sk_disc rows p a t hs
    unfold stk at h
    rw [hs, List.filterMap_cons, hq] at h
    cases h
theorem nst_of {rows : List Rw} (h : cks [] rows = some []) : Nst rows where
  pop p hp e := by
    have h1 := cks_at h hp
    have h2 : stk rows p = [] := by unfold stk; rw [e]; rfl
    rw [h2] at h1
    cases h1
  fin := by
    apply stk_nil
    have h1 := cks_take h rows.length (Nat.le_refl _)
    rw [List.take_length, h] at h1
    exact (Option.some.inj h1).symm
/-! ### words of a sheet drawn -/
def nmd (st : List Rw) : Nat := (st.filter Rw.isN).length
def nhd (st : List Rw) : Nat := (st.filter Rw.isL).length
def npk (st : List Rw) : Nat := (st.filter Rw.isP).length
theorem nmd_sum : ∀ st : List Rw, nmd st = nhd st + npk st
  | [] => rfl
  | r :: st => by
    have ih := nmd_sum st
    unfold nmd nhd npk at *
    cases r <;> simp [Rw.isN, Rw.isL, Rw.isP, List.filter_cons] <;> omega
def Rw.nm : Rw → Str
  | .lend w _ _ => w
  | .pick w _ => w
  | _ => Str.ofString ""
def Rw.kd : Rw → Kd
  | .lend _ b _ => kB b
  | _ => .pk
def Stk (d : Dr) : List Rw → Prop
  | [] => True
  | r :: st => Stk d st ∧ r.opn = true ∧ (r.isN = true → ∃ l, r.nm = mkS l ∧ Wd d (nmd st) l)
theorem Stk.names {d : Dr} : ∀ {st : List Rw}, Stk d st → ∀ r ∈ st, r.isN = true → ∃ j l, j < nmd st ∧ r.nm = mkS l ∧ Wd d j l
  | [], _, _, h, _ => by cases h
  | q :: st, S, r, h, hn => by
    cases h with
    | head =>
      obtain ⟨l, e, w⟩ := S.2.2 hn
      exact ⟨nmd st, l, by unfold nmd; rw [List.filter_cons_of_pos hn, List.length_cons]; omega, e, w⟩
    | tail _ h =>
      obtain ⟨j, l, hj, e⟩ := S.1.names r h hn
      exact ⟨j, l, Nat.lt_of_lt_of_le hj (by unfold nmd; rw [List.filter_cons]; split <;> simp), e⟩
theorem nmd_cons (q : Rw) (st : List Rw) : nmd (q :: st) = (if q.isN = true then nmd st + 1 else nmd st) := by
  unfold nmd
  rw [List.filter_cons]
  split <;> rfl
theorem kd_skip {q : Rw} {st : List Rw} {w : Str} (h : q.isN = true → q.nm ≠ w) : kdOf (q :: st) w = kdOf st w := by
  cases q with
  | lend v b s => exact if_neg (h rfl)
  | pick v ts => exact if_neg (h rfl)
  | _ => rfl
theorem kd_hit {q : Rw} {st : List Rw} (h : q.isN = true) : kdOf (q :: st) q.nm = some q.kd := by
  cases q with
  | lend v b s => exact if_pos rfl
  | pick v ts => exact if_pos rfl
  | _ => cases h
theorem Stk.fresh {d : Dr} {j : Nat} {l : List Nat} (w : Wd d j l) (hj : j < 26) : ∀ {st : List Rw}, Stk d st → nmd st ≤ j → kdOf st (mkS l) = none
  | [], _, _ => rfl
  | q :: st, S, h => by
    have hle : nmd st ≤ j := Nat.le_trans (by rw [nmd_cons]; split <;> omega) h
    rw [kd_skip, S.1.fresh w hj hle]
    intro hn e
    obtain ⟨l', e', w'⟩ := S.2.2 hn
    rw [nmd_cons, if_pos hn] at h
    rw [e'] at e
    exact Wd.ne w' w (by omega) (by omega) hj (mkS_inj e)
theorem Stk.found {d : Dr} : ∀ {st : List Rw}, Stk d st → nmd st ≤ 26 → ∀ r ∈ st, r.isN = true → kdOf st r.nm = some r.kd
  | [], _, _, _, h, _ => by cases h
  | q :: st, S, hm, r, h, hn => by
    have hle : nmd st ≤ 26 := Nat.le_trans (by rw [nmd_cons]; split <;> omega) hm
    cases h with
    | head => exact kd_hit hn
    | tail _ h =>
      rw [kd_skip, S.1.found hle r h hn]
      intro hq e
      obtain ⟨j, l, hj, e1, w1⟩ := S.1.names r h hn
      obtain ⟨l', e', w'⟩ := S.2.2 hq
      rw [nmd_cons, if_pos hq] at hm
      rw [e', e1] at e
      exact Wd.ne w' w1 (by omega) (by omega) (by omega) (mkS_inj e)
theorem mkS_ok {d : Dr} {j : Nat} {l : List Nat} (w : Wd d j l) (hj : j < 12) : wOk (mkS l) = true := by
  have h := w.len hj
  unfold wOk
  rw [mkS_len, mkS_codes, Bool.and_eq_true]
  refine ⟨decide_eq_true h, List.all_eq_true.mpr fun c hc => decide_eq_true (w.low c hc)⟩
structure Good (d : Dr) (st : List Rw) : Prop where
  stk : Stk d st
  nh : nhd st ≤ 6
  np : npk st ≤ 3
theorem Good.nm {d : Dr} {st : List Rw} (g : Good d st) : nmd st ≤ 9 := by
  have := nmd_sum st; have := g.nh; have := g.np; omega
theorem Good.tail {d : Dr} {x : Rw} {st : List Rw} (g : Good d (x :: st)) : Good d st := by
  refine ⟨g.stk.1, Nat.le_trans ?_ g.nh, Nat.le_trans ?_ g.np⟩
  · unfold nhd; rw [List.filter_cons]; split <;> simp
  · unfold npk; rw [List.filter_cons]; split <;> simp
theorem Good.plain {d : Dr} {x : Rw} {st : List Rw} (g : Good d st) (o : x.opn = true) (n : x.isN = false) : Good d (x :: st) := by
  have hl : x.isL = false := by cases x <;> first | rfl | cases n
  have hp : x.isP = false := by cases x <;> first | rfl | cases n
  refine ⟨⟨g.stk, o, fun h => by rw [n] at h; cases h⟩, ?_, ?_⟩
  · unfold nhd; rw [List.filter_cons_of_neg (by rw [hl]; simp)]; exact g.nh
  · unfold npk; rw [List.filter_cons_of_neg (by rw [hp]; simp)]; exact g.np
theorem hOk_of {st : List Rw} {v : Str} {b : Bool} (h : kdOf st v = some (kB b)) : hOk st v = true := by
  unfold hOk; rw [h]; cases b <;> rfl
theorem cOk_of {st : List Rw} {v : Str} (h : kdOf st v = some (kB true)) : cOk st v = true := by
  unfold cOk; rw [h]; rfl
theorem eq_self_s (x : Str) : eqD (.str x) (.str x) = some true := by rw [eqD_ss, decide_eq_true rfl]
/-! ### lists of two and three -/
theorem kinds2 (i : Int) : idxD (.list [.str (Str.ofString "read"), .str (Str.ofString "write")]) (.int (i % 2)) = some (.str (kS (i % 2 == 1))) := by
  have h : i % 2 = 0 ∨ i % 2 = 1 := by omega
  rcases h with h | h <;> rw [h] <;> simp <;> rfl
theorem pick3 (a b c : D) (i : Int) : ∃ x, idxD (.list [a, b, c]) (.int (i % 3)) = some x ∧ (x = a ∨ x = b ∨ x = c) := by
  have h : i % 3 = 0 ∨ i % 3 = 1 ∨ i % 3 = 2 := by omega
  rcases h with h | h | h <;> rw [h] <;> simp
theorem pick2 (a b : D) (i : Int) : ∃ x, idxD (.list [a, b]) (.int (i % 2)) = some x ∧ (x = a ∨ x = b) := by
  have h : i % 2 = 0 ∨ i % 2 = 1 := by omega
  rcases h with h | h <;> rw [h] <;> simp
theorem kS_r (b : Bool) : eqD (.str (kS b)) (.str (Str.ofString "read")) = some (!b) := by
  rw [eqD_ss]; unfold kS; cases b <;> decide +kernel
theorem kS_w (b : Bool) : eqD (.str (kS b)) (.str (Str.ofString "write")) = some b := by
  rw [eqD_ss]; unfold kS; cases b <;> decide +kernel
theorem read_kS : PyData.str (Str.ofString "read") = .str (kS false) := nd rfl
theorem write_kS : PyData.str (Str.ofString "write") = .str (kS true) := nd rfl
theorem enc_lend (w : Str) (b : Bool) (s : Src) : Rw.enc (.lend w b s) = .tuple [.str (Str.ofString "lend"), .str w, .str (kS b), s.enc] := nd rfl
theorem enc_pick (w : Str) (ts : List Int) : Rw.enc (.pick w ts) = .tuple [.str (Str.ofString "pick"), .str w, .tuple (ts.map PyData.int)] := nd rfl
def nL (st : List Rw) : List Rw := st.reverse.filter Rw.isN
def hL (st : List Rw) : List Rw := (nL st).filter Rw.isL
theorem nL_len (st : List Rw) : (nL st).length = nmd st := by unfold nL nmd; rw [List.filter_reverse, List.length_reverse]
theorem hL_len (st : List Rw) : (hL st).length = nhd st := by
  unfold hL nL nhd
  rw [List.filter_filter, List.filter_reverse, List.length_reverse]
  congr 1
  apply List.filter_congr
  intro x _
  cases x <;> rfl
theorem nL_mem {st : List Rw} {r : Rw} (h : r ∈ nL st) : r ∈ st ∧ r.isN = true := by
  unfold nL at h
  have := List.mem_filter.mp h
  exact ⟨List.mem_reverse.mp this.1, this.2⟩
theorem srcOk_of {d : Dr} {st : List Rw} (S : Stk d st) (hm : nmd st ≤ 26) {r : Rw} (h : r ∈ st) (hn : r.isN = true) {b : Bool} (hb : r.kd = .rd → b = false) : srcOk st b (.of r.nm) = true := by
  show (match kdOf st r.nm with | none => false | some .rd => !b | some .wr => true | some .pk => true) = true
  rw [S.found hm r h hn]
  cases hk : r.kd with
  | rd => simp [hb hk]
  | wr => rfl
  | pk => rfl
theorem lend_eq (n : Nat) (d : Dr) (one two : Int) (st : List Rw) (S : Stk d st) (hm : nmd st < 12) : ∃ l b s, m_law_lend n (.int one) (.int two) (.list ((nL st).map Rw.enc)) d.enc = some (Rw.enc (.lend (mkS l) b s)) ∧ Wd d (nmd st) l ∧ srcOk st b s = true := by
  obtain ⟨t, ht, t1⟩ := lthing_eq n two d.base
  obtain ⟨l, hl, wl⟩ := lword_eq n d one two (nmd st) (by omega)
  unfold m_law_lend
  simp only [consO_some, lD_some, b2_some, modD_ii _ _ (show (0 : Int) < 2 by decide), kinds2, bnd_some, Option.bind_some, fdivD_ii one 2 (by decide), eqD_ii, lenD_l, List.length_map, nL_len, ordD_ii]
  rw [show idxD d.enc (.int 0) = some (.int d.base) from idl0 _ _]
  simp only [consO_some, Option.bind_some, ht, bnd_some, hl, andT_ss]
  by_cases hc : (one / 2 % 2 == 1 && gtI (nmd st : Int) 0) = true
  · have hpos : 0 < nmd st := by
      rw [Bool.and_eq_true] at hc
      have := of_decide_eq_true hc.2
      omega
    rw [hc, ifM_t, modD_ii _ _ (by omega)]
    obtain ⟨dd, e1, hd⟩ := idx_mod ((nL st).map Rw.enc) two (by rw [List.length_map, nL_len]; exact hpos)
    rw [List.length_map, nL_len] at e1
    obtain ⟨r, hr, rfl⟩ := List.mem_map.mp hd
    obtain ⟨hr1, hr2⟩ := nL_mem hr
    simp only [b2_some]
    rw [e1]
    cases r with
    | lend v b s =>
      simp only [bnd_some, enc_lend, idt0, idt1, idt2, kS_r, b2_some]
      rw [eq_self_s, andT_t]
      cases b with
      | true => exact ⟨l, (one % 2 == 1), .of v, rfl, wl, srcOk_of S (by omega) hr1 rfl (fun h => by cases h)⟩
      | false => exact ⟨l, false, .of v, rfl, wl, srcOk_of S (by omega) hr1 rfl (fun _ => rfl)⟩
    | pick v ts =>
      simp only [bnd_some, enc_pick, idt0, idt1, idt2, b2_some]
      rw [show eqD (.str (Str.ofString "pick")) (.str (Str.ofString "lend")) = some false from by rw [eqD_ss]; decide +kernel, andT_f, ifM_f]
      exact ⟨l, (one % 2 == 1), .of v, rfl, wl, srcOk_of S (by omega) hr1 rfl (fun h => by cases h)⟩
    | _ => cases hr2
  · rw [show (one / 2 % 2 == 1 && gtI (nmd st : Int) 0) = false by simpa using hc, ifM_f]
    exact ⟨l, (one % 2 == 1), .th t, rfl, wl, decide_eq_true t1⟩
theorem deed_eq (n : Nat) (d : Dr) (one two : Int) (st : List Rw) (S : Stk d st) (hm : nmd st < 12) (hh : 0 < nhd st) : ∃ r, m_law_deed n (.int one) (.int two) (.list ((hL st).map Rw.enc)) = some r.enc ∧ ck st r = some st := by
  unfold m_law_deed
  simp only [Option.bind_some, lenD_l, List.length_map, hL_len, b2_some]
  rw [modD_ii _ _ (by omega)]
  obtain ⟨dd, e1, hd⟩ := idx_mod ((hL st).map Rw.enc) two (by rw [List.length_map, hL_len]; exact hh)
  rw [List.length_map, hL_len] at e1
  obtain ⟨r, hr, rfl⟩ := List.mem_map.mp hd
  obtain ⟨hr0, hr3⟩ := List.mem_filter.mp hr
  obtain ⟨hr1, hr2⟩ := nL_mem hr0
  simp only [b2_some]
  rw [e1]
  cases r with
  | lend v b s =>
    have fd := S.found (by omega) _ hr1 hr2
    obtain ⟨j, l, hj, hv, wl⟩ := S.names _ hr1 hr2
    have hw : wOk v = true := by
      have : v = mkS l := hv
      rw [this]; exact mkS_ok wl (by omega)
    have h3 : one % 3 = 0 ∨ one % 3 = 1 ∨ one % 3 = 2 := by omega
    simp only [bnd_some, enc_lend, idt1, idt2, consO_some, lD_some, b2_some, modD_ii _ _ (show (0 : Int) < 3 by decide), kS_r]
    have hk : kdOf st v = some (kB b) := fd
    rcases h3 with h3 | h3 | h3
    · rw [h3]
      simp only [idl0, bnd_some, b2_some]
      rw [show eqD (.str (Str.ofString "look")) (.str (Str.ofString "change")) = some false from by rw [eqD_ss]; decide +kernel, andT_f, ifM_f]
      exact ⟨.look v, rfl, if_pos (by rw [hw, hOk_of hk]; rfl)⟩
    · rw [h3]
      simp only [idl1, bnd_some, b2_some]
      rw [show eqD (.str (Str.ofString "back")) (.str (Str.ofString "change")) = some false from by rw [eqD_ss]; decide +kernel, andT_f, ifM_f]
      exact ⟨.back v, rfl, if_pos (by rw [hw, hOk_of hk]; rfl)⟩
    · rw [h3]
      simp only [idl2, bnd_some, b2_some]
      rw [eq_self_s, andT_t]
      cases b with
      | true => exact ⟨.change v, rfl, if_pos (by rw [hw, cOk_of hk]; rfl)⟩
      | false => exact ⟨.look v, rfl, if_pos (by rw [hw, hOk_of hk]; rfl)⟩
  | _ => cases hr3
end Bw
/-! ### the rows drawn -/
namespace Bw
open PySem Bd
theorem llend_eq (n : Nat) (d : Dr) (one two : Int) (st : List Rw) (S : Stk d st) (hm : nmd st < 12) : ∃ l b s, l_law_lend n [.int one, .int two, .list ((nL st).map Rw.enc), d.enc] = some (Rw.enc (.lend (mkS l) b s)) ∧ Wd d (nmd st) l ∧ srcOk st b s = true := lend_eq n d one two st S hm
theorem ldeed_eq (n : Nat) (d : Dr) (one two : Int) (st : List Rw) (S : Stk d st) (hm : nmd st < 12) (hh : 0 < nhd st) : ∃ r, l_law_deed n [.int one, .int two, .list ((hL st).map Rw.enc)] = some r.enc ∧ ck st r = some st := deed_eq n d one two st S hm hh
def thI (c b : Int) : Int := if (c % 8 == 7) = true then c / 8 % 1000000000 else (b + c % 3) % 1000000000
theorem thI_ok (c b : Int) : 0 ≤ thI c b ∧ thI c b < 1000000000 := by
  unfold thI
  split
  · exact ⟨Int.emod_nonneg _ (by decide), Int.emod_lt_of_pos _ (by decide)⟩
  · exact ⟨Int.emod_nonneg _ (by decide), Int.emod_lt_of_pos _ (by decide)⟩
theorem lthI (n : Nat) (c b : Int) : l_law_thing n [.int c, .int b] = some (.int (thI c b)) := by
  show m_law_thing n (.int c) (.int b) = _
  unfold m_law_thing thI
  simp only [b2_some, modD_ii _ _ (show (0 : Int) < 8 by decide), eqD_ii, fdivD_ii c 8 (by decide), pow9, modD_ii _ _ (show (0 : Int) < 1000000000 by decide), modD_ii _ _ (show (0 : Int) < 3 by decide), addD_ii]
  rw [ifM_ss]
  split <;> rfl
theorem good_new {d : Dr} {st : List Rw} (g : Good d st) {r : Rw} {l : List Nat} (hn : r.isN = true) (e : r.nm = mkS l) (w : Wd d (nmd st) l) (h1 : r.isL = true → nhd st < 6) (h2 : r.isP = true → npk st < 3) : Good d (r :: st) := by
  have o : r.opn = true := by cases r <;> first | rfl | cases hn
  refine ⟨⟨g.stk, o, fun _ => ⟨l, e, w⟩⟩, ?_, ?_⟩
  · have := g.nh
    unfold nhd at *
    rw [List.filter_cons]
    split
    · rename_i q; have := h1 q; rw [List.length_cons]; omega
    · exact g.nh
  · have := g.np
    unfold npk at *
    rw [List.filter_cons]
    split
    · rename_i q; have := h2 q; rw [List.length_cons]; omega
    · exact g.np
theorem ck_lend {d : Dr} {st : List Rw} (g : Good d st) {l : List Nat} {b : Bool} {s : Src} (w : Wd d (nmd st) l) (hs : srcOk st b s = true) : ck st (.lend (mkS l) b s) = some (.lend (mkS l) b s :: st) := by
  have hm := g.nm
  refine if_pos ?_
  rw [mkS_ok w (by omega), g.stk.fresh w (by omega) (Nat.le_refl _), hs]; rfl
theorem ck_pick {d : Dr} {st : List Rw} (g : Good d st) {l : List Nat} {ts : List Int} (w : Wd d (nmd st) l) (h1 : 1 ≤ ts.length ∧ ts.length ≤ 5) (h2 : ∀ t ∈ ts, 0 ≤ t ∧ t < 1000000000) : ck st (.pick (mkS l) ts) = some (.pick (mkS l) ts :: st) := by
  have hm := g.nm
  refine if_pos ?_
  rw [mkS_ok w (by omega), g.stk.fresh w (by omega) (Nat.le_refl _), decide_eq_true h1, show ts.all tOk = true from List.all_eq_true.mpr (fun t ht => decide_eq_true (h2 t ht))]; rfl
theorem in56 (w : Int) : inD (.int w) (.list [.int 5, .int 6]) = some (decide (5 = w) || (decide (6 = w) || false)) := by
  show memD _ _ = _
  unfold memD
  rw [show (flatD (.int w) && ([PyData.int 5, .int 6]).all flatD) = true from rfl, grd_true]
  rfl
theorem last_rev (st : List Rw) (h : st ≠ []) : ∃ x t, st = x :: t ∧ idxD (.list (st.reverse.map Rw.enc)) (.int (-1)) = some x.enc := by
  cases st with
  | nil => exact absurd rfl h
  | cons x t =>
    refine ⟨x, t, rfl, ?_⟩
    rw [idxD_last _ (by simp), List.reverse_cons, List.map_append]
    exact List.getLast?_concat
theorem row_eq (n : Nat) (d : Dr) (way one two : Int) (st : List Rw) (g : Good d st) (hl : st.length ≤ 1000) : ∃ r st', m_law_row n (.int way) (.int one) (.int two) (.list (st.reverse.map Rw.enc)) d.enc = some r.enc ∧ ck st r = some st' ∧ Good d st' := by
  have hm := g.nm
  have hsum := nmd_sum st
  obtain ⟨l0, b0, s0, e0, w0, q0⟩ := llend_eq n d one two st g.stk (by omega)
  unfold m_law_row
  simp only [Option.bind_some, itD_l, b2_some, consO_some, lD_some]
  rw [lcG_pureE (enc := Rw.enc) (p := Rw.isN) (g := Rw.enc) (ln100 (by rw [List.length_reverse]; omega)) (fun r _ => by rw [hd0]; simp only [b2_some]; exact nmd_l r) (fun r _ _ => rfl)]
  simp only [lD_some, bnd_some, itD_l, Option.bind_some]
  rw [show (st.reverse.filter Rw.isN) = nL st from rfl]
  rw [lcG_pureE (enc := Rw.enc) (p := Rw.isL) (g := Rw.enc) (ln100 (by rw [nL_len]; omega)) (fun r _ => by rw [hd0]; simp only [b2_some]; exact hdL r) (fun r _ _ => rfl)]
  rw [show ((nL st).filter Rw.isL) = hL st from rfl]
  simp only [lD_some, bnd_some, lenD_l, List.length_map, nL_len, hL_len, List.length_reverse, b2_some, ordD_ii, subD_ii, eqD_ii, andT_ss, negD_i]
  -- a lend
  by_cases c1 : (ltI way 4 && ltI (nhd st : Int) 6) = true
  · rw [c1, ifM_t, e0]
    rw [Bool.and_eq_true] at c1
    have h6 := of_decide_eq_true c1.2
    exact ⟨_, _, rfl, ck_lend g w0 q0, good_new g rfl rfl w0 (fun _ => by omega) (fun h => by cases h)⟩
  rw [show (ltI way 4 && ltI (nhd st : Int) 6) = false by simpa using c1, ifM_f]
  -- a pick
  by_cases c2 : ((way == 4) && ltI ((nmd st : Int) - (nhd st : Int)) 3) = true
  · rw [c2, ifM_t]
    rw [Bool.and_eq_true] at c2
    have h3 := of_decide_eq_true c2.2
    rw [modD_ii one 5 (by decide), b2_some, addD_ii, Option.bind_some, rng1_i _ (by omega)]
    obtain ⟨l, hw, wl⟩ := lword_eq n d one two (nmd st) (by omega)
    rw [show rngL 0 (1 + one % 5).toNat = (List.range (1 + one % 5).toNat).map fun (i : Nat) => PyData.int (0 + (i : Int)) from rfl]
    rw [lcG_mapE (g := fun i : Nat => .int (thI (two + (0 + (i : Int)) * (1 + one % 2)) d.base)) (ln100 (by rw [List.length_range]; omega)) (fun i hi => by
      have hi := List.mem_range.mp hi
      rw [modD_ii one 2 (by decide), b2_some, addD_ii, b2_some, mulD_ii _ _ (.inl (by omega)), b2_some, addD_ii, show idxD d.enc (.int 0) = some (.int d.base) from idl0 _ _, consO_some, consO_some, Option.bind_some]
      exact lthI n _ _)]
    have tl : ((List.range (1 + one % 5).toNat).map fun i : Nat => thI (two + (0 + (i : Int)) * (1 + one % 2)) d.base).length = (1 + one % 5).toNat := by rw [List.length_map, List.length_range]
    have tq : ∀ t ∈ ((List.range (1 + one % 5).toNat).map fun i : Nat => thI (two + (0 + (i : Int)) * (1 + one % 2)) d.base), 0 ≤ t ∧ t < 1000000000 := fun t ht => by
      obtain ⟨i, _, rfl⟩ := List.mem_map.mp ht
      exact thI_ok _ _
    rw [show ((List.range (1 + one % 5).toNat).map fun i : Nat => PyData.int (thI (two + (0 + (i : Int)) * (1 + one % 2)) d.base)) = ((List.range (1 + one % 5).toNat).map fun i : Nat => thI (two + (0 + (i : Int)) * (1 + one % 2)) d.base).map PyData.int by rw [List.map_map]; rfl]
    generalize ((List.range (1 + one % 5).toNat).map fun i : Nat => thI (two + (0 + (i : Int)) * (1 + one % 2)) d.base) = ts at tl tq ⊢
    simp only [lD_some, Option.bind_some, tupD_l, bnd_some, consO_some, hw]
    exact ⟨.pick (mkS l) ts, _, rfl, ck_pick g wl (by omega) tq, good_new g rfl rfl wl (fun h => by cases h) (fun _ => by omega)⟩
  rw [show ((way == 4) && ltI ((nmd st : Int) - (nhd st : Int)) 3) = false by simpa using c2, ifM_f]
  -- either, again
  rw [in56, andT_ss]
  by_cases c3 : ((decide (5 = way) || (decide (6 = way) || false)) && ltI (st.length : Int) 12) = true
  · rw [c3, ifM_t]
    rw [Bool.and_eq_true] at c3
    have h5 : way = 5 ∨ way = 6 := by
      have := c3.1
      simp only [Bool.or_false, Bool.or_eq_true, decide_eq_true_eq] at this
      omega
    rcases h5 with h5 | h5
    · subst h5
      exact ⟨.either, _, rfl, rfl, g.plain rfl rfl⟩
    · subst h5
      exact ⟨.again, _, rfl, rfl, g.plain rfl rfl⟩
  rw [show ((decide (5 = way) || (decide (6 = way) || false)) && ltI (st.length : Int) 12) = false by simpa using c3, ifM_f]
  -- or
  have rest : ∃ r st', (ifM (some (ltI way 10 && gtI (nhd st : Int) 0)) ((consO (some (.int one)) (consO (some (.int two)) (consO (some (.list ((hL st).map Rw.enc))) (some [])))).bind (l_law_deed n)) (ifM (some (gtI (st.length : Int) 0)) ((consO (some (.str "end")) (some [])).map PyData.tuple) ((consO (some (.int one)) (consO (some (.int two)) (consO (some (.list ((nL st).map Rw.enc))) (consO (some d.enc) (some []))))).bind (l_law_lend n)))) = some r.enc ∧ ck st r = some st' ∧ Good d st' := by
    by_cases c5 : (ltI way 10 && gtI (nhd st : Int) 0) = true
    · rw [c5, ifM_t]
      rw [Bool.and_eq_true] at c5
      have h0 := of_decide_eq_true c5.2
      obtain ⟨r, e, q⟩ := ldeed_eq n d one two st g.stk (by omega) (by omega)
      simp only [consO_some, Option.bind_some, e]
      exact ⟨r, st, rfl, q, g⟩
    · rw [show (ltI way 10 && gtI (nhd st : Int) 0) = false by simpa using c5, ifM_f]
      cases st with
      | nil =>
        rw [show gtI (([] : List Rw).length : Int) 0 = false from rfl, ifM_f]
        simp only [consO_some, Option.bind_some, e0]
        exact ⟨_, _, rfl, ck_lend g w0 q0, good_new g rfl rfl w0 (fun _ => by decide) (fun h => by cases h)⟩
      | cons x t =>
        rw [show gtI ((x :: t).length : Int) 0 = true from decide_eq_true (by rw [List.length_cons]; omega), ifM_t]
        exact ⟨.fin, t, rfl, rfl, g.tail⟩
  simp only [consO_some, Option.bind_some] at rest ⊢
  by_cases c4 : (way == 7) = true
  · rw [c4, andT_t]
    cases st with
    | nil =>
      rw [show gtI (([] : List Rw).length : Int) 0 = false from rfl, andT_f, ifM_f]
      exact rest
    | cons x t =>
      obtain ⟨x', t', e1, e2⟩ := last_rev (x :: t) (by simp)
      cases e1
      rw [show gtI ((x :: t).length : Int) 0 = true from decide_eq_true (by rw [List.length_cons]; omega), andT_t, e2]
      simp only [b2_some, hd0, hdE]
      by_cases hx : x.isE = true
      · rw [hx, ifM_t]
        rw [isE_eq hx] at g ⊢
        exact ⟨.or_, _, rfl, rfl, g⟩
      · rw [show x.isE = false by simpa using hx, ifM_f]
        rw [show gtI ((x :: t).length : Int) 0 = true from decide_eq_true (by rw [List.length_cons]; omega)] at rest
        exact rest
  · rw [show (way == 7) = false by simpa using c4, andT_f, ifM_f]
    exact rest
theorem lrow_eq (n : Nat) (d : Dr) (way one two : Int) (st : List Rw) (g : Good d st) (hl : st.length ≤ 1000) : ∃ r st', l_law_row n [.int way, .int one, .int two, .list (st.reverse.map Rw.enc), d.enc] = some r.enc ∧ ck st r = some st' ∧ Good d st' := row_eq n d way one two st g hl
end Bw
/-! ### the written rows of blocks, the sheet -/
namespace Bw
open PySem Bd
theorem addL (x y : List D) (h : x.length + y.length ≤ 100000) : addD (.list x) (.list y) = some (.list (x ++ y)) := addD_ll x y (ln100 h)
theorem hands_eq (n : Nat) (d : Dr) (one two : Int) (k : Nat) (hk : k < 9) : ∃ a b c, m_law_hands n (.int one) (.int two) (.int (k : Int)) d.enc = some (.list [.str (mkS a), .str (mkS b), .str (mkS c)]) ∧ Wd d k a ∧ Wd d (k + 1) b ∧ Wd d (k + 2) c := by
  obtain ⟨a, ea, wa⟩ := lword_eq n d one two k (by omega)
  obtain ⟨b, eb, wb⟩ := lword_eq n d two one (k + 1) (by omega)
  obtain ⟨c, ec, wc⟩ := lword_eq n d one one (k + 2) (by omega)
  refine ⟨a, b, c, ?_, wa, wb, wc⟩
  unfold m_law_hands
  simp only [b2_some, addD_ii, consO_some, Option.bind_some, ea]
  rw [show ((k : Int) + 1) = ((k + 1 : Nat) : Int) from rfl, eb, show ((k : Int) + 2) = ((k + 2 : Nat) : Int) from rfl, ec]
  simp only [lD_some, consO_some, bnd_some, b2_some]
  rw [addL _ _ (by simp)]
  rfl
structure Trio (st : List Rw) (a b c : Str) : Prop where
  wa : wOk a = true
  wb : wOk b = true
  wc : wOk c = true
  ka : kdOf st a = none
  kb : kdOf st b = none
  kc : kdOf st c = none
  ab : a ≠ b
  ac : a ≠ c
  bc : b ≠ c
theorem trio_of {d : Dr} {st : List Rw} (S : Stk d st) {a b c : List Nat} (h : nmd st < 9) (wa : Wd d (nmd st) a) (wb : Wd d (nmd st + 1) b) (wc : Wd d (nmd st + 2) c) : Trio st (mkS a) (mkS b) (mkS c) where
  wa := mkS_ok wa (by omega)
  wb := mkS_ok wb (by omega)
  wc := mkS_ok wc (by omega)
  ka := S.fresh wa (by omega) (Nat.le_refl _)
  kb := S.fresh wb (by omega) (by omega)
  kc := S.fresh wc (by omega) (by omega)
  ab e := Wd.ne wa wb (by omega) (by omega) (by omega) (mkS_inj e)
  ac e := Wd.ne wa wc (by omega) (by omega) (by omega) (mkS_inj e)
  bc e := Wd.ne wb wc (by omega) (by omega) (by omega) (mkS_inj e)
def IsG (st : List Rw) (m : Option D) : Prop := ∃ g : List Rw, m = some (.list (g.map Rw.enc)) ∧ g.length ≤ 12 ∧ cks st g = some st
theorem eqI (i j : Int) : eqD (.int i) (.int j) = some (i == j) := eqD_ii i j
theorem first_four_eq (n : Nat) (way one two t : Int) (st : List Rw) (a b c : Str) (T : Trio st a b c) (ht : tOk t = true) (hw : 0 ≤ way ∧ way < 4) :
    IsG st (m_law_first_four n (.int way) (.int one) (.int two) (.list [.str a, .str b, .str c]) (.int t)) := by
  obtain ⟨wa, wb, wc, ka, kb, kc, ab, ac, bc⟩ := T
  have ba := ab.symm
  have ca := ac.symm
  have cb := bc.symm
  unfold m_law_first_four
  simp only [b2_some, idl0, idl1, idl2, bnd_some, consO_some, lD_some, fdivD_ii one 8 (by decide), modD_ii _ _ (show (0 : Int) < 2 by decide), modD_ii _ _ (show (0 : Int) < 3 by decide), kinds2, Option.map_some, eqD_ii]
  generalize (one / 8 % 2 == 1) = k
  have h4 : way = 0 ∨ way = 1 ∨ way = 2 ∨ way = 3 := by omega
  rcases h4 with rfl | rfl | rfl | rfl
  · exact ⟨[.lend a k (.th t), .again, .look a, .back a, .fin, .fin], rfl, by simp, by cases k <;> simp [cks, ck, kdOf, srcOk, hOk, cOk, kB, *]⟩
  · rw [show ((1 : Int) == 0) = false from rfl, show ((1 : Int) == 1) = true from rfl, ifM_f, ifM_t, addL _ _ (by simp)]
    exact ⟨[.lend a k (.th t), .either, .back a, .or_, .look a, .fin, .look a, .fin], rfl, by simp, by cases k <;> simp [cks, ck, kdOf, srcOk, hOk, cOk, kB, *]⟩
  · rw [show ((2 : Int) == 0) = false from rfl, show ((2 : Int) == 1) = false from rfl, show ((2 : Int) == 2) = true from rfl, ifM_f, ifM_f, ifM_t]
    obtain ⟨x, hx, qx⟩ := pick3 (.str a) (.str b) (.str a) two
    obtain ⟨y, hy, qy⟩ := pick3 (.str c) (.str c) (.str b) one
    rw [hx, hy]
    simp only [consO_some, Option.map_some, lD_some, b2_some]
    rw [addL _ _ (by simp)]
    have key : ∀ x y : Str, (x = a ∨ x = b) → (y = b ∨ y = c) → IsG st (some (.list ([.tuple [.str (Str.ofString "lend"), .str a, .str (Str.ofString "write"), .int t], .tuple [.str (Str.ofString "lend"), .str b, .str (Str.ofString "write"), .str a], .tuple [.str (Str.ofString "lend"), .str c, .str (kS k), .str b]] ++ [.tuple [.str (Str.ofString "back"), .str x], .tuple [.str (Str.ofString "look"), .str y], .tuple [.str (Str.ofString "end")], .tuple [.str (Str.ofString "end")], .tuple [.str (Str.ofString "end")]]))) := by
      intro x y hx hy
      refine ⟨[.lend a true (.th t), .lend b true (.of a), .lend c k (.of b), .back x, .look y, .fin, .fin, .fin], rfl, by simp, ?_⟩
      rcases hx with rfl | rfl <;> rcases hy with rfl | rfl <;> cases k <;> simp [cks, ck, kdOf, srcOk, hOk, cOk, kB, *]
    rcases qx with rfl | rfl | rfl <;> rcases qy with rfl | rfl | rfl <;> first | exact key _ _ (.inl rfl) (.inl rfl) | exact key _ _ (.inl rfl) (.inr rfl) | exact key _ _ (.inr rfl) (.inl rfl) | exact key _ _ (.inr rfl) (.inr rfl)
  · rw [show ((3 : Int) == 0) = false from rfl, show ((3 : Int) == 1) = false from rfl, show ((3 : Int) == 2) = false from rfl, ifM_f, ifM_f, ifM_f, addL _ _ (by simp)]
    generalize (two % 2 == 1) = k2
    exact ⟨[.lend a true (.th t), .lend b false (.of a), .lend c k2 (.th t), .again, .back b, .fin, .fin, .fin, .fin], rfl, by simp, by cases k2 <;> simp [cks, ck, kdOf, srcOk, hOk, cOk, kB, *]⟩
theorem lfirst_four_eq (n : Nat) (way one two t : Int) (st : List Rw) (a b c : Str) (T : Trio st a b c) (ht : tOk t = true) (hw : 0 ≤ way ∧ way < 4) :
    IsG st (l_law_first_four n [.int way, .int one, .int two, .list [.str a, .str b, .str c], .int t]) := first_four_eq n way one two t st a b c T ht hw
theorem gadget_eq (n : Nat) (d : Dr) (one two : Int) (st : List Rw) (S : Stk d st) (hm : nmd st < 9) : IsG st (m_law_gadget n (.int one) (.int two) (.int (nmd st : Int)) d.enc) := by
  obtain ⟨a0, b0, c0, eh, wa, wb, wc⟩ := hands_eq n d one two (nmd st) hm
  have eh' : l_law_hands n [.int one, .int two, .int (nmd st : Int), d.enc] = _ := eh
  have T := trio_of S hm wa wb wc
  generalize mkS a0 = a at *
  generalize mkS b0 = b at *
  generalize mkS c0 = c at *
  unfold m_law_gadget
  have e0 : idxD d.enc (.int 0) = some (.int d.base) := idl0 _ _
  simp only [consO_some, Option.bind_some, eh', lthI, e0, bnd_some, b2_some, idl0, idl1, idl2, addD_ii, pow9, modD_ii _ _ (show (0 : Int) < 1000000000 by decide), fdivD_ii one 8 (by decide), lD_some, modD_ii _ _ (show (0 : Int) < 2 by decide), kinds2, Option.map_some, modD_ii _ _ (show (0 : Int) < 8 by decide), modD_ii _ _ (show (0 : Int) < 3 by decide), eqD_ii, ordD_ii]
  have t1 : tOk (thI two d.base) = true := decide_eq_true (thI_ok _ _)
  have t2 : tOk ((thI two d.base + 1) % 1000000000) = true := decide_eq_true ⟨Int.emod_nonneg _ (by decide), Int.emod_lt_of_pos _ (by decide)⟩
  have t3 : tOk ((thI two d.base + 2) % 1000000000) = true := decide_eq_true ⟨Int.emod_nonneg _ (by decide), Int.emod_lt_of_pos _ (by decide)⟩
  generalize thI two d.base = t at t1 t2 t3 ⊢
  generalize (t + 1) % 1000000000 = u at t2 ⊢
  generalize (t + 2) % 1000000000 = v at t3 ⊢
  have h8 : 0 ≤ one % 8 ∧ one % 8 < 8 := ⟨Int.emod_nonneg _ (by decide), Int.emod_lt_of_pos _ (by decide)⟩
  generalize one % 8 = way at h8 ⊢
  by_cases c4 : ltI way 4 = true
  · rw [c4, ifM_t]
    exact lfirst_four_eq n way one two t st a b c T t1 ⟨h8.1, of_decide_eq_true c4⟩
  rw [show ltI way 4 = false by simpa using c4, ifM_f]
  have c4' : ¬ way < 4 := fun h => c4 (decide_eq_true h)
  obtain ⟨wa, wb, wc, ka, kb, kc, ab, ac, bc⟩ := T
  have ba := ab.symm
  have ca := ac.symm
  have cb := bc.symm
  generalize (one / 8 % 2 == 1) = k
  have h4 : way = 4 ∨ way = 5 ∨ way = 6 ∨ way = 7 := by omega
  rcases h4 with rfl | rfl | rfl | rfl
  · rw [show ((4 : Int) == 4) = true from rfl, ifM_t]
    obtain ⟨x, hx, qx⟩ := pick3 (.int t) (.int u) (.int v) two
    rw [hx]
    simp only [consO_some, Option.map_some, lD_some, b2_some]
    rw [addL _ _ (by simp), bnd_some, addL _ _ (by simp)]
    have key : ∀ x : Int, tOk x = true → IsG st (some (.list (([.tuple [.str (Str.ofString "pick"), .str c, .tuple [.int t, .int t, .int u, .int u, .int v]]] ++ [.tuple [.str (Str.ofString "lend"), .str a, .str (Str.ofString "write"), .int x], .tuple [.str (Str.ofString "lend"), .str b, .str (kS k), .str c]]) ++ [.tuple [.str (Str.ofString "end")], .tuple [.str (Str.ofString "end")], .tuple [.str (Str.ofString "end")]]))) := by
      intro x hx
      refine ⟨[.pick c [t, t, u, u, v], .lend a true (.th x), .lend b k (.of c), .fin, .fin, .fin], rfl, by simp, ?_⟩
      cases k <;> simp [cks, ck, kdOf, srcOk, hOk, cOk, kB, *]
    rcases qx with rfl | rfl | rfl
    · exact key _ t1
    · exact key _ t2
    · exact key _ t3
  · rw [show ((5 : Int) == 4) = false from rfl, show ((5 : Int) == 5) = true from rfl, ifM_f, ifM_t]
    obtain ⟨x, hx, qx⟩ := pick2 (.str a) (.str b) two
    rw [hx]
    simp only [consO_some, Option.map_some, lD_some, b2_some, bnd_some]
    rw [addL _ _ (by simp)]
    have key : ∀ x : Str, (x = a ∨ x = b) → IsG st (some (.list ([.tuple [.str (Str.ofString "lend"), .str a, .str (Str.ofString "write"), .int t], .tuple [.str (Str.ofString "lend"), .str b, .str (Str.ofString "read"), .str a], .tuple [.str (Str.ofString "either")], .tuple [.str (Str.ofString "back"), .str x]] ++ [.tuple [.str (Str.ofString "or")], .tuple [.str (Str.ofString "look"), .str b], .tuple [.str (Str.ofString "end")], .tuple [.str (Str.ofString "look"), .str a], .tuple [.str (Str.ofString "end")], .tuple [.str (Str.ofString "end")]]))) := by
      intro x hx
      refine ⟨[.lend a true (.th t), .lend b false (.of a), .either, .back x, .or_, .look b, .fin, .look a, .fin, .fin], rfl, by simp, ?_⟩
      rcases hx with rfl | rfl <;> simp [cks, ck, kdOf, srcOk, hOk, cOk, kB, *]
    rcases qx with rfl | rfl
    · exact key _ (.inl rfl)
    · exact key _ (.inr rfl)
  · rw [show ((6 : Int) == 4) = false from rfl, show ((6 : Int) == 5) = false from rfl, show ((6 : Int) == 6) = true from rfl, ifM_f, ifM_f, ifM_t, addL _ _ (by simp)]
    generalize (two % 2 == 1) = k2
    exact ⟨[.lend a k (.th u), .lend b k2 (.th t), .lend c true (.th t), .look b, .fin, .fin, .fin], rfl, by simp, by cases k2 <;> cases k <;> simp [cks, ck, kdOf, srcOk, hOk, cOk, kB, *]⟩
  · rw [show ((7 : Int) == 4) = false from rfl, show ((7 : Int) == 5) = false from rfl, show ((7 : Int) == 6) = false from rfl, ifM_f, ifM_f, ifM_f]
    by_cases c3 : (two % 3 == 0) = true
    · rw [c3, ifM_t]
      exact ⟨[.lend a true (.th t), .back a, .lend b k (.of a), .look b, .fin, .fin], rfl, by simp, by cases k <;> simp [cks, ck, kdOf, srcOk, hOk, cOk, kB, *]⟩
    · rw [show (two % 3 == 0) = false by simpa using c3, ifM_f, addL _ _ (by simp)]
      exact ⟨[.pick c [u, t], .lend a true (.th t), .either, .back a, .or_, .fin, .lend b k (.of c), .look a, .fin, .fin, .fin], rfl, by simp, by cases k <;> simp [cks, ck, kdOf, srcOk, hOk, cOk, kB, *]⟩
theorem lgadget_eq (n : Nat) (d : Dr) (one two : Int) (st : List Rw) (S : Stk d st) (hm : nmd st < 9) : IsG st (l_law_gadget n [.int one, .int two, .int (nmd st : Int), d.enc]) := gadget_eq n d one two st S hm
end Bw
namespace Bw
open PySem Bd
theorem cs_at (cs : List Int) (j : Nat) (h : j < cs.length) : idxD (.list (cs.map PyData.int)) (.int (j : Int)) = some (.int (cs.getD j 0)) := by
  rw [idxD_l, List.getElem?_map, List.getElem?_eq_getElem h]
  simp [h]
theorem addRows (a b : List Rw) (h : a.length + b.length ≤ 100000) : addD (rowsD a) (.list (b.map Rw.enc)) = some (rowsD (a ++ b)) := by
  unfold rowsD
  rw [addL _ _ (by rw [List.length_map, List.length_map]; exact h), List.map_append]
theorem addRows2 (a b : List Rw) (h : a.length + b.length ≤ 100000) : addD (rowsD a) (rowsD b) = some (rowsD (a ++ b)) := addRows a b h
theorem sheet_eq (n : Nat) (d : Dr) (cs : List Int) (k : Nat) (most : Int) (odd : Bool) (hc : cs.length = 3 * k) (hk : k ≤ 60) (hm : 0 < most) : ∃ rows : List Rw, m_law_sheet n (.list (cs.map PyData.int)) d.enc (.int most) (.bool odd) = some (rowsD rows) ∧ cks [] rows = some [] ∧ rows.length ≤ 13 * k := by
  unfold m_law_sheet
  simp only [lD_some, bnd_some, Option.bind_some, lenD_l, List.length_map, b2_some]
  rw [fdivD_ii _ 3 (by decide), Option.bind_some, show (cs.length : Int) / 3 = (k : Int) by omega, rng1_i _ (by omega), bnd_some]
  refine foldO_bndE (Q := fun m => ∃ rows : List Rw, m = some (rowsD rows) ∧ cks [] rows = some [] ∧ rows.length ≤ 13 * k) (fun i s => ∃ rows st, s = (rowsD rows, st.reverse.map Rw.enc) ∧ cks [] rows = some st ∧ Good d st ∧ rows.length ≤ 12 * i ∧ st.length ≤ i) ?_ ⟨[], [], rfl, rfl, ⟨trivial, Nat.zero_le _, Nat.zero_le _⟩, Nat.zero_le _, Nat.zero_le _⟩ ?_
  · rintro i x s hx ⟨rows, st, rfl, hr, g, hl1, hl2⟩
    obtain ⟨hi, rfl⟩ := rngL_get hx
    have hi' : i < k := by omega
    have hm9 := g.nm
    simp only [itD_l, b2_some]
    rw [lcG_pureE (enc := Rw.enc) (p := Rw.isN) (g := Rw.enc) (ln100 (by rw [List.length_reverse]; omega)) (fun r _ => by rw [hd0]; simp only [b2_some, consO_some, lD_some]; exact nmd_l r) (fun r _ _ => rfl)]
    rw [show (st.reverse.filter Rw.isN) = nL st from rfl]
    rw [mulD_ii 3 _ (.inl (by decide)), Int.zero_add]
    simp only [lD_some, bnd_some, Option.bind_some, lenD_l, List.length_map, nL_len, b2_some, addD_ii, asB_b]
    rw [show (3 : Int) * (i : Int) = ((3 * i : Nat) : Int) by omega, show ((3 * i : Nat) : Int) + 1 = ((3 * i + 1 : Nat) : Int) by omega, show ((3 * i : Nat) : Int) + 2 = ((3 * i + 2 : Nat) : Int) by omega]
    rw [cs_at cs _ (by omega), cs_at cs _ (by omega), cs_at cs _ (by omega)]
    generalize cs.getD (3 * i) 0 = way
    generalize cs.getD (3 * i + 1) 0 = one
    generalize cs.getD (3 * i + 2) 0 = two
    simp only [bnd_some, b2_some, modD_ii way 2 (by decide), eqD_ii, ordD_ii, andT_ss, consO_some, Option.bind_some, modD_ii way most hm]
    by_cases c : (odd && ((way % 2 == 0) && ltI (nmd st : Int) 3)) = true
    · rw [c, ifM_t]
      have h3 : nmd st < 3 := by
        rw [Bool.and_eq_true, Bool.and_eq_true] at c
        have := of_decide_eq_true c.2.2
        omega
      obtain ⟨gs, e, gl, gc⟩ := lgadget_eq n d one two st g.stk (by omega)
      rw [e]
      simp only [b2_some]
      rw [addRows rows gs (by omega)]
      simp only [bnd_some]
      exact ⟨_, rfl, rows ++ gs, st, rfl, by rw [cks_append, hr]; exact gc, g, by rw [List.length_append]; omega, by omega⟩
    · rw [show (odd && ((way % 2 == 0) && ltI (nmd st : Int) 3)) = false by simpa using c, ifM_f]
      obtain ⟨r, st', e, hck, g'⟩ := lrow_eq n d (way % most) one two st g (by omega)
      rw [e]
      simp only [bnd_some, lD_some, b2_some]
      rw [show PyData.list [r.enc] = .list ([r].map Rw.enc) from rfl, addRows rows [r] (by rw [List.length_singleton]; omega)]
      simp only [bnd_some, hd0, b2_some, opn_l, hdF]
      have hrr : cks [] (rows ++ [r]) = some st' := by rw [cks_append, hr, Option.bind_some, cks_one]; exact hck
      by_cases o : r.opn = true
      · have es := ck_op hck o
        rw [o, ifM_t, appM_some (lt100 (by rw [List.length_map, List.length_reverse]; omega)), bnd_some, bnd_some, isF_opn o, ifM_f]
        simp only [bnd_some]
        refine ⟨_, rfl, rows ++ [r], st', ?_, hrr, g', by rw [List.length_append, List.length_singleton]; omega, by rw [es, List.length_cons]; omega⟩
        rw [es, List.reverse_cons, List.map_append]; rfl
      · rw [show r.opn = false by simpa using o, ifM_f, bnd_some]
        by_cases f : r.isF = true
        · have hf := isF_eq f
          subst hf
          obtain ⟨y, hy⟩ := ck_fin hck
          rw [f, ifM_t, popM_ne (by rw [hy]; simp)]
          simp only [bnd_some]
          refine ⟨_, rfl, rows ++ [.fin], st', ?_, hrr, g', by rw [List.length_append, List.length_singleton]; omega, by rw [hy, List.length_cons] at hl2; omega⟩
          rw [hy, List.reverse_cons, List.map_append]
          show (_, List.dropLast (_ ++ [y.enc])) = _
          rw [List.dropLast_concat]
        · have es := ck_id hck (by simpa using o) (by simpa using f)
          rw [show r.isF = false by simpa using f, ifM_f]
          simp only [bnd_some]
          exact ⟨_, rfl, rows ++ [r], st', by rw [es], hrr, g', by rw [List.length_append, List.length_singleton]; omega, by rw [es]; omega⟩
  · rintro s ⟨rows, st, rfl, hr, g, hl1, hl2⟩
    rw [rngL_length] at hl1 hl2
    simp only [itD_l, consO_some, Option.map_some]
    rw [lcG_mapE (enc := Rw.enc) (g := fun _ => Rw.enc .fin) (ln100 (by rw [List.length_reverse]; omega)) (fun r _ => rfl)]
    rw [lD_some, b2_some, show st.reverse.map (fun _ => Rw.enc .fin) = (List.replicate st.length Rw.fin).map Rw.enc by rw [List.map_const', List.map_replicate, List.length_reverse], addRows _ _ (by rw [List.length_replicate]; omega)]
    refine ⟨_, rfl, by rw [cks_append, hr]; exact cks_fins st, by rw [List.length_append, List.length_replicate]; omega⟩
theorem lsheet_eq (n : Nat) (d : Dr) (cs : List Int) (k : Nat) (most : Int) (odd : Bool) (hc : cs.length = 3 * k) (hk : k ≤ 60) (hm : 0 < most) : ∃ rows : List Rw, l_law_sheet n [.list (cs.map PyData.int), d.enc, .int most, .bool odd] = some (rowsD rows) ∧ cks [] rows = some [] ∧ rows.length ≤ 13 * k := sheet_eq n d cs k most odd hc hk hm
theorem in16 (w : Int) : inD (.int w) (.list [.int 1, .int 6]) = some (decide (1 = w) || (decide (6 = w) || false)) := by
  show memD _ _ = _
  unfold memD
  rw [show (flatD (.int w) && ([PyData.int 1, .int 6]).all flatD) = true from rfl, grd_true]
  rfl
theorem most8 (i : Int) : ∃ m : Int, idxD (.list [.int 12, .int 12, .int 5, .int 10, .int 12, .int 12, .int 10, .int 12]) (.int (i % 8)) = some (.int m) ∧ 0 < m := by
  have h : i % 8 = 0 ∨ i % 8 = 1 ∨ i % 8 = 2 ∨ i % 8 = 3 ∨ i % 8 = 4 ∨ i % 8 = 5 ∨ i % 8 = 6 ∨ i % 8 = 7 := by omega
  rcases h with h | h | h | h | h | h | h | h <;> rw [h] <;> exact ⟨_, rfl, by decide⟩
theorem ifM_int (c : Option Bool) (b : Bool) (hc : c = some b) (x y : Int) : ifM c (some (PyData.int x)) (some (PyData.int y)) = some (PyData.int (if b = true then x else y)) := by
  subst hc; cases b <;> rfl
theorem drawn_eq (n : Nat) (ns : List Int) (most : Int) (hm : 0 < most ∧ most ≤ 40) : ∃ rows : List Rw, m_law_drawn n (sD ns) (.int most) = some (rowsD rows) ∧ cks [] rows = some [] ∧ rows.length ≤ 700 := by
  obtain ⟨dr, hdr⟩ := draw_eq n ns
  have hdr' : l_law_draw n [sD ns] = some dr.enc := hdr
  have c0 : l_law_cell_at n [sD ns, .int 0] = some (.int (cellI ns 0)) := lcell_eq n ns 0 (by decide)
  have c2 : l_law_cell_at n [sD ns, .int 2] = some (.int (cellI ns 2)) := lcell_eq n ns 2 (by decide)
  unfold m_law_drawn
  simp only [consO_some, Option.bind_some, hdr', c0, c2, b2_some, fdivD_ii _ 384 (by decide), modD_ii _ _ (show (0 : Int) < 4 by decide), modD_ii _ _ (show (0 : Int) < 8 by decide), eqD_ii, addD_ii, bnd_some, lD_some, ordD_ii, bD_some]
  generalize cellI ns 0 = x
  generalize cellI ns 2 = y
  rw [ifM_int _ _ rfl, bnd_some]
  have hm2 : 0 < (if (y / 384 % 4 == 3) = true then most + 10 else most) ∧ (if (y / 384 % 4 == 3) = true then most + 10 else most) ≤ 50 := by split <;> omega
  generalize (if (y / 384 % 4 == 3) = true then most + 10 else most) = mo at hm2 ⊢
  rw [modD_ii x mo hm2.1, bnd_some]
  have hx1 := Int.emod_nonneg x (show mo ≠ 0 by omega)
  have hx2 := Int.emod_lt_of_pos x hm2.1
  generalize x % mo = z at hx1 hx2 ⊢
  rw [modD_ii z 6 (by decide), bnd_some, ifM_int _ _ rfl, bnd_some]
  have hz : 0 ≤ (if gtI (y % 8) 3 = true then z % 6 else z) ∧ (if gtI (y % 8) 3 = true then z % 6 else z) < 50 := by split <;> omega
  generalize (if gtI (y % 8) 3 = true then z % 6 else z) = z2 at hz ⊢
  obtain ⟨k, rfl⟩ := Int.eq_ofNat_of_zero_le hz.1
  rw [mulD_ii 3 _ (.inl (by decide)), Option.bind_some, rng1_i _ (by omega), show ((3 : Int) * (k : Int)).toNat = 3 * k by omega]
  rw [show rngL 0 (3 * k) = (List.range (3 * k)).map fun (i : Nat) => PyData.int (0 + (i : Int)) from rfl]
  rw [lcG_mapE (g := fun i : Nat => PyData.int (cellI ns (3 + i))) (ln100 (by rw [List.length_range]; omega)) (fun i _ => by
    rw [addD_ii, consO_some, consO_some, Option.bind_some, lcell_eq n ns _ (by omega), show ((3 : Int) + (0 + (i : Int))).toNat = 3 + i by omega])]
  rw [lD_some, bnd_some, show (List.range (3 * k)).map (fun i : Nat => PyData.int (cellI ns (3 + i))) = ((List.range (3 * k)).map fun i : Nat => cellI ns (3 + i)).map PyData.int by rw [List.map_map]; rfl]
  obtain ⟨mm, em, pm⟩ := most8 y
  rw [em]
  obtain ⟨rows, e, hr, hl⟩ := lsheet_eq n dr ((List.range (3 * k)).map fun i : Nat => cellI ns (3 + i)) k mm (gtI (y % 8) 3) (by rw [List.length_map, List.length_range]) (by omega) pm
  rw [consO_some, consO_some, consO_some, Option.bind_some, e, bnd_some]
  rw [in16, show lenD (rowsD rows) = some (.int rows.length) by unfold rowsD; rw [lenD_l, List.length_map], b2_some, ordD_ii, andT_ss]
  by_cases c : ((decide (1 = y % 8) || (decide (6 = y % 8) || false)) && ltI (rows.length : Int) 21) = true
  · rw [Bool.and_eq_true] at c
    have h21 := of_decide_eq_true c.2
    rw [c.1, c.2, Bool.true_and, ifM_t]
    have l2 : (rows ++ rows).length = rows.length + rows.length := List.length_append
    have l3 : (rows ++ rows ++ rows).length = rows.length + rows.length + rows.length := by rw [List.length_append, l2]
    have q : ∀ a : List Rw, cks [] a = some [] → cks [] (a ++ rows) = some [] := fun a ha => by rw [cks_append, ha]; exact hr
    rw [addRows2 rows rows (by omega), b2_some, addRows2 (rows ++ rows) rows (by omega), b2_some, addRows2 (rows ++ rows ++ rows) rows (by omega), bnd_some, bnd_some]
    exact ⟨_, rfl, q _ (q _ (q _ hr)), by rw [List.length_append, l3]; omega⟩
  · rw [show ((decide (1 = y % 8) || (decide (6 = y % 8) || false)) && ltI (rows.length : Int) 21) = false by simpa using c, ifM_f]
    exact ⟨rows, rfl, hr, by omega⟩
theorem ldrawn_eq (n : Nat) (ns : List Int) (most : Int) (hm : 0 < most ∧ most ≤ 40) : ∃ rows : List Rw, l_law_drawn n [sD ns, .int most] = some (rowsD rows) ∧ cks [] rows = some [] ∧ rows.length ≤ 700 := drawn_eq n ns most hm
end Bw
/-! ### what == may see of rows -/
namespace Bd
open PySem
theorem foldF_bnd {ι S α : Type} {f : ι → S → Option (Fl S α)} {ds : List ι} {s : S} {k : S → Option α} {R : Option α} (P : Nat → S → Prop) (hs : ∀ i d s, ds[i]? = some d → P i s → ∃ s', f d s = some (.nx s') ∧ P (i + 1) s') (h0 : P 0 s) (hk : ∀ s', P ds.length s' → k s' = R) : bnd (foldF f ds s) (flQ k) = R := by
  induction ds generalizing P s with
  | nil => exact hk s h0
  | cons d r ih =>
    obtain ⟨s1, e1, p1⟩ := hs 0 d s rfl h0
    show bnd ((f d s).bind _) _ = _
    rw [e1]
    exact ih (P := fun i => P (i + 1)) (fun i d s hd p => hs (i + 1) d s (by simpa using hd) p) p1 hk
end Bd
namespace Bw
open PySem Bd
theorem wOk_str {w : Str} (h : wOk w = true) : PyData.strOk w = true := by
  unfold wOk at h
  rw [Bool.and_eq_true] at h
  have h2 := List.all_eq_true.mp h.2
  unfold PyData.strOk
  rw [← Array.all_toList]
  rw [List.all_eq_true]
  intro c hc
  have := of_decide_eq_true (h2 c hc)
  simp only [decide_eq_true_eq]
  omega
def stOk (st : List Rw) : Prop := ∀ r ∈ st, r.isN = true → wOk r.nm = true
theorem kd_word : ∀ {st : List Rw} {w : Str} {k : Kd}, stOk st → kdOf st w = some k → wOk w = true
  | [], _, _, _, h => by cases h
  | q :: st, w, k, S, h => by
    by_cases hq : q.isN = true ∧ q.nm = w
    · rw [← hq.2]; exact S q List.mem_cons_self hq.1
    · rw [kd_skip (fun a b => hq ⟨a, b⟩)] at h
      exact kd_word (fun r hr => S r (List.mem_cons_of_mem _ hr)) h
theorem hd_ok (r : Rw) : PyData.strOk r.hd = true := by
  generalize hx : r.hd = x; cases r <;> simp only [Rw.hd] at hx <;> subst hx <;> decide +kernel
theorem kS_ok (b : Bool) : PyData.strOk (kS b) = true := by
  unfold kS; cases b <;> decide +kernel
theorem if_c {α : Type} {c : Prop} [Decidable c] {a b : α} (h : (if c then some a else none) = some b) : c := (if_some h).1
theorem rw_sh {st st' : List Rw} {r : Rw} (S : stOk st) (h : ck st r = some st') : shD 2 r.enc ∧ stOk st' := by
  have base : ∀ tl : List D, (∀ x ∈ tl, shD 1 x) → r.tl = tl → shD 2 r.enc := fun tl ht e => by
    unfold Rw.enc
    rw [e]
    refine shD_tup fun x hx => ?_
    cases hx with
    | head => exact shD_str _ (hd_ok r)
    | tail _ hx => exact ht x hx
  have one : ∀ w : Str, wOk w = true → r.tl = [.str w] → shD 2 r.enc := fun w hw e => base [.str w] (fun x hx => by rw [List.mem_singleton.mp hx]; exact shD_str _ (wOk_str hw)) e
  cases r with
  | lend w b s =>
    obtain ⟨hc, rfl⟩ := if_some h
    simp only [Bool.and_eq_true] at hc
    obtain ⟨hw, _, hs⟩ := hc
    refine ⟨base _ (fun x hx => ?_) rfl, fun q hq hn => ?_⟩
    · have hx : x ∈ [PyData.str w, .str (kS b), s.enc] := hx
      simp only [List.mem_cons, List.not_mem_nil, or_false] at hx
      rcases hx with rfl | rfl | rfl
      · exact shD_str _ (wOk_str hw)
      · exact shD_str _ (kS_ok b)
      · cases s with
        | th t => exact shD_int _ _
        | of v =>
          cases hk : kdOf st v with
          | none => simp only [srcOk, hk] at hs; cases hs
          | some k => exact shD_str _ (wOk_str (kd_word S hk))
    · cases hq with
      | head => exact hw
      | tail _ hq => exact S q hq hn
  | pick w ts =>
    obtain ⟨hc, rfl⟩ := if_some h
    simp only [Bool.and_eq_true] at hc
    obtain ⟨hw, _⟩ := hc
    refine ⟨base _ (fun x hx => ?_) rfl, fun q hq hn => ?_⟩
    · have hx : x ∈ [PyData.str w, .tuple (ts.map PyData.int)] := hx
      simp only [List.mem_cons, List.not_mem_nil, or_false] at hx
      rcases hx with rfl | rfl
      · exact shD_str _ (wOk_str hw)
      · exact shD_tup fun y hy => by
          obtain ⟨t, _, rfl⟩ := List.mem_map.mp hy
          exact shD_int _ _
    · cases hq with
      | head => exact hw
      | tail _ hq => exact S q hq hn
  | either => cases h; exact ⟨base [] (fun x hx => by cases hx) rfl, fun q hq hn => by cases hq with | head => cases hn | tail _ hq => exact S q hq hn⟩
  | again => cases h; exact ⟨base [] (fun x hx => by cases hx) rfl, fun q hq hn => by cases hq with | head => cases hn | tail _ hq => exact S q hq hn⟩
  | or_ => exact ⟨base [] (fun x hx => by cases hx) rfl, by rw [ck_id h rfl rfl]; exact S⟩
  | fin =>
    obtain ⟨x, rfl⟩ := ck_fin h
    exact ⟨base [] (fun x hx => by cases hx) rfl, fun q hq hn => S q (List.mem_cons_of_mem _ hq) hn⟩
  | look w =>
    obtain ⟨hc, rfl⟩ := if_some h
    simp only [Bool.and_eq_true] at hc
    exact ⟨one w hc.1 rfl, S⟩
  | back w =>
    obtain ⟨hc, rfl⟩ := if_some h
    simp only [Bool.and_eq_true] at hc
    exact ⟨one w hc.1 rfl, S⟩
  | change w =>
    obtain ⟨hc, rfl⟩ := if_some h
    simp only [Bool.and_eq_true] at hc
    exact ⟨one w hc.1 rfl, S⟩
theorem rows_sh : ∀ {rows st st' : List Rw}, stOk st → cks st rows = some st' → ∀ r ∈ rows, shD 2 r.enc
  | [], _, _, _, _, _, h => by cases h
  | q :: rows, st, st', S, h, r, hr => by
    have h' : (ck st q).bind (fun t => cks t rows) = some st' := h
    cases hq : ck st q with
    | none => rw [hq] at h'; cases h'
    | some t =>
      rw [hq] at h'
      obtain ⟨a, b⟩ := rw_sh S hq
      cases hr with
      | head => exact a
      | tail _ hr => exact rows_sh b h' r hr
theorem sh_of {rows : List Rw} (h : cks [] rows = some []) : ∀ r ∈ rows, shD 2 r.enc := rows_sh (fun _ h => by cases h) h
theorem rows_self {rows : List Rw} (h : cks [] rows = some []) : eqD (rowsD rows) (rowsD rows) = some true :=
  eqD_refl ((shD_list (k := 2) fun x hx => by
    obtain ⟨r, hr, rfl⟩ := List.mem_map.mp hx
    exact sh_of h r hr).ok (by decide))
theorem ints_self (is : List Int) : eqD (.list (is.map PyData.int)) (.list (is.map PyData.int)) = some true :=
  eqD_refl ((shD_list (k := 0) fun x hx => by
    obtain ⟨r, _, rfl⟩ := List.mem_map.mp hx
    exact shD_int _ _).ok (by decide))
theorem ints_ne (is : List Int) : neD (.list (is.map PyData.int)) (.list (is.map PyData.int)) = some false := by
  unfold neD; rw [ints_self]; rfl
def hmJ (rows : List Rw) : List Int := (List.range rows.length).map (hmI rows)
def enJ (rows : List Rw) : List Int := (List.range rows.length).map (enI rows)
def brJ (rows : List Rw) (h : Nat) : List Int := ((h : Int) + 1) :: ((List.range rows.length).filter (atO rows h)).map fun (p : Nat) => (p : Int) + 1
theorem hmJ_eq (rows : List Rw) : hmL rows = (hmJ rows).map PyData.int := by unfold hmL hmJ; rw [List.map_map]; rfl
theorem enJ_eq (rows : List Rw) : enLs rows = (enJ rows).map PyData.int := by unfold enLs enJ; rw [List.map_map]; rfl
theorem brJ_eq (rows : List Rw) (h : Nat) : brL rows h = (brJ rows h).map PyData.int := by unfold brL brJ; rw [List.map_cons, List.map_map]; rfl
theorem brJ_len (rows : List Rw) (h : Nat) : (brJ rows h).length ≤ rows.length + 1 := by
  unfold brJ
  rw [List.length_cons, List.length_map]
  have := List.length_filter_le (atO rows h) (List.range rows.length)
  rw [List.length_range] at this
  omega
theorem hmJ_len (rows : List Rw) : (hmJ rows).length = rows.length := by unfold hmJ; rw [List.length_map, List.length_range]
theorem enJ_len (rows : List Rw) : (enJ rows).length = rows.length := by unfold enJ; rw [List.length_map, List.length_range]
theorem zip_self {α : Type} : ∀ l : List α, List.zip l l = l.map fun x => (x, x)
  | [] => rfl
  | x :: l => by rw [List.zip_cons_cons, zip_self l]; rfl
end Bw
namespace Bw
open PySem Bd
theorem rows_alike_eq (n : Nat) (rows : List Rw) (h : cks [] rows = some []) (hl : rows.length ≤ 10000) : l_law_rows_alike n [rowsD rows, rowsD rows] = some (.bool true) := by
  show m_law_rows_alike n (rowsD rows) (rowsD rows) = _
  unfold m_law_rows_alike rowsD
  simp only [Option.map_some, isLst_l, notT_s, Bool.not_true, orT_f, Option.bind_some, lenD_l, b2_some, neD_ii, listD_l]
  rw [show List.zip (rows.map Rw.enc) (rows.map Rw.enc) = rows.map fun r => (r.enc, r.enc) by rw [zip_self, List.map_map]; rfl]
  rw [lcG_mapE (enc := fun r : Rw => (r.enc, r.enc)) (g := fun _ => .bool true) (ln100 (by omega)) (fun r hr => by
    simp only [Option.map_some, b2_some]
    rw [eqD_refl ((sh_of h r hr).ok (by decide)), bD_some, show isTup r.enc = true from rfl, andV_t])]
  rw [lD_some, Option.bind_some, show rows.map (fun _ => PyData.bool true) = (rows.map fun _ => true).map PyData.bool by rw [List.map_map]; rfl, allB_map, show (rows.map fun _ => true).all id = true by rw [List.all_map]; exact List.all_eq_true.mpr fun _ _ => rfl]
  rw [show ((rows.map Rw.enc).length : Int) == ((rows.map Rw.enc).length : Int) from by simp]
  simp
end Bw
namespace Bw
open PySem Bd
theorem law_choices_eq (n : Nat) (ns : List Int) (hn : ns.length ≤ 63) : l_law_choices n [sD ns] = some (.list (((ns.reverse.take 20).map fun c => c % 60).map PyData.int)) := by
  show m_law_choices n (sD ns) = _
  unfold m_law_choices
  rw [obs, show revD (sD ns) = some ((ns.reverse).map PyData.int) by unfold sD; show some (ns.map PyData.int).reverse = _; rw [List.map_reverse]]
  simp only [lD_some, obs, asI_i, oms, slcD_s, cutD_l, itD_l]
  rw [show cutL (ns.reverse.map PyData.int) none (some (20 : Int)) = (ns.reverse.map PyData.int).take 20 from cutL_to _ 20, ← List.map_take]
  rw [lcG_mapE (enc := PyData.int) (g := fun c => .int (c % 60)) (ln100 (by rw [List.length_take, List.length_reverse]; omega)) (fun c _ => by rw [b2_some, modD_ii _ _ (by decide)]), lD_some, List.map_map]
  rfl
end Bw
/-! ### entries -/
namespace Bw
open PySem Bd
structure Ent where
  w : Str
  k : Str
  t : Int
  s : Str
  o : Bool
def Ent.enc (e : Ent) : D := .tuple [.str e.w, .str e.k, .int e.t, .str e.s, .bool e.o]
def Ent.ok (e : Ent) : Prop := PyData.strOk e.w = true ∧ PyData.strOk e.k = true ∧ PyData.strOk e.s = true
theorem Ent.sh {e : Ent} (h : e.ok) : shD 1 e.enc := shD_tup fun x hx => by
  simp only [List.mem_cons, List.not_mem_nil, or_false] at hx
  rcases hx with rfl | rfl | rfl | rfl | rfl
  · exact shD_str _ h.1
  · exact shD_str _ h.2.1
  · exact shD_int _ _
  · exact shD_str _ h.2.2
  · exact shD_bool _ _
def heldD (es : List Ent) : D := .tuple (es.map Ent.enc)
def entsD (es : List Ent) : D := .list (es.map Ent.enc)
theorem entsD_eq {es : List Ent} (h : ∀ e ∈ es, e.ok) : eqD (entsD es) (entsD es) = some true :=
  eqD_refl ((shD_list (k := 1) fun x hx => by
    obtain ⟨e, he, rfl⟩ := List.mem_map.mp hx
    exact Ent.sh (h e he)).ok (by decide))
theorem entsD_ne {es : List Ent} (h : ∀ e ∈ es, e.ok) : neD (entsD es) (entsD es) = some false := by
  unfold neD
  rw [entsD_eq h]; rfl
/-- lent from and out -/
def aslp (es : List Ent) (w : Str) : Bool := es.any fun e => e.o && decide (e.s = w)
def isPick (e : Ent) : Bool := decide (e.k = Str.ofString "pick")
def wake (es : List Ent) (e : Ent) : Bool := !isPick e && e.o && !aslp es e.w
end Bw
namespace Bw
open PySem Bd
theorem is_asleep_eq (n : Nat) (es : List Ent) (w : Str) (hl : es.length ≤ 1000) : m_is_asleep n (heldD es) (.str w) = some (.bool (aslp es w)) := by
  unfold m_is_asleep heldD
  rw [Option.bind_some, itD_t, lcG_mapE (g := fun e : Ent => .bool (e.o && decide (e.s = w))) (ln100 (by omega))]
  · rw [lD_some, Option.bind_some, show es.map (fun e : Ent => PyData.bool (e.o && decide (e.s = w))) = (es.map fun e : Ent => (e.o && decide (e.s = w))).map PyData.bool by rw [List.map_map]; rfl, anyB_map]
    unfold aslp
    simp only [List.any_map]
    rfl
  · intro e _
    unfold Ent.enc
    simp only [b2_some, idt4, idt3, eqD_ss, bD_some, andV_ss]
theorem lis_asleep_eq (n : Nat) (es : List Ent) (w : Str) (hl : es.length ≤ 1000) : l_is_asleep n [heldD es, .str w] = some (.bool (aslp es w)) := is_asleep_eq n es w hl
theorem wake_list (n : Nat) (es : List Ent) (hl : es.length ≤ 1000) (f : D → List D → Option (List D))
    (hf : ∀ e acc, acc.length < LN → f (Ent.enc e) acc = some (if wake es e then acc ++ [e.enc] else acc)) : foldO f (es.map Ent.enc) [] = some ((es.filter (wake es)).map Ent.enc) := by
  rw [foldO_map]
  exact foldO_filter (p := wake es) (g := Ent.enc) (ln100 (by omega)) fun e _ acc ha => hf e acc ha
theorem wake_turn (n : Nat) (es : List Ent) (hl : es.length ≤ 1000) (e : Ent) (acc : List D) (ha : acc.length < LN) :
    (ifM (andT (b2 neD (b2 idxD (some e.enc) (some (.int 1))) (some (.str "pick"))) (andT ((b2 idxD (some e.enc) (some (.int 4))).bind asB) (notT (((consO (some (heldD es)) (consO (b2 idxD (some e.enc) (some (.int 0))) (some []))).bind (l_is_asleep n)).bind asB)))) (bnd ((some e.enc).bind (appM acc)) fun u_found => (some u_found)) (some acc)) = some (if wake es e then acc ++ [e.enc] else acc) := by
  rw [Option.bind_some (f := appM acc), appM_some ha]
  unfold Ent.enc
  simp only [b2_some, idt1, idt4, idt0, neD_ss, consO_some, Option.bind_some, asB_b, bnd_some]
  rw [lis_asleep_eq n es e.w hl]
  simp only [Option.bind_some, asB_b, notT_s, andT_ss]
  rw [ifM_ss]
  unfold wake isPick
  simp only [Bool.and_assoc]
/-- the law's own: the awake ones -/
theorem law_awake_eq (n : Nat) (es : List Ent) (hl : es.length ≤ 1000) : m_law_awake n (heldD es) = some (entsD (es.filter (wake es))) := by
  unfold m_law_awake heldD entsD
  rw [Option.bind_some, itD_t]
  rw [lcG_pureE (p := fun e : Ent => e.o) (g := fun e : Ent => .str e.s) (ln100 (by omega)) (fun e _ => by unfold Ent.enc; simp only [b2_some, idt4, Option.bind_some, asB_b]) (fun e _ _ => by unfold Ent.enc; simp only [b2_some, idt3])]
  rw [lD_some, bnd_some]
  rw [lcG_pureE (p := fun e : Ent => !isPick e && e.o) (g := Ent.enc) (ln100 (by omega)) (fun e _ => by unfold Ent.enc; simp only [b2_some, idt4, idt1, neD_ss, Option.bind_some, asB_b, andT_ss]; rfl) (fun e _ _ => rfl)]
  rw [lD_some, bnd_some, Option.bind_some, itD_l]
  rw [lcG_pureE (p := fun e : Ent => !aslp es e.w) (g := Ent.enc) (ln100 (by
    have := List.length_filter_le (fun e : Ent => !isPick e && e.o) es
    omega)) (fun e _ => ?_) (fun e _ _ => rfl), lD_some, List.filter_filter]
  · congr 3
    apply List.filter_congr
    intro e _
    unfold wake
    cases isPick e <;> cases e.o <;> cases aslp es e.w <;> rfl
  · unfold Ent.enc
    simp only [b2_some, idt0]
    show (memD _ _).map _ = _
    unfold memD
    rw [show (flatD (.str e.w) && (((es.filter fun e : Ent => e.o).map fun e : Ent => PyData.str e.s)).all flatD) = true by
      simp [flatD, List.all_map, Function.comp_def]]
    simp only [grd_true, Option.map_some, Option.some.injEq]
    congr 1
    unfold aslp
    rw [List.any_map, List.any_filter]
    congr 1
theorem awake_eq (n : Nat) (es : List Ent) (hl : es.length ≤ 1000) : m_awake n (heldD es) = some ((es.filter (wake es)).map Ent.enc) := by
  unfold m_awake
  rw [bnd_some, Option.bind_some (a := heldD es), show itD (heldD es) = some (es.map Ent.enc) from rfl, bnd_some]
  rw [wake_list n es hl _ (fun e acc ha => by rw [wake_turn n es hl e acc ha, bnd_some])]
  rfl
theorem lawake_eq (n : Nat) (es : List Ent) (hl : es.length ≤ 1000) : l_awake n [heldD es] = some ((es.filter (wake es)).map Ent.enc) := awake_eq n es hl
end Bw
/-! ### standings, steps, runs -/
namespace Bw
open PySem Bd
def pickS : Str := Str.ofString "pick"
def noS : Str := Str.ofString ""
def Rw.ks : Rw → Str
  | .lend _ b _ => kS b
  | _ => pickS
structure HI (st : List Rw) (held : List Ent) : Prop where
  key : held.map (fun e => (e.w, e.k)) = (nL st).map fun r => (r.nm, r.ks)
  pk : ∀ e ∈ held, isPick e = true → e.s = noS ∧ e.o = true
  ok : ∀ e ∈ held, e.ok
def names (st : List Rw) : List Str := (nL st).map Rw.nm
theorem nL_cons (r : Rw) (st : List Rw) : nL (r :: st) = if r.isN = true then nL st ++ [r] else nL st := by
  unfold nL
  rw [List.reverse_cons, List.filter_append, List.filter_cons]
  split
  · rfl
  · rw [List.filter_nil, List.append_nil]
theorem kd_none : ∀ {st : List Rw} {w : Str}, kdOf st w = none → w ∉ names st
  | [], _, _, h => by cases h
  | q :: st, w, hk, h => by
    by_cases hq : q.isN = true ∧ q.nm = w
    · rw [← hq.2, kd_hit hq.1] at hk; cases hk
    · have hk' := hk
      rw [kd_skip (fun a b => hq ⟨a, b⟩)] at hk'
      unfold names at h
      rw [nL_cons] at h
      split at h
      · rename_i hn
        rw [List.map_append, List.mem_append] at h
        rcases h with h | h
        · exact kd_none hk' h
        · rw [List.map_cons, List.map_nil, List.mem_singleton] at h
          exact hq ⟨hn, h.symm⟩
      · exact kd_none hk' h
theorem kd_some : ∀ {st : List Rw} {w : Str} {k : Kd}, kdOf st w = some k → ∃ r ∈ nL st, r.nm = w ∧ r.kd = k
  | [], _, _, h => by cases h
  | q :: st, w, k, hk => by
    by_cases hq : q.isN = true ∧ q.nm = w
    · rw [← hq.2, kd_hit hq.1] at hk
      refine ⟨q, ?_, hq.2, Option.some.inj hk⟩
      rw [nL_cons, if_pos hq.1]
      exact List.mem_append_right _ (List.mem_singleton.mpr rfl)
    · rw [kd_skip (fun a b => hq ⟨a, b⟩)] at hk
      obtain ⟨r, hr, e⟩ := kd_some hk
      refine ⟨r, ?_, e⟩
      rw [nL_cons]
      split
      · exact List.mem_append_left _ hr
      · exact hr
theorem names_op {st : List Rw} {r : Rw} (hn : r.isN = true) : names (r :: st) = names st ++ [r.nm] := by
  unfold names
  rw [nL_cons, if_pos hn, List.map_append]; rfl
theorem names_no {st : List Rw} {r : Rw} (hn : r.isN = false) : names (r :: st) = names st := by
  unfold names
  rw [nL_cons, if_neg (by rw [hn]; simp)]
theorem nodup_app {α : Type} {l : List α} {a : α} (h : l.Nodup) (n : a ∉ l) : (l ++ [a]).Nodup := by
  rw [List.nodup_append]
  exact ⟨h, by simp, fun x hx y hy e => by rw [List.mem_singleton.mp hy] at e; exact n (e ▸ hx)⟩
theorem ck_free {st st' : List Rw} {r : Rw} (h : ck st r = some st') (hn : r.isN = true) : kdOf st r.nm = none ∧ wOk r.nm = true := by
  cases r with
  | lend w b s =>
    have hc := if_c h
    simp only [Bool.and_eq_true, Option.isNone_iff_eq_none] at hc
    exact ⟨hc.2.1, hc.1⟩
  | pick w ts =>
    have hc := if_c h
    simp only [Bool.and_eq_true, Option.isNone_iff_eq_none] at hc
    exact ⟨hc.2.1, hc.1⟩
  | _ => cases hn
theorem ck_nodup {st st' : List Rw} {r : Rw} (h : ck st r = some st') (S : (names st).Nodup ∧ stOk st) : (names st').Nodup ∧ stOk st' := by
  refine ⟨?_, (rw_sh S.2 h).2⟩
  by_cases o : r.opn = true
  · rw [ck_op h o]
    by_cases hn : r.isN = true
    · rw [names_op hn]
      exact nodup_app S.1 (kd_none (ck_free h hn).1)
    · rw [names_no (by simpa using hn)]
      exact S.1
  · by_cases f : r.isF = true
    · have hf := isF_eq f
      subst hf
      obtain ⟨x, rfl⟩ := ck_fin h
      by_cases hn : x.isN = true
      · have := S.1
        rw [names_op hn, List.nodup_append] at this
        exact this.1
      · have := S.1
        rw [names_no (by simpa using hn)] at this
        exact this
    · rw [ck_id h (by simpa using o) (by simpa using f)]
      exact S.1
theorem stk_zero (rows : List Rw) : stk rows 0 = [] := rfl
theorem stk_good {rows : List Rw} (h : cks [] rows = some []) : ∀ p, p ≤ rows.length → (names (stk rows p)).Nodup ∧ stOk (stk rows p)
  | 0, _ => ⟨List.nodup_nil, fun _ h => by cases h⟩
  | p + 1, hp => by
    have ih := stk_good h p (by omega)
    have hr := List.getElem?_eq_getElem (show p < rows.length by omega)
    exact ck_nodup (cks_at h hr) ih
theorem HI.names {st : List Rw} {held : List Ent} (H : HI st held) : held.map Ent.w = Bw.names st := by
  have := congrArg (List.map Prod.fst) H.key
  rw [List.map_map, List.map_map] at this
  exact this
theorem HI.len {st : List Rw} {held : List Ent} (H : HI st held) : held.length = nmd st := by
  have := congrArg List.length H.key
  rw [List.length_map, List.length_map, nL_len] at this
  exact this
theorem HI.find {st : List Rw} {held : List Ent} (H : HI st held) {r : Rw} (h : r ∈ nL st) : ∃ e ∈ held, e.w = r.nm ∧ e.k = r.ks := by
  have : (r.nm, r.ks) ∈ held.map (fun e => (e.w, e.k)) := by rw [H.key]; exact List.mem_map.mpr ⟨r, h, rfl⟩
  obtain ⟨e, he, q⟩ := List.mem_map.mp this
  exact ⟨e, he, congrArg Prod.fst q, congrArg Prod.snd q⟩
theorem nd_inj {held : List Ent} (N : (held.map Ent.w).Nodup) {a b : Ent} (ha : a ∈ held) (hb : b ∈ held) (e : a.w = b.w) : a = b := by
  induction held with
  | nil => cases ha
  | cons x t ih =>
    rw [List.map_cons, List.nodup_cons] at N
    cases ha with
    | head => cases hb with
      | head => rfl
      | tail _ hb => exact absurd (List.mem_map.mpr ⟨b, hb, e.symm⟩) N.1
    | tail _ ha => cases hb with
      | head => exact absurd (List.mem_map.mpr ⟨a, ha, e⟩) N.1
      | tail _ hb => exact ih N.2 ha hb
/-- an entry lent -/
def entOf (held : List Ent) (w : Str) : Option Ent := held.find? fun e => decide (e.w = w)
def lentT (held : List Ent) (w : Str) (b : Bool) : Src → Ent
  | .th t => ⟨w, kS b, t, noS, true⟩
  | .of v => match entOf held v with
    | some h => if isPick h = true then ⟨w, kS b, h.t, noS, true⟩ else ⟨w, kS b, h.t, v, h.o⟩
    | none => ⟨w, kS b, 0, noS, true⟩
def backG (w : Str) (s : List Str × List Ent) (e : Ent) : List Str × List Ent :=
  if (decide (e.w = w) || decide (e.s ∈ s.1)) = true then (s.1 ++ [e.w], s.2 ++ [{ e with o := false }]) else (s.1, s.2 ++ [e])
def backT (held : List Ent) (w : Str) : List Ent := (held.foldl (backG w) ([w], [])).2
def hmN (rows : List Rw) (p : Nat) : Nat := (sk rows p).headD 0
def enN (rows : List Rw) (h : Nat) : Nat := (enI rows h).toNat
def brN (rows : List Rw) (h : Nat) : List Nat := (h + 1) :: ((List.range rows.length).filter (atO rows h)).map (· + 1)
def stepT (rows : List Rw) (p : Nat) (held : List Ent) (c : Int) : Nat × List Ent :=
  match rows[p]? with
  | some (.lend w b s) => (p + 1, held ++ [lentT held w b s])
  | some (.pick w ts) => (p + 1, held ++ [⟨w, pickS, ts.getD (c % (ts.length : Int)).toNat 0, noS, true⟩])
  | some .either => ((brN rows p).getD (c % ((brN rows p).length : Int)).toNat 0, held)
  | some .again => if c % 2 = 1 then (p + 1, held) else (enN rows p + 1, held)
  | some .or_ => (enN rows (hmN rows p), held)
  | some .fin => match rows[hmN rows p]? with
    | some .again => (hmN rows p, held)
    | some .either => (p + 1, held)
    | _ => (p + 1, held.dropLast)
  | some (.back w) => (p + 1, backT held w)
  | _ => (p + 1, held)
theorem backG_keys (w : Str) : ∀ (es : List Ent) (s : List Str × List Ent), (es.foldl (backG w) s).2.map (fun e => (e.w, e.k)) = s.2.map (fun e => (e.w, e.k)) ++ es.map fun e => (e.w, e.k)
  | [], s => by simp
  | e :: es, s => by
    rw [List.foldl_cons, backG_keys w es]
    unfold backG
    split <;> simp
theorem backG_all (w : Str) (Q : Ent → Prop) (hq : ∀ e, Q e → isPick e = false → Q { e with o := false }) (hp : ∀ e, Q e → isPick e = true → e.s = noS) : ∀ (es : List Ent) (s : List Str × List Ent), (∀ e ∈ es, Q e ∧ (isPick e = true → e.w ≠ w)) → noS ∉ s.1 → (∀ e ∈ es, e.w ≠ noS) → (∀ e ∈ s.2, Q e) → ∀ e ∈ (es.foldl (backG w) s).2, Q e
  | [], s, _, _, _, h => h
  | e :: es, s, h, hn, hw, hs => by
    rw [List.foldl_cons]
    obtain ⟨h1, h2⟩ := h e List.mem_cons_self
    have rest : ∀ x ∈ es, Q x ∧ (isPick x = true → x.w ≠ w) := fun x hx => h x (List.mem_cons_of_mem _ hx)
    have rw' : ∀ x ∈ es, x.w ≠ noS := fun x hx => hw x (List.mem_cons_of_mem _ hx)
    have hw1 : e.w ≠ noS := hw e List.mem_cons_self
    unfold backG
    split
    · rename_i hc
      refine backG_all w Q hq hp es _ rest ?_ rw' ?_
      · intro hm
        rcases List.mem_append.mp hm with hm | hm
        · exact hn hm
        · exact hw1 (List.mem_singleton.mp hm).symm
      · intro x hx
        rcases List.mem_append.mp hx with hx | hx
        · exact hs x hx
        · rw [List.mem_singleton.mp hx]
          refine hq e h1 ?_
          cases hpk : isPick e with
          | false => rfl
          | true =>
            rw [Bool.or_eq_true, decide_eq_true_eq, decide_eq_true_eq, hp e h1 hpk] at hc
            rcases hc with hc | hc
            · exact absurd hc (h2 hpk)
            · exact absurd hc hn
    · refine backG_all w Q hq hp es _ rest hn rw' ?_
      intro x hx
      rcases List.mem_append.mp hx with hx | hx
      · exact hs x hx
      · rw [List.mem_singleton.mp hx]; exact h1
theorem wOk_ne {w : Str} (h : wOk w = true) : w ≠ noS := by
  intro e
  subst e
  revert h
  decide +kernel
theorem HI.wne {st : List Rw} {held : List Ent} (H : HI st held) (S : stOk st) : ∀ e ∈ held, wOk e.w = true := by
  intro e he
  have : e.w ∈ Bw.names st := by rw [← H.names]; exact List.mem_map.mpr ⟨e, he, rfl⟩
  obtain ⟨r, hr, q⟩ := List.mem_map.mp this
  obtain ⟨h1, h2⟩ := nL_mem hr
  rw [← q]
  exact S r h1 h2
/-- given back by a hand -/
theorem HI.back {st : List Rw} {held : List Ent} (H : HI st held) (S : stOk st) {w : Str} (hw : wOk w = true) (hh : ∀ e ∈ held, e.w = w → isPick e = false) : HI st (backT held w) where
  key := by
    unfold backT
    rw [backG_keys, H.key]; rfl
  pk := by
    unfold backT
    refine backG_all w (fun e => isPick e = true → e.s = noS ∧ e.o = true) (fun e h hp h2 => ?_) (fun e h hp => (h hp).1) held ([w], []) (fun e he => ⟨H.pk e he, fun hp hw => by rw [hh e he hw] at hp; cases hp⟩) ?_ (fun e he => wOk_ne (H.wne S e he)) (fun e he => by cases he)
    · have : isPick e = true := h2
      rw [hp] at this; cases this
    · intro hm; exact wOk_ne hw (List.mem_singleton.mp hm).symm
  ok := by
    have key : ∀ (es : List Ent) (s : List Str × List Ent), (∀ e ∈ es, e.ok) → (∀ e ∈ s.2, e.ok) → ∀ e ∈ (es.foldl (backG w) s).2, e.ok := by
      intro es
      induction es with
      | nil => intro s _ h; exact h
      | cons e es ih =>
        intro s h hs
        rw [List.foldl_cons]
        refine ih _ (fun x hx => h x (List.mem_cons_of_mem _ hx)) ?_
        unfold backG
        intro x hx
        split at hx
        · rcases List.mem_append.mp hx with hx | hx
          · exact hs x hx
          · rw [List.mem_singleton.mp hx]; exact h e List.mem_cons_self
        · rcases List.mem_append.mp hx with hx | hx
          · exact hs x hx
          · rw [List.mem_singleton.mp hx]; exact h e List.mem_cons_self
    exact key held ([w], []) H.ok (fun e he => by cases he)
theorem HI.push {st : List Rw} {held : List Ent} (H : HI st held) {r : Rw} (hn : r.isN = true) {e : Ent} (k : (e.w, e.k) = (r.nm, r.ks)) (p : isPick e = true → e.s = noS ∧ e.o = true) (o : e.ok) : HI (r :: st) (held ++ [e]) where
  key := by rw [nL_cons, if_pos hn, List.map_append, List.map_append, H.key, List.map_cons, List.map_nil, k]; rfl
  pk := fun x hx => by
    rcases List.mem_append.mp hx with hx | hx
    · exact H.pk x hx
    · rw [List.mem_singleton.mp hx]; exact p
  ok := fun x hx => by
    rcases List.mem_append.mp hx with hx | hx
    · exact H.ok x hx
    · rw [List.mem_singleton.mp hx]; exact o
theorem HI.skip {st : List Rw} {held : List Ent} {r : Rw} (hn : r.isN = false) : HI (r :: st) held ↔ HI st held := by
  have e : nL (r :: st) = nL st := by rw [nL_cons, if_neg (by rw [hn]; simp)]
  constructor
  · intro H; exact ⟨by rw [H.key, e], H.pk, H.ok⟩
  · intro H; exact ⟨by rw [H.key, e], H.pk, H.ok⟩
theorem HI.drop {st : List Rw} {held : List Ent} {r : Rw} (H : HI (r :: st) held) (hn : r.isN = true) : HI st held.dropLast where
  key := by rw [List.map_dropLast, H.key, nL_cons, if_pos hn, List.map_append, List.map_cons, List.map_nil, List.dropLast_concat]
  pk := fun x hx => H.pk x (List.dropLast_subset _ hx)
  ok := fun x hx => H.ok x (List.dropLast_subset _ hx)
theorem kS_np (b : Bool) : kS b ≠ pickS := by cases b <;> decide +kernel
theorem noS_ok : PyData.strOk noS = true := by decide +kernel
theorem pickS_ok : PyData.strOk pickS = true := by decide +kernel
theorem np_of {e : Ent} {b : Bool} (h : e.k = kS b) : isPick e = false := by
  unfold isPick
  rw [h]
  exact decide_eq_false (kS_np b)
end Bw
namespace Bw
open PySem Bd
/-! ### where a step leads -/
def mu (rows : List Rw) (p : Nat) : Nat := match rows[p]? with
  | some .again => 2 * (rows.length - enN rows p) - 1
  | _ => 2 * (rows.length - p)
theorem enN_of {rows : List Rw} {h e : Nat} (a : atE rows h e = true) : enN rows h = e := by
  unfold enN
  rw [enI_of a]; rfl
theorem mu_le {rows : List Rw} (N : Nst rows) (p : Nat) : mu rows p ≤ 2 * (rows.length - p) := by
  unfold mu
  split
  · rename_i h
    obtain ⟨e, a⟩ := atE_ex N h rfl
    have := atE_lt a
    rw [enN_of a]; omega
  · exact Nat.le_refl _
theorem mu_ne {rows : List Rw} {p : Nat} {r : Rw} (h : rows[p]? = some r) (g : r.isG = false) : mu rows p = 2 * (rows.length - p) := by
  unfold mu
  rw [h]
  cases r <;> first | rfl | cases g
theorem HI.of_sk {rows : List Rw} {p q : Nat} {held : List Ent} (H : HI (stk rows p) held) (e : sk rows q = sk rows p) : HI (stk rows q) held := by
  have : stk rows q = stk rows p := by unfold stk; rw [e]
  rw [this]; exact H
theorem sk_end {rows : List Rw} {h e : Nat} (a : atE rows h e = true) : sk rows e = h :: sk rows h ∧ sk rows (e + 1) = sk rows h := by
  obtain ⟨a1, b1⟩ := atE_is a
  obtain ⟨t, b1⟩ := head_cons b1
  have b2 := (sk_disc rows e h t b1).2.1
  rw [sk_fin a1 rfl, b1, List.tail_cons]
  exact ⟨by rw [b2], b2.symm⟩
theorem brN_mem {rows : List Rw} {h q : Nat} (hh : h < rows.length) (hE : rows[h]? = some .either) (m : q ∈ brN rows h) : h < q ∧ q ≤ rows.length ∧ sk rows q = sk rows (h + 1) := by
  unfold brN at m
  cases m with
  | head => exact ⟨by omega, by omega, rfl⟩
  | tail _ m =>
    obtain ⟨p, hp, rfl⟩ := List.mem_map.mp m
    obtain ⟨hp1, hp2⟩ := List.mem_filter.mp hp
    have lt := atO_lt hp2
    have hl := List.mem_range.mp hp1
    refine ⟨by omega, by omega, ?_⟩
    unfold atO at hp2
    split at hp2
    · rename_i ho
      obtain ⟨t, b⟩ := head_cons (of_decide_eq_true hp2)
      obtain ⟨_, b2, _⟩ := sk_disc rows p h t b
      rw [sk_id ho rfl rfl, sk_op hE rfl, b, b2]
    · cases hp2
theorem getD_mem {α : Type} {l : List α} {i : Nat} (d : α) (h : i < l.length) : l.getD i d ∈ l := by
  rw [List.getD_eq_getElem?_getD, List.getElem?_eq_getElem h]
  exact List.getElem_mem h
theorem mod_lt {c : Int} {k : Nat} (h : 0 < k) : (c % (k : Int)).toNat < k := by
  have h1 := Int.emod_nonneg c (show (k : Int) ≠ 0 by omega)
  have h2 := Int.emod_lt_of_pos c (show (0 : Int) < (k : Int) by omega)
  omega
theorem brN_pos (rows : List Rw) (h : Nat) : 0 < (brN rows h).length := by unfold brN; rw [List.length_cons]; omega
theorem hOk_kd {st : List Rw} {w : Str} (h : hOk st w = true) : ∃ b, kdOf st w = some (kB b) := by
  cases hk : kdOf st w with
  | none => simp only [hOk, hk] at h; cases h
  | some k =>
    cases k with
    | rd => exact ⟨false, rfl⟩
    | wr => exact ⟨true, rfl⟩
    | pk => simp only [hOk, hk] at h; cases h
theorem cOk_kd {st : List Rw} {w : Str} (h : cOk st w = true) : ∃ b, kdOf st w = some (kB b) := by
  cases hk : kdOf st w with
  | none => simp only [cOk, hk] at h; cases h
  | some k =>
    cases k with
    | rd => simp only [cOk, hk] at h; cases h
    | wr => exact ⟨true, rfl⟩
    | pk => simp only [cOk, hk] at h; cases h
/-- the entry of a hand -/
theorem HI.hand {st : List Rw} {held : List Ent} (H : HI st held) {w : Str} (h : ∃ b, kdOf st w = some (kB b)) : ∃ e ∈ held, e.w = w ∧ isPick e = false := by
  obtain ⟨b, hb⟩ := h
  obtain ⟨r, hr, hn, hk⟩ := kd_some hb
  obtain ⟨e, he, e1, e2⟩ := H.find hr
  refine ⟨e, he, e1.trans hn, ?_⟩
  have h2 := (nL_mem hr).2
  cases r with
  | lend v b' s => exact np_of e2
  | pick v ts => cases b <;> cases hk
  | _ => cases h2
theorem deed_ok {st st' : List Rw} {r : Rw} (h : ck st r = some st') {w : Str} (hr : r = .look w ∨ r = .back w ∨ r = .change w) : wOk w = true ∧ ∃ b, kdOf st w = some (kB b) := by
  rcases hr with rfl | rfl | rfl
  · have hc := if_c h
    rw [Bool.and_eq_true] at hc
    exact ⟨hc.1, hOk_kd hc.2⟩
  · have hc := if_c h
    rw [Bool.and_eq_true] at hc
    exact ⟨hc.1, hOk_kd hc.2⟩
  · have hc := if_c h
    rw [Bool.and_eq_true] at hc
    exact ⟨hc.1, cOk_kd hc.2⟩
theorem ent_find {held : List Ent} {v : Str} {e : Ent} (h : entOf held v = some e) : e ∈ held ∧ e.w = v := by
  unfold entOf at h
  exact ⟨List.mem_of_find?_eq_some h, of_decide_eq_true (List.find?_some (p := fun e : Ent => decide (e.w = v)) h)⟩
theorem src_ent {st : List Rw} {held : List Ent} (H : HI st held) {b : Bool} {v : Str} (h : srcOk st b (.of v) = true) : ∃ e, entOf held v = some e ∧ e ∈ held ∧ e.w = v := by
  cases hk : kdOf st v with
  | none => simp only [srcOk, hk] at h; cases h
  | some k =>
    obtain ⟨r, hr, hn, _⟩ := kd_some hk
    obtain ⟨e, he, e1, _⟩ := H.find hr
    cases hf : entOf held v with
    | none =>
      unfold entOf at hf
      rw [List.find?_eq_none] at hf
      exact absurd (decide_eq_true (e1.trans hn)) (hf e he)
    | some x => exact ⟨x, rfl, ent_find hf⟩
theorem lentT_ok {st : List Rw} {held : List Ent} (H : HI st held) (S : stOk st) {w : Str} {b : Bool} {s : Src} (hw : wOk w = true) (hs : srcOk st b s = true) :
    (lentT held w b s).w = w ∧ (lentT held w b s).k = kS b ∧ (lentT held w b s).ok := by
  cases s with
  | th t => exact ⟨rfl, rfl, wOk_str hw, kS_ok b, noS_ok⟩
  | of v =>
    obtain ⟨e, h1, h2, h3⟩ := src_ent H hs
    have hv : PyData.strOk v = true := by rw [← h3]; exact (H.ok e h2).1
    simp only [lentT, h1]
    split
    · exact ⟨rfl, rfl, wOk_str hw, kS_ok b, noS_ok⟩
    · exact ⟨rfl, rfl, wOk_str hw, kS_ok b, hv⟩
structure StepOk (rows : List Rw) (p : Nat) (c : Int) (r : Rw) (o : Nat × List Ent) : Prop where
  le : o.1 ≤ rows.length
  hi : HI (stk rows o.1) o.2
  mu : (r.isG = true → c % 2 = 0) → mu rows o.1 < mu rows p
theorem stepOk_mk {rows : List Rw} {p : Nat} {c : Int} {r : Rw} {q : Nat} {h : List Ent} (a : q ≤ rows.length) (b : HI (stk rows q) h) (m : (r.isG = true → c % 2 = 0) → mu rows q < mu rows p) : StepOk rows p c r (q, h) := ⟨a, b, m⟩
theorem step_ok {rows : List Rw} (G : cks [] rows = some []) {p : Nat} {held : List Ent} {r : Rw} (hr : rows[p]? = some r) (H : HI (stk rows p) held) (c : Int) : StepOk rows p c r (stepT rows p held c) := by
  have N := nst_of G
  have hp := getD_lt hr
  have hck := cks_at G hr
  obtain ⟨nd, so⟩ := stk_good G p (by omega)
  have fwd : r.isG = false → ∀ q, p < q → q ≤ rows.length → mu rows q < mu rows p := fun g q h1 h2 => by
    have := mu_le N q
    rw [mu_ne hr g]; omega
  unfold stepT
  rw [hr]
  cases r with
  | lend w b s =>
    have hc := if_c hck
    simp only [Bool.and_eq_true, Option.isNone_iff_eq_none] at hc
    obtain ⟨l1, l2, l3⟩ := lentT_ok H so hc.1 hc.2.2
    refine stepOk_mk (by omega) (?_) (fun _ => fwd rfl _ (by omega) (by omega))
    rw [stk_op hr rfl]
    exact H.push rfl (by rw [l1, l2]; rfl) (fun h => by rw [np_of l2] at h; cases h) l3
  | pick w ts =>
    have hc := if_c hck
    simp only [Bool.and_eq_true, Option.isNone_iff_eq_none] at hc
    refine stepOk_mk (by omega) (?_) (fun _ => fwd rfl _ (by omega) (by omega))
    rw [stk_op hr rfl]
    exact H.push rfl rfl (fun _ => ⟨rfl, rfl⟩) ⟨wOk_str hc.1, pickS_ok, noS_ok⟩
  | either =>
    have m := getD_mem 0 (mod_lt (c := c) (brN_pos rows p))
    obtain ⟨m1, m2, m3⟩ := brN_mem hp hr m
    refine stepOk_mk (m2) (?_) (fun _ => fwd rfl _ m1 m2)
    refine HI.of_sk (p := p + 1) ?_ m3
    rw [stk_op hr rfl]
    exact (HI.skip rfl).mpr H
  | again =>
    obtain ⟨e, a⟩ := atE_ex N hr rfl
    have lt := atE_lt a
    have le := getD_lt (atE_is a).1
    by_cases hc : c % 2 = 1
    · simp only [if_pos hc]
      refine stepOk_mk (by omega) (?_) (fun h => by have := h rfl; omega)
      rw [stk_op hr rfl]
      exact (HI.skip rfl).mpr H
    · simp only [if_neg hc]
      rw [enN_of a]
      refine stepOk_mk (by omega) (H.of_sk (sk_end a).2) (fun _ => ?_)
      have := mu_le N (e + 1)
      show mu rows (e + 1) < mu rows p
      have hm : mu rows p = 2 * (rows.length - e) - 1 := by unfold mu; rw [hr]; simp only [enN_of a]
      omega
  | or_ =>
    have hst : ∃ t, stk rows p = .either :: t := by
      cases hs : stk rows p with
      | nil => rw [hs] at hck; cases hck
      | cons x t => rw [hs] at hck; cases x <;> first | exact ⟨t, rfl⟩ | cases hck
    obtain ⟨t, hst⟩ := hst
    cases hs : sk rows p with
    | nil => unfold stk at hst; rw [hs] at hst; cases hst
    | cons h t' =>
      obtain ⟨d1, d2, q, d3, d4⟩ := sk_disc rows p h t' hs
      obtain ⟨e, a⟩ := atE_ex N d3 d4
      have lt := atE_lt a
      have le := getD_lt (atE_is a).1
      have hpe : p < e := by
        apply Classical.byContradiction
        intro hn
        by_cases hpe : p = e
        · subst hpe
          have := (atE_is a).1
          rw [hr] at this; cases this
        · exact gone a p (by omega) (by rw [hs]; exact List.mem_cons_self)
      have hh : hmN rows p = h := by unfold hmN; rw [hs]; rfl
      simp only [hh, enN_of a]
      refine stepOk_mk (by omega) (H.of_sk (by rw [(sk_end a).1, hs, d2])) (fun _ => fwd rfl _ hpe (by omega))
  | fin =>
    cases hs : sk rows p with
    | nil => exact absurd hs (N.pop p hr)
    | cons h t' =>
      obtain ⟨d1, d2, q, d3, d4⟩ := sk_disc rows p h t' hs
      have hh : hmN rows p = h := by unfold hmN; rw [hs]; rfl
      have a : atE rows h p = true := atE_mk hr (by rw [hs]; rfl)
      have hst : stk rows p = q :: stk rows h := by
        unfold stk
        rw [hs, List.filterMap_cons, d3, d2]
      rw [hst] at H
      have hst2 : stk rows (p + 1) = stk rows h := by unfold stk; rw [(sk_end a).2]
      simp only [hh, d3]
      cases q with
      | again =>
        refine stepOk_mk (by omega) ((HI.skip rfl).mp H) (fun _ => ?_)
        show mu rows h < mu rows p
        rw [mu_ne hr rfl]
        have hm : mu rows h = 2 * (rows.length - p) - 1 := by unfold mu; rw [d3]; simp only [enN_of a]
        omega
      | either =>
        refine stepOk_mk (by omega) (?_) (fun _ => fwd rfl _ (by omega) (by omega))
        rw [hst2]; exact (HI.skip rfl).mp H
      | lend w b s =>
        refine stepOk_mk (by omega) (?_) (fun _ => fwd rfl _ (by omega) (by omega))
        rw [hst2]; exact H.drop rfl
      | pick w ts =>
        refine stepOk_mk (by omega) (?_) (fun _ => fwd rfl _ (by omega) (by omega))
        rw [hst2]; exact H.drop rfl
      | _ => cases d4
  | look w => exact stepOk_mk (by omega) (H.of_sk (sk_id hr rfl rfl)) (fun _ => fwd rfl _ (by omega) (by omega))
  | change w => exact stepOk_mk (by omega) (H.of_sk (sk_id hr rfl rfl)) (fun _ => fwd rfl _ (by omega) (by omega))
  | back w =>
    obtain ⟨hw, hb⟩ := deed_ok hck (.inr (.inl rfl))
    obtain ⟨e, he, e1, e2⟩ := H.hand hb
    refine stepOk_mk (by omega) (?_) (fun _ => fwd rfl _ (by omega) (by omega))
    refine HI.of_sk (p := p) ?_ (sk_id hr rfl rfl)
    refine H.back so hw fun x hx hxw => ?_
    have ndw : (held.map Ent.w).Nodup := by rw [H.names]; exact nd
    rw [nd_inj ndw hx he (hxw.trans e1.symm)]
    exact e2
end Bw
namespace Bw
open PySem Bd
/-! ### runs -/
def itW {X : Type} (cond : X → Bool) (step : X → X) : Nat → X → X
  | 0, x => x
  | k + 1, x => if cond x = true then itW cond step k (step x) else x
theorem itW_ok {X : Type} {inv : X → Prop} {cond : X → Bool} {step : X → X} {μ : X → Nat} (hs : ∀ x, inv x → cond x = true → inv (step x) ∧ μ (step x) < μ x) : ∀ (k : Nat) (x : X), inv x → μ x ≤ k → inv (itW cond step k x) ∧ cond (itW cond step k x) = false
  | 0, x, hi, hk => by
    refine ⟨hi, ?_⟩
    cases hc : cond x with
    | false => exact hc
    | true => have := (hs x hi hc).2; omega
  | k + 1, x, hi, hk => by
    show inv (if cond x = true then _ else _) ∧ cond (if cond x = true then _ else _) = false
    by_cases hc : cond x = true
    · rw [if_pos hc]
      obtain ⟨a, b⟩ := hs x hi hc
      exact itW_ok hs k (step x) a (by omega)
    · rw [if_neg hc]
      exact ⟨hi, by simpa using hc⟩
theorem while_sim {X S : Type} {inv : X → Prop} {cond : X → Bool} {step : X → X} {μ : X → Nat} (hs : ∀ x, inv x → cond x = true → inv (step x) ∧ μ (step x) < μ x) {enc : X → S} {c : S → Option Bool} {f : S → Option S}
    (hc : ∀ x, inv x → c (enc x) = some (cond x)) (hf : ∀ x, inv x → cond x = true → f (enc x) = some (enc (step x))) : ∀ (k n : Nat) (x : X), inv x → μ x ≤ k → k < n → whileO c f n (enc x) = some (enc (itW cond step k x))
  | k, 0, _, _, _, h => by omega
  | 0, n + 1, x, hi, hk, hn => by
    have hcx : cond x = false := by
      cases h : cond x with
      | false => rfl
      | true => have := (hs x hi h).2; omega
    show (c (enc x)).bind _ = _
    rw [hc x hi, hcx]; rfl
  | k + 1, n + 1, x, hi, hk, hn => by
    show (c (enc x)).bind _ = some (enc (if cond x = true then _ else _))
    rw [hc x hi]
    by_cases h : cond x = true
    · rw [h, if_pos rfl]
      obtain ⟨a, b⟩ := hs x hi h
      show (f (enc x)).bind _ = _
      rw [hf x hi h]
      exact while_sim hs hc hf k n (step x) a (by omega) (by omega)
    · rw [show cond x = false by simpa using h, if_neg (by simp)]; rfl
structure RunSt where
  found : List (Nat × List Ent)
  p : Nat
  held : List Ent
  taken : Nat
def Rw.chs : Rw → Bool
  | .pick _ _ => true
  | .either => true
  | .again => true
  | _ => false
def nextR (rows : List Rw) (cs : List Int) (s : RunSt) : RunSt := match rows[s.p]? with
  | none => s
  | some r => ⟨s.found ++ [(s.p, s.held)], (stepT rows s.p s.held (if r.chs = true then cs.getD s.taken 0 else 0)).1, (stepT rows s.p s.held (if r.chs = true then cs.getD s.taken 0 else 0)).2, if r.chs = true then s.taken + 1 else s.taken⟩
def muR (rows : List Rw) (cs : List Int) (s : RunSt) : Nat := (cs.length - s.taken) * (2 * rows.length + 1) + mu rows s.p
def M0 (rows : List Rw) (cs : List Int) : Nat := cs.length * (2 * rows.length + 1) + 2 * rows.length
structure RInv (rows : List Rw) (cs : List Int) (s : RunSt) : Prop where
  le : s.p ≤ rows.length
  hi : HI (stk rows s.p) s.held
  fd : ∀ x ∈ s.found, x.1 < rows.length ∧ HI (stk rows x.1) x.2
  z : s.found = [] → s.p = 0
  len : s.found.length + muR rows cs s ≤ M0 rows cs
theorem HI_nil : HI [] [] := ⟨rfl, fun _ h => (by cases h), fun _ h => (by cases h)⟩
theorem rinv0 {rows : List Rw} (N : Nst rows) (cs : List Int) : RInv rows cs ⟨[], 0, [], 0⟩ where
  le := Nat.zero_le _
  hi := HI_nil
  fd := fun _ h => by cases h
  z := fun _ => rfl
  len := by
    have := mu_le N 0
    unfold M0 muR
    rw [List.length_nil, Nat.zero_add, Nat.sub_zero]
    show cs.length * _ + mu rows 0 ≤ _
    omega
theorem rinv_step {rows : List Rw} (G : cks [] rows = some []) (cs : List Int) (s : RunSt) (I : RInv rows cs s) (hc : decide (s.p < rows.length) = true) : RInv rows cs (nextR rows cs s) ∧ muR rows cs (nextR rows cs s) < muR rows cs s := by
  have hp := of_decide_eq_true hc
  have N := nst_of G
  have hr := List.getElem?_eq_getElem hp
  generalize rows[s.p] = r at hr
  have hstep : ∀ c, StepOk rows s.p c r (stepT rows s.p s.held c) := fun c => step_ok G hr I.hi c
  have hm : muR rows cs (nextR rows cs s) < muR rows cs s := by
    unfold muR nextR
    rw [hr]
    simp only
    by_cases ch : r.chs = true
    · simp only [ch, if_true]
      by_cases ht : s.taken < cs.length
      · obtain ⟨k, hk⟩ : ∃ k, cs.length - s.taken = k + 1 := ⟨cs.length - s.taken - 1, by omega⟩
        have e : cs.length - (s.taken + 1) = k := by omega
        rw [hk, e, Nat.add_mul, Nat.one_mul]
        have := mu_le N (stepT rows s.p s.held (cs.getD s.taken 0)).1
        omega
      · have e : cs.getD s.taken 0 = 0 := by rw [List.getD_eq_getElem?_getD, List.getElem?_eq_none (by omega)]; rfl
        rw [e, show cs.length - (s.taken + 1) = 0 by omega, show cs.length - s.taken = 0 by omega]
        have := (hstep 0).mu (fun _ => rfl)
        omega
    · rw [if_neg ch, if_neg ch]
      have := (hstep 0).mu (fun _ => rfl)
      omega
  refine ⟨?_, hm⟩
  have e : nextR rows cs s = ⟨s.found ++ [(s.p, s.held)], (stepT rows s.p s.held (if r.chs = true then cs.getD s.taken 0 else 0)).1, (stepT rows s.p s.held (if r.chs = true then cs.getD s.taken 0 else 0)).2, if r.chs = true then s.taken + 1 else s.taken⟩ := by unfold nextR; rw [hr]
  have hs := hstep (if r.chs = true then cs.getD s.taken 0 else 0)
  have l1 := I.len
  have hle : (nextR rows cs s).found.length + muR rows cs (nextR rows cs s) ≤ M0 rows cs := by
    have : (nextR rows cs s).found.length = s.found.length + 1 := by rw [e]; simp
    omega
  exact {
    le := by rw [e]; exact hs.le
    hi := by rw [e]; exact hs.hi
    fd := fun x hx => by
      rw [e] at hx
      rcases List.mem_append.mp hx with hx | hx
      · exact I.fd x hx
      · rw [List.mem_singleton.mp hx]; exact ⟨hp, I.hi⟩
    z := fun h => by rw [e] at h; simp at h
    len := hle }
def finR (rows : List Rw) (cs : List Int) : RunSt := itW (fun s => decide (s.p < rows.length)) (nextR rows cs) (M0 rows cs) ⟨[], 0, [], 0⟩
def runT (rows : List Rw) (cs : List Int) : List (Nat × List Ent) := (finR rows cs).found
theorem finR_ok {rows : List Rw} (G : cks [] rows = some []) (cs : List Int) : RInv rows cs (finR rows cs) ∧ (finR rows cs).p = rows.length := by
  obtain ⟨a, b⟩ := itW_ok (inv := RInv rows cs) (μ := muR rows cs) (rinv_step G cs) (M0 rows cs) ⟨[], 0, [], 0⟩ (rinv0 (nst_of G) cs) (by have := (rinv0 (nst_of G) cs).len; simp only [List.length_nil] at this; omega)
  refine ⟨a, ?_⟩
  have h1 := a.le
  have h2 := of_decide_eq_false b
  unfold finR at *
  omega
theorem run_sim {rows : List Rw} (G : cks [] rows = some []) (cs : List Int) {S : Type} {enc : RunSt → S} {c : S → Option Bool} {f : S → Option S}
    (hc : ∀ s, RInv rows cs s → c (enc s) = some (decide (s.p < rows.length))) (hf : ∀ s, RInv rows cs s → s.p < rows.length → f (enc s) = some (enc (nextR rows cs s))) {n : Nat} (hn : M0 rows cs < n) :
    whileO c f n (enc ⟨[], 0, [], 0⟩) = some (enc (finR rows cs)) :=
  while_sim (inv := RInv rows cs) (μ := muR rows cs) (rinv_step G cs) hc (fun s I h => hf s I (of_decide_eq_true h)) (M0 rows cs) n _ (rinv0 (nst_of G) cs) (by have := (rinv0 (nst_of G) cs).len; simp only [List.length_nil] at this; omega) hn
theorem runT_len {rows : List Rw} (G : cks [] rows = some []) (cs : List Int) : (runT rows cs).length ≤ M0 rows cs := by
  have := (finR_ok G cs).1.len
  unfold runT; omega
theorem runT_nil {rows : List Rw} (G : cks [] rows = some []) (cs : List Int) (h : runT rows cs = []) : rows = [] := by
  obtain ⟨a, b⟩ := finR_ok G cs
  have := a.z h
  rw [b] at this
  exact List.length_eq_zero_iff.mp this
theorem runT_mem {rows : List Rw} (G : cks [] rows = some []) (cs : List Int) {x : Nat × List Ent} (h : x ∈ runT rows cs) : x.1 < rows.length ∧ HI (stk rows x.1) x.2 := (finR_ok G cs).1.fd x h
theorem HI.small {rows : List Rw} {p : Nat} {held : List Ent} (H : HI (stk rows p) held) (h : p ≤ 700) : held.length ≤ 700 := by
  rw [H.len]
  have h1 : nmd (stk rows p) ≤ (stk rows p).length := List.length_filter_le _ _
  have h2 : (stk rows p).length ≤ (sk rows p).length := by unfold stk; exact List.length_filterMap_le _ _
  have h3 := sk_len rows p
  omega
def stD (x : Nat × List Ent) : D := .tuple [.int (x.1 : Int), heldD x.2]
theorem stD_sh {x : Nat × List Ent} (h : ∀ e ∈ x.2, e.ok) : shD 3 (stD x) := shD_tup fun y hy => by
  simp only [List.mem_cons, List.not_mem_nil, or_false] at hy
  rcases hy with rfl | rfl
  · exact shD_int _ _
  · exact shD_tup fun z hz => by
      obtain ⟨e, he, rfl⟩ := List.mem_map.mp hz
      exact Ent.sh (h e he)
end Bw
namespace Bw
open PySem Bd
/-! ### reading rows and standings -/
theorem row_at {rows : List Rw} {p : Nat} {r : Rw} (h : rows[p]? = some r) : idxD (rowsD rows) (.int (p : Int)) = some r.enc := by
  unfold rowsD
  rw [idxD_l, rows_get, h]; rfl
theorem home_at {rows : List Rw} {p : Nat} (h : p < rows.length) : idxD (.list (hmL rows)) (.int (p : Int)) = some (.int (hmI rows p)) := by
  rw [idxD_l, hmL_get h]
theorem idxD_ti (ds : List D) (i : Int) (h : 0 ≤ i) : idxD (.tuple ds) (.int i) = ds[i.toNat]? := idxD_li ds i h
theorem idx_ints {is : List Int} {c : Int} (h : 0 < is.length) : idxD (.tuple (is.map PyData.int)) (.int (c % (is.length : Int))) = some (.int (is.getD (c % (is.length : Int)).toNat 0)) := by
  rw [idxD_ti _ _ (Int.emod_nonneg _ (by omega)), List.getElem?_map]
  have := mod_lt (c := c) h
  rw [List.getElem?_eq_getElem this, List.getD_eq_getElem?_getD, List.getElem?_eq_getElem this]; rfl
theorem idx_intl {is : List Int} {c : Int} (h : 0 < is.length) : idxD (.list (is.map PyData.int)) (.int (c % (is.length : Int))) = some (.int (is.getD (c % (is.length : Int)).toNat 0)) := idx_ints h
theorem brJ_N (rows : List Rw) (h : Nat) : brJ rows h = (brN rows h).map fun (k : Nat) => (k : Int) := by
  unfold brJ brN
  rw [List.map_cons, List.map_map]; rfl
theorem idx_br {rows : List Rw} {h : Nat} {c : Int} : idxD (.list (brL rows h)) (.int (c % ((brN rows h).length : Int))) = some (.int (((brN rows h).getD (c % ((brN rows h).length : Int)).toNat 0 : Nat) : Int)) := by
  rw [brJ_eq, brJ_N]
  have hp := brN_pos rows h
  have := idx_intl (is := (brN rows h).map fun (k : Nat) => (k : Int)) (c := c) (by rw [List.length_map]; exact hp)
  rw [List.length_map] at this
  rw [this]
  have hm := mod_lt (c := c) hp
  congr 2
  rw [List.getD_eq_getElem?_getD, List.getD_eq_getElem?_getD, List.getElem?_map, List.getElem?_eq_getElem hm]; rfl
theorem brL_len (rows : List Rw) (h : Nat) : (brL rows h).length = (brN rows h).length := by rw [brJ_eq, brJ_N, List.length_map, List.length_map]
theorem eqD_si {x : Str} (h : PyData.strOk x = true) (i : Int) : eqD (.str x) (.int i) = some false := by
  show grd _ _ = _
  rw [(shD_str 0 h).ok (by decide), (shD_int 0 i).ok (by decide)]
  show some (PyData.eqv (.str x) (.int i)) = _
  simp [PyData.eqv]
theorem any_mem (g : List Str) (x : Str) : (g.any fun y => decide (y = x)) = decide (x ∈ g) := by
  induction g with
  | nil => simp
  | cons y g ih =>
    rw [List.any_cons, ih]
    by_cases h : y = x
    · subst h; simp
    · have h' : ¬ x = y := fun e => h e.symm
      simp [h, h']
theorem in_gone (g : List Str) (x : Str) : inD (.str x) (.list (g.map PyData.str)) = some (decide (x ∈ g)) := by rw [inS_l, any_mem]
/-- or, end -/
structure HomeOf (rows : List Rw) (p h : Nat) (q : Rw) : Prop where
  sk : sk rows p = h :: sk rows h
  row : rows[h]? = some q
  opn : q.opn = true
  hI : hmI rows p = (h : Int)
  hN : hmN rows p = h
theorem home_of {rows : List Rw} (G : cks [] rows = some []) {p : Nat} {r : Rw} (hr : rows[p]? = some r) (h : r = .or_ ∨ r = .fin) : ∃ h q, HomeOf rows p h q ∧ (r = .or_ → q = .either) := by
  have hck := cks_at G hr
  have hst : ∃ x t, stk rows p = x :: t ∧ (r = .or_ → x = .either) := by
    cases hs : stk rows p with
    | nil => rw [hs] at hck; rcases h with rfl | rfl <;> cases hck
    | cons x t =>
      refine ⟨x, t, rfl, fun e => ?_⟩
      subst e
      rw [hs] at hck
      cases x <;> first | rfl | cases hck
  obtain ⟨x, t, hst, hx⟩ := hst
  cases hs : sk rows p with
  | nil => unfold stk at hst; rw [hs] at hst; cases hst
  | cons k t' =>
    obtain ⟨d1, d2, q, d3, d4⟩ := sk_disc rows p k t' hs
    refine ⟨k, q, ⟨by rw [hs, d2], d3, d4, by unfold hmI; rw [hs], by unfold hmN; rw [hs]; rfl⟩, fun e => ?_⟩
    unfold stk at hst
    rw [hs, List.filterMap_cons, d3] at hst
    have := (List.cons.inj hst).1
    rw [this]; exact hx e
/-- the entry looked up by all -/
def lg (v : Str) (a : D × D × D) (e : Ent) : D × D × D := if e.w = v then (.int e.t, if isPick e = true then a.2.1 else .str e.w, .bool e.o) else a
theorem lg_none (v : Str) : ∀ (es : List Ent) (a : D × D × D), (∀ e ∈ es, e.w ≠ v) → es.foldl (lg v) a = a
  | [], _, _ => rfl
  | e :: es, a, h => by
    rw [List.foldl_cons]
    have : lg v a e = a := if_neg (h e List.mem_cons_self)
    rw [this]
    exact lg_none v es a fun x hx => h x (List.mem_cons_of_mem _ hx)
theorem lg_some (v : Str) {e : Ent} : ∀ (es : List Ent) (a : D × D × D), (es.map Ent.w).Nodup → entOf es v = some e → es.foldl (lg v) a = (.int e.t, if isPick e = true then a.2.1 else .str e.w, .bool e.o)
  | [], _, _, h => by cases h
  | x :: es, a, nd, h => by
    rw [List.map_cons, List.nodup_cons] at nd
    rw [List.foldl_cons]
    unfold entOf at h
    rw [List.find?_cons] at h
    by_cases hx : x.w = v
    · rw [decide_eq_true hx] at h
      have e1 : x = e := Option.some.inj h
      subst e1
      rw [lg_none v es _ fun y hy ey => nd.1 (List.mem_map.mpr ⟨y, hy, ey.trans hx.symm⟩)]
      exact if_pos hx
    · rw [decide_eq_false hx] at h
      rw [show lg v a x = a from if_neg hx]
      exact lg_some v es a nd.2 h
end Bw
namespace Bw
open PySem Bd
def Rw.isB : Rw → Bool
  | .back _ => true
  | _ => false
theorem hdB (r : Rw) : eqD (.str r.hd) (.str (Str.ofString "back")) = some r.isB := by
  rw [eqD_ss]; generalize hx : r.hd = x; cases r <;> simp only [Rw.hd] at hx <;> subst hx <;> simp only [Rw.isB] <;> decide +kernel
theorem neE (r : Rw) : neD (.str r.hd) (.str (Str.ofString "either")) = some (!r.isE) := by
  unfold neD
  rw [hdE]; rfl
theorem chs_l (r : Rw) : inD (.str r.hd) (.list [.str (Str.ofString "pick"), .str (Str.ofString "either"), .str (Str.ofString "again")]) = some r.chs := by
  rw [show [PyData.str (Str.ofString "pick"), .str (Str.ofString "either"), .str (Str.ofString "again")] = [Str.ofString "pick", Str.ofString "either", Str.ofString "again"].map PyData.str from rfl, inS_l]
  generalize hx : r.hd = x; cases r <;> simp only [Rw.hd] at hx <;> subst hx <;> simp only [Rw.chs] <;> decide +kernel
theorem chs_t (r : Rw) : inD (.str r.hd) (.tuple [.str (Str.ofString "pick"), .str (Str.ofString "either"), .str (Str.ofString "again")]) = some r.chs := chs_l r
def Rw.isU : Rw → Bool
  | .look _ => true
  | .change _ => true
  | _ => false
theorem use_l (r : Rw) : inD (.str r.hd) (.list [.str (Str.ofString "look"), .str (Str.ofString "change")]) = some r.isU := by
  rw [show [PyData.str (Str.ofString "look"), .str (Str.ofString "change")] = [Str.ofString "look", Str.ofString "change"].map PyData.str from rfl, inS_l]
  generalize hx : r.hd = x; cases r <;> simp only [Rw.hd] at hx <;> subst hx <;> simp only [Rw.isU] <;> decide +kernel
theorem use_t (r : Rw) : inD (.str r.hd) (.tuple [.str (Str.ofString "look"), .str (Str.ofString "change")]) = some r.isU := use_l r
theorem hdK (r : Rw) : orT (eqD (.str r.hd) (.str (Str.ofString "look"))) (eqD (.str r.hd) (.str (Str.ofString "change"))) = some r.isU := by
  rw [eqD_ss, eqD_ss]; generalize hx : r.hd = x; cases r <;> simp only [Rw.hd] at hx <;> subst hx <;> simp only [Rw.isU] <;> decide +kernel
theorem enc_deed (w : Str) : Rw.enc (.look w) = .tuple [.str (Str.ofString "look"), .str w] ∧ Rw.enc (.back w) = .tuple [.str (Str.ofString "back"), .str w] ∧ Rw.enc (.change w) = .tuple [.str (Str.ofString "change"), .str w] := ⟨rfl, rfl, rfl⟩
theorem enc_look (w : Str) : Rw.enc (.look w) = .tuple [.str (Str.ofString "look"), .str w] := nd rfl
theorem enc_back (w : Str) : Rw.enc (.back w) = .tuple [.str (Str.ofString "back"), .str w] := nd rfl
theorem enc_change (w : Str) : Rw.enc (.change w) = .tuple [.str (Str.ofString "change"), .str w] := nd rfl
theorem ck_pickn {st st' : List Rw} {w : Str} {ts : List Int} (h : ck st (.pick w ts) = some st') : 0 < ts.length := by
  have hc := if_c h
  simp only [Bool.and_eq_true, decide_eq_true_eq] at hc
  omega
theorem int_succ (p : Nat) : ((p : Int) + 1) = ((p + 1 : Nat) : Int) := by omega
theorem held_cut (held : List Ent) : cutD (heldD held) none (some (-1)) = some (heldD held.dropLast) := by
  unfold heldD; rw [cutD_t, cutL_butLast, List.map_dropLast]
end Bw
/-! ### the law's own steps -/
namespace Bw
open PySem Bd
theorem itD_held (held : List Ent) : itD (heldD held) = some (held.map Ent.enc) := rfl
theorem addHeld (a b : List Ent) (h : a.length + b.length ≤ 100000) : addD (heldD a) (.tuple (b.map Ent.enc)) = some (heldD (a ++ b)) := by
  unfold heldD
  rw [addD_tt _ _ (by rw [List.length_map, List.length_map]; exact ln100 h), List.map_append]
theorem isPick_ne (e : Ent) : neD (.str e.k) (.str (Str.ofString "pick")) = some (!isPick e) := by
  rw [neD_ss]; rfl
theorem foldl_id {α β : Type} (a : α) : ∀ l : List β, l.foldl (fun a _ => a) a = a
  | [] => rfl
  | _ :: l => foldl_id a l
theorem law_lent_eq (n : Nat) {st : List Rw} {held : List Ent} (H : HI st held) (nd : (held.map Ent.w).Nodup) (hl : held.length ≤ 1000) (w : Str) (b : Bool) (s : Src) (hs : srcOk st b s = true) :
    l_law_lent n [heldD held, Rw.enc (.lend w b s)] = some (heldD (held ++ [lentT held w b s])) := by
  show m_law_lent n (heldD held) (Rw.enc (.lend w b s)) = _
  unfold m_law_lent
  simp only [enc_lend, b2_some, idt3, idt1, idt2, bnd_some, obs, itD_held, bnd_id]
  rw [foldO_map]
  have fin : ∀ (t : Int) (sr : Str) (o : Bool), addD (heldD held) (.tuple [.tuple [.str w, .str (kS b), .int t, .str sr, .bool o]]) = some (heldD (held ++ [⟨w, kS b, t, sr, o⟩])) := fun t sr o => addHeld held [⟨w, kS b, t, sr, o⟩] (by rw [List.length_singleton]; omega)
  cases s with
  | th t =>
    have key : ∀ (f : Ent → D × D × D → Option (D × D × D)) (a : D × D × D), (∀ e a, e ∈ held → f e a = some a) → foldO f held a = some a := by
      intro f a hf
      rw [(foldO_pure (f := f) (g := fun a _ => a) (ds := held) (s := a) (fun _ => True) (fun d s hd _ => ⟨hf d s hd, trivial⟩) trivial).1, foldl_id]
    rw [key _ _ (fun e a he => by
      unfold Ent.enc
      simp only [idt0, b2_some]
      rw [show Src.enc (.th t) = .int t from rfl, eqD_si (H.ok e he).1, ifM_f, bnd_some])]
    simp only [bnd_some, consO_some, oms, b2_some]
    exact fin t noS true
  | of v =>
    obtain ⟨e0, h1, h2, h3⟩ := src_ent H hs
    have key : ∀ (f : Ent → D × D × D → Option (D × D × D)) (a : D × D × D), (∀ e a, e ∈ held → f e a = some (lg v a e)) → foldO f held a = some (.int e0.t, if isPick e0 = true then a.2.1 else .str e0.w, .bool e0.o) := by
      intro f a hf
      rw [(foldO_pure (f := f) (g := lg v) (ds := held) (s := a) (fun _ => True) (fun d s hd _ => ⟨hf d s hd, trivial⟩) trivial).1, lg_some v held a nd h1]
    rw [key _ _ (fun e a he => by
      unfold Ent.enc lg
      simp only [idt0, idt1, idt2, idt4, b2_some, bnd_some]
      rw [show Src.enc (.of v) = .str v from rfl, eqD_ss, isPick_ne]
      by_cases hw : e.w = v
      · rw [decide_eq_true hw, ifM_t, if_pos hw, ifM_ss]
        cases isPick e <;> rfl
      · rw [decide_eq_false hw, ifM_f, if_neg hw, bnd_some])]
    simp only [bnd_some, consO_some, oms, b2_some]
    simp only [lentT, h1]
    by_cases hp : isPick e0 = true
    · rw [if_pos hp, if_pos hp, (H.pk e0 h2 hp).2]
      exact fin e0.t noS true
    · rw [if_neg hp, if_neg hp, h3]
      exact fin e0.t v e0.o
theorem take_next {α : Type} {l : List α} {i : Nat} {a : α} (h : l[i]? = some a) : l.take (i + 1) = l.take i ++ [a] := by rw [List.take_add_one, h]; rfl
theorem law_back_eq (n : Nat) {held : List Ent} (nd : (held.map Ent.w).Nodup) (hl : held.length ≤ 1000) (w : Str) : l_law_back n [heldD held, .str w] = some (heldD (backT held w)) := by
  show m_law_back n (heldD held) (.str w) = _
  unfold m_law_back
  simp only [consO_some, bnd_some, obs, oms, itD_held]
  rw [foldO_map]
  refine foldO_bnd (fun i s => ∃ g fs, (held.take i).foldl (backG w) ([w], []) = (g, fs) ∧ s = (g.map PyData.str, heldD fs) ∧ w ∈ g ∧ (∀ x ∈ g, x = w ∨ x ∈ (held.take i).map Ent.w) ∧ g.length ≤ i + 1 ∧ fs.length = i) ?_ ⟨[w], [], rfl, rfl, by simp, fun x hx => .inl (List.mem_singleton.mp hx), by simp, rfl⟩ ?_
  · rintro i e s hi ⟨g, fs, hg, rfl, hw, hx, hgl, hfl⟩
    have hlt := getD_lt hi
    have tk := take_next hi
    have nin : e.w ∉ (held.take i).map Ent.w := by
      have h2 : ((held.take (i + 1)).map Ent.w).Nodup := by
        rw [List.map_take]; exact (List.take_sublist _ _).nodup nd
      rw [tk, List.map_append, List.nodup_append] at h2
      intro hm
      exact h2.2.2 _ hm _ (by simp) rfl
    have test : decide (e.w ∈ g) = decide (e.w = w) := by
      by_cases h : e.w = w
      · rw [decide_eq_true h, decide_eq_true (h ▸ hw)]
      · rw [decide_eq_false h]
        refine decide_eq_false fun hm => ?_
        rcases hx _ hm with q | q
        · exact h q
        · exact nin q
    refine ⟨((backG w (g, fs) e).1.map PyData.str, heldD (backG w (g, fs) e).2), ?_, (backG w (g, fs) e).1, (backG w (g, fs) e).2, by rw [tk, List.foldl_append, hg]; rfl, rfl, ?_, ?_, ?_, ?_⟩
    · unfold Ent.enc
      simp only [idt0, idt3, b2_some, in_gone, orT_ss, test, obs, asI_i, oms, slcD_s, cutD_t, consO_some]
      rw [show cutL [PyData.str e.w, .str e.k, .int e.t, .str e.s, .bool e.o] none (some (4 : Int)) = [PyData.str e.w, .str e.k, .int e.t, .str e.s] from cutL_to _ 4, addD_tt _ _ (ln100 (by simp)), appM_some (lt100 (by rw [List.length_map]; omega))]
      unfold backG
      by_cases hc : (decide (e.w = w) || decide (e.s ∈ g)) = true
      · rw [hc, ifM_t, if_pos rfl]
        simp only [bnd_some]
        rw [show PyData.tuple [PyData.tuple ([PyData.str e.w, .str e.k, .int e.t, .str e.s] ++ [.bool false])] = .tuple ([{ e with o := false }].map Ent.enc) from rfl, addHeld _ _ (by rw [List.length_singleton]; omega), bnd_some, List.map_append]
        rfl
      · rw [if_neg hc, show (decide (e.w = w) || decide (e.s ∈ g)) = false by simpa using hc, ifM_f]
        simp only [bnd_some]
        rw [show PyData.tuple [PyData.tuple [PyData.str e.w, .str e.k, .int e.t, .str e.s, .bool e.o]] = .tuple ([e].map Ent.enc) from rfl, addHeld _ _ (by rw [List.length_singleton]; omega), bnd_some]
    · unfold backG; split
      · exact List.mem_append_left _ hw
      · exact hw
    · rw [tk, List.map_append]
      unfold backG; split
      · intro x hm
        rcases List.mem_append.mp hm with hm | hm
        · rcases hx x hm with q | q
          · exact .inl q
          · exact .inr (List.mem_append_left _ q)
        · exact .inr (List.mem_append_right _ hm)
      · intro x hm
        rcases hx x hm with q | q
        · exact .inl q
        · exact .inr (List.mem_append_left _ q)
    · unfold backG; split
      · show (g ++ [e.w]).length ≤ _; rw [List.length_append, List.length_singleton]; omega
      · show g.length ≤ _; omega
    · unfold backG; split
      · show (fs ++ [_]).length = _; rw [List.length_append, List.length_singleton]; omega
      · show (fs ++ [_]).length = _; rw [List.length_append, List.length_singleton]; omega
  · rintro s ⟨g, fs, hg, rfl, _⟩
    rw [List.take_length] at hg
    unfold backT
    rw [hg]
end Bw
namespace Bw
open PySem Bd
theorem law_step_eq (n : Nat) {rows : List Rw} (G : cks [] rows = some []) (hl : rows.length ≤ 700) {p : Nat} {held : List Ent} {r : Rw} (hr : rows[p]? = some r) (H : HI (stk rows p) held) (c : Int) :
    l_law_step n [rowsD rows, .list (hmL rows), stD (p, held), .int c] = some (stD (stepT rows p held c)) := by
  have hp := getD_lt hr
  have N := nst_of G
  have hck := cks_at G hr
  obtain ⟨ndn, so⟩ := stk_good G p (by omega)
  have nd : (held.map Ent.w).Nodup := by rw [H.names]; exact ndn
  have hsm := H.small (by omega)
  show m_law_step n (rowsD rows) (.list (hmL rows)) (stD (p, held)) (.int c) = _
  have e0 : idxD (stD (p, held)) (.int 0) = some (.int (p : Int)) := idt0 _ _
  have e1 : idxD (stD (p, held)) (.int 1) = some (heldD held) := idt1 _ _ _
  have fin : ∀ (q : Nat) (h : List Ent), (PyData.tuple [.int (q : Int), heldD h]) = stD (q, h) := fun _ _ => rfl
  unfold m_law_step
  simp only [b2_some, e0, e1, bnd_some, row_at hr, hd0, hdL, hdP, hdB, hdE, hdO, hdG, hdF, consO_some, home_at hp, modD_ii c 2 (by decide), eqD_ii, addD_ii, int_succ, bnd_id]
  unfold stepT
  rw [hr]
  cases r with
  | lend w b s =>
    have hc := if_c hck
    simp only [Bool.and_eq_true, Option.isNone_iff_eq_none] at hc
    simp only [Rw.isL, Rw.isP, Rw.isB, Rw.isE, Rw.isO, Rw.isG, Rw.isF, ifM_t, ifM_f, andT_f, obs, oms, bnd_some]
    rw [law_lent_eq n H nd (by omega) w b s hc.2.2]
    simp only [bnd_some, consO_some, oms]; rfl
  | pick w ts =>
    have hts := ck_pickn hck
    simp only [Rw.isL, Rw.isP, Rw.isB, Rw.isE, Rw.isO, Rw.isG, Rw.isF, ifM_t, ifM_f, andT_f, obs, oms, bnd_some, enc_pick, idt1, idt2, lenD_t, List.length_map]
    rw [b2_some, modD_ii _ _ (by omega), b2_some, idx_ints hts]
    simp only [consO_some, oms, b2_some]
    have ah := addHeld held [⟨w, pickS, ts.getD (c % (ts.length : Int)).toNat 0, noS, true⟩] (by rw [List.length_singleton]; omega)
    rw [show PyData.tuple [PyData.tuple [PyData.str w, .str (Str.ofString "pick"), .int (ts.getD (c % (ts.length : Int)).toNat 0), .str (Str.ofString ""), .bool true]] = .tuple ([(⟨w, pickS, ts.getD (c % (ts.length : Int)).toNat 0, noS, true⟩ : Ent)].map Ent.enc) from rfl, ah]
    simp only [bnd_some, consO_some, oms]; rfl
  | either =>
    simp only [Rw.isL, Rw.isP, Rw.isB, Rw.isE, Rw.isO, Rw.isG, Rw.isF, ifM_t, ifM_f, andT_f, obs, oms, bnd_some]
    rw [llaw_starts_eq n rows (by omega) p hp, bnd_some, lenD_l, brL_len, b2_some, modD_ii _ _ (by have := brN_pos rows p; omega), b2_some, idx_br]
    simp only [bnd_some, consO_some, oms]; rfl
  | again =>
    obtain ⟨e, a⟩ := atE_ex N hr rfl
    simp only [Rw.isL, Rw.isP, Rw.isB, Rw.isE, Rw.isO, Rw.isG, Rw.isF, ifM_t, ifM_f, andT_f, andT_t, obs, oms, bnd_some]
    rw [llaw_last_eq n rows (by omega) a]
    simp only [b2_some, addD_ii, int_succ, consO_some, oms]
    have h2 : c % 2 = 0 ∨ c % 2 = 1 := by omega
    rw [enN_of a]
    rcases h2 with h2 | h2
    · rw [h2, show ((0 : Int) == 0) = true from rfl, ifM_t, if_neg (by decide)]; rfl
    · rw [h2, show ((1 : Int) == 0) = false from rfl, ifM_f, if_pos rfl]; rfl
  | or_ =>
    obtain ⟨h, q, ho, hq⟩ := home_of G hr (.inl rfl)
    have hE := hq rfl
    subst hE
    obtain ⟨e, a⟩ := atE_ex N ho.row rfl
    simp only [Rw.isL, Rw.isP, Rw.isB, Rw.isE, Rw.isO, Rw.isG, Rw.isF, ifM_t, ifM_f, andT_f, andT_t, obs, oms, bnd_some, ho.hI]
    rw [llaw_last_eq n rows (by omega) a, ho.hN, enN_of a]
    simp only [consO_some, oms]; rfl
  | fin =>
    obtain ⟨h, q, ho, _⟩ := home_of G hr (.inr rfl)
    simp only [Rw.isL, Rw.isP, Rw.isB, Rw.isE, Rw.isO, Rw.isG, Rw.isF, ifM_t, ifM_f, andT_f, andT_t, obs, oms, bnd_some, ho.hI, row_at ho.row, hd0, b2_some, hdG, neE, negD_i, asI_i, slcD_s, held_cut]
    rw [ho.hN, ho.row]
    have o := ho.opn
    cases q with
    | lend w b s => simp only [Rw.isG, Rw.isE, ifM_f, ifM_t, Bool.not_false, bnd_some, consO_some, oms]; rfl
    | pick w ts => simp only [Rw.isG, Rw.isE, ifM_f, ifM_t, Bool.not_false, bnd_some, consO_some, oms]; rfl
    | either => simp only [Rw.isG, Rw.isE, ifM_f, ifM_t, Bool.not_true, bnd_some, consO_some, oms]; rfl
    | again => simp only [Rw.isG, Rw.isE, ifM_f, ifM_t, Bool.not_false, bnd_some, consO_some, oms]; rfl
    | _ => cases o
  | look w => simp only [Rw.isL, Rw.isP, Rw.isB, Rw.isE, Rw.isO, Rw.isG, Rw.isF, ifM_t, ifM_f, andT_f, obs, oms, bnd_some, consO_some]; rfl
  | change w => simp only [Rw.isL, Rw.isP, Rw.isB, Rw.isE, Rw.isO, Rw.isG, Rw.isF, ifM_t, ifM_f, andT_f, obs, oms, bnd_some, consO_some]; rfl
  | back w =>
    simp only [Rw.isL, Rw.isP, Rw.isB, Rw.isE, Rw.isO, Rw.isG, Rw.isF, ifM_t, ifM_f, andT_f, obs, oms, bnd_some, consO_some, enc_back, idt1]
    rw [law_back_eq n nd (by omega) w]
    simp only [bnd_some, consO_some, oms]; rfl
theorem ltG {n : Nat} (h : n < 16777216) : n < LN := h
theorem lnG {n : Nat} (h : n ≤ 16777216) : n ≤ LN := h
def stsD (l : List (Nat × List Ent)) : D := .list (l.map stD)
theorem idx_getD {is : List Int} {k : Nat} : (ifM (some (ltI (k : Int) (is.length : Int))) (idxD (.list (is.map PyData.int)) (.int (k : Int))) (some (.int 0))) = some (.int (is.getD k 0)) := by
  by_cases h : k < is.length
  · rw [show ltI (k : Int) (is.length : Int) = true from decide_eq_true (by omega), ifM_t, cs_at is k h]
  · rw [show ltI (k : Int) (is.length : Int) = false from decide_eq_false (by omega), ifM_f, List.getD_eq_getElem?_getD, List.getElem?_eq_none (by omega)]; rfl
end Bw
/-! ### the law's own runs -/
namespace Bw
open PySem Bd
theorem law_run_eqM {rows : List Rw} (G : cks [] rows = some []) (hl : rows.length ≤ 700) (cs : List Int) (hM : M0 rows cs ≤ 16000000) (n : Nat) (hn : M0 rows cs < n) :
    l_law_run n [rowsD rows, .list (cs.map PyData.int)] = some (stsD (runT rows cs)) := by
  have N := nst_of G
  show m_law_run n (rowsD rows) (.list (cs.map PyData.int)) = _
  unfold m_law_run
  simp only [consO_some, obs, oms, llaw_homes_eq n rows N (by omega), bnd_some]
  have key : ∀ (c : (List D) × D × D → Option Bool) (f : (List D) × D × D → Option ((List D) × D × D)),
      (∀ s : RunSt, c (s.found.map stD, stD (s.p, s.held), .int (s.taken : Int)) = some (decide (s.p < rows.length))) →
      (∀ s : RunSt, RInv rows cs s → s.p < rows.length → f (s.found.map stD, stD (s.p, s.held), .int (s.taken : Int)) = some ((nextR rows cs s).found.map stD, stD ((nextR rows cs s).p, (nextR rows cs s).held), .int ((nextR rows cs s).taken : Int))) →
      bnd (whileO c f n ([], .tuple [.int 0, .tuple []], .int 0)) (fun s1 : (List D) × D × D => some (.list s1.1)) = some (stsD (runT rows cs)) := by
    intro c f h1 h2
    have := run_sim G cs (enc := fun s : RunSt => (s.found.map stD, stD (s.p, s.held), PyData.int (s.taken : Int))) (c := c) (f := f) (fun s _ => h1 s) h2 (n := n) (by omega)
    rw [show (([], .tuple [.int 0, .tuple []], .int 0) : (List D) × D × D) = (fun s : RunSt => (s.found.map stD, stD (s.p, s.held), PyData.int (s.taken : Int))) ⟨[], 0, [], 0⟩ from rfl, this]
    rfl
  refine key _ _ (fun s => ?_) (fun s I hp => ?_)
  · have e0 : idxD (stD (s.p, s.held)) (.int 0) = some (.int (s.p : Int)) := idt0 _ _
    simp only [b2_some, e0]
    unfold rowsD
    rw [lenD_l, List.length_map, b2_some, ordD_ii]
    congr 1
    show decide ((s.p : Int) < (rows.length : Int)) = _
    simp
  · have hr := List.getElem?_eq_getElem hp
    generalize rows[s.p] = r at hr
    have e0 : idxD (stD (s.p, s.held)) (.int 0) = some (.int (s.p : Int)) := idt0 _ _
    have hlen := I.len
    simp only [b2_some, e0, row_at hr, hd0, lD_some, chs_l]
    rw [appM_some (ltG (by rw [List.length_map]; omega)), bnd_some]
    simp only [lenD_l, List.length_map, b2_some, ordD_ii, bnd_some, bnd_id, addD_ii, int_succ]
    rw [idx_getD, bnd_some]
    have hx : nextR rows cs s = ⟨s.found ++ [(s.p, s.held)], (stepT rows s.p s.held (if r.chs = true then cs.getD s.taken 0 else 0)).1, (stepT rows s.p s.held (if r.chs = true then cs.getD s.taken 0 else 0)).2, if r.chs = true then s.taken + 1 else s.taken⟩ := by unfold nextR; rw [hr]
    rw [hx]
    cases hch : r.chs with
    | true =>
      rw [ifM_t, bnd_some]
      simp only [consO_some]
      have := law_step_eq n G hl hr I.hi (cs.getD s.taken 0)
      rw [this, bnd_some, List.map_append]; rfl
    | false =>
      rw [ifM_f, bnd_some]
      simp only [consO_some]
      have := law_step_eq n G hl hr I.hi 0
      rw [this, bnd_some, List.map_append]; rfl
theorem law_run_eq {rows : List Rw} (G : cks [] rows = some []) (hl : rows.length ≤ 700) (cs : List Int) (hc : cs.length ≤ 30) (n : Nat) (hn : 60000 ≤ n) :
    l_law_run n [rowsD rows, .list (cs.map PyData.int)] = some (stsD (runT rows cs)) := by
  have hM : M0 rows cs ≤ 50000 := by
    unfold M0
    have : cs.length * (2 * rows.length + 1) ≤ 30 * 1401 := Nat.mul_le_mul hc (by omega)
    omega
  exact law_run_eqM G hl cs (by omega) n (by omega)
end Bw
/-! ### faults -/
namespace Bd
open PySem
theorem foldF_any {ι S α : Type} {f : ι → S → Option (Fl S α)} {s : S} {a : α} {q : ι → Bool} : ∀ {ds : List ι}, (∀ x ∈ ds, f x s = some (if q x = true then .rt a else .nx s)) → foldF f ds s = some (if ds.any q = true then .rt a else .nx s)
  | [], _ => rfl
  | x :: r, h => by
    show (f x s).bind _ = _
    rw [h x List.mem_cons_self, List.any_cons]
    cases hq : q x with
    | true => rfl
    | false => exact foldF_any (ds := r) fun y hy => h y (List.mem_cons_of_mem _ hy)
theorem foldF_map {ε ι S α : Type} {enc : ε → ι} (f : ι → S → Option (Fl S α)) : ∀ (es : List ε) (s : S), foldF f (es.map enc) s = foldF (fun e => f (enc e)) es s
  | [], _ => rfl
  | e :: r, s => by
    show (f (enc e) s).bind _ = (f (enc e) s).bind _
    cases f (enc e) s with
    | none => rfl
    | some o => cases o with
      | nx s' => exact foldF_map f r s'
      | rt a => rfl
theorem enL_map {ε : Type} (enc : ε → D) : ∀ (es : List ε) (k : Nat), enL k (es.map enc) = (es.zipIdx k).map fun x => (.int (x.2 : Int), enc x.1)
  | [], _ => rfl
  | e :: r, k => by
    rw [List.map_cons, List.zipIdx_cons, List.map_cons]
    show (PyData.int (k : Int), enc e) :: enL (k + 1) (r.map enc) = _
    rw [enL_map enc r (k + 1)]
theorem flQ_if {S α : Type} (c : Bool) (a : α) (s : S) (k : S → Option α) : bnd (some (if c = true then Fl.rt a else .nx s)) (flQ k) = if c = true then some a else k s := by cases c <;> rfl
theorem flM_if {S S' α : Type} (c : Bool) (a : α) (s : S) (s' : S') : bnd (some (if c = true then Fl.rt a else .nx s)) (flM fun _ => some (.nx s')) = some (if c = true then Fl.rt a else .nx s') := by cases c <;> rfl
theorem ifM_rt {S α : Type} (c : Bool) (a : α) (s : S) : ifM (some c) ((some a).map Fl.rt) (some (Fl.nx s)) = some (if c = true then Fl.rt a else .nx s) := by cases c <;> rfl
end Bd
namespace Bw
open PySem Bd
def awk (held : List Ent) : List Ent := held.filter (wake held)
def isW (e : Ent) : Bool := decide (e.k = Str.ofString "write")
def besB (ls : List Ent) : Bool := ls.zipIdx.any fun x => (ls.take x.2).any fun o => (x.1.t == o.t) && (isW x.1 || isW o)
def handT : Rw → Str
  | .look w => w
  | .change w => w
  | .lend _ _ (.of v) => v
  | _ => noS
def emp (held : List Ent) (h : Str) : Bool := held.any fun e => !isPick e && (decide (e.w = h) && !e.o)
def faultT (r : Rw) (held : List Ent) : Str :=
  if besB (awk held) = true then Str.ofString "beside" else if emp held (handT r) = true then Str.ofString "empty" else if (r.isU && aslp held (handT r)) = true then Str.ofString "asleep" else noS
end Bw
namespace Bw
open PySem Bd
/-! ### the program's -/
theorem is_beside_eq (n : Nat) (held : List Ent) (hl : held.length ≤ 1000) : l_is_beside n [heldD held] = some (.bool (besB (awk held))) := by
  show m_is_beside n (heldD held) = _
  unfold m_is_beside
  have ha : l_awake n [heldD held] = some ((awk held).map Ent.enc) := awake_eq n held hl
  simp only [consO_some, obs, ha, lD_some, bnd_some, listD_l, oms]
  rw [enL_map, foldF_map]
  generalize awk held = ls
  rw [foldF_any (a := .bool true) (q := fun x : Ent × Nat => (ls.take x.2).any fun o => (x.1.t == o.t) && (isW x.1 || isW o)) (fun x _ => by
    simp only [obs, asI_i, oms, slcD_s, cutD_l, itD_l]
    rw [cutL_to, ← List.map_take, bnd_some, foldF_map]
    rw [foldF_any (a := .bool true) (q := fun o : Ent => (x.1.t == o.t) && (isW x.1 || isW o)) (fun o _ => by
      unfold Ent.enc
      simp only [idt2, idt1, b2_some, eqD_ii, eqD_ss, orT_ss, andT_ss]
      exact ifM_rt _ _ _)]
    exact flM_if _ _ _ _)]
  rw [flQ_if]
  unfold besB
  cases (ls.zipIdx.any fun x => (ls.take x.2).any fun o => (x.1.t == o.t) && (isW x.1 || isW o)) <;> rfl
theorem hand_of_eq (n : Nat) (r : Rw) : l_hand_of n [r.enc] = some (.str (handT r)) := by
  show m_hand_of n r.enc = _
  unfold m_hand_of
  simp only [b2_some, hd0, hdK, hdL]
  cases r with
  | lend w b s =>
    simp only [Rw.isU, Rw.isL, ifM_f, enc_lend, idt3, oms, andT_t]
    cases s <;> rfl
  | look w => simp only [Rw.isU, ifM_t, enc_look, idt1]; rfl
  | change w => simp only [Rw.isU, ifM_t, enc_change, idt1]; rfl
  | _ => simp only [Rw.isU, Rw.isL, ifM_f, andT_f]; rfl
theorem fault_eq (n : Nat) {rows : List Rw} {p : Nat} {r : Rw} (hr : rows[p]? = some r) (held : List Ent) (hl : held.length ≤ 1000) : l_fault n [rowsD rows, stD (p, held)] = some (.str (faultT r held)) := by
  show m_fault n (rowsD rows) (stD (p, held)) = _
  have e0 : idxD (stD (p, held)) (.int 0) = some (.int (p : Int)) := idt0 _ _
  have e1 : idxD (stD (p, held)) (.int 1) = some (heldD held) := idt1 _ _ _
  unfold m_fault
  simp only [b2_some, e0, e1, row_at hr, bnd_some, consO_some, obs, is_beside_eq n held hl, asB_b, hand_of_eq, oms, hd0, use_t]
  rw [show itD (heldD held) = some (held.map Ent.enc) from rfl, bnd_some, foldF_map]
  rw [foldF_any (a := .str (Str.ofString "empty")) (q := fun e : Ent => !isPick e && (decide (e.w = handT r) && !e.o)) (fun e _ => by
    unfold Ent.enc
    simp only [idt0, idt1, idt4, b2_some, neD_ss, eqD_ss, obs, asB_b, notT_s, andT_ss]
    exact ifM_rt _ _ _)]
  rw [flQ_if, show (held.any fun e : Ent => !isPick e && (decide (e.w = handT r) && !e.o)) = emp held (handT r) from rfl]
  unfold faultT
  cases besB (awk held) with
  | true => rfl
  | false =>
    simp only [ifM_f, Bool.false_eq_true, if_false]
    cases emp held (handT r) with
    | true => rfl
    | false =>
      simp only [Bool.false_eq_true, if_false]
      cases r with
      | look w =>
        simp only [Rw.isU, andT_t, enc_look, idt1, consO_some, obs, lis_asleep_eq n held w hl, asB_b, handT, Bool.true_and]
        cases aslp held w <;> rfl
      | change w =>
        simp only [Rw.isU, andT_t, enc_change, idt1, consO_some, obs, lis_asleep_eq n held w hl, asB_b, handT, Bool.true_and]
        cases aslp held w <;> rfl
      | _ => rfl
end Bw
namespace Bw
open PySem Bd
/-! ### the law's own -/
theorem law_fault_eq (n : Nat) {st st' : List Rw} {r : Rw} (hck : ck st r = some st') {held : List Ent} (H : HI st held) (nd : (held.map Ent.w).Nodup) (hl : held.length ≤ 1000) : l_law_fault n [r.enc, heldD held] = some (.str (faultT r held)) := by
  show m_law_fault n r.enc (heldD held) = _
  unfold m_law_fault
  have ha : l_law_awake n [heldD held] = some (entsD (awk held)) := law_awake_eq n held hl
  simp only [consO_some, obs, ha, lD_some, bnd_some, oms, b2_some, hd0, hdL, use_l, bnd_id]
  rw [show listD (entsD (awk held)) = some ((awk held).map Ent.enc) from rfl, oms, bnd_some, enL_map, foldF_map]
  rw [foldF_any (a := .str (Str.ofString "beside")) (q := fun x : Ent × Nat => ((awk held).take x.2).any fun o => (x.1.t == o.t) && (isW x.1 || isW o)) (fun x _ => by
    unfold entsD
    simp only [asI_i, oms, obs, slcD_s, cutD_l, itD_l]
    rw [cutL_to, ← List.map_take, bnd_some, foldF_map]
    rw [foldF_any (a := .str (Str.ofString "beside")) (q := fun o : Ent => (x.1.t == o.t) && (isW x.1 || isW o)) (fun o _ => by
      unfold Ent.enc
      simp only [idt2, idt1, b2_some, eqD_ii, consO_some, lD_some]
      rw [show [PyData.str x.1.k, .str o.k] = [x.1.k, o.k].map PyData.str from rfl, inS_l, andT_ss]
      rw [show ([x.1.k, o.k].any fun y => decide (y = Str.ofString "write")) = (isW x.1 || isW o) by simp [isW]]
      exact ifM_rt _ _ _)]
    exact flM_if _ _ _ _)]
  rw [flQ_if]
  unfold faultT
  rw [show (List.zipIdx (awk held)).any (fun x => ((awk held).take x.2).any fun o => (x.1.t == o.t) && (isW x.1 || isW o)) = besB (awk held) from rfl]
  cases besB (awk held) with
  | true => rfl
  | false =>
    rw [if_neg (by simp), if_neg (by simp)]
    -- the hand
    have hand : (bnd (ifM (some r.isU) (idxD r.enc (.int 1)) (some (.str (Str.ofString "")))) fun s3 => ifM (andT (some r.isL) ((idxD r.enc (.int 3)).map isStr)) (idxD r.enc (.int 3)) (some s3)) = some (.str (handT r)) := by
      cases r with
      | lend w b s =>
        simp only [Rw.isU, Rw.isL, ifM_f, enc_lend, idt3, oms, andT_t, bnd_some]
        cases s <;> rfl
      | look w => simp only [Rw.isU, Rw.isL, ifM_t, ifM_f, andT_f, enc_look, idt1, bnd_some]; rfl
      | change w => simp only [Rw.isU, Rw.isL, ifM_t, ifM_f, andT_f, enc_change, idt1, bnd_some]; rfl
      | _ => rfl
    have tail : ∀ (K : D → Option D), (bnd (ifM (some r.isU) (idxD r.enc (.int 1)) (some (.str (Str.ofString "")))) fun s3 => bnd (ifM (andT (some r.isL) ((idxD r.enc (.int 3)).map isStr)) (idxD r.enc (.int 3)) (some s3)) K) = K (.str (handT r)) := by
      intro K
      cases h : ifM (some r.isU) (idxD r.enc (.int 1)) (some (.str (Str.ofString ""))) with
      | none => rw [h] at hand; cases hand
      | some s3 =>
        rw [h] at hand
        rw [bnd_some] at hand ⊢
        rw [hand]; rfl
    rw [tail]
    rw [show itD (heldD held) = some (held.map Ent.enc) from rfl, bnd_some, foldF_map]
    rw [foldF_any (a := .str (Str.ofString "empty")) (q := fun e : Ent => (decide (e.w = handT r) && !e.o)) (fun e _ => by
      unfold Ent.enc
      simp only [idt0, idt4, b2_some, eqD_ss, obs, asB_b, notT_s, andT_ss]
      exact ifM_rt _ _ _)]
    rw [flQ_if]
    have e1 : (held.any fun e : Ent => (decide (e.w = handT r) && !e.o)) = emp held (handT r) := by
      unfold emp
      have key : ∀ e ∈ held, (decide (e.w = handT r) && !e.o) = (!isPick e && (decide (e.w = handT r) && !e.o)) := fun e he => by
        cases hp : isPick e with
        | false => simp
        | true => rw [(H.pk e he hp).2]; simp
      apply Bool.eq_iff_iff.mpr
      rw [List.any_eq_true, List.any_eq_true]
      exact ⟨fun ⟨e, he, q⟩ => ⟨e, he, by rw [← key e he]; exact q⟩, fun ⟨e, he, q⟩ => ⟨e, he, by rw [key e he]; exact q⟩⟩
    rw [e1]
    cases hemp : emp held (handT r) with
    | true => rfl
    | false =>
      rw [if_neg (by simp), if_neg (by simp)]
      have used : ∀ w, (r = .look w ∨ r = .change w) → handT r = w → (andT (some true) (b2 ninD (some (.str (handT r))) (lD (lcG (itD (entsD (awk held))) (fun _ => some true) fun u => idxD u (.int 0))))) = some (aslp held (handT r)) := by
        intro w hr hw
        rw [hw]
        have hd : wOk w = true ∧ ∃ b, kdOf st w = some (kB b) := deed_ok hck (by rcases hr with h | h; exact .inl h; exact .inr (.inr h))
        obtain ⟨e, he, e1, e2⟩ := H.hand hd.2
        have eo : e.o = true := by
          cases ho : e.o with
          | true => rfl
          | false =>
            unfold emp at hemp
            rw [List.any_eq_false] at hemp
            exact absurd (by rw [e2, hw, ho, decide_eq_true e1]; rfl) (hemp e he)
        rw [andT_t, show itD (entsD (awk held)) = some ((awk held).map Ent.enc) from rfl]
        rw [lcG_mapE (g := fun e : Ent => .str e.w) (ln100 (by have : (awk held).length ≤ held.length := List.length_filter_le _ _; omega)) (fun e _ => by unfold Ent.enc; exact idt0 _ _), lD_some, b2_some]
        rw [show (awk held).map (fun e : Ent => PyData.str e.w) = ((awk held).map Ent.w).map PyData.str by rw [List.map_map]; rfl]
        unfold ninD
        rw [in_gone, oms]
        congr 1
        have iff1 : w ∈ (awk held).map Ent.w ↔ aslp held w = false := by
          constructor
          · intro h
            obtain ⟨x, hx, xw⟩ := List.mem_map.mp h
            have hx' := List.mem_filter.mp hx
            have := hx'.2
            unfold wake at this
            simp only [Bool.and_eq_true, Bool.not_eq_true'] at this
            rw [← xw]; exact this.2
          · intro h
            refine List.mem_map.mpr ⟨e, List.mem_filter.mpr ⟨he, ?_⟩, e1⟩
            unfold wake
            rw [e2, eo, e1, h]; rfl
        cases ha2 : aslp held w with
        | false => rw [decide_eq_true (iff1.mpr ha2)]; rfl
        | true => rw [decide_eq_false (fun h => by rw [iff1.mp h] at ha2; cases ha2)]; rfl
      cases r with
      | look w =>
        have := used w (.inl rfl) rfl
        simp only [Rw.isU, handT, Bool.true_and] at this ⊢
        rw [this]
        cases aslp held w <;> rfl
      | change w =>
        have := used w (.inr rfl) rfl
        simp only [Rw.isU, handT, Bool.true_and] at this ⊢
        rw [this]
        cases aslp held w <;> rfl
      | _ => rfl
end Bw
/-! ### the program's steps -/
namespace Bd
open PySem
theorem foldF_fst {ι S α : Type} {f : ι → S → Option (Fl S α)} {s : S} {g : ι → α} {q : ι → Bool} : ∀ {ds : List ι}, (∀ x ∈ ds, f x s = some (if q x = true then .rt (g x) else .nx s)) → foldF f ds s = some (match ds.find? q with | some x => .rt (g x) | none => .nx s)
  | [], _ => rfl
  | x :: r, h => by
    show (f x s).bind _ = _
    rw [h x List.mem_cons_self, List.find?_cons]
    cases hq : q x with
    | true => rfl
    | false => exact foldF_fst (ds := r) fun y hy => h y (List.mem_cons_of_mem _ hy)
end Bd
namespace Bw
open PySem Bd
theorem addHeldP (a b : List Ent) (h : a.length + b.length ≤ 100000) : addD (heldD a) (.tuple (b.map Ent.enc)) = some (heldD (a ++ b)) := by
  unfold heldD
  rw [addD_tt _ _ (by rw [List.length_map, List.length_map]; exact ln100 h), List.map_append]
theorem entry_of_eq (n : Nat) (held : List Ent) (v : Str) : l_entry_of n [heldD held, .str v] = some (match entOf held v with | some e => e.enc | none => .none) := by
  show m_entry_of n (heldD held) (.str v) = _
  unfold m_entry_of
  rw [obs, show itD (heldD held) = some (held.map Ent.enc) from rfl, bnd_some, foldF_map]
  rw [foldF_fst (g := Ent.enc) (q := fun e : Ent => decide (e.w = v)) (fun e _ => by
    unfold Ent.enc
    simp only [idt0, b2_some, eqD_ss]
    exact ifM_rt _ _ _)]
  unfold entOf
  cases held.find? fun e => decide (e.w = v) <;> rfl
theorem lent_eq (n : Nat) {st : List Rw} {held : List Ent} (H : HI st held) (hl : held.length ≤ 1000) (w : Str) (b : Bool) (s : Src) (hs : srcOk st b s = true) :
    l_lent n [heldD held, Rw.enc (.lend w b s)] = some (heldD (held ++ [lentT held w b s])) := by
  show m_lent n (heldD held) (Rw.enc (.lend w b s)) = _
  unfold m_lent
  simp only [enc_lend, b2_some, idt3, idt1, idt2, bnd_some, oms]
  have fin : ∀ (t : Int) (sr : Str) (o : Bool), addD (heldD held) (.tuple [.tuple [.str w, .str (kS b), .int t, .str sr, .bool o]]) = some (heldD (held ++ [⟨w, kS b, t, sr, o⟩])) := fun t sr o => addHeldP held [⟨w, kS b, t, sr, o⟩] (by rw [List.length_singleton]; omega)
  cases s with
  | th t =>
    rw [show Src.enc (.th t) = .int t from rfl, isInt_i, ifM_t]
    simp only [consO_some, oms, b2_some]
    exact fin t noS true
  | of v =>
    obtain ⟨e0, h1, h2, h3⟩ := src_ent H hs
    rw [show Src.enc (.of v) = .str v from rfl, isInt_s, ifM_f]
    simp only [consO_some, obs, entry_of_eq, h1, bnd_some]
    unfold Ent.enc
    simp only [idt1, idt2, idt4, b2_some, eqD_ss, consO_some, oms, lentT, h1]
    by_cases hp : isPick e0 = true
    · rw [show decide (e0.k = Str.ofString "pick") = true from hp, ifM_t, if_pos hp]
      exact fin e0.t noS true
    · have hp2 : isPick e0 = false := by simpa using hp
      rw [show decide (e0.k = Str.ofString "pick") = false from hp2, ifM_f, if_neg hp]
      exact fin e0.t v e0.o
theorem take_nextP {α : Type} {l : List α} {i : Nat} {a : α} (h : l[i]? = some a) : l.take (i + 1) = l.take i ++ [a] := by rw [List.take_add_one, h]; rfl
theorem given_back_eq (n : Nat) {held : List Ent} (hl : held.length ≤ 1000) (w : Str) : l_given_back n [heldD held, .str w] = some (heldD (backT held w)) := by
  show m_given_back n (heldD held) (.str w) = _
  unfold m_given_back
  simp only [consO_some, bnd_some, obs, oms]
  rw [show itD (heldD held) = some (held.map Ent.enc) from rfl, bnd_some, foldO_map]
  refine foldO_bnd (fun i s => ∃ g fs, (held.take i).foldl (backG w) ([w], []) = (g, fs) ∧ s = (g.map PyData.str, heldD fs) ∧ g.length ≤ i + 1 ∧ fs.length = i) ?_ ⟨[w], [], rfl, rfl, by simp, rfl⟩ ?_
  · rintro i e s hi ⟨g, fs, hg, rfl, hgl, hfl⟩
    have hlt := getD_lt hi
    have tk := take_nextP hi
    refine ⟨((backG w (g, fs) e).1.map PyData.str, heldD (backG w (g, fs) e).2), ?_, (backG w (g, fs) e).1, (backG w (g, fs) e).2, by rw [tk, List.foldl_append, hg]; rfl, rfl, ?_, ?_⟩
    · unfold Ent.enc
      simp only [idt0, idt1, idt2, idt3, b2_some, eqD_ss, in_gone, orT_ss, obs, oms, consO_some]
      rw [appM_some (lt100 (by rw [List.length_map]; omega))]
      unfold backG
      by_cases hc : (decide (e.w = w) || decide (e.s ∈ g)) = true
      · rw [hc, ifM_t, if_pos rfl]
        simp only [bnd_some]
        rw [show PyData.tuple [PyData.tuple [PyData.str e.w, .str e.k, .int e.t, .str e.s, .bool false]] = .tuple ([{ e with o := false }].map Ent.enc) from rfl, addHeldP _ _ (by rw [List.length_singleton]; omega), bnd_some, List.map_append]
        rfl
      · rw [if_neg hc, show (decide (e.w = w) || decide (e.s ∈ g)) = false by simpa using hc, ifM_f]
        simp only [bnd_some]
        rw [show PyData.tuple [PyData.tuple [PyData.str e.w, .str e.k, .int e.t, .str e.s, .bool e.o]] = .tuple ([e].map Ent.enc) from rfl, addHeldP _ _ (by rw [List.length_singleton]; omega), bnd_some]
    · unfold backG; split
      · show (g ++ [e.w]).length ≤ _; rw [List.length_append, List.length_singleton]; omega
      · show g.length ≤ _; omega
    · unfold backG; split
      · show (fs ++ [_]).length = _; rw [List.length_append, List.length_singleton]; omega
      · show (fs ++ [_]).length = _; rw [List.length_append, List.length_singleton]; omega
  · rintro s ⟨g, fs, hg, rfl, _⟩
    rw [List.take_length] at hg
    unfold backT
    rw [hg]
theorem last_at {rows : List Rw} {h e : Nat} (a : atE rows h e = true) : idxD (.list (enLs rows)) (.int (h : Int)) = some (.int (e : Int)) := by
  have lt := atE_lt a
  have le := getD_lt (atE_is a).1
  rw [idxD_l, enLs_get (by omega), enI_of a]
theorem left_eq (n : Nat) {rows : List Rw} {p h : Nat} {q : Rw} (hq : rows[h]? = some q) (held : List Ent) : l_left n [rowsD rows, .int (h : Int), .int (p : Int), heldD held] = some (if q.isG = true then stD (h, held) else if q.isE = true then stD (p + 1, held) else stD (p + 1, held.dropLast)) := by
  show m_left n (rowsD rows) (.int (h : Int)) (.int (p : Int)) (heldD held) = _
  unfold m_left
  simp only [b2_some, row_at hq, hd0, hdG, hdE, addD_ii, int_succ, consO_some, oms, negD_i, obs, asI_i, slcD_s, held_cut]
  cases q.isG <;> cases q.isE <;> rfl
theorem stepped_by_eq (n : Nat) {rows : List Rw} (G : cks [] rows = some []) (hl : rows.length ≤ 700) {p : Nat} {held : List Ent} {r : Rw} (hr : rows[p]? = some r) (H : HI (stk rows p) held) (c : Int) :
    l_stepped_by n [rowsD rows, .list (hmL rows), .list (enLs rows), stD (p, held), .int c] = some (stD (stepT rows p held c)) := by
  have hp := getD_lt hr
  have N := nst_of G
  have hck := cks_at G hr
  have hsm := H.small (by omega)
  show m_stepped_by n (rowsD rows) (.list (hmL rows)) (.list (enLs rows)) (stD (p, held)) (.int c) = _
  have e0 : idxD (stD (p, held)) (.int 0) = some (.int (p : Int)) := idt0 _ _
  have e1 : idxD (stD (p, held)) (.int 1) = some (heldD held) := idt1 _ _ _
  unfold m_stepped_by
  simp only [b2_some, e0, e1, bnd_some, row_at hr, hd0, hdL, hdP, hdB, hdE, hdO, hdG, hdF, consO_some, home_at hp, modD_ii c 2 (by decide), eqD_ii, addD_ii, int_succ, bnd_id]
  unfold stepT
  rw [hr]
  cases r with
  | lend w b s =>
    have hc := if_c hck
    simp only [Bool.and_eq_true, Option.isNone_iff_eq_none] at hc
    simp only [Rw.isL, Rw.isP, Rw.isB, Rw.isE, Rw.isO, Rw.isG, Rw.isF, ifM_t, ifM_f, obs, oms, bnd_some]
    rw [lent_eq n H (by omega) w b s hc.2.2]
    simp only [bnd_some, consO_some, oms]; rfl
  | pick w ts =>
    have hts := ck_pickn hck
    simp only [Rw.isL, Rw.isP, Rw.isB, Rw.isE, Rw.isO, Rw.isG, Rw.isF, ifM_t, ifM_f, obs, oms, bnd_some, enc_pick, idt1, idt2, lenD_t, List.length_map]
    rw [b2_some, modD_ii _ _ (by omega), b2_some, idx_ints hts]
    simp only [consO_some, oms, b2_some, bnd_some]
    have ah := addHeldP held [⟨w, pickS, ts.getD (c % (ts.length : Int)).toNat 0, noS, true⟩] (by rw [List.length_singleton]; omega)
    rw [show PyData.tuple [PyData.tuple [PyData.str w, .str (Str.ofString "pick"), .int (ts.getD (c % (ts.length : Int)).toNat 0), .str (Str.ofString ""), .bool true]] = .tuple ([(⟨w, pickS, ts.getD (c % (ts.length : Int)).toNat 0, noS, true⟩ : Ent)].map Ent.enc) from rfl, ah]
    simp only [bnd_some, consO_some, oms]; rfl
  | either =>
    simp only [Rw.isL, Rw.isP, Rw.isB, Rw.isE, Rw.isO, Rw.isG, Rw.isF, ifM_t, ifM_f, obs, oms, bnd_some]
    rw [lbranches_eq n rows N (by omega) p, bnd_some, lenD_l, brL_len, b2_some, modD_ii _ _ (by have := brN_pos rows p; omega), b2_some, idx_br]
    simp only [bnd_some, consO_some, oms]; rfl
  | again =>
    obtain ⟨e, a⟩ := atE_ex N hr rfl
    simp only [Rw.isL, Rw.isP, Rw.isB, Rw.isE, Rw.isO, Rw.isG, Rw.isF, ifM_t, ifM_f, obs, oms, bnd_some, last_at a]
    simp only [b2_some, addD_ii, int_succ, consO_some, oms]
    have h2 : c % 2 = 0 ∨ c % 2 = 1 := by omega
    rw [enN_of a]
    rcases h2 with h2 | h2
    · rw [h2, show ((0 : Int) == 1) = false from rfl, ifM_f, if_neg (by decide)]; rfl
    · rw [h2, show ((1 : Int) == 1) = true from rfl, ifM_t, if_pos rfl]; rfl
  | or_ =>
    obtain ⟨h, q, ho, hq⟩ := home_of G hr (.inl rfl)
    have hE := hq rfl
    subst hE
    obtain ⟨e, a⟩ := atE_ex N ho.row rfl
    simp only [Rw.isL, Rw.isP, Rw.isB, Rw.isE, Rw.isO, Rw.isG, Rw.isF, ifM_t, ifM_f, obs, oms, bnd_some, ho.hI, last_at a, ho.hN, enN_of a, consO_some]
    rfl
  | fin =>
    obtain ⟨h, q, ho, _⟩ := home_of G hr (.inr rfl)
    simp only [Rw.isL, Rw.isP, Rw.isB, Rw.isE, Rw.isO, Rw.isG, Rw.isF, ifM_t, ifM_f, obs, oms, bnd_some, ho.hI]
    rw [left_eq n ho.row held, ho.hN, ho.row]
    have o := ho.opn
    cases q <;> first | rfl | cases o
  | look w => simp only [Rw.isL, Rw.isP, Rw.isB, Rw.isE, Rw.isO, Rw.isG, Rw.isF, ifM_t, ifM_f, obs, oms, bnd_some, consO_some]; rfl
  | change w => simp only [Rw.isL, Rw.isP, Rw.isB, Rw.isE, Rw.isO, Rw.isG, Rw.isF, ifM_t, ifM_f, obs, oms, bnd_some, consO_some]; rfl
  | back w =>
    simp only [Rw.isL, Rw.isP, Rw.isB, Rw.isE, Rw.isO, Rw.isG, Rw.isF, ifM_t, ifM_f, obs, oms, bnd_some, consO_some, enc_back, idt1]
    rw [given_back_eq n (by omega) w]
    simp only [bnd_some, consO_some, oms]; rfl
end Bw
/-! ### all standings, the nearest first -/
namespace Bw
open PySem Bd
abbrev St := Nat × List Ent
instance : DecidableEq Ent := fun a b =>
  if h : a.w = b.w ∧ a.k = b.k ∧ a.t = b.t ∧ a.s = b.s ∧ a.o = b.o then isTrue (by
    obtain ⟨h1, h2, h3, h4, h5⟩ := h
    cases a; cases b
    simp only at h1 h2 h3 h4 h5
    subst h1 h2 h3 h4 h5
    rfl) else isFalse (fun e => h (by subst e; exact ⟨rfl, rfl, rfl, rfl, rfl⟩))
def waysR : Rw → Nat → Nat
  | .pick _ ts, _ => ts.length
  | .either, b => b
  | .again, _ => 2
  | _, _ => 1
def waysT (rows : List Rw) (p : Nat) : Nat := match rows[p]? with
  | some r => waysR r (brN rows p).length
  | none => 0
structure Nd where
  st : St
  cs : List Int
def chsAt (rows : List Rw) (p : Nat) : Bool := match rows[p]? with
  | some r => r.chs
  | none => false
def isIn (L : List Nd) (f : St) : Bool := L.any fun x => decide (x.st = f)
def exp1 (rows : List Rw) (x : Nd) (L : List Nd) (c : Nat) : List Nd :=
  if (decide ((stepT rows x.st.1 x.st.2 (c : Int)).1 < rows.length) && !isIn L (stepT rows x.st.1 x.st.2 (c : Int))) = true then L ++ [⟨stepT rows x.st.1 x.st.2 (c : Int), if chsAt rows x.st.1 = true then x.cs ++ [(c : Int)] else x.cs⟩] else L
def exps (rows : List Rw) (x : Nd) (L : List Nd) : List Nd := (List.range (waysT rows x.st.1)).foldl (exp1 rows x) L
/-- how a standing is reached by choices -/
inductive Rch (rows : List Rw) : List Int → St → Prop where
  | start : Rch rows [] (0, [])
  | plain {cs : List Int} {p : Nat} {h : List Ent} {r : Rw} (c : Int) : Rch rows cs (p, h) → rows[p]? = some r → r.chs = false → Rch rows cs (stepT rows p h c)
  | choose {cs : List Int} {p : Nat} {h : List Ent} {r : Rw} (c : Int) : Rch rows cs (p, h) → rows[p]? = some r → r.chs = true → Rch rows (cs ++ [c]) (stepT rows p h c)
structure NdOk (rows : List Rw) (x : Nd) : Prop where
  lt : x.st.1 < rows.length
  hi : HI (stk rows x.st.1) x.st.2
  rch : Rch rows x.cs x.st
  nn : ∀ c ∈ x.cs, 0 ≤ c
structure LOk (rows : List Rw) (L : List Nd) : Prop where
  ok : ∀ x ∈ L, NdOk rows x
  nd : (L.map Nd.st).Nodup
theorem isIn_iff {L : List Nd} {f : St} : isIn L f = true ↔ f ∈ L.map Nd.st := by
  unfold isIn
  rw [List.any_eq_true, List.mem_map]
  exact ⟨fun ⟨x, hx, e⟩ => ⟨x, hx, of_decide_eq_true e⟩, fun ⟨x, hx, e⟩ => ⟨x, hx, decide_eq_true e⟩⟩
theorem exp1_pre (rows : List Rw) (x : Nd) (L : List Nd) (c : Nat) : L <+: exp1 rows x L c := by
  unfold exp1
  split
  · exact List.prefix_append _ _
  · exact List.prefix_refl _
theorem foldl_pre {α β : Type} {f : List α → β → List α} (h : ∀ l c, l <+: f l c) : ∀ (cs : List β) (l : List α), l <+: cs.foldl f l
  | [], l => List.prefix_refl _
  | c :: cs, l => (h l c).trans (foldl_pre h cs (f l c))
theorem exps_pre (rows : List Rw) (x : Nd) (L : List Nd) : L <+: exps rows x L := foldl_pre (fun l c => exp1_pre rows x l c) _ L
theorem exp1_ok {rows : List Rw} (G : cks [] rows = some []) {x : Nd} (hx : NdOk rows x) {L : List Nd} (h : LOk rows L) (c : Nat) : LOk rows (exp1 rows x L c) := by
  unfold exp1
  split
  · rename_i hc
    rw [Bool.and_eq_true, decide_eq_true_eq, Bool.not_eq_true'] at hc
    obtain ⟨h1, h2⟩ := hc
    obtain ⟨r, hr⟩ : ∃ r, rows[x.st.1]? = some r := ⟨_, List.getElem?_eq_getElem hx.lt⟩
    have so := step_ok G hr hx.hi (c : Int)
    have ca : chsAt rows x.st.1 = r.chs := by unfold chsAt; rw [hr]
    refine ⟨fun y hy => ?_, ?_⟩
    · rcases List.mem_append.mp hy with hy | hy
      · exact h.ok y hy
      · rw [List.mem_singleton.mp hy]
        refine ⟨h1, so.hi, ?_, ?_⟩
        · show Rch rows (if chsAt rows x.st.1 = true then x.cs ++ [(c : Int)] else x.cs) (stepT rows x.st.1 x.st.2 (c : Int))
          rw [ca]
          cases hch : r.chs with
          | true => rw [if_pos rfl]; exact .choose (c : Int) hx.rch hr hch
          | false => rw [if_neg (by simp)]; exact .plain (c : Int) hx.rch hr hch
        · show ∀ c' ∈ (if chsAt rows x.st.1 = true then x.cs ++ [(c : Int)] else x.cs), 0 ≤ c'
          split
          · intro c' hc'
            rcases List.mem_append.mp hc' with q | q
            · exact hx.nn c' q
            · rw [List.mem_singleton.mp q]; omega
          · exact hx.nn
    · rw [List.map_append]
      refine nodup_app h.nd fun hm => ?_
      rw [isIn_iff.mpr hm] at h2
      cases h2
  · exact h
theorem exps_ok {rows : List Rw} (G : cks [] rows = some []) {x : Nd} (hx : NdOk rows x) {L : List Nd} (h : LOk rows L) : LOk rows (exps rows x L) := by
  have go : ∀ (cs : List Nat) (L : List Nd), LOk rows L → LOk rows (cs.foldl (exp1 rows x) L) := by
    intro cs
    induction cs with
    | nil => intro L h; exact h
    | cons c cs ih => intro L h; exact ih _ (exp1_ok G hx h c)
  exact go _ L h
/-- what is stepped to from a place is there, or the run is over -/
def SC (rows : List Rw) (L : List Nd) (x : Nd) : Prop := ∀ c : Nat, c < waysT rows x.st.1 → (stepT rows x.st.1 x.st.2 (c : Int)).1 < rows.length → stepT rows x.st.1 x.st.2 (c : Int) ∈ L.map Nd.st
theorem exps_sc (rows : List Rw) (x : Nd) (L : List Nd) : SC rows (exps rows x L) x := by
  have go : ∀ (cs : List Nat) (L : List Nd) (c : Nat), c ∈ cs → (stepT rows x.st.1 x.st.2 (c : Int)).1 < rows.length → stepT rows x.st.1 x.st.2 (c : Int) ∈ (cs.foldl (exp1 rows x) L).map Nd.st := by
    intro cs
    induction cs with
    | nil => intro L c h; cases h
    | cons d cs ih =>
      intro L c h hl
      rw [List.foldl_cons]
      cases h with
      | head =>
        have e1 : stepT rows x.st.1 x.st.2 (d : Int) ∈ (exp1 rows x L d).map Nd.st := by
          unfold exp1
          split
          · rw [List.map_append]; exact List.mem_append_right _ (by simp)
          · rename_i hc
            rw [decide_eq_true hl, Bool.true_and, Bool.not_eq_true', Bool.not_eq_false] at hc
            exact isIn_iff.mp hc
        have := foldl_pre (fun l c => exp1_pre rows x l c) cs (exp1 rows x L d)
        obtain ⟨t, ht⟩ := this
        rw [← ht, List.map_append]
        exact List.mem_append_left _ e1
      | tail _ h => exact ih _ c h hl
  intro c hc hl
  exact go _ L c (List.mem_range.mpr hc) hl
theorem SC.pre {rows : List Rw} {L M : List Nd} {x : Nd} (h : SC rows L x) (p : L <+: M) : SC rows M x := fun c hc hl => by
  obtain ⟨t, rfl⟩ := p
  rw [List.map_append]
  exact List.mem_append_left _ (h c hc hl)
/-- the walk: what is told and what has been gone through -/
structure BInv (rows : List Rw) (L : List Nd) (p : Nat) : Prop where
  ok : LOk rows L
  le : p ≤ L.length
  sc : ∀ i x, i < p → L[i]? = some x → SC rows L x
  first : ∃ cs, L[0]? = some ⟨(0, []), cs⟩
theorem binv0 {rows : List Rw} (h : 0 < rows.length) : BInv rows [⟨(0, []), []⟩] 0 where
  ok := ⟨fun x hx => by rw [List.mem_singleton.mp hx]; exact ⟨h, HI_nil, .start, fun _ h => nomatch h⟩, by simp⟩
  le := Nat.zero_le _
  sc := fun i x h => by omega
  first := ⟨[], rfl⟩
theorem pre_get {α : Type} {L M : List α} {i : Nat} {x : α} (p : L <+: M) (h : L[i]? = some x) : M[i]? = some x := by
  obtain ⟨t, rfl⟩ := p
  rw [List.getElem?_append_left (getD_lt h)]; exact h
theorem binv_step {rows : List Rw} (G : cks [] rows = some []) {L : List Nd} {p : Nat} {x : Nd} (I : BInv rows L p) (h : L[p]? = some x) : BInv rows (exps rows x L) (p + 1) where
  ok := exps_ok G (I.ok.ok x (List.mem_of_getElem? h)) I.ok
  le := by
    have h1 := getD_lt h
    have h2 := (exps_pre rows x L).length_le
    omega
  sc := fun i y hi hy => by
    by_cases e : i = p
    · subst e
      rw [pre_get (exps_pre rows x L) h] at hy
      cases hy
      exact exps_sc rows x L
    · have hp := getD_lt h
      have hy' : L[i]? = some y := by
        rw [List.getElem?_eq_getElem (show i < L.length by omega)]
        have := pre_get (exps_pre rows x L) (List.getElem?_eq_getElem (show i < L.length by omega))
        rw [this] at hy
        exact hy
      exact (I.sc i y (by omega) hy').pre (exps_pre rows x L)
  first := by
    obtain ⟨cs, e⟩ := I.first
    exact ⟨cs, pre_get (exps_pre rows x L) e⟩
/-- so many steps of the walk -/
def bfs (rows : List Rw) : Nat → List Nd → Nat → List Nd × Nat
  | 0, L, p => (L, p)
  | k + 1, L, p => match L[p]? with
    | some x => bfs rows k (exps rows x L) (p + 1)
    | none => (L, p)
theorem bfs_inv {rows : List Rw} (G : cks [] rows = some []) : ∀ (k : Nat) (L : List Nd) (p : Nat), BInv rows L p → BInv rows (bfs rows k L p).1 (bfs rows k L p).2
  | 0, L, p, I => I
  | k + 1, L, p, I => by
    unfold bfs
    cases h : L[p]? with
    | none => exact I
    | some x => exact bfs_inv G k _ _ (binv_step G I h)
/-- all standings that runs come to are there -/
theorem step_mod {rows : List Rw} (G : cks [] rows = some []) {p : Nat} {held : List Ent} {r : Rw} (hr : rows[p]? = some r) (c : Int) : ∃ k : Nat, k < waysT rows p ∧ stepT rows p held c = stepT rows p held (k : Int) := by
  have hw : waysT rows p = waysR r (brN rows p).length := by unfold waysT; rw [hr]
  rw [hw]
  unfold stepT
  rw [hr]
  cases r with
  | pick w ts =>
    have hp := ck_pickn (cks_at G hr)
    refine ⟨(c % (ts.length : Int)).toNat, mod_lt hp, ?_⟩
    have e : (((c % (ts.length : Int)).toNat : Nat) : Int) = c % (ts.length : Int) := Int.toNat_of_nonneg (Int.emod_nonneg _ (by omega))
    simp only [e, Int.emod_emod_of_dvd _ (Int.dvd_refl _)]
  | either =>
    have hp := brN_pos rows p
    refine ⟨(c % ((brN rows p).length : Int)).toNat, mod_lt hp, ?_⟩
    have e : (((c % ((brN rows p).length : Int)).toNat : Nat) : Int) = c % ((brN rows p).length : Int) := Int.toNat_of_nonneg (Int.emod_nonneg _ (by omega))
    simp only [e, Int.emod_emod_of_dvd _ (Int.dvd_refl _)]
  | again =>
    refine ⟨(c % 2).toNat, by show _ < 2; omega, ?_⟩
    have e : (((c % 2).toNat : Nat) : Int) = c % 2 := Int.toNat_of_nonneg (Int.emod_nonneg _ (by decide))
    simp only [e, Int.emod_emod_of_dvd _ (Int.dvd_refl 2)]
  | _ => exact ⟨0, by show 0 < 1; decide, rfl⟩
theorem closed {rows : List Rw} (G : cks [] rows = some []) {L : List Nd} (I : BInv rows L L.length) {st : St} (hs : st ∈ L.map Nd.st) (c : Int) (hl : (stepT rows st.1 st.2 c).1 < rows.length) : stepT rows st.1 st.2 c ∈ L.map Nd.st := by
  obtain ⟨x, hx, rfl⟩ := List.mem_map.mp hs
  obtain ⟨i, hi⟩ := List.getElem?_of_mem hx
  have hr := List.getElem?_eq_getElem (I.ok.ok x hx).lt
  obtain ⟨k, hk, e⟩ := step_mod G (held := x.st.2) hr c
  rw [e] at hl ⊢
  exact I.sc i x (getD_lt hi) hi k hk hl
/-- every run stays within them -/
theorem run_in {rows : List Rw} (G : cks [] rows = some []) {L : List Nd} (I : BInv rows L L.length) (cs : List Int) : ∀ x ∈ runT rows cs, x ∈ L.map Nd.st := by
  have go : ∀ (k : Nat) (s : RunSt), (∀ x ∈ s.found, x ∈ L.map Nd.st) → (s.p < rows.length → (s.p, s.held) ∈ L.map Nd.st) → ∀ x ∈ (itW (fun s => decide (s.p < rows.length)) (nextR rows cs) k s).found, x ∈ L.map Nd.st := by
    intro k
    induction k with
    | zero => intro s h _; exact h
    | succ k ih =>
      intro s h1 h2
      show ∀ x ∈ (if decide (s.p < rows.length) = true then _ else _ : RunSt).found, _
      by_cases hc : s.p < rows.length
      · rw [if_pos (decide_eq_true hc)]
        have hr := List.getElem?_eq_getElem hc
        have e : nextR rows cs s = ⟨s.found ++ [(s.p, s.held)], (stepT rows s.p s.held (if (rows[s.p]).chs = true then cs.getD s.taken 0 else 0)).1, (stepT rows s.p s.held (if (rows[s.p]).chs = true then cs.getD s.taken 0 else 0)).2, if (rows[s.p]).chs = true then s.taken + 1 else s.taken⟩ := by unfold nextR; rw [hr]
        refine ih _ ?_ ?_
        · rw [e]
          intro x hx
          rcases List.mem_append.mp hx with hx | hx
          · exact h1 x hx
          · rw [List.mem_singleton.mp hx]; exact h2 hc
        · rw [e]
          intro hl
          exact closed G I (h2 hc) _ hl
      · rw [if_neg (by simpa using hc)]
        exact h1
  refine go _ ⟨[], 0, [], 0⟩ (fun x h => nomatch h) fun _ => ?_
  obtain ⟨cs0, e⟩ := I.first
  exact List.mem_map.mpr ⟨_, List.mem_of_getElem? e, rfl⟩
/-! ### along its choices a run comes there -/
theorem it_mono {rows : List Rw} (cs : List Int) : ∀ (k : Nat) (s : RunSt) (x : St), x ∈ s.found → x ∈ (itW (fun s => decide (s.p < rows.length)) (nextR rows cs) k s).found
  | 0, _, _, h => h
  | k + 1, s, x, h => by
    show x ∈ (if decide (s.p < rows.length) = true then _ else _ : RunSt).found
    by_cases hc : s.p < rows.length
    · rw [if_pos (decide_eq_true hc)]
      refine it_mono cs k _ x ?_
      unfold nextR
      rw [List.getElem?_eq_getElem hc]
      exact List.mem_append_left _ h
    · rw [if_neg (by simpa using hc)]; exact h
theorem it_add {rows : List Rw} (cs : List Int) : ∀ (j k : Nat) (s : RunSt), itW (fun s => decide (s.p < rows.length)) (nextR rows cs) (j + k) s = itW (fun s => decide (s.p < rows.length)) (nextR rows cs) k (itW (fun s => decide (s.p < rows.length)) (nextR rows cs) j s)
  | 0, k, s => by rw [Nat.zero_add]; rfl
  | j + 1, k, s => by
    rw [show j + 1 + k = (j + k) + 1 by omega]
    show (if decide (s.p < rows.length) = true then _ else _) = itW _ _ k (if decide (s.p < rows.length) = true then _ else _)
    by_cases hc : s.p < rows.length
    · rw [if_pos (decide_eq_true hc), if_pos (decide_eq_true hc)]
      exact it_add cs j k _
    · rw [if_neg (by simpa using hc), if_neg (by simpa using hc)]
      cases k with
      | zero => rfl
      | succ k =>
        show s = if decide (s.p < rows.length) = true then _ else _
        rw [if_neg (by simpa using hc)]
/-- the run by cs and more comes to the standing, having taken cs -/
theorem rch_run {rows : List Rw} {cs : List Int} {st : St} (h : Rch rows cs st) : st.1 < rows.length → ∀ ext : List Int, ∃ k found, itW (fun s => decide (s.p < rows.length)) (nextR rows (cs ++ ext)) k ⟨[], 0, [], 0⟩ = ⟨found, st.1, st.2, cs.length⟩ := by
  induction h with
  | start => intro _ ext; exact ⟨0, [], rfl⟩
  | @plain cs p h r c hr0 hr hch ih =>
    intro hl ext
    have hp := getD_lt hr
    obtain ⟨k, found, e⟩ := ih hp ext
    refine ⟨k + 1, found ++ [(p, h)], ?_⟩
    rw [it_add, e]
    show (if decide (p < rows.length) = true then _ else _) = _
    rw [if_pos (decide_eq_true hp)]
    show nextR rows (cs ++ ext) ⟨found, p, h, cs.length⟩ = _
    unfold nextR
    simp only [hr, hch]
    have e2 : stepT rows p h 0 = stepT rows p h c := by
      unfold stepT
      rw [hr]
      cases r <;> first | rfl | cases hch
    simp [e2]
  | @choose cs p h r c hr0 hr hch ih =>
    intro hl ext
    have hp := getD_lt hr
    obtain ⟨k, found, e⟩ := ih hp ([c] ++ ext)
    rw [← List.append_assoc] at e
    refine ⟨k + 1, found ++ [(p, h)], ?_⟩
    rw [it_add, e]
    show (if decide (p < rows.length) = true then _ else _) = _
    rw [if_pos (decide_eq_true hp)]
    show nextR rows (cs ++ [c] ++ ext) ⟨found, p, h, cs.length⟩ = _
    unfold nextR
    simp only [hr, hch]
    have e2 : (cs ++ [c] ++ ext).getD cs.length 0 = c := by
      rw [List.getD_eq_getElem?_getD, List.append_assoc, List.getElem?_append_right (Nat.le_refl _), Nat.sub_self]; rfl
    simp [e2]
theorem rch_mem {rows : List Rw} (G : cks [] rows = some []) {cs : List Int} {st : St} (h : Rch rows cs st) (hl : st.1 < rows.length) : st ∈ runT rows cs := by
  obtain ⟨k, found, e⟩ := rch_run h hl []
  rw [List.append_nil] at e
  -- the whole run goes on from there
  have whole : ∀ m, (itW (fun s => decide (s.p < rows.length)) (nextR rows cs) (k + (m + 1)) ⟨[], 0, [], 0⟩).found = (itW (fun s => decide (s.p < rows.length)) (nextR rows cs) m (nextR rows cs ⟨found, st.1, st.2, cs.length⟩)).found := by
    intro m
    rw [it_add, e]
    show (if decide (st.1 < rows.length) = true then _ else _ : RunSt).found = _
    rw [if_pos (decide_eq_true hl)]
  have memN : st ∈ (nextR rows cs ⟨found, st.1, st.2, cs.length⟩).found := by
    unfold nextR
    simp only [List.getElem?_eq_getElem hl]
    exact List.mem_append_right _ (by simp)
  -- the run ends within M0 turns; more turns change nothing
  obtain ⟨I, hp⟩ := finR_ok G cs
  have stop : ∀ m, itW (fun s => decide (s.p < rows.length)) (nextR rows cs) m (finR rows cs) = finR rows cs := by
    intro m
    cases m with
    | zero => rfl
    | succ m =>
      show (if decide ((finR rows cs).p < rows.length) = true then _ else _) = _
      rw [if_neg (by rw [hp]; simp)]
  have more : (itW (fun s => decide (s.p < rows.length)) (nextR rows cs) (M0 rows cs + (k + 1)) ⟨[], 0, [], 0⟩).found = runT rows cs := by
    rw [it_add]
    show (itW _ _ (k + 1) (finR rows cs)).found = _
    rw [stop]; rfl
  rw [← more, show M0 rows cs + (k + 1) = k + (M0 rows cs + 1) by omega, whole]
  exact it_mono cs _ _ _ memN
end Bw
/-! ### standings as keys of dicts -/
namespace Bw
open PySem Bd
def nkE (e : Ent) : NestedKey := .tup [.text e.w, .text e.k, .num e.t, .text e.s, .num (if e.o = true then 1 else 0)]
def nkSt (st : St) : NestedKey := .tup [.num (st.1 : Int), .tup (st.2.map nkE)]
theorem ky_ent (e : Ent) : kyD e.enc = some (nkE e) := by
  unfold Ent.enc nkE
  simp [kyD, kyL]
theorem ky_ents : ∀ es : List Ent, kyL (es.map Ent.enc) = some (es.map nkE)
  | [] => rfl
  | e :: es => by
    rw [List.map_cons, List.map_cons, kyL, ky_ent, ky_ents es]; rfl
theorem ky_st (st : St) : kyD (stD st) = some (nkSt st) := by
  unfold stD heldD nkSt
  simp [kyD, kyL, ky_ents]
theorem nkE_depth : ∀ es : List Ent, NestedKey.depthAll (es.map nkE) ≤ 1
  | [] => by simp [NestedKey.depthAll]
  | e :: es => by
    rw [List.map_cons, NestedKey.depthAll]
    have h1 : (nkE e).depth = 1 := by unfold nkE; simp [NestedKey.depth, NestedKey.depthAll]
    rw [h1]
    exact Nat.max_le.mpr ⟨Nat.le_refl _, nkE_depth es⟩
theorem nkSt_depth (st : St) : (nkSt st).depth ≤ 8 := by
  unfold nkSt
  have := nkE_depth st.2
  simp only [NestedKey.depth, NestedKey.depthAll]
  omega
theorem kyT_st (st : St) : kyT (stD st) = some (nkSt st) := by
  have h := ky_st st
  show (kyD (stD st)).bind (fun k => grd (decide (k.depth ≤ 8)) (some k)) = _
  rw [h]
  exact grd_pos (nkSt_depth st) _
theorem nkE_inj {a b : Ent} (h : nkE a = nkE b) : a = b := by
  unfold nkE at h
  simp only [NestedKey.tup.injEq, List.cons.injEq, NestedKey.text.injEq, NestedKey.num.injEq, and_true] at h
  obtain ⟨h1, h2, h3, h4, h5⟩ := h
  have ho : a.o = b.o := by
    cases ha : a.o <;> cases hb : b.o <;> rw [ha, hb] at h5 <;> simp at h5 <;> rfl
  cases a; cases b
  simp only at h1 h2 h3 h4 ho
  subst h1 h2 h3 h4 ho
  rfl
theorem map_inj {α β : Type} {f : α → β} (hf : ∀ a b, f a = f b → a = b) : ∀ {l m : List α}, l.map f = m.map f → l = m
  | [], [], _ => rfl
  | [], _ :: _, h => by cases h
  | _ :: _, [], h => by cases h
  | a :: l, b :: m, h => by
    rw [List.map_cons, List.map_cons] at h
    injection h with h1 h2
    rw [hf a b h1, map_inj hf h2]
theorem nkSt_inj {a b : St} (h : nkSt a = nkSt b) : a = b := by
  unfold nkSt at h
  simp only [NestedKey.tup.injEq, List.cons.injEq, NestedKey.num.injEq, and_true] at h
  obtain ⟨h1, h2⟩ := h
  have e2 := map_inj (fun a b => nkE_inj) h2
  have e1 : a.1 = b.1 := by omega
  exact Prod.ext e1 e2
def esOf (val : Nd → D) (L : List Nd) : List (D × D) := L.map fun x => (stD x.st, val x)
theorem dkAt_es (val : Nd → D) (f : St) : ∀ L : List Nd, dkAt (esOf val L) (nkSt f) = (L.find? fun x => decide (x.st = f)).map fun x => (stD x.st, val x)
  | [] => rfl
  | x :: L => by
    have ih := dkAt_es val f L
    unfold dkAt esOf at ih ⊢
    rw [List.map_cons, List.find?_cons, List.find?_cons, ky_st]
    by_cases h : x.st = f
    · rw [decide_eq_true h, decide_eq_true (show some (nkSt x.st) = some (nkSt f) by rw [h])]; rfl
    · rw [decide_eq_false h, decide_eq_false (show ¬ some (nkSt x.st) = some (nkSt f) from fun e => h (nkSt_inj (Option.some.inj e)))]
      exact ih
theorem find_isIn (L : List Nd) (f : St) : (L.find? fun x => decide (x.st = f)).isSome = isIn L f := by
  unfold isIn
  rw [List.isSome_find?]
theorem dkHas_es (val : Nd → D) (L : List Nd) (f : St) : dkHas true (esOf val L) (stD f) = some (!isIn L f) := by
  unfold dkHas
  rw [kyT_st, oms, if_pos rfl, dkAt_es, Option.isSome_map, find_isIn]
theorem find_st {L : List Nd} (nd : (L.map Nd.st).Nodup) {x : Nd} (hx : x ∈ L) : (L.find? fun y => decide (y.st = x.st)) = some x := by
  induction L with
  | nil => cases hx
  | cons y L ih =>
    rw [List.map_cons, List.nodup_cons] at nd
    rw [List.find?_cons]
    by_cases h : y.st = x.st
    · rw [decide_eq_true h]
      cases hx with
      | head => rfl
      | tail _ hx => exact absurd (List.mem_map.mpr ⟨x, hx, h.symm⟩) nd.1
    · rw [decide_eq_false h]
      cases hx with
      | head => exact absurd rfl h
      | tail _ hx => exact ih nd.2 hx
theorem dkGet_es (val : Nd → D) {L : List Nd} (nd : (L.map Nd.st).Nodup) {x : Nd} (hx : x ∈ L) : dkGet (esOf val L) (stD x.st) = some (val x) := by
  unfold dkGet
  rw [kyT_st, obs, dkAt_es, find_st nd hx]; rfl
theorem dkSet_new (val : Nd → D) {L : List Nd} (hl : L.length ≤ 100000) {f : St} (hn : isIn L f = false) (v : D) : dkSet (esOf val L) (stD f) v = some (esOf val L ++ [(stD f, v)]) := by
  unfold dkSet
  rw [kyT_st, obs]
  have : decide ((esOf val L).length ≤ LN) = true := decide_eq_true (ln100 (by unfold esOf; rw [List.length_map]; exact hl))
  rw [this, grd_true]
  unfold dkPut
  rw [dkAt_es, Option.isSome_map, find_isIn, hn, if_neg (by simp)]
theorem dkSet_last (val : Nd → D) {L : List Nd} (hl : L.length ≤ 99999) {f : St} (hn : isIn L f = false) (v v' : D) : dkSet (esOf val L ++ [(stD f, v)]) (stD f) v' = some (esOf val L ++ [(stD f, v')]) := by
  unfold dkSet
  rw [kyT_st, obs]
  have : decide ((esOf val L ++ [(stD f, v)]).length ≤ LN) = true := decide_eq_true (ln100 (by unfold esOf; rw [List.length_append, List.length_map, List.length_singleton]; omega))
  rw [this, grd_true]
  unfold dkPut
  have hs : (dkAt (esOf val L ++ [(stD f, v)]) (nkSt f)).isSome = true := by
    unfold dkAt
    rw [List.isSome_find?, List.any_append]
    simp [ky_st]
  rw [if_pos hs, List.map_append]
  congr 2
  · have : (esOf val L).map (fun e => if kyD e.1 = some (nkSt f) then (e.1, v') else e) = (esOf val L).map id := by
      apply List.map_congr_left
      intro e he
      obtain ⟨x, hx, rfl⟩ := List.mem_map.mp he
      have ne : ¬ kyD (stD x.st) = some (nkSt f) := fun e => by
        rw [ky_st] at e
        have e2 := nkSt_inj (Option.some.inj e)
        have : isIn L f = true := isIn_iff.mpr (List.mem_map.mpr ⟨x, hx, e2⟩)
        rw [hn] at this; cases this
      exact if_neg ne
    rw [this, List.map_id]
  · simp [ky_st]
theorem dkGet_app (val : Nd → D) {L : List Nd} (nd : (L.map Nd.st).Nodup) {x : Nd} (hx : x ∈ L) (o : List (D × D)) : dkGet (esOf val L ++ o) (stD x.st) = some (val x) := by
  unfold dkGet
  rw [kyT_st, obs]
  have h := dkAt_es val x.st L
  rw [find_st nd hx] at h
  unfold dkAt at h ⊢
  rw [List.find?_append, h]; rfl
def csD (x : Nd) : D := .list (x.cs.map PyData.int)
def trD (_ : Nd) : D := .bool true
def qsD (L : List Nd) : List D := L.map fun x => stD x.st
theorem es_snoc (val : Nd → D) (L : List Nd) (x : Nd) : esOf val L ++ [(stD x.st, val x)] = esOf val (L ++ [x]) := by unfold esOf; rw [List.map_append]; rfl
theorem qs_snoc (L : List Nd) (x : Nd) : qsD L ++ [stD x.st] = qsD (L ++ [x]) := by unfold qsD; rw [List.map_append]; rfl
/-- choices are no more than places -/
def CB (L : List Nd) : Prop := ∀ x ∈ L, x.cs.length ≤ L.length
theorem exp1_cb {rows : List Rw} {x : Nd} {L : List Nd} (h : CB L) (hx : x ∈ L) (c : Nat) : CB (exp1 rows x L c) ∧ x ∈ exp1 rows x L c := by
  refine ⟨?_, (exp1_pre rows x L c).subset hx⟩
  unfold exp1
  split
  · intro y hy
    rw [List.length_append, List.length_singleton]
    rcases List.mem_append.mp hy with hy | hy
    · have := h y hy; omega
    · rw [List.mem_singleton.mp hy]
      have := h x hx
      show (if chsAt rows x.st.1 = true then x.cs ++ [(c : Int)] else x.cs).length ≤ _
      split
      · rw [List.length_append, List.length_singleton]; omega
      · omega
  · exact h
theorem exp1_len (rows : List Rw) (x : Nd) (L : List Nd) (c : Nat) : (exp1 rows x L c).length ≤ L.length + 1 := by
  unfold exp1
  split
  · rw [List.length_append, List.length_singleton]; exact Nat.le_refl _
  · omega
theorem exps_len (rows : List Rw) (x : Nd) (L : List Nd) : (exps rows x L).length ≤ L.length + waysT rows x.st.1 := by
  have go : ∀ (cs : List Nat) (L : List Nd), (cs.foldl (exp1 rows x) L).length ≤ L.length + cs.length := by
    intro cs
    induction cs with
    | nil => intro L; simp
    | cons c cs ih =>
      intro L
      have h1 := ih (exp1 rows x L c)
      have h2 := exp1_len rows x L c
      rw [List.foldl_cons, List.length_cons]
      omega
  have := go (List.range (waysT rows x.st.1)) L
  rw [List.length_range] at this
  exact this
theorem exps_cb {rows : List Rw} {x : Nd} {L : List Nd} (h : CB L) (hx : x ∈ L) : CB (exps rows x L) := by
  have go : ∀ (cs : List Nat) (L : List Nd), CB L → x ∈ L → CB (cs.foldl (exp1 rows x) L) := by
    intro cs
    induction cs with
    | nil => intro L h _; exact h
    | cons c cs ih => intro L h hx; obtain ⟨a, b⟩ := exp1_cb (rows := rows) h hx c; exact ih _ a b
  exact go _ L h hx
theorem ways_le {rows : List Rw} (G : cks [] rows = some []) (hl : rows.length ≤ 700) {p : Nat} : waysT rows p ≤ 701 := by
  unfold waysT
  cases hr : rows[p]? with
  | none => simp
  | some r =>
    show waysR r _ ≤ _
    cases r with
    | pick w ts =>
      have hc := if_c (cks_at G hr)
      simp only [Bool.and_eq_true, decide_eq_true_eq] at hc
      show ts.length ≤ 701
      omega
    | either =>
      show (brN rows p).length ≤ 701
      have h1 := brJ_len rows p
      rw [brJ_N, List.length_map] at h1
      omega
    | again => show 2 ≤ 701; omega
    | _ => show 1 ≤ 701; omega
/-- a loop over the ways, each a typed turn -/
theorem ways_loop {rows : List Rw} (G : cks [] rows = some []) (val : Nd → D) {x : Nd} (hx : NdOk rows x) {f : D → List D × List (D × D) → Option (List D × List (D × D))}
    (hf : ∀ (c : Nat) (L : List Nd), c < waysT rows x.st.1 → LOk rows L → CB L → x ∈ L → L.length ≤ 5000 → f (.int (0 + (c : Int))) (qsD L, esOf val L) = some (qsD (exp1 rows x L c), esOf val (exp1 rows x L c))) {L : List Nd} (h : LOk rows L) (hc : CB L) (hm : x ∈ L) (hlen : L.length ≤ 2000) (hw : waysT rows x.st.1 ≤ 701) :
    foldO f (rngL 0 (waysT rows x.st.1)) (qsD L, esOf val L) = some (qsD (exps rows x L), esOf val (exps rows x L)) := by
  have go : ∀ (cs : List Nat) (L : List Nd), (∀ c ∈ cs, c < waysT rows x.st.1) → LOk rows L → CB L → x ∈ L → L.length + cs.length ≤ 5000 → foldO f (cs.map fun (c : Nat) => PyData.int (0 + (c : Int))) (qsD L, esOf val L) = some (qsD (cs.foldl (exp1 rows x) L), esOf val (cs.foldl (exp1 rows x) L)) := by
    intro cs
    induction cs with
    | nil => intro L _ _ _ _ _; rfl
    | cons c cs ih =>
      intro L hc h hb hm hl
      rw [List.length_cons] at hl
      rw [List.map_cons, foldO_cons, hf c L (hc c List.mem_cons_self) h hb hm (by omega), obs, List.foldl_cons]
      obtain ⟨a, b⟩ := exp1_cb (rows := rows) hb hm c
      have := exp1_len rows x L c
      exact ih _ (fun c' hc' => hc c' (List.mem_cons_of_mem _ hc')) (exp1_ok G hx h c) a b (by omega)
  exact go (List.range (waysT rows x.st.1)) L (fun c hc => List.mem_range.mp hc) h hc hm (by rw [List.length_range]; omega)
theorem bfs_cb {rows : List Rw} : ∀ (k : Nat) (L : List Nd) (p : Nat), CB L → CB (bfs rows k L p).1
  | 0, _, _, h => h
  | k + 1, L, p, h => by
    unfold bfs
    cases hx : L[p]? with
    | none => exact h
    | some x => exact bfs_cb k _ _ (exps_cb h (List.mem_of_getElem? hx))
theorem cb0 : CB [⟨(0, []), []⟩] := fun x hx => by rw [List.mem_singleton.mp hx]; exact Nat.zero_le _
end Bw
/-! ### checked refuses no good sheet -/
namespace Bw
open PySem Bd
theorem is_word_eq (n : Nat) {w : Str} (h : wOk w = true) : l_is_word n [.str w] = some (.bool true) := by
  show m_is_word n (.str w) = _
  unfold wOk at h
  rw [Bool.and_eq_true] at h
  obtain ⟨h1, h2⟩ := h
  have h1 := of_decide_eq_true h1
  have hl : lenD (.str w) = some (.int w.length) := grd_pos (ln100 (by omega)) _
  have hi : itD (.str w) = some (w.cps.toList.map fun c => PyData.str ⟨#[c]⟩) := rfl
  unfold m_is_word
  simp only [oms, obs, isStr_s, notT_s, Bool.not_true, orT_f, hl, b2_some, eqD_ii, ordD_ii, hi]
  rw [show ((w.length : Int) == 0) = false from by rw [beq_eq_false_iff_ne]; omega, orT_f, show gtI (w.length : Int) 12 = false from decide_eq_false (by omega), ifM_f]
  have hlen : w.cps.toList.length = w.length := by rw [Array.length_toList]; rfl
  rw [lcG_mapE (enc := fun c : Nat => PyData.str ⟨#[c]⟩) (g := fun _ => .bool true) (ln100 (by omega)) (fun c hc => ?_)]
  · rw [lD_some, obs, show w.cps.toList.map (fun _ => PyData.bool true) = (w.cps.toList.map fun _ => true).map PyData.bool by rw [List.map_map]; rfl, allB_map, show (w.cps.toList.map fun _ => true).all id = true by rw [List.all_map]; exact List.all_eq_true.mpr fun _ _ => rfl]
  · have hb := of_decide_eq_true (List.all_eq_true.mp h2 c hc)
    show bD ((oneS ⟨#[c]⟩).map fun c => decide (c ∈ (Str.ofString "abcdefghijklmnopqrstuvwxyz").cps.toList)) = _
    rw [letters_codes, show oneS ⟨#[c]⟩ = some c from rfl, oms, decide_eq_true (show c ∈ (List.range 26).map (97 + ·) from List.mem_map.mpr ⟨c - 97, List.mem_range.mpr (by omega), by omega⟩), bD_some]
theorem is_thing_eq (n : Nat) {t : Int} (h : tOk t = true) : l_is_thing n [.int t] = some (.bool true) := by
  show m_is_thing n (.int t) = _
  have h := of_decide_eq_true h
  unfold m_is_thing
  simp only [oms, isInt_i, isBool_i, notV_s, Bool.not_false, b2_some, ordD_ii, bD_some]
  rw [show leI 0 t = true from decide_eq_true h.1, show ltI t 1000000000 = true from decide_eq_true h.2]; rfl
theorem not_thing (n : Nat) (w : Str) : l_is_thing n [.str w] = some (.bool false) := rfl
def Rw.isS : Rw → Bool
  | .either => true
  | .again => true
  | .or_ => true
  | .fin => true
  | _ => false
def Rw.isW : Rw → Bool
  | .look _ => true
  | .back _ => true
  | .change _ => true
  | _ => false
theorem sol_t (r : Rw) : inD (.str r.hd) (.tuple [.str (Str.ofString "either"), .str (Str.ofString "or"), .str (Str.ofString "again"), .str (Str.ofString "end")]) = some r.isS := by
  rw [show [PyData.str (Str.ofString "either"), .str (Str.ofString "or"), .str (Str.ofString "again"), .str (Str.ofString "end")] = [Str.ofString "either", Str.ofString "or", Str.ofString "again", Str.ofString "end"].map PyData.str from rfl, inS_t]
  generalize hx : r.hd = x; cases r <;> simp only [Rw.hd] at hx <;> subst hx <;> simp only [Rw.isS] <;> decide +kernel
theorem wrd_t (r : Rw) : inD (.str r.hd) (.tuple [.str (Str.ofString "back"), .str (Str.ofString "look"), .str (Str.ofString "change")]) = some r.isW := by
  rw [show [PyData.str (Str.ofString "back"), .str (Str.ofString "look"), .str (Str.ofString "change")] = [Str.ofString "back", Str.ofString "look", Str.ofString "change"].map PyData.str from rfl, inS_t]
  generalize hx : r.hd = x; cases r <;> simp only [Rw.hd] at hx <;> subst hx <;> simp only [Rw.isW] <;> decide +kernel
theorem kS_rw (b : Bool) : inD (.str (kS b)) (.tuple [.str (Str.ofString "read"), .str (Str.ofString "write")]) = some true := by
  rw [show [PyData.str (Str.ofString "read"), .str (Str.ofString "write")] = [Str.ofString "read", Str.ofString "write"].map PyData.str from rfl, inS_t]
  unfold kS; cases b <;> decide +kernel
theorem hdP_ne (r : Rw) : neD (.str r.hd) (.str (Str.ofString "pick")) = some (!r.isP) := by unfold neD; rw [hdP]; rfl
theorem is_row_eq (n : Nat) {st st' : List Rw} {r : Rw} (S : stOk st) (h : ck st r = some st') : l_is_row n [r.enc] = some (.bool true) := by
  show m_is_row n r.enc = _
  unfold m_is_row
  simp only [oms, obs, b2_some, hd0, consO_some, sol_t, wrd_t, hdL, hdP_ne, show isTup r.enc = true from rfl, isStr_s, notT_s, Bool.not_true, orT_f]
  have hlen : lenD r.enc = some (.int ((r.tl.length : Int) + 1)) := by unfold Rw.enc; rw [lenD_t, List.length_cons]; rfl
  rw [hlen, b2_some, eqD_ii, show (((r.tl.length : Int) + 1) == 0) = false from by rw [beq_eq_false_iff_ne]; omega, orT_f, ifM_f]
  cases r with
  | lend w b s =>
    have hc := if_c h
    simp only [Bool.and_eq_true] at hc
    obtain ⟨hw, _, hs⟩ := hc
    simp only [consO_some, Rw.isS, Rw.isW, Rw.isL, ifM_f, ifM_t, enc_lend, idt1, idt2, idt3, obs, is_word_eq n hw, oms, isStr_s, b2_some, kS_rw, bD_some, eqD_ii, Rw.tl, List.length_cons, List.length_nil]
    cases s with
    | th t =>
      rw [show l_is_thing n [Src.enc (.th t)] = some (.bool true) from is_thing_eq n hs]; rfl
    | of v =>
      have hv : wOk v = true := by
        cases hk : kdOf st v with
        | none => simp only [srcOk, hk] at hs; cases hs
        | some k => exact kd_word S hk
      rw [show l_is_thing n [Src.enc (.of v)] = some (.bool false) from rfl, show l_is_word n [Src.enc (.of v)] = some (.bool true) from is_word_eq n hv]; rfl
  | pick w ts =>
    have hc := if_c h
    simp only [Bool.and_eq_true, decide_eq_true_eq] at hc
    obtain ⟨hw, _, hl, ht⟩ := hc
    simp only [consO_some, Rw.isS, Rw.isW, Rw.isL, Rw.isP, ifM_f, ifM_t, enc_pick, idt1, idt2, obs, is_word_eq n hw, oms, b2_some, bD_some, neD_ii, Rw.tl, List.length_cons, List.length_nil, isTup_t, notT_s, Bool.not_true, orT_f, asB_b, lenD_t, List.length_map, ordD_ii, itD_t]
    rw [lcG_mapE (enc := PyData.int) (g := fun _ => .bool true) (ln100 (by omega)) (fun t hm => is_thing_eq n (List.all_eq_true.mp ht t hm))]
    rw [lD_some, obs, show ts.map (fun _ => PyData.bool true) = (ts.map fun _ => true).map PyData.bool by rw [List.map_map]; rfl, allB_map, show (ts.map fun _ => true).all id = true by rw [List.all_map]; exact List.all_eq_true.mpr fun _ _ => rfl]
    rw [show ltI 0 (ts.length : Int) = true from decide_eq_true (by omega), show leI (ts.length : Int) 5 = true from decide_eq_true (by omega)]; rfl
  | look w =>
    have hc := if_c h
    simp only [Bool.and_eq_true] at hc
    simp only [consO_some, Rw.isS, Rw.isW, ifM_f, ifM_t, enc_look, idt1, obs, is_word_eq n hc.1, b2_some, bD_some, eqD_ii, Rw.tl, List.length_cons, List.length_nil]; rfl
  | back w =>
    have hc := if_c h
    simp only [Bool.and_eq_true] at hc
    simp only [consO_some, Rw.isS, Rw.isW, ifM_f, ifM_t, enc_back, idt1, obs, is_word_eq n hc.1, b2_some, bD_some, eqD_ii, Rw.tl, List.length_cons, List.length_nil]; rfl
  | change w =>
    have hc := if_c h
    simp only [Bool.and_eq_true] at hc
    simp only [consO_some, Rw.isS, Rw.isW, ifM_f, ifM_t, enc_change, idt1, obs, is_word_eq n hc.1, b2_some, bD_some, eqD_ii, Rw.tl, List.length_cons, List.length_nil]; rfl
  | _ => rfl
/-! what a word stands for -/
def kdS : Option Kd → Str
  | none => noS
  | some .rd => Str.ofString "read"
  | some .wr => Str.ofString "write"
  | some .pk => pickS
theorem kd_nodup : ∀ {st : List Rw}, (names st).Nodup → ∀ r ∈ st, r.isN = true → kdOf st r.nm = some r.kd
  | [], _, _, h, _ => by cases h
  | q :: st, nd, r, h, hn => by
    cases h with
    | head => exact kd_hit hn
    | tail _ h =>
      by_cases hq : q.isN = true
      · rw [names_op hq, List.nodup_append] at nd
        have hin : r.nm ∈ names st := List.mem_map.mpr ⟨r, by unfold nL; exact List.mem_filter.mpr ⟨List.mem_reverse.mpr h, hn⟩, rfl⟩
        rw [kd_skip (fun _ e => nd.2.2 _ hin _ (by simp) e.symm)]
        exact kd_nodup nd.1 r h hn
      · rw [names_no (by simpa using hq)] at nd
        rw [kd_skip (fun e => absurd e hq)]
        exact kd_nodup nd r h hn
def Rw.rs : Rw → D
  | .lend _ b _ => .str (kS b)
  | _ => .str pickS
theorem kind_of_eq (n : Nat) {st : List Rw} (nd : (names st).Nodup) (w : Str) : l_kind_of n [.list (st.reverse.map Rw.enc), .str w] = some (.str (kdS (kdOf st w))) := by
  show m_kind_of n (.list (st.reverse.map Rw.enc)) (.str w) = _
  unfold m_kind_of
  rw [obs, itD_l, bnd_some, foldF_map]
  rw [foldF_fst (g := Rw.rs) (q := fun r : Rw => r.isN && decide (r.nm = w)) (fun r _ => by
    simp only [b2_some, hd0, consO_some, oms, nmd_t, hdP]
    cases r with
    | lend v b s => simp only [Rw.isN, Rw.isP, andT_t, enc_lend, idt1, idt2, b2_some, eqD_ss, ifM_f, Bool.true_and, Rw.nm]; exact ifM_rt _ _ _
    | pick v ts => simp only [Rw.isN, Rw.isP, andT_t, enc_pick, idt1, b2_some, eqD_ss, ifM_t, Bool.true_and, Rw.nm]; exact ifM_rt _ _ _
    | _ => simp only [Rw.isN, andT_f, ifM_f, Bool.false_and]; rfl)]
  cases hf : st.reverse.find? fun r : Rw => r.isN && decide (r.nm = w) with
  | none =>
    rw [List.find?_eq_none] at hf
    have hk : kdOf st w = none := by
      cases hk : kdOf st w with
      | none => rfl
      | some k =>
        obtain ⟨r, hr, e, _⟩ := kd_some hk
        obtain ⟨h1, h2⟩ := nL_mem hr
        exact absurd (by rw [h2, decide_eq_true e]; rfl) (hf r (List.mem_reverse.mpr h1))
    rw [hk]; rfl
  | some r =>
    have h1 := List.mem_reverse.mp (List.mem_of_find?_eq_some hf)
    have h2 := List.find?_some (p := fun r : Rw => r.isN && decide (r.nm = w)) hf
    rw [Bool.and_eq_true, decide_eq_true_eq] at h2
    rw [← h2.2, kd_nodup nd r h1 h2.1]
    have h3 := h2.1
    cases r with
    | lend v b s => cases b <;> rfl
    | pick v ts => rfl
    | _ => cases h3
theorem kdS_none {k : Option Kd} : eqD (.str (kdS k)) (.str (Str.ofString "")) = some k.isNone := by
  rw [eqD_ss]
  rcases k with _ | k
  · decide +kernel
  · cases k <;> decide +kernel
theorem kdS_ne {k : Option Kd} : neD (.str (kdS k)) (.str (Str.ofString "")) = some (!k.isNone) := by unfold neD; rw [kdS_none]; rfl
theorem kdS_pk (k : Kd) : eqD (.str (kdS (some k))) (.str (Str.ofString "pick")) = some (match k with | .pk => true | _ => false) := by
  rw [eqD_ss]; cases k <;> decide +kernel
theorem kdS_rd (k : Kd) : eqD (.str (kdS (some k))) (.str (Str.ofString "read")) = some (match k with | .rd => true | _ => false) := by
  rw [eqD_ss]; cases k <;> decide +kernel
def Rw.isC : Rw → Bool
  | .change _ => true
  | _ => false
theorem hdC (r : Rw) : eqD (.str r.hd) (.str (Str.ofString "change")) = some r.isC := by
  rw [eqD_ss]; generalize hx : r.hd = x; cases r <;> simp only [Rw.hd] at hx <;> subst hx <;> simp only [Rw.isC] <;> decide +kernel
theorem checked_words_eq (n : Nat) {st st' : List Rw} {r : Rw} (nd : (names st).Nodup) (h : ck st r = some st') (i : Int) : l_checked_words n [.int i, r.enc, .list (st.reverse.map Rw.enc)] = some .none := by
  show flN (m_checked_words n (.int i) r.enc (.list (st.reverse.map Rw.enc))) = _
  unfold m_checked_words
  simp only [b2_some, hd0, consO_some, oms, obs, wrd_t, hdL, nmd_t, hdC]
  cases r with
  | lend w b s =>
    have hc := if_c h
    simp only [Bool.and_eq_true, Option.isNone_iff_eq_none] at hc
    obtain ⟨hw, hk, hs⟩ := hc
    simp only [Rw.isW, Rw.isL, Rw.isN, ifM_f, andT_t, enc_lend, idt1, idt2, idt3, oms, obs, consO_some, bnd_some, flM, kind_of_eq n nd, hk, kdS_ne, b2_some, kS_w, Option.isNone_none, Bool.not_true]
    cases s with
    | th t => cases b <;> rfl
    | of v =>
      cases hv : kdOf st v with
      | none => simp only [srcOk, hv] at hs; cases hs
      | some k =>
        simp only [Src.enc, isStr_s, andT_t, kind_of_eq n nd, hv, kdS_none, kdS_rd, b2_some, oms, Option.isNone_some, ifM_f]
        cases b with
        | false => rfl
        | true =>
          cases k with
          | rd => simp only [srcOk, hv] at hs; cases hs
          | wr => rfl
          | pk => rfl
  | pick w ts =>
    have hc := if_c h
    simp only [Bool.and_eq_true, Option.isNone_iff_eq_none] at hc
    obtain ⟨hw, hk, _⟩ := hc
    simp only [Rw.isW, Rw.isL, Rw.isN, ifM_f, andT_t, andT_f, enc_pick, idt1, oms, obs, consO_some, bnd_some, flM, kind_of_eq n nd, hk, kdS_ne, b2_some, Option.isNone_none, Bool.not_true]
    rfl
  | look w =>
    have hc := if_c h
    simp only [Bool.and_eq_true] at hc
    obtain ⟨b, hb⟩ := hOk_kd hc.2
    simp only [Rw.isW, Rw.isL, Rw.isN, Rw.isC, ifM_t, ifM_f, andT_f, enc_look, idt1, oms, obs, consO_some, bnd_some, kind_of_eq n nd, hb, kdS_none, kdS_pk, b2_some, Option.isNone_some, orT_f]
    cases b <;> rfl
  | back w =>
    have hc := if_c h
    simp only [Bool.and_eq_true] at hc
    obtain ⟨b, hb⟩ := hOk_kd hc.2
    simp only [Rw.isW, Rw.isL, Rw.isN, Rw.isC, ifM_t, ifM_f, andT_f, enc_back, idt1, oms, obs, consO_some, bnd_some, kind_of_eq n nd, hb, kdS_none, kdS_pk, b2_some, Option.isNone_some, orT_f]
    cases b <;> rfl
  | change w =>
    have hc := if_c h
    simp only [Bool.and_eq_true] at hc
    have hkd : kdOf st w = some .wr := by
      cases hk : kdOf st w with
      | none => simp only [cOk, hk] at hc; cases hc.2
      | some k => cases k <;> first | rfl | (simp only [cOk, hk] at hc; cases hc.2)
    simp only [Rw.isW, Rw.isL, Rw.isN, Rw.isC, ifM_t, ifM_f, andT_f, andT_t, enc_change, idt1, oms, obs, consO_some, bnd_some, kind_of_eq n nd, hkd, kdS_none, kdS_pk, kdS_rd, b2_some, Option.isNone_some, orT_f]
    rfl
  | _ => rfl
theorem checked_eq (n : Nat) {rows : List Rw} (G : cks [] rows = some []) (hl : rows.length ≤ 1000) : l_checked n [rowsD rows] = some .none := by
  show flN (m_checked n (rowsD rows)) = _
  unfold m_checked
  simp only [obs, bnd_some, oms]
  rw [show listD (rowsD rows) = some (rows.map Rw.enc) from rfl, oms, bnd_some]
  have key : ∀ (f : D × D → List D × List D → Option (Fl (List D × List D) D)), (∀ (i : Nat) (r : Rw) (nums : List D), rows[i]? = some r → nums.length = (stk rows i).length → ∃ nums' : List D, nums'.length = (stk rows (i + 1)).length ∧ f (.int (i : Int), r.enc) ((stk rows i).reverse.map Rw.enc, nums) = some (.nx ((stk rows (i + 1)).reverse.map Rw.enc, nums'))) →
      ∀ (kk : Fl (List D × List D) D → Option (Fl Unit D)), (∀ s : List D × List D, s.2.length = 0 → flN (kk (.nx s)) = some .none) → flN (bnd (foldF f (enL 0 (rows.map Rw.enc)) ([], [])) kk) = some .none := by
    intro f hf kk hkk
    have go : ∀ (j i : Nat) (nums : List D), i + j = rows.length → nums.length = (stk rows i).length → ∃ s : List D × List D, s.2.length = (stk rows rows.length).length ∧ foldF f ((enL 0 (rows.map Rw.enc)).drop i) ((stk rows i).reverse.map Rw.enc, nums) = some (.nx s) := by
      intro j
      induction j with
      | zero =>
        intro i nums hi hn
        rw [List.drop_of_length_le (by rw [enL_length, List.length_map]; omega)]
        exact ⟨_, by rw [show rows.length = i by omega]; exact hn, rfl⟩
      | succ j ih =>
        intro i nums hi hn
        have hr := List.getElem?_eq_getElem (show i < rows.length by omega)
        obtain ⟨nums', h1, h2⟩ := hf i _ nums hr hn
        have hd : (enL 0 (rows.map Rw.enc))[i]? = some (.int (i : Int), rows[i].enc) := by rw [enL_get, List.getElem?_map, hr, Nat.zero_add]; rfl
        rw [List.drop_eq_getElem_cons (getD_lt hd)]
        obtain ⟨s, h3, h4⟩ := ih (i + 1) nums' (by omega) h1
        refine ⟨s, h3, ?_⟩
        show (f _ _).bind _ = _
        rw [(List.getElem?_eq_some_iff.mp hd).2, h2]
        exact h4
    obtain ⟨s, h1, h2⟩ := go rows.length 0 [] (by omega) rfl
    have e : stk rows rows.length = [] := by unfold stk; rw [(nst_of G).fin]; rfl
    rw [e] at h1
    have h2' : foldF f (enL 0 (rows.map Rw.enc)) ([], []) = some (.nx s) := h2
    rw [h2', bnd_some]
    exact hkk s h1
  refine key _ (fun i r nums hr hn => ?_) _ (fun s h1 => ?_)
  · skip
    have hck := cks_at G hr
    have hi := getD_lt hr
    obtain ⟨nd, so⟩ := stk_good G i (by omega)
    have hsl : (stk rows i).length ≤ i := by
      have h2 : (stk rows i).length ≤ (sk rows i).length := by unfold stk; exact List.length_filterMap_le _ _
      have h3 := sk_len rows i
      omega
    simp only [consO_some, obs, is_row_eq n so hck, asB_b, notT_s, Bool.not_true, ifM_f, b2_some, hd0, hdF, hdO, opn_t, lenD_l, List.length_map, List.length_reverse, eqD_ii, checked_words_eq n nd hck, bnd_some, negD_i]
    have c1 : andT (some r.isF) (some (((stk rows i).length : Int) == 0)) = some false := by
      cases hf : r.isF with
      | false => rfl
      | true =>
        have := isF_eq hf
        subst this
        obtain ⟨x, hx⟩ := ck_fin hck
        rw [hx]; rfl
    have c2 : andT (some r.isO) (orT (some (((stk rows i).length : Int) == 0)) (b2 neD (b2 idxD (idxD (.list ((stk rows i).reverse.map Rw.enc)) (.int (-1))) (some (.int 0))) (some (.str (Str.ofString "either"))))) = some false := by
      cases ho : r.isO with
      | false => rfl
      | true =>
        have := isO_eq ho
        subst this
        cases hs : stk rows i with
        | nil => rw [hs] at hck; cases hck
        | cons x t =>
          rw [hs] at hck
          obtain ⟨x', t', e1, e2⟩ := last_rev (x :: t) (by simp)
          cases e1
          rw [e2]
          cases x <;> first | rfl | cases hck
    rw [c1, c2, ifM_f, ifM_f]
    by_cases o : r.opn = true
    · rw [o, ifM_t, appM_some (lt100 (by rw [List.length_map, List.length_reverse]; omega)), bnd_some, appM_some (lt100 (by omega))]
      try simp only [bnd_some]
      refine ⟨_, ?_, by rw [stk_op hr o, List.reverse_cons, List.map_append]; rfl⟩
      rw [stk_op hr o, List.length_append, List.length_cons, hn]; rfl
    · rw [show r.opn = false by simpa using o, ifM_f]
      by_cases f : r.isF = true
      · have hf := isF_eq f
        subst hf
        obtain ⟨x, hx⟩ := ck_fin hck
        have hne : nums ≠ [] := by intro z; rw [z, hx] at hn; cases hn
        rw [f, ifM_t, popM_ne (by rw [hx]; simp), bnd_some, popM_ne hne]
        try simp only [bnd_some]
        refine ⟨_, ?_, by rw [stk_fin hr rfl, hx, List.reverse_cons, List.map_append, List.tail_cons]; show some (Fl.nx (List.dropLast (_ ++ [x.enc]), _)) = _; rw [List.dropLast_concat]⟩
        rw [List.length_dropLast, hn, stk_fin hr rfl, List.length_tail]
      · rw [show r.isF = false by simpa using f, ifM_f]
        try simp only [bnd_some]
        refine ⟨nums, ?_, by rw [stk_id hr (by simpa using o) (by simpa using f)]⟩
        rw [stk_id hr (by simpa using o) (by simpa using f)]; exact hn
  · show flN (ifM _ _ _) = _
    rw [lenD_l, h1, b2_some, ordD_ii]; rfl
end Bw
namespace Bw
open PySem Bd
theorem chooses_eq (n : Nat) (r : Rw) : l_chooses n [r.enc] = some (.bool r.chs) := by
  show m_chooses n r.enc = _
  unfold m_chooses
  simp only [b2_some, hd0, consO_some, oms, chs_t, bD_some]
end Bw
/-! ### looked -/
namespace Bw
open PySem Bd
theorem ways_eqT (n : Nat) {rows : List Rw} (G : cks [] rows = some []) (hl : rows.length ≤ 700) {p : Nat} (hp : p < rows.length) (held : List Ent) : l_ways n [rowsD rows, stD (p, held)] = some (.int (waysT rows p : Nat)) := by
  have N := nst_of G
  obtain ⟨r, hr⟩ : ∃ r, rows[p]? = some r := ⟨_, List.getElem?_eq_getElem hp⟩
  have e0 : idxD (stD (p, held)) (.int 0) = some (.int (p : Int)) := idt0 _ _
  have hw : waysT rows p = waysR r (brN rows p).length := by unfold waysT; rw [hr]
  rw [hw]
  show m_ways n (rowsD rows) (stD (p, held)) = _
  unfold m_ways
  simp only [b2_some, e0, bnd_some, row_at hr, hd0, hdP, hdE, hdG, consO_some, obs]
  cases r with
  | pick w ts => simp only [Rw.isP, ifM_t, enc_pick, idt2, obs, lenD_t, List.length_map]; rfl
  | either =>
    simp only [Rw.isP, Rw.isE, ifM_t, ifM_f]
    rw [lbranches_eq n rows N (by omega) p, obs, lenD_l, brL_len]; rfl
  | again => rfl
  | _ => rfl
def w3 : List Str := [Str.ofString "beside", Str.ofString "empty", Str.ofString "asleep"]
def oW (w : Str) : Nat := (ixS w3 w).getD 3
def isF3 (w : Str) : Prop := w = Str.ofString "beside" ∨ w = Str.ofString "empty" ∨ w = Str.ofString "asleep"
theorem ix3 {w : Str} (h : isF3 w) : ixS w3 w = some (oW w) := by
  rcases h with rfl | rfl | rfl <;> decide +kernel
theorem F3_ne {w : Str} (h : isF3 w) : w ≠ noS := by
  rcases h with rfl | rfl | rfl <;> decide +kernel
theorem F3_ok {w : Str} (h : isF3 w) : PyData.strOk w = true := by
  rcases h with rfl | rfl | rfl <;> decide +kernel
theorem oW_inj {a b : Str} (ha : isF3 a) (hb : isF3 b) (h : oW a = oW b) : a = b := by
  rcases ha with rfl | rfl | rfl <;> rcases hb with rfl | rfl | rfl <;> first | rfl | exact absurd h (by decide +kernel)
theorem fault_3 (r : Rw) (held : List Ent) : faultT r held = noS ∨ isF3 (faultT r held) := by
  unfold faultT
  split
  · exact .inr (.inl rfl)
  · split
    · exact .inr (.inr (.inl rfl))
    · split
      · exact .inr (.inr (.inr rfl))
      · exact .inl rfl
abbrev Tl := Nat × Str × List Int
def toldD : Option Tl → D
  | none => .none
  | some t => .tuple [.int (t.1 : Int), .str t.2.1, .list (t.2.2.map PyData.int)]
def soonT : Option Tl → Nat → Str → Bool
  | none, _, _ => true
  | some t, p, w => decide (p < t.1) || (decide (p = t.1) && decide (oW w < oW t.2.1))
def tOkT : Option Tl → Prop
  | none => True
  | some t => isF3 t.2.1
theorem tix3 {w : Str} (h : isF3 w) : tixD ["beside", "empty", "asleep"] (.str w) = some (.int (oW w : Nat)) := by
  rw [show (["beside", "empty", "asleep"] : List Str) = w3 from rfl]
  simp only [tixD, ix3 h]
  rfl
theorem sooner_eq (n : Nat) {told : Option Tl} (ht : tOkT told) (p : Nat) {w : Str} (hw : isF3 w) : l_sooner n [toldD told, .int (p : Int), .str w] = some (.bool (soonT told p w)) := by
  show m_sooner n (toldD told) (.int (p : Int)) (.str w) = _
  unfold m_sooner
  cases told with
  | none => rfl
  | some t =>
    have ht : isF3 t.2.1 := ht
    unfold toldD soonT
    simp only [b2_some, isN_n, idt0, idt1, ordD_ii, eqD_ii, bD_some, obs, tix3 hw, tix3 ht]
    rw [show nonD (PyData.tuple [.int (t.1 : Int), .str t.2.1, .list (t.2.2.map PyData.int)]) = false from rfl, orT_f]
    by_cases h1 : p < t.1
    · rw [show ltI (p : Int) (t.1 : Int) = true from decide_eq_true (by omega), ifM_t, decide_eq_true h1]; rfl
    · rw [show ltI (p : Int) (t.1 : Int) = false from decide_eq_false (by omega), ifM_f, decide_eq_false h1, andV_ss, Bool.false_or]
      congr 3
      · by_cases h2 : p = t.1
        · subst h2; simp
        · rw [decide_eq_false h2, beq_eq_false_iff_ne]; omega
      · show decide _ = decide _
        by_cases h3 : oW w < oW t.2.1
        · rw [decide_eq_true h3, decide_eq_true (by omega)]
        · rw [decide_eq_false h3, decide_eq_false (by omega)]
def fw (rows : List Rw) (x : Nd) : Str := match rows[x.st.1]? with
  | some r => faultT r x.st.2
  | none => noS
def better (t : Tl) (p : Nat) (w : Str) : Prop := t.1 < p ∨ (t.1 = p ∧ oW t.2.1 ≤ oW w)
structure TInv (rows : List Rw) (L : List Nd) (p : Nat) (told : Option Tl) : Prop where
  least : ∀ i x, i < p → L[i]? = some x → fw rows x ≠ noS → ∃ t, told = some t ∧ better t x.st.1 (fw rows x)
  there : ∀ t, told = some t → ∃ x, x ∈ L ∧ t = (x.st.1, fw rows x, x.cs) ∧ fw rows x ≠ noS
theorem fw_3 (rows : List Rw) (x : Nd) : fw rows x = noS ∨ isF3 (fw rows x) := by
  unfold fw
  split
  · exact fault_3 _ _
  · exact .inl rfl
theorem TInv.ok {rows : List Rw} {L : List Nd} {p : Nat} {told : Option Tl} (T : TInv rows L p told) : tOkT told := by
  cases told with
  | none => trivial
  | some t =>
    obtain ⟨x, _, e, hn⟩ := T.there t rfl
    rw [e]
    rcases fw_3 rows x with h | h
    · exact absurd h hn
    · exact h
def told' (rows : List Rw) (told : Option Tl) (x : Nd) : Option Tl := if (!decide (fw rows x = noS) && soonT told x.st.1 (fw rows x)) = true then some (x.st.1, fw rows x, x.cs) else told
theorem tinv_step {rows : List Rw} {L M : List Nd} {p : Nat} {told : Option Tl} {x : Nd} (T : TInv rows L p told) (hx : L[p]? = some x) (pre : L <+: M) : TInv rows M (p + 1) (told' rows told x) := by
  have hmem : x ∈ M := pre.subset (List.mem_of_getElem? hx)
  have hpx : M[p]? = some x := pre_get pre hx
  have old : ∀ i y, i < p → M[i]? = some y → L[i]? = some y := fun i y hi hy => by
    have hl := getD_lt hx
    have h1 := List.getElem?_eq_getElem (show i < L.length by omega)
    have h2 := pre_get pre h1
    rw [hy] at h2
    rw [h1, h2]
  unfold told'
  by_cases hc : (!decide (fw rows x = noS) && soonT told x.st.1 (fw rows x)) = true
  · rw [if_pos hc]
    rw [Bool.and_eq_true, Bool.not_eq_true', decide_eq_false_iff_not] at hc
    obtain ⟨hn, hs⟩ := hc
    refine ⟨fun i y hi hy hf => ⟨_, rfl, ?_⟩, fun t ht => ?_⟩
    · by_cases e : i = p
      · subst e
        rw [hpx] at hy
        cases hy
        exact .inr ⟨rfl, Nat.le_refl _⟩
      · obtain ⟨t, ht, hb⟩ := T.least i y (by omega) (old i y (by omega) hy) hf
        rw [ht] at hs
        unfold soonT at hs
        rw [Bool.or_eq_true, Bool.and_eq_true, decide_eq_true_eq, decide_eq_true_eq, decide_eq_true_eq] at hs
        unfold better at hb ⊢
        show x.st.1 < y.st.1 ∨ (x.st.1 = y.st.1 ∧ oW (fw rows x) ≤ oW (fw rows y))
        omega
    · cases ht
      exact ⟨x, hmem, rfl, hn⟩
  · rw [if_neg hc]
    refine ⟨fun i y hi hy hf => ?_, fun t ht => ?_⟩
    · by_cases e : i = p
      · subst e
        rw [hpx] at hy
        cases hy
        rw [Bool.and_eq_true, Bool.not_eq_true', decide_eq_false_iff_not, not_and] at hc
        have hs := hc hf
        cases told with
        | none => exact absurd rfl hs
        | some t =>
          refine ⟨t, rfl, ?_⟩
          unfold soonT at hs
          rw [Bool.or_eq_true, Bool.and_eq_true, decide_eq_true_eq, decide_eq_true_eq, decide_eq_true_eq] at hs
          unfold better
          omega
      · exact T.least i y (by omega) (old i y (by omega) hy) hf
    · obtain ⟨y, hy, e⟩ := T.there t ht
      exact ⟨y, pre.subset hy, e⟩
theorem tinv0 (rows : List Rw) (L : List Nd) : TInv rows L 0 none := ⟨fun i x hi => by omega, fun t h => nomatch h⟩
theorem tlG_told (t : Option Tl) : tlG (toldD t) = some (toldD t) := by
  cases t with
  | none => rfl
  | some t =>
    show grd (flatD (.int (t.1 : Int)) && flatD (.str t.2.1) && (t.2.2.map PyData.int).all flatD) _ = _
    rw [List.all_map, show (t.2.2.all (flatD ∘ PyData.int)) = true from List.all_eq_true.mpr fun _ _ => rfl]
    rfl
theorem looked_eq (n : Nat) {rows : List Rw} (G : cks [] rows = some []) (hl : rows.length ≤ 700) (h0 : 0 < rows.length) {j : Nat} {L' : List Nd} (hb : bfs rows j [⟨(0, []), []⟩] 0 = (L', L'.length)) (hL : L'.length ≤ 2000) (hn : j < n) :
    ∃ told, l_looked n [rowsD rows] = some (toldD told) ∧ TInv rows L' L'.length told := by
  have N := nst_of G
  show ∃ told, m_looked n (rowsD rows) = some (toldD told) ∧ _
  unfold m_looked
  simp only [consO_some, obs, checked_eq n G (by omega), bnd_some, lhomes_eq n rows N (by omega), lends_eq n rows N (by omega), lD_some, oms]
  rw [show lenD (rowsD rows) = some (.int rows.length) by unfold rowsD; rw [lenD_l, List.length_map], b2_some, eqD_ii, show ((rows.length : Int) == 0) = false from by rw [beq_eq_false_iff_ne]; omega, ifM_f]
  rw [show PyData.tuple [PyData.int 0, .tuple []] = stD (0, []) from rfl, show nwD (some []) = some (.list []) from rfl, b2_some]
  rw [show dkNew (stD (0, [])) (.list []) = some (esOf csD [⟨(0, []), []⟩]) by unfold dkNew; rw [kyT_st]; rfl, bnd_some, show scD (some PyData.none) = some .none from rfl, bnd_some]
  have key : ∀ (c : List D × List (D × D) × D × D → Option Bool) (f : List D × List (D × D) × D × D → Option (List D × List (D × D) × D × D)),
      (∀ (L : List Nd) (p : Nat) (told : Option Tl), c (qsD L, esOf csD L, toldD told, .int (p : Int)) = some (decide (p < L.length))) →
      (∀ (L : List Nd) (p : Nat) (told : Option Tl) (x : Nd), L[p]? = some x → LOk rows L → CB L → L.length ≤ 2000 → tOkT told → f (qsD L, esOf csD L, toldD told, .int (p : Int)) = some (qsD (exps rows x L), esOf csD (exps rows x L), toldD (told' rows told x), .int ((p + 1 : Nat) : Int))) →
      ∃ told, bnd (whileO c f n ([stD (0, [])], esOf csD [⟨(0, []), []⟩], .none, .int 0)) (fun s1 => tlG s1.2.2.1) = some (toldD told) ∧ TInv rows L' L'.length told := by
    intro c f hc hf
    have go : ∀ (j n p : Nat) (L : List Nd) (told : Option Tl), bfs rows j L p = (L', L'.length) → BInv rows L p → CB L → TInv rows L p told → j < n →
        ∃ told', whileO c f n (qsD L, esOf csD L, toldD told, .int (p : Int)) = some (qsD L', esOf csD L', toldD told', .int (L'.length : Int)) ∧ TInv rows L' L'.length told' := by
      intro j
      induction j with
      | zero =>
        intro n p L told hb I hcb T hn
        cases hb
        obtain ⟨m, rfl⟩ : ∃ m, n = m + 1 := ⟨n - 1, by omega⟩
        refine ⟨told, ?_, T⟩
        show (c _).bind _ = _
        rw [hc, decide_eq_false (by omega)]; rfl
      | succ j ih =>
        intro n p L told hb I hcb T hn
        obtain ⟨m, rfl⟩ : ∃ m, n = m + 1 := ⟨n - 1, by omega⟩
        unfold bfs at hb
        cases hx : L[p]? with
        | none =>
          rw [hx] at hb
          cases hb
          refine ⟨told, ?_, T⟩
          show (c _).bind _ = _
          rw [hc, decide_eq_false (by omega)]; rfl
        | some x =>
          rw [hx] at hb
          have hp := getD_lt hx
          have mem := List.mem_of_getElem? hx
          have I' := binv_step G I hx
          have len2 : L.length ≤ 2000 := by
            have q : ∀ (k : Nat) (M : List Nd) (r : Nat), M.length ≤ (bfs rows k M r).1.length := by
              intro k
              induction k with
              | zero => intro M r; exact Nat.le_refl _
              | succ k ihk =>
                intro M r
                unfold bfs
                cases hy : M[r]? with
                | none => exact Nat.le_refl _
                | some y => exact Nat.le_trans (exps_pre rows y M).length_le (ihk _ _)
            have h1 := q j (exps rows x L) (p + 1)
            have hb' : bfs rows j (exps rows x L) (p + 1) = (L', L'.length) := hb
            rw [hb'] at h1
            have h2 := (exps_pre rows x L).length_le
            show L.length ≤ 2000
            have h3 : (exps rows x L).length ≤ L'.length := h1
            omega
          obtain ⟨t', e1, e2⟩ := ih m (p + 1) (exps rows x L) (told' rows told x) hb I' (exps_cb hcb mem) (tinv_step T hx (exps_pre rows x L)) (by omega)
          refine ⟨t', ?_, e2⟩
          show (c _).bind _ = _
          rw [hc, decide_eq_true hp]
          show (f _).bind _ = _
          rw [hf L p told x hx I.ok hcb len2 T.ok]
          exact e1
    obtain ⟨told, e, T⟩ := go j n 0 [⟨(0, []), []⟩] none hb (binv0 h0) (fun x hx => by rw [List.mem_singleton.mp hx]; exact Nat.zero_le _) (tinv0 rows _) hn
    refine ⟨told, ?_, T⟩
    have e' : whileO c f n ([stD (0, [])], esOf csD [⟨(0, []), []⟩], .none, .int 0) = _ := e
    rw [e', bnd_some]; exact tlG_told told
  refine key _ _ (fun L p told => ?_) (fun L p told x hx O hcb len2 ht => ?_)
  · rw [lenD_l, b2_some, ordD_ii, show (qsD L).length = L.length by unfold qsD; rw [List.length_map]]
    congr 1
    show decide ((p : Int) < (L.length : Int)) = _
    simp
  · have mem := List.mem_of_getElem? hx
    have hp := getD_lt hx
    have nd := O.ok x mem
    obtain ⟨r, hr⟩ : ∃ r, rows[x.st.1]? = some r := ⟨_, List.getElem?_eq_getElem nd.lt⟩
    have hsm := nd.hi.small (by have := nd.lt; omega)
    have e0 : idxD (stD x.st) (.int 0) = some (.int (x.st.1 : Int)) := idt0 _ _
    have hq : idxD (.list (qsD L)) (.int (p : Int)) = some (stD x.st) := by
      unfold qsD
      rw [idxD_l, List.getElem?_map, hx]; rfl
    have hfw : fw rows x = faultT r x.st.2 := by unfold fw; rw [hr]
    have hf := fault_eq n hr x.st.2 (by omega)
    have hf : l_fault n [rowsD rows, stD x.st] = some (.str (fw rows x)) := by rw [hfw]; exact hf
    have hw := ways_eqT n G hl nd.lt x.st.2
    have hw : l_ways n [rowsD rows, stD x.st] = some (.int (waysT rows x.st.1 : Nat)) := hw
    have hwl := ways_le (rows := rows) G hl (p := x.st.1)
    simp only [obs, consO_some, b2_some, hq, bnd_some, addD_ii, int_succ, hf, e0, row_at hr, hw, neD_ss, bnd_id]
    have hg : dkGet (esOf csD L) (stD x.st) = some (csD x) := dkGet_es csD O.nd mem
    rw [rng1_i _ (by omega), show ((waysT rows x.st.1 : Nat) : Int).toNat = waysT rows x.st.1 by omega]
    have ht' : (ifM (andT (some (!decide (fw rows x = noS))) (((l_sooner n [toldD told, .int (x.st.1 : Int), .str (fw rows x)])).bind asB)) (((consO (scD (some (.int (x.st.1 : Int)))) (consO (scD (some (.str (fw rows x)))) (consO (dkGet (esOf csD L) (stD x.st)) (some [])))).bind fun ds => grd (decide (ds.length ≤ 1000)) (some ds)).map PyData.tuple) (some (toldD told))) = some (toldD (told' rows told x)) := by
      rw [hg]
      unfold told'
      rcases fw_3 rows x with h3 | h3
      · rw [decide_eq_true h3]; rfl
      · rw [decide_eq_false (F3_ne h3), sooner_eq n ht x.st.1 h3, obs, asB_b]
        show ifM (some (soonT told x.st.1 (fw rows x))) _ _ = _
        cases soonT told x.st.1 (fw rows x) <;> rfl
    rw [show (decide (fw rows x = Str.ofString "")) = decide (fw rows x = noS) from rfl, ht', bnd_some, bnd_some]
    rw [ways_loop G csD nd (fun c M hc hO hcb' hm hlen => ?_) O hcb mem len2 hwl]
    · rfl
    · have sb := stepped_by_eq n G hl hr nd.hi ((c : Nat) : Int)
      have sb : l_stepped_by n [rowsD rows, .list (hmL rows), .list (enLs rows), stD x.st, .int ((0 : Int) + (c : Int))] = some (stD (stepT rows x.st.1 x.st.2 (c : Int))) := by rw [Int.zero_add]; exact sb
      have e1 : idxD (stD (stepT rows x.st.1 x.st.2 (c : Int))) (.int 0) = some (.int ((stepT rows x.st.1 x.st.2 (c : Int)).1 : Int)) := idt0 _ _
      have lr : lenD (rowsD rows) = some (.int rows.length) := by unfold rowsD; rw [lenD_l, List.length_map]
      simp only [sb, bnd_some, e1, lr, b2_some, ordD_ii, dkHas_es, andT_ss]
      generalize hfs : stepT rows x.st.1 x.st.2 (c : Int) = fs
      have lt1 : ltI (fs.1 : Int) (rows.length : Int) = decide (fs.1 < rows.length) := by
        show decide _ = decide _
        by_cases h : fs.1 < rows.length
        · rw [decide_eq_true h, decide_eq_true (by omega)]
        · rw [decide_eq_false h, decide_eq_false (by omega)]
      rw [lt1]
      unfold exp1
      rw [hfs]
      by_cases hc2 : (decide (fs.1 < rows.length) && !isIn M fs) = true
      · rw [hc2, ifM_t, if_pos rfl]
        rw [Bool.and_eq_true, Bool.not_eq_true'] at hc2
        have hin := hc2.2
        have hxc := hcb' x hm
        rw [dkGet_es csD hO.nd hm, b2_some, dkSet_new csD (by omega) hin, bnd_some]
        have hch : l_chooses n [r.enc] = some (.bool r.chs) := chooses_eq n r
        have ca : chsAt rows x.st.1 = r.chs := by unfold chsAt; rw [hr]
        rw [hch, obs, asB_b, ca]
        have qa : appM (qsD M) (stD fs) = some (qsD M ++ [stD fs]) := appM_some (lt100 (by unfold qsD; rw [List.length_map]; omega))
        cases hcc : r.chs with
        | false =>
          rw [ifM_f, bnd_some, qa, bnd_some, if_neg (by simp)]
          simp only [bnd_some]
          rw [show csD x = csD ⟨fs, x.cs⟩ from rfl, show (stD fs, csD ⟨fs, x.cs⟩) = (stD (Nd.st ⟨fs, x.cs⟩), csD ⟨fs, x.cs⟩) from rfl, es_snoc, show stD fs = stD (Nd.st ⟨fs, x.cs⟩) from rfl, qs_snoc]
        | true =>
          rw [ifM_t, dkGet_app csD hO.nd hm, b2_some]
          have hadd : addN (csD x) (.list [.int ((0 : Int) + (c : Int))]) = some (.list ((x.cs ++ [(c : Int)]).map PyData.int)) := by
            unfold csD
            rw [Int.zero_add]
            show grd _ _ = _
            have h1 : (decide ((x.cs.map PyData.int).length + [PyData.int (c : Int)].length ≤ LN) && (x.cs.map PyData.int ++ [PyData.int (c : Int)]).all flatD) = true := by
              rw [Bool.and_eq_true]
              refine ⟨decide_eq_true (ln100 (by rw [List.length_map]; simp; omega)), ?_⟩
              rw [List.all_append, List.all_map]
              simp [flatD, Function.comp_def]
            rw [h1, grd_true, List.map_append]; rfl
          rw [hadd, b2_some, dkSet_last csD (by omega) hin, bnd_some, qa, bnd_some, if_pos rfl]
          simp only [bnd_some]
          rw [show PyData.list ((x.cs ++ [(c : Int)]).map PyData.int) = csD ⟨fs, x.cs ++ [(c : Int)]⟩ from rfl, show (stD fs, csD ⟨fs, x.cs ++ [(c : Int)]⟩) = (stD (Nd.st ⟨fs, x.cs ++ [(c : Int)]⟩), csD ⟨fs, x.cs ++ [(c : Int)]⟩) from rfl, es_snoc, show stD fs = stD (Nd.st ⟨fs, x.cs ++ [(c : Int)]⟩) from rfl, qs_snoc]
      · rw [show (decide (fs.1 < rows.length) && !isIn M fs) = false by simpa using hc2, ifM_f, if_neg (by simp)]
        simp only [bnd_some]
end Bw
/-! ### what is told has its form -/
namespace Bw
open PySem Bd
theorem told_eq (n : Nat) {t : Tl} (h : isF3 t.2.1) (hn : ∀ c ∈ t.2.2, 0 ≤ c) (hl : t.2.2.length ≤ 10000) : l_law_told n [toldD (some t)] = some (.bool true) := by
  show m_law_told n (toldD (some t)) = _
  unfold m_law_told toldD
  simp only [oms, obs, isTup_t, notT_s, Bool.not_true, orT_f, lenD_t, List.length_cons, List.length_nil, b2_some, neD_ii, idt0, idt1, idt2, consO_some, isStr_s, isLst_l, lD_some, itD_l]
  have hw : ∀ i : Int, l_law_whole n [.int i] = some (.bool true) := fun _ => rfl
  rw [hw, obs, asB_b, notT_s]
  have hin : ninD (.str t.2.1) (.list [.str (Str.ofString "beside"), .str (Str.ofString "empty"), .str (Str.ofString "asleep")]) = some false := by
    unfold ninD
    rw [show [PyData.str (Str.ofString "beside"), .str (Str.ofString "empty"), .str (Str.ofString "asleep")] = w3.map PyData.str from rfl, in_gone, oms]
    rw [decide_eq_true (by rcases h with h | h | h <;> rw [h] <;> simp [w3])]; rfl
  rw [hin]
  rw [lcG_mapE (enc := PyData.int) (g := fun _ => .bool true) (ln100 (by omega)) (fun c hc => by
    rw [hw, ordD_ii, show geI c 0 = true from decide_eq_true (hn c hc)]; rfl)]
  rw [lD_some, obs, show t.2.2.map (fun _ => PyData.bool true) = (t.2.2.map fun _ => true).map PyData.bool by rw [List.map_map]; rfl, allB_map, show (t.2.2.map fun _ => true).all id = true by rw [List.all_map]; exact List.all_eq_true.mpr fun _ _ => rfl]
  rfl
end Bw
/-! ### the law's own ways -/
namespace Bw
open PySem Bd
theorem some_ways_eq (n : Nat) {rows : List Rw} (G : cks [] rows = some []) (hl : rows.length ≤ 700) {p : Nat} (hp : p < rows.length) : l_law_some_ways n [rowsD rows, .list (hmL rows), .int (p : Int)] = some (.int (waysT rows p : Nat)) := by
  obtain ⟨r, hr⟩ : ∃ r, rows[p]? = some r := ⟨_, List.getElem?_eq_getElem hp⟩
  have hw : waysT rows p = waysR r (brN rows p).length := by unfold waysT; rw [hr]
  rw [hw]
  show m_law_some_ways n (rowsD rows) (.list (hmL rows)) (.int (p : Int)) = _
  unfold m_law_some_ways
  simp only [b2_some, row_at hr, hd0, hdP, hdE, hdG, consO_some, obs, bD_some, intD_b, lD_some]
  cases r with
  | pick w ts => simp only [Rw.isP, ifM_t, enc_pick, idt2, obs, lenD_t, List.length_map]; rfl
  | either =>
    simp only [Rw.isP, Rw.isE, ifM_t, ifM_f]
    rw [llaw_starts_eq n rows (by omega) p hp, obs, lenD_l, brL_len]; rfl
  | again => rfl
  | _ => rfl
end Bw
/-! ### the law's own walk, bounded -/
namespace Bw
open PySem Bd
/-- the walk of the law comes to an end with few standings, or tells that they are many -/
theorem few_eq (n : Nat) {rows : List Rw} (G : cks [] rows = some []) (hl : rows.length ≤ 700) (hn : 60000 ≤ n) :
    l_law_few n [rowsD rows, .int 400] = some (.bool false) ∨ (l_law_few n [rowsD rows, .int 400] = some (.bool true) ∧ (0 < rows.length → ∃ j L', bfs rows j [⟨(0, []), []⟩] 0 = (L', L'.length) ∧ L'.length ≤ 2000 ∧ j ≤ 500)) := by
  have N := nst_of G
  show m_law_few n (rowsD rows) (.int 400) = _ ∨ (m_law_few n (rowsD rows) (.int 400) = _ ∧ _)
  unfold m_law_few
  simp only [consO_some, obs, llaw_homes_eq n rows N (by omega), bnd_some, oms]
  rw [show PyData.tuple [PyData.int 0, .tuple []] = stD (0, []) from rfl, show scD (some (PyData.bool true)) = some (.bool true) from rfl, b2_some]
  rw [show dkNew (stD (0, [])) (.bool true) = some (esOf trD [⟨(0, []), []⟩]) by unfold dkNew; rw [kyT_st]; rfl, bnd_some]
  have lr : lenD (rowsD rows) = some (.int rows.length) := by unfold rowsD; rw [lenD_l, List.length_map]
  have key : ∀ (c : List D × List (D × D) × D → Option Bool) (f : List D × List (D × D) × D → Option (Fl (List D × List (D × D) × D) D)),
      (∀ (L : List Nd) (p : Nat), c (qsD L, esOf trD L, .int (p : Int)) = some (decide (p < L.length) && decide (0 < rows.length))) →
      (∀ (L : List Nd) (p : Nat), 400 < L.length → f (qsD L, esOf trD L, .int (p : Int)) = some (.rt (.bool false))) →
      (∀ (L : List Nd) (p : Nat) (x : Nd), L[p]? = some x → LOk rows L → CB L → L.length ≤ 400 → f (qsD L, esOf trD L, .int (p : Int)) = some (.nx (qsD (exps rows x L), esOf trD (exps rows x L), .int ((p + 1 : Nat) : Int)))) →
      (bnd (whileF c f n ([stD (0, [])], esOf trD [⟨(0, []), []⟩], .int 0)) (flQ fun _ => some (.bool true)) = some (.bool false)) ∨ (bnd (whileF c f n ([stD (0, [])], esOf trD [⟨(0, []), []⟩], .int 0)) (flQ fun _ => some (.bool true)) = some (.bool true) ∧ (0 < rows.length → ∃ j L', bfs rows j [⟨(0, []), []⟩] 0 = (L', L'.length) ∧ L'.length ≤ 2000 ∧ j ≤ 500)) := by
    intro c f hc hf1 hf2
    by_cases h0 : 0 < rows.length
    · have go : ∀ (k n p : Nat) (L : List Nd), BInv rows L p → CB L → L.length ≤ 2000 → p ≤ 401 → 401 - p ≤ k → k < n →
          (whileF c f n (qsD L, esOf trD L, .int (p : Int)) = some (.rt (.bool false))) ∨ ∃ j L', bfs rows j L p = (L', L'.length) ∧ L'.length ≤ 2000 ∧ j ≤ k ∧ whileF c f n (qsD L, esOf trD L, .int (p : Int)) = some (.nx (qsD L', esOf trD L', .int (L'.length : Int))) := by
        intro k
        induction k with
        | zero =>
          intro n p L I hb hlen hp hk hn
          obtain ⟨m, rfl⟩ : ∃ m, n = m + 1 := ⟨n - 1, by omega⟩
          have hle := I.le
          by_cases hpl : p < L.length
          · left
            show (c _).bind _ = _
            rw [hc, decide_eq_true hpl, decide_eq_true h0]
            show (f _).bind _ = _
            rw [hf1 L p (by omega)]; rfl
          · right
            have e : p = L.length := by omega
            refine ⟨0, L, by rw [e]; rfl, hlen, Nat.le_refl _, ?_⟩
            show (c _).bind _ = _
            rw [hc, decide_eq_false hpl, e]; rfl
        | succ k ih =>
          intro n p L I hb hlen hp hk hn
          obtain ⟨m, rfl⟩ : ∃ m, n = m + 1 := ⟨n - 1, by omega⟩
          have hle := I.le
          by_cases hpl : p < L.length
          · by_cases hm : 400 < L.length
            · left
              show (c _).bind _ = _
              rw [hc, decide_eq_true hpl, decide_eq_true h0]
              show (f _).bind _ = _
              rw [hf1 L p hm]; rfl
            · obtain ⟨x, hx⟩ : ∃ x, L[p]? = some x := ⟨_, List.getElem?_eq_getElem hpl⟩
              have mem := List.mem_of_getElem? hx
              have hw := ways_le (rows := rows) G hl (p := x.st.1)
              have hel := exps_len rows x L
              have step : whileF c f (m + 1) (qsD L, esOf trD L, .int (p : Int)) = whileF c f m (qsD (exps rows x L), esOf trD (exps rows x L), .int ((p + 1 : Nat) : Int)) := by
                show (c _).bind _ = _
                rw [hc, decide_eq_true hpl, decide_eq_true h0]
                show (f _).bind _ = _
                rw [hf2 L p x hx I.ok hb (by omega)]; rfl
              rw [step]
              rcases ih m (p + 1) (exps rows x L) (binv_step G I hx) (exps_cb hb mem) (by omega) (by omega) (by omega) (by omega) with h | ⟨j, L', h1, h2, h3, h4⟩
              · exact .inl h
              · refine .inr ⟨j + 1, L', ?_, h2, by omega, h4⟩
                show (match L[p]? with | some x => bfs rows j (exps rows x L) (p + 1) | none => (L, p)) = _
                rw [hx]; exact h1
          · right
            have e : p = L.length := by omega
            refine ⟨0, L, by rw [e]; rfl, hlen, Nat.zero_le _, ?_⟩
            show (c _).bind _ = _
            rw [hc, decide_eq_false hpl, e]; rfl
      rcases go 401 n 0 [⟨(0, []), []⟩] (binv0 h0) (fun x hx => by rw [List.mem_singleton.mp hx]; exact Nat.zero_le _) (by decide) (by omega) (by omega) (by omega) with h | ⟨j, L', h1, h2, h3, h4⟩
      · left
        have h' : whileF c f n ([stD (0, [])], esOf trD [⟨(0, []), []⟩], .int 0) = _ := h
        rw [h']; rfl
      · right
        have h' : whileF c f n ([stD (0, [])], esOf trD [⟨(0, []), []⟩], .int 0) = _ := h4
        rw [h']
        exact ⟨rfl, fun _ => ⟨j, L', h1, h2, by omega⟩⟩
    · right
      obtain ⟨m, rfl⟩ : ∃ m, n = m + 1 := ⟨n - 1, by omega⟩
      have hc0 := hc [⟨(0, []), []⟩] 0
      rw [decide_eq_false h0, Bool.and_false] at hc0
      have h' : whileF c f (m + 1) ([stD (0, [])], esOf trD [⟨(0, []), []⟩], .int 0) = some (.nx ([stD (0, [])], esOf trD [⟨(0, []), []⟩], .int 0)) := by
        show (c _).bind _ = _
        have hc1 : c ([stD (0, [])], esOf trD [⟨(0, []), []⟩], .int 0) = some false := hc0
        rw [hc1]; rfl
      rw [h']
      exact ⟨rfl, fun h => absurd h h0⟩
  refine key _ _ (fun L p => ?_) (fun L p hm => ?_) (fun L p x hx O hcb len2 => ?_)
  · simp only [lenD_l, b2_some, ordD_ii, lr, andT_ss]
    rw [show (qsD L).length = L.length by unfold qsD; rw [List.length_map]]
    congr 2
    · show decide ((p : Int) < (L.length : Int)) = _
      simp
    · show decide ((rows.length : Int) > 0) = _
      by_cases h : 0 < rows.length
      · rw [decide_eq_true h, decide_eq_true (by omega)]
      · rw [decide_eq_false h, decide_eq_false (by omega)]
  · simp only [lenD_l, b2_some, ordD_ii]
    rw [show (qsD L).length = L.length by unfold qsD; rw [List.length_map], show gtI (L.length : Int) 400 = true from decide_eq_true (by omega), ifM_t]
    try rfl
  · have mem := List.mem_of_getElem? hx
    have hp := getD_lt hx
    have nd := O.ok x mem
    obtain ⟨r, hr⟩ : ∃ r, rows[x.st.1]? = some r := ⟨_, List.getElem?_eq_getElem nd.lt⟩
    have e0 : idxD (stD x.st) (.int 0) = some (.int (x.st.1 : Int)) := idt0 _ _
    have hq : idxD (.list (qsD L)) (.int (p : Int)) = some (stD x.st) := by
      unfold qsD
      rw [idxD_l, List.getElem?_map, hx]; rfl
    have hwl := ways_le (rows := rows) G hl (p := x.st.1)
    have hw := some_ways_eq n G hl nd.lt
    simp only [lenD_l, b2_some, ordD_ii, hq, bnd_some, e0, consO_some, obs, hw, addD_ii, int_succ, lr, bnd_id]
    rw [show (qsD L).length = L.length by unfold qsD; rw [List.length_map], show gtI (L.length : Int) 400 = false from decide_eq_false (by omega), ifM_f]
    rw [rng1_i _ (by omega), show ((waysT rows x.st.1 : Nat) : Int).toNat = waysT rows x.st.1 by omega, bnd_some]
    rw [ways_loop G trD nd (fun c M hc hO hcb' hm hlen => ?_) O hcb mem (by omega) hwl]
    · rfl
    · have sb := law_step_eq n G hl hr nd.hi ((c : Nat) : Int)
      have sb : l_law_step n [rowsD rows, .list (hmL rows), stD x.st, .int ((0 : Int) + (c : Int))] = some (stD (stepT rows x.st.1 x.st.2 (c : Int))) := by rw [Int.zero_add]; exact sb
      have e1 : idxD (stD (stepT rows x.st.1 x.st.2 (c : Int))) (.int 0) = some (.int ((stepT rows x.st.1 x.st.2 (c : Int)).1 : Int)) := idt0 _ _
      simp only [sb, bnd_some, e1, b2_some, ordD_ii, dkHas_es, andT_ss]
      generalize hfs : stepT rows x.st.1 x.st.2 (c : Int) = fs
      have lt1 : ltI (fs.1 : Int) (rows.length : Int) = decide (fs.1 < rows.length) := by
        show decide _ = decide _
        by_cases h : fs.1 < rows.length
        · rw [decide_eq_true h, decide_eq_true (by omega)]
        · rw [decide_eq_false h, decide_eq_false (by omega)]
      rw [lt1]
      unfold exp1
      rw [hfs]
      by_cases hc2 : (decide (fs.1 < rows.length) && !isIn M fs) = true
      · rw [hc2, ifM_t, if_pos rfl]
        rw [Bool.and_eq_true, Bool.not_eq_true'] at hc2
        have qa : appM (qsD M) (stD fs) = some (qsD M ++ [stD fs]) := appM_some (lt100 (by unfold qsD; rw [List.length_map]; omega))
        rw [dkSet_new trD (by omega) hc2.2, bnd_some, qa, bnd_some]
        simp only [bnd_some]
        generalize hcs : (if chsAt rows x.st.1 = true then x.cs ++ [(c : Int)] else x.cs) = cs
        rw [show (stD fs, PyData.bool true) = (stD (Nd.st ⟨fs, cs⟩), trD ⟨fs, cs⟩) from rfl, es_snoc, show stD fs = stD (Nd.st ⟨fs, cs⟩) from rfl, qs_snoc]
      · rw [show (decide (fs.1 < rows.length) && !isIn M fs) = false by simpa using hc2, ifM_f, if_neg (by simp)]
        simp only [bnd_some]
/-! ### rows ahead, what is told -/
def aheadS : Str := Str.ofString "ahead"
def ahead : Nat → List Rw
  | 0 => []
  | k + 1 => ahead k ++ [.lend aheadS false (.th (k : Int)), .fin]
theorem ahead_ok : ∀ k : Nat, k ≤ 1000 → cks [] (ahead k) = some [] ∧ (ahead k).length = 2 * k
  | 0, _ => ⟨rfl, rfl⟩
  | k + 1, h => by
    obtain ⟨a, b⟩ := ahead_ok k (by omega)
    refine ⟨?_, by show (ahead k ++ [_, _]).length = _; rw [List.length_append, b]; show 2 * k + 2 = _; omega⟩
    show cks [] (ahead k ++ [.lend aheadS false (.th (k : Int)), .fin]) = _
    rw [cks_append, a, obs]
    show (ck [] (.lend aheadS false (.th (k : Int)))).bind _ = _
    have hw : wOk aheadS = true := by decide +kernel
    have ht : tOk (k : Int) = true := decide_eq_true (by omega)
    have hk : ck [] (.lend aheadS false (.th (k : Int))) = some [.lend aheadS false (.th (k : Int))] := by simp only [ck, kdOf, srcOk, hw, ht, Option.isNone_none, Bool.and_self, if_true]
    rw [hk]; rfl
theorem long_eq (n : Nat) (ns : List Int) {rows : List Rw} (G : cks [] rows = some []) (hl : rows.length ≤ 700) : ∃ rows' : List Rw, l_law_long n [sD ns, rowsD rows] = some (rowsD rows') ∧ cks [] rows' = some [] ∧ rows'.length ≤ 700 := by
  have c1 : l_law_cell_at n [sD ns, .int 1] = some (.int (cellI ns 1)) := lcell_eq n ns 1 (by decide)
  have c2 : l_law_cell_at n [sD ns, .int 2] = some (.int (cellI ns 2)) := lcell_eq n ns 2 (by decide)
  show ∃ rows' : List Rw, m_law_long n (sD ns) (rowsD rows) = _ ∧ _
  unfold m_law_long
  have lr : lenD (rowsD rows) = some (.int rows.length) := by unfold rowsD; rw [lenD_l, List.length_map]
  simp only [consO_some, obs, c1, c2, b2_some, modD_ii _ _ (show (0 : Int) < 16 by decide), neD_ii, lr, ordD_ii, orT_ss, lD_some, bnd_some, modD_ii _ _ (show (0 : Int) < 25 by decide), addD_ii, oms, bnd_id]
  by_cases h : ((!(cellI ns 1 % 16 == 5)) || gtI (rows.length : Int) 62) = true
  · rw [h, ifM_t]; exact ⟨rows, rfl, G, hl⟩
  · rw [show ((!(cellI ns 1 % 16 == 5)) || gtI (rows.length : Int) 62) = false by simpa using h, ifM_f]
    have h62 : rows.length ≤ 62 := by
      rw [Bool.or_eq_true, not_or] at h
      have := h.2
      have h2 : ¬ ((rows.length : Int) > 62) := fun q => this (decide_eq_true q)
      omega
    generalize cellI ns 2 = y
    rw [rng1_i _ (by omega), bnd_some]
    have hk : (45 + y % 25).toNat ≤ 69 := by omega
    generalize (45 + y % 25).toNat = k at hk
    refine foldO_bndE (Q := fun m => ∃ rows' : List Rw, m = some (rowsD rows') ∧ cks [] rows' = some [] ∧ rows'.length ≤ 700) (fun i s => s = rowsD (ahead i)) ?_ rfl ?_
    · intro i d s hd hs
      subst hs
      obtain ⟨hi, rfl⟩ := rngL_get hd
      refine ⟨_, ?_, rfl⟩
      simp only [Int.zero_add]
      obtain ⟨_, al⟩ := ahead_ok i (by omega)
      exact addRows (ahead i) [.lend aheadS false (.th (i : Int)), .fin] (by rw [al]; show 2 * i + 2 ≤ _; omega)
    · intro s hs
      subst hs
      rw [rngL_length]
      obtain ⟨ag, al⟩ := ahead_ok k (by omega)
      rw [show addD (rowsD (ahead k)) (rowsD rows) = some (rowsD (ahead k ++ rows)) from addRows2 _ _ (by omega)]
      exact ⟨_, rfl, by rw [cks_append, ag]; exact G, by rw [List.length_append]; omega⟩
end Bw
/-! ### what runs come to -/
namespace Bw
open PySem Bd
theorem rows_seq (rows : List Rw) : seqD (rowsD rows) = some (rows.map Rw.enc) := rfl
def fq (rows : List Rw) (y : St) : Str := fw rows ⟨y, []⟩
theorem law_fq (n : Nat) {rows : List Rw} (G : cks [] rows = some []) (hl : rows.length ≤ 700) {y : St} (hp : y.1 < rows.length) (H : HI (stk rows y.1) y.2) : ∃ r, rows[y.1]? = some r ∧ l_law_fault n [r.enc, heldD y.2] = some (.str (fq rows y)) := by
  have hr := List.getElem?_eq_getElem hp
  generalize rows[y.1] = r at hr
  refine ⟨r, hr, ?_⟩
  obtain ⟨ndn, _⟩ := stk_good G y.1 (by omega)
  have nd : (y.2.map Ent.w).Nodup := by rw [H.names]; exact ndn
  have hsm := H.small (by omega)
  have hf : fq rows y = faultT r y.2 := by
    show (match rows[y.1]? with | some r => faultT r y.2 | none => noS) = _
    rw [hr]
  rw [hf]
  exact law_fault_eq n (cks_at G hr) H nd (by omega)
def wsD : D := .list [.str (Str.ofString "beside"), .str (Str.ofString "empty"), .str (Str.ofString "asleep")]
theorem lix3 {w : Str} (h : isF3 w) : lixD wsD (.str w) = some (.int (oW w : Nat)) := by
  show ((some w3).bind fun ys => (ixS ys w).map fun j => PyData.int (j : Int)) = _
  rw [obs, ix3 h]; rfl
theorem toldD_tup (t : Tl) : toldD (some t) = .tuple [.int (t.1 : Int), .str t.2.1, .list (t.2.2.map PyData.int)] := rfl
/-- what is kept of the thing told -/
def Lk : Option Tl → D → Prop
  | none, s => s = .none
  | some t, s => ∃ e, s = .tuple [.int (t.1 : Int), .str t.2.1, e]
theorem looked_all (n : Nat) {rows : List Rw} (G : cks [] rows = some []) (hl : rows.length ≤ 700) (hn : 60000 ≤ n) (hfew : 0 < rows.length → ∃ j L', bfs rows j [⟨(0, []), []⟩] 0 = (L', L'.length) ∧ L'.length ≤ 2000 ∧ j ≤ 500) :
    ∃ told, l_looked n [rowsD rows] = some (toldD told) ∧ tOkT told ∧ (∀ t, told = some t → (∀ c ∈ t.2.2, 0 ≤ c) ∧ t.2.2.length ≤ 2000) ∧ ∀ cs x, x ∈ runT rows cs → fq rows x ≠ noS → ∃ t, told = some t ∧ better t x.1 (fq rows x) := by
  by_cases h0 : 0 < rows.length
  · obtain ⟨j, L', hbf, hL, hj⟩ := hfew h0
    obtain ⟨told, e, T⟩ := looked_eq n G hl h0 hbf hL (by omega)
    have I := bfs_inv G j _ _ (binv0 h0)
    rw [hbf] at I
    have I : BInv rows L' L'.length := I
    have cb := bfs_cb (rows := rows) j _ 0 cb0
    rw [hbf] at cb
    have cb : CB L' := cb
    refine ⟨told, e, T.ok, fun t ht => ?_, fun cs x hx hf => ?_⟩
    · obtain ⟨x, hx, ex, hne⟩ := T.there t ht
      have hcs := cb x hx
      rw [ex]
      exact ⟨(I.ok.ok x hx).nn, by show x.cs.length ≤ 2000; omega⟩
    · obtain ⟨y, hy, rfl⟩ := List.mem_map.mp (run_in G I cs x hx)
      obtain ⟨i, hi⟩ := List.getElem?_of_mem hy
      exact T.least i y (getD_lt hi) hi hf
  · have e : rows = [] := List.length_eq_zero_iff.mp (by omega)
    subst e
    refine ⟨none, ?_, trivial, fun t h => (nomatch h), fun cs x hx => ?_⟩
    · show m_looked n (rowsD []) = _
      unfold m_looked
      simp only [consO_some, obs, checked_eq n G (by omega), bnd_some]
      rfl
    · have := (runT_mem G cs hx).1
      exact absurd this (by show ¬ _ < 0; omega)
theorem law_eq (n : Nat) (hn : 10000000 ≤ n) (ns : List Int) (hs : ns.length ≤ 63) : m_law n (sD ns) = some (.bool true) := by
  obtain ⟨rows0, hr0, G0, hl0⟩ := ldrawn_eq n ns 14 (by decide)
  obtain ⟨rows, hr, G, hl⟩ := long_eq n ns G0 hl0
  unfold m_law
  simp only [consO_some, obs, hr0, hr, bnd_some, law_choices_eq n ns hs]
  obtain ⟨cs, hcs, ecs⟩ : ∃ cs : List Int, cs.length ≤ 20 ∧ cs = (ns.reverse.take 20).map fun c => c % 60 := ⟨_, by rw [List.length_map, List.length_take]; omega, rfl⟩
  rw [← ecs]
  rcases few_eq n G hl (by omega) with h | ⟨h, hfew⟩
  · rw [h, obs, asB_b, notT_s, Bool.not_false, ifM_t]
  rw [h, obs, asB_b, notT_s, Bool.not_true, ifM_f, rows_seq, lD_some, bnd_some, show PyData.list (rows.map Rw.enc) = rowsD rows from rfl]
  obtain ⟨told, e, hok, hsh, hall⟩ := looked_all n G hl (by omega) hfew
  rw [e, bnd_some, rows_alike_eq n rows G (by omega), obs, asB_b, notT_s, Bool.not_true, orT_f]
  simp only [b2_some, notN_n, isN_n, neD_ii]
  have key : ∀ (K : D → Option D) (A : D → Option (Fl D D)), (∀ u, A u = bnd (some (toldD told)) fun u_law_again => ifM (orT (some (nonD u_law_again)) (orT (notT ((l_law_told n [u_law_again]).bind asB)) (orT (b2 neD (idxD u_law_again (.int 0)) (idxD u (.int 0))) (b2 neD (idxD u_law_again (.int 1)) (idxD u (.int 1)))))) ((some (PyData.bool false)).map .rt) (some (.nx u))) → (∀ s1, Lk told s1 → K s1 = some (.bool true)) →
      ifM (andT (some (!nonD (toldD told))) (notT ((l_law_told n [toldD told]).bind asB))) (some (.bool false)) (bnd (ifM (some (!nonD (toldD told))) (bnd (tlApp (toldD told) (.int 1)) A) (some (.nx (toldD told)))) (flQ K)) = some (.bool true) := by
    intro K A hA hK
    cases told with
    | none =>
      show K .none = _
      exact hK _ rfl
    | some t =>
      obtain ⟨h1, h2⟩ := hsh t rfl
      have h3 : isF3 t.2.1 := hok
      have ht : l_law_told n [toldD (some t)] = some (.bool true) := told_eq n h3 h1 (by omega)
      rw [show nonD (toldD (some t)) = false from rfl, Bool.not_false, andT_t, ht, obs, asB_b, notT_s, Bool.not_true, ifM_f, ifM_t]
      have ha : tlApp (toldD (some t)) (.int 1) = some (.tuple [.int (t.1 : Int), .str t.2.1, .list (t.2.2.map PyData.int ++ [.int 1])]) := grd_pos (lt100 (by rw [List.length_map]; omega)) _
      rw [ha, bnd_some, hA, bnd_some, ht, show nonD (toldD (some t)) = false from rfl, orT_f, obs, asB_b, notT_s, Bool.not_true, orT_f, toldD_tup, idt0, idt0, idt1, idt1, b2_some, b2_some, neD_ii, neD_ss, decide_eq_true rfl]
      simp only [beq_self_eq_true, Bool.not_true, orT_f, ifM_f, bnd_some]
      exact hK _ ⟨_, rfl⟩
  refine key _ _ (fun u => rfl) fun s1 hs1 => ?_
  clear key
  simp only [lD_some, bnd_some, consO_some, b2_some, ordD_ii, bD_some, obs, intD_b, oms, asI_i, slcD_s]
  rw [show lenD (rowsD rows) = some (.int rows.length) by unfold rowsD; rw [lenD_l, List.length_map], b2_some, ordD_ii, bD_some, obs, intD_b]
  obtain ⟨k, hk, ek⟩ : ∃ k : Nat, k ≤ 5 ∧ b2 idxD (some (PyData.list [.int 5, .int 1])) (some (.int (if gtI (rows.length : Int) 30 = true then 1 else 0))) = some (.int (k : Int)) := by
    cases gtI (rows.length : Int) 30 with
    | true => exact ⟨1, by decide, rfl⟩
    | false => exact ⟨5, by decide, rfl⟩
  rw [ek, obs, rng1_i _ (by omega), bnd_some, show ((k : Nat) : Int).toNat = k by omega]
  rw [foldF_all (s := ()) fun x hx => ?_]
  · rfl
  obtain ⟨i, hi⟩ := List.getElem?_of_mem hx
  obtain ⟨hik, rfl⟩ := rngL_get hi
  simp only [Int.zero_add, b2_some, ordD_ii]
  obtain ⟨cs', hc', ec'⟩ : ∃ cs' : List Int, cs'.length ≤ 20 ∧ (ifM (some (gtI (i : Int) 0)) (bnd (b2 addD (lD (lcG ((cutD (.list (cs.map PyData.int)) none (some 4)).bind itD) (fun _ => some true) fun u => addD u (.int (i : Int)))) (some (.list [.int (i : Int)]))) fun u => some u) (some (.list (cs.map PyData.int)))) = some (.list (cs'.map PyData.int)) := by
    by_cases hg : gtI (i : Int) 0 = true
    · rw [hg, ifM_t, cutD_l, obs, itD_l]
      rw [show cutL (cs.map PyData.int) none (some (4 : Int)) = (cs.map PyData.int).take 4 from cutL_to _ 4, ← List.map_take]
      rw [lcG_mapE (enc := PyData.int) (g := fun c => .int (c + (i : Int))) (ln100 (by rw [List.length_take]; omega)) (fun c _ => addD_ii _ _), lD_some, b2_some]
      refine ⟨((cs.take 4).map fun c => c + (i : Int)) ++ [(i : Int)], by rw [List.length_append, List.length_map, List.length_take, List.length_singleton]; omega, ?_⟩
      rw [show (cs.take 4).map (fun c => PyData.int (c + (i : Int))) = ((cs.take 4).map fun c => c + (i : Int)).map PyData.int by rw [List.map_map]; rfl]
      rw [show PyData.list [.int (i : Int)] = .list ([(i : Int)].map PyData.int) from rfl, addL _ _ (by rw [List.length_map, List.length_map, List.length_map, List.length_take, List.length_singleton]; omega), bnd_some, ← List.map_append]
    · rw [show gtI (i : Int) 0 = false by simpa using hg, ifM_f]
      exact ⟨cs, hcs, rfl⟩
  simp only [bnd_id] at ec' ⊢
  rw [ec', bnd_some, law_run_eq G hl cs' (by omega) n (by omega), obs, show itD (stsD (runT rows cs')) = some ((runT rows cs').map stD) from rfl, bnd_some, foldF_map]
  rw [foldF_all (s := ()) fun y hy => ?_]
  · rfl
  obtain ⟨hyl, yH⟩ := runT_mem G cs' hy
  obtain ⟨r, hyr, yf⟩ := law_fq n G hl hyl yH
  have y0 : idxD (stD y) (.int 0) = some (.int (y.1 : Int)) := idt0 _ _
  have y1 : idxD (stD y) (.int 1) = some (heldD y.2) := idt1 _ _ _
  simp only [y0, y1, b2_some, row_at hyr, consO_some, obs, yf, bnd_some, neD_ss, isN_n]
  have h3' : fq rows y = noS ∨ isF3 (fq rows y) := fw_3 rows ⟨y, []⟩
  rcases h3' with h3 | h3
  · rw [h3, show (decide (noS = Str.ofString "")) = true from decide_eq_true rfl]; rfl
  · have hne : ¬ fq rows y = noS := F3_ne h3
    rw [show (decide (fq rows y = Str.ofString "")) = false from decide_eq_false hne, Bool.not_false, ifM_t]
    obtain ⟨t, rfl, hb⟩ := hall cs' y hy hne
    obtain ⟨ee, rfl⟩ := hs1
    have ht3 : isF3 t.2.1 := hok
    rw [show nonD (PyData.tuple [.int (t.1 : Int), .str t.2.1, ee]) = false from rfl, orT_f, idt0, idt1, b2_some, b2_some, ordD_ii, eqD_ii, show (PyData.list [.str (Str.ofString "beside"), .str (Str.ofString "empty"), .str (Str.ofString "asleep")]) = wsD from rfl, lix3 h3, b2_some, lix3 ht3, b2_some, ordD_ii]
    unfold better at hb
    rw [show ltI (y.1 : Int) (t.1 : Int) = false from decide_eq_false (by omega), ifM_f, andT_ss]
    have : (((y.1 : Int) == (t.1 : Int)) && ltI ((oW (fq rows y) : Nat) : Int) ((oW t.2.1 : Nat) : Int)) = false := by
      by_cases hh : y.1 = t.1
      · rw [show ltI ((oW (fq rows y) : Nat) : Int) ((oW t.2.1 : Nat) : Int) = false from decide_eq_false (by omega), Bool.and_false]
      · rw [show ((y.1 : Int) == (t.1 : Int)) = false from by rw [beq_eq_false_iff_ne]; omega, Bool.false_and]
    rw [this, ifM_f]; rfl
theorem law_true : ∀ ns : List Int, ns.length ≤ 63 → ∃ n, l_law n [.list (ns.map PyData.int)] = some (.bool true) := fun ns hn => ⟨10000000, law_eq 10000000 (Nat.le_refl _) ns hn⟩
end Bw
namespace Bw
open PySem PySem.Spec PyProof.Rows L2 Bd
/-! ### the text -/
def topS (i : Nat) : Stmt := PySem.Challenge.pw_borrowdesk_k07_whole_let_by.main.body.getD i (.Pass ⟨0, 0, 0, 0⟩)
abbrev s_homes : Stmt := topS 2
theorem sc_homes : FnScope ["rows", "found", "opened", "at", "row", "home"] ["rows"] (defScope s_homes) := ⟨rfl, rfl, rfl, by decide +kernel, rfl, by decide +kernel, by decide +kernel⟩
abbrev s_ends : Stmt := topS 3
theorem sc_ends : FnScope ["rows", "found", "row", "at", "home"] ["rows"] (defScope s_ends) := ⟨rfl, rfl, rfl, by decide +kernel, rfl, by decide +kernel, by decide +kernel⟩
abbrev s_branches : Stmt := topS 4
theorem sc_branches : FnScope ["rows", "at", "found", "place", "home"] ["rows", "at"] (defScope s_branches) := ⟨rfl, rfl, rfl, by decide +kernel, rfl, by decide +kernel, by decide +kernel⟩
abbrev s_is_asleep : Stmt := topS 6
theorem sc_is_asleep : FnScope ["held", "word", "one"] ["held", "word"] (defScope s_is_asleep) := ⟨rfl, rfl, rfl, by decide +kernel, rfl, by decide +kernel, by decide +kernel⟩
abbrev s_awake : Stmt := topS 7
theorem sc_awake : FnScope ["held", "found", "one"] ["held"] (defScope s_awake) := ⟨rfl, rfl, rfl, by decide +kernel, rfl, by decide +kernel, by decide +kernel⟩
abbrev s_is_beside : Stmt := topS 8
theorem sc_is_beside : FnScope ["held", "loans", "place", "one", "other"] ["held"] (defScope s_is_beside) := ⟨rfl, rfl, rfl, by decide +kernel, rfl, by decide +kernel, by decide +kernel⟩
abbrev s_hand_of : Stmt := topS 9
theorem sc_hand_of : FnScope ["row"] ["row"] (defScope s_hand_of) := ⟨rfl, rfl, rfl, by decide +kernel, rfl, by decide +kernel, by decide +kernel⟩
abbrev s_fault : Stmt := topS 10
theorem sc_fault : FnScope ["rows", "standing", "row", "held", "one"] ["rows", "standing"] (defScope s_fault) := ⟨rfl, rfl, rfl, by decide +kernel, rfl, by decide +kernel, by decide +kernel⟩
abbrev s_is_word : Stmt := topS 24
theorem sc_is_word : FnScope ["value", "sign"] ["value"] (defScope s_is_word) := ⟨rfl, rfl, rfl, by decide +kernel, rfl, by decide +kernel, by decide +kernel⟩
abbrev s_is_thing : Stmt := topS 25
theorem sc_is_thing : FnScope ["value"] ["value"] (defScope s_is_thing) := ⟨rfl, rfl, rfl, by decide +kernel, rfl, by decide +kernel, by decide +kernel⟩
abbrev s_is_row : Stmt := topS 26
theorem sc_is_row : FnScope ["row", "good", "thing"] ["row"] (defScope s_is_row) := ⟨rfl, rfl, rfl, by decide +kernel, rfl, by decide +kernel, by decide +kernel⟩
abbrev s_kind_of : Stmt := topS 27
theorem sc_kind_of : FnScope ["opened", "word", "row"] ["opened", "word"] (defScope s_kind_of) := ⟨rfl, rfl, rfl, by decide +kernel, rfl, by decide +kernel, by decide +kernel⟩
abbrev s_checked_words : Stmt := topS 28
theorem sc_checked_words : FnScope ["at", "row", "opened", "kind"] ["at", "row", "opened"] (defScope s_checked_words) := ⟨rfl, rfl, rfl, by decide +kernel, rfl, by decide +kernel, by decide +kernel⟩
abbrev s_checked : Stmt := topS 29
theorem sc_checked : FnScope ["rows", "opened", "numbers", "at", "row"] ["rows"] (defScope s_checked) := ⟨rfl, rfl, rfl, by decide +kernel, rfl, by decide +kernel, by decide +kernel⟩
abbrev s_entry_of : Stmt := topS 31
theorem sc_entry_of : FnScope ["held", "word", "one"] ["held", "word"] (defScope s_entry_of) := ⟨rfl, rfl, rfl, by decide +kernel, rfl, by decide +kernel, by decide +kernel⟩
abbrev s_lent : Stmt := topS 32
theorem sc_lent : FnScope ["held", "row", "source", "holder"] ["held", "row"] (defScope s_lent) := ⟨rfl, rfl, rfl, by decide +kernel, rfl, by decide +kernel, by decide +kernel⟩
abbrev s_given_back : Stmt := topS 33
theorem sc_given_back : FnScope ["held", "word", "gone", "found", "one"] ["held", "word"] (defScope s_given_back) := ⟨rfl, rfl, rfl, by decide +kernel, rfl, by decide +kernel, by decide +kernel⟩
abbrev s_ways : Stmt := topS 34
theorem sc_ways : FnScope ["rows", "standing", "row"] ["rows", "standing"] (defScope s_ways) := ⟨rfl, rfl, rfl, by decide +kernel, rfl, by decide +kernel, by decide +kernel⟩
abbrev s_left : Stmt := topS 35
theorem sc_left : FnScope ["rows", "home", "at", "held"] ["rows", "home", "at", "held"] (defScope s_left) := ⟨rfl, rfl, rfl, by decide +kernel, rfl, by decide +kernel, by decide +kernel⟩
abbrev s_stepped_by : Stmt := topS 36
theorem sc_stepped_by : FnScope ["rows", "home", "last", "standing", "choice", "at", "held", "row", "thing", "starts"] ["rows", "home", "last", "standing", "choice"] (defScope s_stepped_by) := ⟨rfl, rfl, rfl, by decide +kernel, rfl, by decide +kernel, by decide +kernel⟩
abbrev s_chooses : Stmt := topS 37
theorem sc_chooses : FnScope ["row"] ["row"] (defScope s_chooses) := ⟨rfl, rfl, rfl, by decide +kernel, rfl, by decide +kernel, by decide +kernel⟩
abbrev s_sooner : Stmt := topS 40
theorem sc_sooner : FnScope ["told", "at", "word"] ["told", "at", "word"] (defScope s_sooner) := ⟨rfl, rfl, rfl, by decide +kernel, rfl, by decide +kernel, by decide +kernel⟩
abbrev s_looked : Stmt := topS 41
theorem sc_looked : FnScope ["rows", "home", "last", "queue", "choices", "told", "place", "standing", "word", "choice", "found"] ["rows"] (defScope s_looked) := ⟨rfl, rfl, rfl, by decide +kernel, rfl, by decide +kernel, by decide +kernel⟩
abbrev s_law_cell_at : Stmt := topS 43
theorem sc_law_cell_at : FnScope ["_law_script", "_law_k"] ["_law_script", "_law_k"] (defScope s_law_cell_at) := ⟨rfl, rfl, rfl, by decide +kernel, rfl, by decide +kernel, by decide +kernel⟩
abbrev s_law_word : Stmt := topS 44
theorem sc_law_word : FnScope ["_law_one", "_law_two", "_law_deep", "_law_draw_here", "_law_letters", "_law_sign", "_law_found", "_law_k"] ["_law_one", "_law_two", "_law_deep", "_law_draw_here"] (defScope s_law_word) := ⟨rfl, rfl, rfl, by decide +kernel, rfl, by decide +kernel, by decide +kernel⟩
abbrev s_law_draw : Stmt := topS 45
theorem sc_law_draw : FnScope ["_law_script", "_law_base", "_law_style", "_law_size"] ["_law_script"] (defScope s_law_draw) := ⟨rfl, rfl, rfl, by decide +kernel, rfl, by decide +kernel, by decide +kernel⟩
abbrev s_law_thing : Stmt := topS 46
theorem sc_law_thing : FnScope ["_law_cell", "_law_base"] ["_law_cell", "_law_base"] (defScope s_law_thing) := ⟨rfl, rfl, rfl, by decide +kernel, rfl, by decide +kernel, by decide +kernel⟩
abbrev s_law_lend : Stmt := topS 47
theorem sc_law_lend : FnScope ["_law_one", "_law_two", "_law_named", "_law_draw_here", "_law_kind", "_law_source", "_law_holder"] ["_law_one", "_law_two", "_law_named", "_law_draw_here"] (defScope s_law_lend) := ⟨rfl, rfl, rfl, by decide +kernel, rfl, by decide +kernel, by decide +kernel⟩
abbrev s_law_deed : Stmt := topS 48
theorem sc_law_deed : FnScope ["_law_one", "_law_two", "_law_hands_here", "_law_hand", "_law_word_here"] ["_law_one", "_law_two", "_law_hands_here"] (defScope s_law_deed) := ⟨rfl, rfl, rfl, by decide +kernel, rfl, by decide +kernel, by decide +kernel⟩
abbrev s_law_row : Stmt := topS 49
theorem sc_law_row : FnScope ["_law_way", "_law_one", "_law_two", "_law_opened", "_law_draw_here", "_law_named", "_law_row_here", "_law_hands_here", "_law_things", "_law_k"] ["_law_way", "_law_one", "_law_two", "_law_opened", "_law_draw_here"] (defScope s_law_row) := ⟨rfl, rfl, rfl, by decide +kernel, rfl, by decide +kernel, by decide +kernel⟩
abbrev s_law_hands : Stmt := topS 50
theorem sc_law_hands : FnScope ["_law_one", "_law_two", "_law_deep", "_law_draw_here", "_law_found"] ["_law_one", "_law_two", "_law_deep", "_law_draw_here"] (defScope s_law_hands) := ⟨rfl, rfl, rfl, by decide +kernel, rfl, by decide +kernel, by decide +kernel⟩
abbrev s_law_first_four : Stmt := topS 51
theorem sc_law_first_four : FnScope ["_law_way", "_law_one", "_law_two", "_law_names", "_law_thing_here", "_law_a", "_law_b", "_law_c", "_law_kind", "_law_end", "_law_rows", "_law_first"] ["_law_way", "_law_one", "_law_two", "_law_names", "_law_thing_here"] (defScope s_law_first_four) := ⟨rfl, rfl, rfl, by decide +kernel, rfl, by decide +kernel, by decide +kernel⟩
abbrev s_law_gadget : Stmt := topS 52
theorem sc_law_gadget : FnScope ["_law_one", "_law_two", "_law_deep", "_law_draw_here", "_law_names", "_law_a", "_law_b", "_law_thing_here", "_law_far", "_law_last_here", "_law_kind", "_law_end", "_law_way", "_law_rows"] ["_law_one", "_law_two", "_law_deep", "_law_draw_here"] (defScope s_law_gadget) := ⟨rfl, rfl, rfl, by decide +kernel, rfl, by decide +kernel, by decide +kernel⟩
abbrev s_law_sheet : Stmt := topS 53
theorem sc_law_sheet : FnScope ["_law_cells", "_law_draw_here", "_law_most", "_law_odd", "_law_rows", "_law_opened", "_law_k", "_law_named", "_law_row_here", "_law_way"] ["_law_cells", "_law_draw_here", "_law_most", "_law_odd"] (defScope s_law_sheet) := ⟨rfl, rfl, rfl, by decide +kernel, rfl, by decide +kernel, by decide +kernel⟩
abbrev s_law_drawn : Stmt := topS 54
theorem sc_law_drawn : FnScope ["_law_script", "_law_most", "_law_many", "_law_way", "_law_cells", "_law_k", "_law_rows"] ["_law_script", "_law_most"] (defScope s_law_drawn) := ⟨rfl, rfl, rfl, by decide +kernel, rfl, by decide +kernel, by decide +kernel⟩
abbrev s_law_homes : Stmt := topS 55
theorem sc_law_homes : FnScope ["_law_rows", "_law_found", "_law_opened", "_law_at", "_law_row_here"] ["_law_rows"] (defScope s_law_homes) := ⟨rfl, rfl, rfl, by decide +kernel, rfl, by decide +kernel, by decide +kernel⟩
abbrev s_law_last : Stmt := topS 56
theorem sc_law_last : FnScope ["_law_rows", "_law_home", "_law_at", "_law_place"] ["_law_rows", "_law_home", "_law_at"] (defScope s_law_last) := ⟨rfl, rfl, rfl, by decide +kernel, rfl, by decide +kernel, by decide +kernel⟩
abbrev s_law_starts : Stmt := topS 57
theorem sc_law_starts : FnScope ["_law_rows", "_law_home", "_law_at", "_law_found", "_law_place"] ["_law_rows", "_law_home", "_law_at"] (defScope s_law_starts) := ⟨rfl, rfl, rfl, by decide +kernel, rfl, by decide +kernel, by decide +kernel⟩
abbrev s_law_lent : Stmt := topS 58
theorem sc_law_lent : FnScope ["_law_held", "_law_row_here", "_law_thing_here", "_law_source", "_law_out", "_law_one"] ["_law_held", "_law_row_here"] (defScope s_law_lent) := ⟨rfl, rfl, rfl, by decide +kernel, rfl, by decide +kernel, by decide +kernel⟩
abbrev s_law_back : Stmt := topS 59
theorem sc_law_back : FnScope ["_law_held", "_law_word_here", "_law_gone", "_law_found", "_law_one"] ["_law_held", "_law_word_here"] (defScope s_law_back) := ⟨rfl, rfl, rfl, by decide +kernel, rfl, by decide +kernel, by decide +kernel⟩
abbrev s_law_step : Stmt := topS 60
theorem sc_law_step : FnScope ["_law_rows", "_law_home", "_law_standing", "_law_choice", "_law_at", "_law_held", "_law_word_here", "_law_things", "_law_starts_here"] ["_law_rows", "_law_home", "_law_standing", "_law_choice"] (defScope s_law_step) := ⟨rfl, rfl, rfl, by decide +kernel, rfl, by decide +kernel, by decide +kernel⟩
abbrev s_law_run : Stmt := topS 61
theorem sc_law_run : FnScope ["_law_rows", "_law_choices_here", "_law_home", "_law_found", "_law_standing", "_law_taken", "_law_choice"] ["_law_rows", "_law_choices_here"] (defScope s_law_run) := ⟨rfl, rfl, rfl, by decide +kernel, rfl, by decide +kernel, by decide +kernel⟩
abbrev s_law_awake : Stmt := topS 62
theorem sc_law_awake : FnScope ["_law_held", "_law_lending", "_law_one", "_law_hands_here"] ["_law_held"] (defScope s_law_awake) := ⟨rfl, rfl, rfl, by decide +kernel, rfl, by decide +kernel, by decide +kernel⟩
abbrev s_law_fault : Stmt := topS 63
theorem sc_law_fault : FnScope ["_law_row_here", "_law_held", "_law_loans", "_law_place", "_law_one", "_law_other", "_law_hand"] ["_law_row_here", "_law_held"] (defScope s_law_fault) := ⟨rfl, rfl, rfl, by decide +kernel, rfl, by decide +kernel, by decide +kernel⟩
abbrev s_law_whole : Stmt := topS 64
theorem sc_law_whole : FnScope ["_law_found"] ["_law_found"] (defScope s_law_whole) := ⟨rfl, rfl, rfl, by decide +kernel, rfl, by decide +kernel, by decide +kernel⟩
abbrev s_law_told : Stmt := topS 65
theorem sc_law_told : FnScope ["_law_told_here", "_law_choice"] ["_law_told_here"] (defScope s_law_told) := ⟨rfl, rfl, rfl, by decide +kernel, rfl, by decide +kernel, by decide +kernel⟩
abbrev s_law_rows_alike : Stmt := topS 66
theorem sc_law_rows_alike : FnScope ["_law_rows", "_law_kept", "_law_row_here", "_law_other"] ["_law_rows", "_law_kept"] (defScope s_law_rows_alike) := ⟨rfl, rfl, rfl, by decide +kernel, rfl, by decide +kernel, by decide +kernel⟩
abbrev s_law_choices : Stmt := topS 67
theorem sc_law_choices : FnScope ["_law_script", "_law_cell"] ["_law_script"] (defScope s_law_choices) := ⟨rfl, rfl, rfl, by decide +kernel, rfl, by decide +kernel, by decide +kernel⟩
abbrev s_law_long : Stmt := topS 68
theorem sc_law_long : FnScope ["_law_script", "_law_rows", "_law_some", "_law_k"] ["_law_script", "_law_rows"] (defScope s_law_long) := ⟨rfl, rfl, rfl, by decide +kernel, rfl, by decide +kernel, by decide +kernel⟩
abbrev s_law_some_ways : Stmt := topS 69
theorem sc_law_some_ways : FnScope ["_law_rows", "_law_home", "_law_at"] ["_law_rows", "_law_home", "_law_at"] (defScope s_law_some_ways) := ⟨rfl, rfl, rfl, by decide +kernel, rfl, by decide +kernel, by decide +kernel⟩
abbrev s_law_few : Stmt := topS 70
theorem sc_law_few : FnScope ["_law_rows", "_law_most", "_law_home", "_law_queue", "_law_seen", "_law_place", "_law_standing", "_law_choice", "_law_other"] ["_law_rows", "_law_most"] (defScope s_law_few) := ⟨rfl, rfl, rfl, by decide +kernel, rfl, by decide +kernel, by decide +kernel⟩
abbrev s_law : Stmt := topS 71
theorem sc_law : FnScope ["_law_script", "_law_rows", "_law_choices_here", "_law_kept", "_law_told_here", "_law_again", "_law_order", "_law_turn", "_law_some", "_law_choice", "_law_standing", "_law_word_here"] ["_law_script"] (defScope s_law) := ⟨rfl, rfl, rfl, by decide +kernel, rfl, by decide +kernel, by decide +kernel⟩
structure Txt (K : PySem.W.Frag) (mg : Str → Option Value) : Prop where
  b_all : mg "all" = none
  b_any : mg "any" = none
  b_bool : mg "bool" = none
  b_enumerate : mg "enumerate" = none
  b_int : mg "int" = none
  b_isinstance : mg "isinstance" = none
  b_len : mg "len" = none
  b_list : mg "list" = none
  b_range : mg "range" = none
  b_reversed : mg "reversed" = none
  b_str : mg "str" = none
  b_tuple : mg "tuple" = none
  b_zip : mg "zip" = none
  c_LETTERS : Cst K mg "LETTERS" (.str "abcdefghijklmnopqrstuvwxyz")
  c_MOST_THING : Cst K mg "MOST_THING" (.int 1000000000)
  c_MOST_THINGS : Cst K mg "MOST_THINGS" (.int 5)
  c_MOST_WORD : Cst K mg "MOST_WORD" (.int 12)
  c_OPENERS : Cst K mg "OPENERS" (.tuple [(.str "lend"), (.str "pick"), (.str "either"), (.str "again")])
  c_ORDER : Cst K mg "ORDER" (.tuple [(.str "beside"), (.str "empty"), (.str "asleep")])
  i_ORDER : CstI K mg "ORDER" ["beside", "empty", "asleep"]
section
variable {P : Program} {w : World} {K : PySem.W.Frag} {mg : Str → Option Value} {base : Heap}
theorem ok_homes {f : Addr} {fd : FuncData} (F : Fun K "homes" "homes" s_homes f fd) (T : Txt K mg)  : FnOk P w K mg base CX0 1 f fd ["rows"] (spR (rO K) K [true] l_homes) :=
  def_ok (R := rO K) (N := ["rows", "found", "opened", "at", "row", "home"]) F sc_homes rfl (by decide) fun cdv A outer s H E hr G n ds hds => match ds, hds with
    | [u_rows], _ => by
      have hu := hr.units
      show PSs _ _ (tS _ _ _ _ _ (m_homes n u_rows))
      refine s_setO (T := (List D)) (i := 1) zcQ ?_ ?_ ?_ ?_ ?_
      · exact ⟨sc_homes.nd, rfl, .inl rfl, Or.inl rfl⟩
      · exact (by decide : 1 < 6)
      · exact (x_lst a_nil)
      · intro u_found
        refine s_setO (T := (List D)) (i := 2) zcQ ?_ ?_ ?_ ?_ ?_
        · exact ⟨sc_homes.nd, rfl, .inl rfl, Or.inl rfl⟩
        · exact (by decide : 2 < 6)
        · exact (x_lst a_nil)
        · intro u_opened
          refine s_seqN (T := (List D)) (enc := (fun s1 : (List D) × (List D) => ([.fr u_rows, .ow s1.1, .ow s1.2, .no, .no, .no] : En))) zcQ ?_ ?_
          · refine p_forN2 (i := 3) (j := 4) (enc := (fun s1 : (List D) × (List D) => ([.fr u_rows, .ow s1.1, .ow s1.2, .no, .no, .no] : En))) (s0 := (u_found, u_opened)) [true, true, true, false, false, false] ?_ ?_ ?_ ?_ PassesOwn.never rfl ?_ ?_ ?_ (fun _ => rfl) rfl rfl rfl rfl
            · exact ⟨sc_homes.nd, rfl, .inl rfl, Or.inl rfl⟩
            · exact ⟨sc_homes.nd, rfl, .inl rfl, Or.inl rfl⟩
            · exact (fun _ => (by decide : 3 < 6))
            · exact (fun _ => (by decide : 4 < 6))
            · exact (i_enum (by rfl) T.b_enumerate (x_FW (lo := true) (x_fr (pv 0) rfl)))
            · exact rfl
            · intro p_u_at s1
              refine s_set (T := ((List D) × (List D))) (i := 5) zcN ?_ ?_ ?_ ?_ ?_
              · exact ⟨sc_homes.nd, rfl, .inl rfl, Or.inl rfl⟩
              · exact (by decide : 5 < 6)
              · exact (x_neg (x_FV x_int))
              · intro u_home
                refine s_ifN (T := ((List D) × (List D))) (enc := (fun s2 : D => ([.fr u_rows, .ow s1.1, .ow s1.2, .fr p_u_at.1, .fr p_u_at.2, .fr s2] : En))) zcN ?_ ?_ ?_ ?_
                · exact (x_cmpT op_gt sm_ord (nomark _) (x_FV (x_callB call_lenX sm_len (by rfl) T.b_len (by decide +kernel) (x_ow (pv 2) rfl))) (x_FV x_int))
                · refine s_set (T := (D)) (i := 5) zcN ?_ ?_ ?_ ?_ ?_
                  · exact ⟨sc_homes.nd, rfl, .inl rfl, Or.inl rfl⟩
                  · exact (by decide : 5 < 6)
                  · exact (x_ix (x_ow (pv 2) rfl) (x_FV (x_neg (x_FV x_int))))
                  · intro u_home
                    exact s_nilN (enc := (fun s2 : D => ([.fr u_rows, .ow s1.1, .ow s1.2, .fr p_u_at.1, .fr p_u_at.2, .fr s2] : En))) (s := u_home) [true, true, true, true, true, true] rfl
                  · exact rfl
                · exact s_nilN (enc := (fun s2 : D => ([.fr u_rows, .ow s1.1, .ow s1.2, .fr p_u_at.1, .fr p_u_at.2, .fr s2] : En))) (s := u_home) [true, true, true, true, true, true] rfl
                · intro s2
                  refine s_app (T := ((List D) × (List D))) (i := 1) zcN ?_ ?_ ?_ ?_ ?_ ?_
                  · exact (pv 1)
                  · exact rfl
                  · exact (x_fr (pv 5) rfl)
                  · intro u_found
                    refine s_ifN (T := ((List D) × (List D))) (enc := (fun s3 : (List D) => ([.fr u_rows, .ow u_found, .ow s3, .fr p_u_at.1, .fr p_u_at.2, .fr s2] : En))) zcN ?_ ?_ ?_ ?_
                    · exact (x_cmpT op_inX sm_in (by rfl) (x_FV (x_ix (x_FV (x_fr (pv 4) rfl)) (x_FV x_int))) (x_FV (x_cst T.c_OPENERS (by rfl))))
                    · refine s_app (T := ((List D))) (i := 2) zcN ?_ ?_ ?_ ?_ ?_ ?_
                      · exact (pv 2)
                      · exact rfl
                      · exact (x_fr (pv 3) rfl)
                      · intro u_opened
                        exact s_nilN (enc := (fun s3 : (List D) => ([.fr u_rows, .ow u_found, .ow s3, .fr p_u_at.1, .fr p_u_at.2, .fr s2] : En))) (s := u_opened) [true, true, true, true, true, true] rfl
                      · exact (pe_bm PySem.F.plainAttrs_list PySem.F.slot_list_append PySem.F.type_list_append mt_append (pv 2) (pa_cons (x_fr (pv 3) rfl) pa_nil))
                      · exact rfl
                    · refine s_ifN (T := ((List D))) (enc := (fun s4 : (List D) => ([.fr u_rows, .ow u_found, .ow s4, .fr p_u_at.1, .fr p_u_at.2, .fr s2] : En))) zcN ?_ ?_ ?_ ?_
                      · exact (x_cmpT (op_eqA hu) sm_eq (nomark _) (x_FV (x_ix (x_FV (x_fr (pv 4) rfl)) (x_FV x_int))) (x_FV x_str))
                      · refine s_pop (T := ((List D))) (i := 2) zcN ?_ ?_ ?_ ?_ ?_
                        · exact (pv 2)
                        · exact rfl
                        · intro u_opened
                          exact s_nilN (enc := (fun s4 : (List D) => ([.fr u_rows, .ow u_found, .ow s4, .fr p_u_at.1, .fr p_u_at.2, .fr s2] : En))) (s := u_opened) [true, true, true, true, true, true] rfl
                        · exact (pe_bm0 PySem.F.plainAttrs_list PySem.F.slot_list_pop PySem.F.type_list_pop mt_pop (pv 2))
                        · exact rfl
                      · exact s_nilN (enc := (fun s4 : (List D) => ([.fr u_rows, .ow u_found, .ow s4, .fr p_u_at.1, .fr p_u_at.2, .fr s2] : En))) (s := s1.2) [true, true, true, true, true, true] rfl
                      · intro s4
                        exact s_nilN (enc := (fun s3 : (List D) => ([.fr u_rows, .ow u_found, .ow s3, .fr p_u_at.1, .fr p_u_at.2, .fr s2] : En))) (s := s4) [true, true, true, true, true, true] rfl
                    · intro s3
                      exact s_nilN (enc := (fun s1 : (List D) × (List D) => ([.fr u_rows, .ow s1.1, .ow s1.2, .no, .no, .no] : En))) (s := (u_found, s3)) [true, true, true, false, false, false] rfl
                  · exact (pe_bm PySem.F.plainAttrs_list PySem.F.slot_list_append PySem.F.type_list_append mt_append (pv 1) (pa_cons (x_fr (pv 5) rfl) pa_nil))
                  · exact rfl
              · exact rfl
          · intro s1
            exact s_retO (pv 1) rfl
        · exact rfl
      · exact rfl
theorem ok_is_asleep {f : Addr} {fd : FuncData} (F : Fun K "is_asleep" "is_asleep" s_is_asleep f fd) (T : Txt K mg)  : FnOk P w K mg base CX0 1 f fd ["held", "word"] (spR (rF K) K [true, true] l_is_asleep) :=
  def_ok (R := rF K) (N := ["held", "word", "one"]) F sc_is_asleep rfl (by decide) fun cdv A outer s H E hr G n ds hds => match ds, hds with
    | [u_held, u_word], _ => by
      have hu := hr.units
      show PSs _ _ (tS _ _ _ _ _ (m_is_asleep n u_held u_word))
      refine s_retQ ww_F ?_
      · exact (x_callB (cr_any rfl) sm_any (by rfl) T.b_any (by decide +kernel) (x_OV (x_lc1 (j := 2) rfl sc_is_asleep.nd (by decide : 2 < 3) (i_any (x_VW (x_FV (x_fr (pv 0) rfl)))) (blkOk_by (own := [("one", 2)]) (N := ["held", "word", "one"]) (sc := defScope s_is_asleep) (by decide +kernel)) (fun _ _ _ _ _ => pg_name (i := 2) sc_is_asleep.nd rfl (Or.inl rfl)) (fun _ _ _ _ _ u_one => c_yes) (fun _ _ _ _ _ u_one => (x_and (x_FV (x_ix (x_FV (x_fr (pv 2) rfl)) (x_FV x_int))) (x_one (x_cmp (op_eqA hu) sm_eq (nomark _) (x_FV (x_ix (x_FV (x_fr (pv 2) rfl)) (x_FV x_int))) (x_FV (x_fr (pv 1) rfl)))))))))
theorem ok_hand_of {f : Addr} {fd : FuncData} (F : Fun K "hand_of" "hand_of" s_hand_of f fd) (T : Txt K mg)  : FnOk P w K mg base CX0 1 f fd ["row"] (spR (rF K) K [true] l_hand_of) :=
  def_ok (R := rF K) (N := ["row"]) F sc_hand_of rfl (by decide) fun cdv A outer s H E hr G n ds hds => match ds, hds with
    | [u_row], _ => by
      have hu := hr.units
      show PSs _ _ (tS _ _ _ _ _ (m_hand_of n u_row))
      refine s_ifQ (α := D) ?_ ?_ ?_
      · exact (y_pw (w_or (x_cmpT (op_eqA hu) sm_eq (nomark _) (x_FV (x_ix (x_FV (x_fr (pv 0) rfl)) (x_FV x_int))) (x_FV x_str)) (w_or1 (x_cmpT (op_eqA hu) sm_eq (nomark _) (x_FV (x_ix (x_FV (x_fr (pv 0) rfl)) (x_FV x_int))) (x_FV x_str)))))
      · refine s_retQ ww_F ?_
        · exact (x_ix (x_FV (x_fr (pv 0) rfl)) (x_FV x_int))
      · refine s_ifQ (α := D) ?_ ?_ ?_
        · exact (y_pw (w_and (x_cmpT (op_eqA hu) sm_eq (nomark _) (x_FV (x_ix (x_FV (x_fr (pv 0) rfl)) (x_FV x_int))) (x_FV x_str)) (w_and1 (y_isi of_str (by rfl) T.b_isinstance (by rfl) T.b_str (by decide +kernel) (x_FV (x_ix (x_FV (x_fr (pv 0) rfl)) (x_FV x_int)))))))
        · refine s_retQ ww_F ?_
          · exact (x_ix (x_FV (x_fr (pv 0) rfl)) (x_FV x_int))
        · refine s_retQ ww_F ?_
          · exact x_str
theorem ok_is_word {f : Addr} {fd : FuncData} (F : Fun K "is_word" "is_word" s_is_word f fd) (T : Txt K mg)  : FnOk P w K mg base CX0 1 f fd ["value"] (spR (rF K) K [true] l_is_word) :=
  def_ok (R := rF K) (N := ["value", "sign"]) F sc_is_word rfl (by decide) fun cdv A outer s H E hr G n ds hds => match ds, hds with
    | [u_value], _ => by
      have hu := hr.units
      show PSs _ _ (tS _ _ _ _ _ (m_is_word n u_value))
      refine s_ifQ (α := D) ?_ ?_ ?_
      · exact (y_pw (w_or (y_not (y_isi of_str (by rfl) T.b_isinstance (by rfl) T.b_str (by decide +kernel) (x_FV (x_fr (pv 0) rfl)))) (w_or (x_cmpT (op_eqA hu) sm_eq (nomark _) (x_FV (x_callB call_lenX sm_len (by rfl) T.b_len (by decide +kernel) (x_FV (x_fr (pv 0) rfl)))) (x_FV x_int)) (w_or1 (x_cmpT op_gt sm_ord (nomark _) (x_FV (x_callB call_lenX sm_len (by rfl) T.b_len (by decide +kernel) (x_FV (x_fr (pv 0) rfl)))) (x_FV (x_cst T.c_MOST_WORD (by rfl))))))))
      · refine s_retQ ww_F ?_
        · exact x_bl
      · refine s_retQ ww_F ?_
        · exact (x_callB (cr_all rfl) sm_all (by rfl) T.b_all (by decide +kernel) (x_OV (x_lc1 (j := 1) rfl sc_is_word.nd (by decide : 1 < 2) (i_any (x_VW (x_FV (x_fr (pv 0) rfl)))) (blkOk_by (own := [("sign", 1)]) (N := ["value", "sign"]) (sc := defScope s_is_word) (by decide +kernel)) (fun _ _ _ _ _ => pg_name (i := 1) sc_is_word.nd rfl (Or.inl rfl)) (fun _ _ _ _ _ u_sign => c_yes) (fun _ _ _ _ _ u_sign => (x_cmp op_inX sm_in (by rfl) (x_FV (x_fr (pv 1) rfl)) (x_FV (x_cst T.c_LETTERS (by rfl))))))))
theorem ok_is_thing {f : Addr} {fd : FuncData} (F : Fun K "is_thing" "is_thing" s_is_thing f fd) (T : Txt K mg)  : FnOk P w K mg base CX0 1 f fd ["value"] (spR (rF K) K [true] l_is_thing) :=
  def_ok (R := rF K) (N := ["value"]) F sc_is_thing rfl (by decide) fun cdv A outer s H E hr G n ds hds => match ds, hds with
    | [u_value], _ => by
      have hu := hr.units
      show PSs _ _ (tS _ _ _ _ _ (m_is_thing n u_value))
      refine s_retQ ww_F ?_
      · exact (x_and (x_FV (x_isi of_int (by rfl) T.b_isinstance (by rfl) T.b_int (by decide +kernel) (x_FV (x_fr (pv 0) rfl)))) (x_and (x_FV (x_not (x_FV (x_isi of_bool (by rfl) T.b_isinstance (by rfl) T.b_bool (by decide +kernel) (x_FV (x_fr (pv 0) rfl)))))) (x_and (x_FV (x_cmp op_le sm_ord (nomark _) (x_FV x_int) (x_FV (x_fr (pv 0) rfl)))) (x_one (x_cmp op_lt sm_ord (nomark _) (x_FV (x_fr (pv 0) rfl)) (x_FV (x_cst T.c_MOST_THING (by rfl))))))))
theorem ok_kind_of {f : Addr} {fd : FuncData} (F : Fun K "kind_of" "kind_of" s_kind_of f fd) (T : Txt K mg)  : FnOk P w K mg base CX0 1 f fd ["opened", "word"] (spR (rF K) K [false, true] l_kind_of) :=
  def_ok (R := rF K) (N := ["opened", "word", "row"]) F sc_kind_of rfl (by decide) fun cdv A outer s H E hr G n ds hds => match ds, hds with
    | [u_opened, u_word], _ => by
      have hu := hr.units
      show PSs _ _ (tS _ _ _ _ _ (m_kind_of n u_opened u_word))
      refine s_seqQ (α := D) (enc := (fun s1 : Unit => ([.vw u_opened, .fr u_word, .no] : En))) ?_ ?_
      · refine p_for (i := 2) (enc := (fun s1 : Unit => ([.vw u_opened, .fr u_word, .no] : En))) (s0 := ()) [true, true, false] ?_ ?_ PassesOwn.never rfl ?_ ?_ ?_ (fun _ => rfl)
        · exact ⟨sc_kind_of.nd, rfl, .inl rfl, Or.inl rfl⟩
        · exact (fun _ => (by decide : 2 < 3))
        · exact (i_any (x_vwW (pv 0) rfl))
        · exact rfl
        · intro u_row s1
          refine s_ifQM (α := D) ?_ ?_ ?_
          · exact (y_pw (w_and (x_cmpT op_inX sm_in (by rfl) (x_FV (x_ix (x_FV (x_fr (pv 2) rfl)) (x_FV x_int))) (x_FV (x_tup (a_F x_str (a_F x_str a_nil))))) (w_and1 (x_cmpT (op_eqA hu) sm_eq (nomark _) (x_FV (x_ix (x_FV (x_fr (pv 2) rfl)) (x_FV x_int))) (x_FV (x_fr (pv 1) rfl))))))
          · refine s_ifQ (α := D) ?_ ?_ ?_
            · exact (x_cmpT (op_eqA hu) sm_eq (nomark _) (x_FV (x_ix (x_FV (x_fr (pv 2) rfl)) (x_FV x_int))) (x_FV x_str))
            · refine s_retQ ww_F ?_
              · exact x_str
            · refine s_retQ ww_F ?_
              · exact (x_ix (x_FV (x_fr (pv 2) rfl)) (x_FV x_int))
          · exact s_nilM (enc := (fun s1 : Unit => ([.vw u_opened, .fr u_word, .no] : En))) (s := ()) [true, true, false] rfl
      · intro s1
        refine s_retQ ww_F ?_
        · exact x_str
theorem ok_entry_of {f : Addr} {fd : FuncData} (F : Fun K "entry_of" "entry_of" s_entry_of f fd) (T : Txt K mg)  : FnOk P w K mg base CX0 1 f fd ["held", "word"] (spR (rF K) K [true, true] l_entry_of) :=
  def_ok (R := rF K) (N := ["held", "word", "one"]) F sc_entry_of rfl (by decide) fun cdv A outer s H E hr G n ds hds => match ds, hds with
    | [u_held, u_word], _ => by
      have hu := hr.units
      show PSs _ _ (tS _ _ _ _ _ (m_entry_of n u_held u_word))
      refine s_seqQ (α := D) (enc := (fun s1 : Unit => ([.fr u_held, .fr u_word, .no] : En))) ?_ ?_
      · refine p_for (i := 2) (enc := (fun s1 : Unit => ([.fr u_held, .fr u_word, .no] : En))) (s0 := ()) [true, true, false] ?_ ?_ PassesOwn.never rfl ?_ ?_ ?_ (fun _ => rfl)
        · exact ⟨sc_entry_of.nd, rfl, .inl rfl, Or.inl rfl⟩
        · exact (fun _ => (by decide : 2 < 3))
        · exact (i_any (x_FW (lo := true) (x_fr (pv 0) rfl)))
        · exact rfl
        · intro u_one s1
          refine s_ifQM (α := D) ?_ ?_ ?_
          · exact (x_cmpT (op_eqA hu) sm_eq (nomark _) (x_FV (x_ix (x_FV (x_fr (pv 2) rfl)) (x_FV x_int))) (x_FV (x_fr (pv 1) rfl)))
          · refine s_retQ ww_F ?_
            · exact (x_fr (pv 2) rfl)
          · exact s_nilM (enc := (fun s1 : Unit => ([.fr u_held, .fr u_word, .no] : En))) (s := ()) [true, true, false] rfl
      · intro s1
        refine s_retQ ww_F ?_
        · exact x_non
theorem ok_given_back {f : Addr} {fd : FuncData} (F : Fun K "given_back" "given_back" s_given_back f fd) (T : Txt K mg)  : FnOk P w K mg base CX0 1 f fd ["held", "word"] (spR (rF K) K [true, true] l_given_back) :=
  def_ok (R := rF K) (N := ["held", "word", "gone", "found", "one"]) F sc_given_back rfl (by decide) fun cdv A outer s H E hr G n ds hds => match ds, hds with
    | [u_held, u_word], _ => by
      have hu := hr.units
      show PSs _ _ (tS _ _ _ _ _ (m_given_back n u_held u_word))
      refine s_setO (T := D) (i := 2) zcQ ?_ ?_ ?_ ?_ ?_
      · exact ⟨sc_given_back.nd, rfl, .inl rfl, Or.inl rfl⟩
      · exact (by decide : 2 < 5)
      · exact (x_lst (a_F (x_fr (pv 1) rfl) a_nil))
      · intro u_gone
        refine s_set (T := D) (i := 3) zcQ ?_ ?_ ?_ ?_ ?_
        · exact ⟨sc_given_back.nd, rfl, .inl rfl, Or.inl rfl⟩
        · exact (by decide : 3 < 5)
        · exact (x_tup a_nil)
        · intro u_found
          refine s_seqN (T := D) (enc := (fun s1 : (List D) × D => ([.fr u_held, .fr u_word, .ow s1.1, .fr s1.2, .no] : En))) zcQ ?_ ?_
          · refine p_forN (i := 4) (enc := (fun s1 : (List D) × D => ([.fr u_held, .fr u_word, .ow s1.1, .fr s1.2, .no] : En))) (s0 := (u_gone, u_found)) [true, true, true, true, false] ?_ ?_ PassesOwn.never rfl ?_ ?_ ?_ (fun _ => rfl)
            · exact ⟨sc_given_back.nd, rfl, .inl rfl, Or.inl rfl⟩
            · exact (fun _ => (by decide : 4 < 5))
            · exact (i_any (x_FW (lo := true) (x_fr (pv 0) rfl)))
            · exact rfl
            · intro u_one s1
              refine s_ifN (T := ((List D) × D)) (enc := (fun s2 : (List D) × D => ([.fr u_held, .fr u_word, .ow s2.1, .fr s1.2, .fr s2.2] : En))) zcN ?_ ?_ ?_ ?_
              · exact (y_pw (w_or (x_cmpT (op_eqA hu) sm_eq (nomark _) (x_FV (x_ix (x_FV (x_fr (pv 4) rfl)) (x_FV x_int))) (x_FV (x_fr (pv 1) rfl))) (w_or1 (x_cmpT op_inX sm_in (by rfl) (x_FV (x_ix (x_FV (x_fr (pv 4) rfl)) (x_FV x_int))) (x_ow (pv 2) rfl)))))
              · refine s_app (T := ((List D) × D)) (i := 2) zcN ?_ ?_ ?_ ?_ ?_ ?_
                · exact (pv 2)
                · exact rfl
                · exact (x_ix (x_FV (x_fr (pv 4) rfl)) (x_FV x_int))
                · intro u_gone
                  refine s_set (T := ((List D) × D)) (i := 4) zcN ?_ ?_ ?_ ?_ ?_
                  · exact ⟨sc_given_back.nd, rfl, .inl rfl, Or.inl rfl⟩
                  · exact (by decide : 4 < 5)
                  · exact (x_tup (a_F (x_ix (x_FV (x_fr (pv 4) rfl)) (x_FV x_int)) (a_F (x_ix (x_FV (x_fr (pv 4) rfl)) (x_FV x_int)) (a_F (x_ix (x_FV (x_fr (pv 4) rfl)) (x_FV x_int)) (a_F (x_ix (x_FV (x_fr (pv 4) rfl)) (x_FV x_int)) (a_F x_bl a_nil))))))
                  · intro u_one
                    exact s_nilN (enc := (fun s2 : (List D) × D => ([.fr u_held, .fr u_word, .ow s2.1, .fr s1.2, .fr s2.2] : En))) (s := (u_gone, u_one)) [true, true, true, true, true] rfl
                  · exact rfl
                · exact (pe_bm PySem.F.plainAttrs_list PySem.F.slot_list_append PySem.F.type_list_append mt_append (pv 2) (pa_cons (x_ix (x_FV (x_fr (pv 4) rfl)) (x_FV x_int)) pa_nil))
                · exact rfl
              · exact s_nilN (enc := (fun s2 : (List D) × D => ([.fr u_held, .fr u_word, .ow s2.1, .fr s1.2, .fr s2.2] : En))) (s := (s1.1, u_one)) [true, true, true, true, true] rfl
              · intro s2
                refine s_set (T := ((List D) × D)) (i := 3) zcN ?_ ?_ ?_ ?_ ?_
                · exact ⟨sc_given_back.nd, rfl, .inl rfl, Or.inl rfl⟩
                · exact (by decide : 3 < 5)
                · exact (x_bin op_addD sm_add (x_FV (x_fr (pv 3) rfl)) (x_FV (x_tup (a_F (x_fr (pv 4) rfl) a_nil))))
                · intro u_found
                  exact s_nilN (enc := (fun s1 : (List D) × D => ([.fr u_held, .fr u_word, .ow s1.1, .fr s1.2, .no] : En))) (s := (s2.1, u_found)) [true, true, true, true, false] rfl
                · exact rfl
          · intro s1
            refine s_retQ ww_F ?_
            · exact (x_fr (pv 3) rfl)
        · exact rfl
      · exact rfl
theorem ok_left {f : Addr} {fd : FuncData} (F : Fun K "left" "left" s_left f fd) (T : Txt K mg)  : FnOk P w K mg base CX0 1 f fd ["rows", "home", "at", "held"] (spR (rF K) K [true, true, true, true] l_left) :=
  def_ok (R := rF K) (N := ["rows", "home", "at", "held"]) F sc_left rfl (by decide) fun cdv A outer s H E hr G n ds hds => match ds, hds with
    | [u_rows, u_home, u_at, u_held], _ => by
      have hu := hr.units
      show PSs _ _ (tS _ _ _ _ _ (m_left n u_rows u_home u_at u_held))
      refine s_ifQ (α := D) ?_ ?_ ?_
      · exact (x_cmpT (op_eqA hu) sm_eq (nomark _) (x_FV (x_ix (x_FV (x_ix (x_FV (x_fr (pv 0) rfl)) (x_FV (x_fr (pv 1) rfl)))) (x_FV x_int))) (x_FV x_str))
      · refine s_retQ ww_F ?_
        · exact (x_tup (a_F (x_fr (pv 1) rfl) (a_F (x_fr (pv 3) rfl) a_nil)))
      · refine s_ifQ (α := D) ?_ ?_ ?_
        · exact (x_cmpT (op_eqA hu) sm_eq (nomark _) (x_FV (x_ix (x_FV (x_ix (x_FV (x_fr (pv 0) rfl)) (x_FV (x_fr (pv 1) rfl)))) (x_FV x_int))) (x_FV x_str))
        · refine s_retQ ww_F ?_
          · exact (x_tup (a_F (x_bin op_addD sm_add (x_FV (x_fr (pv 2) rfl)) (x_FV x_int)) (a_F (x_fr (pv 3) rfl) a_nil)))
        · refine s_retQ ww_F ?_
          · exact (x_tup (a_F (x_bin op_addD sm_add (x_FV (x_fr (pv 2) rfl)) (x_FV x_int)) (a_F (x_slc (x_FV (x_fr (pv 3) rfl)) p_none (p_some (x_FV (x_neg (x_FV x_int))))) a_nil)))
theorem ok_chooses {f : Addr} {fd : FuncData} (F : Fun K "chooses" "chooses" s_chooses f fd) (T : Txt K mg)  : FnOk P w K mg base CX0 1 f fd ["row"] (spR (rF K) K [true] l_chooses) :=
  def_ok (R := rF K) (N := ["row"]) F sc_chooses rfl (by decide) fun cdv A outer s H E hr G n ds hds => match ds, hds with
    | [u_row], _ => by
      have hu := hr.units
      show PSs _ _ (tS _ _ _ _ _ (m_chooses n u_row))
      refine s_retQ ww_F ?_
      · exact (x_cmp op_inX sm_in (by rfl) (x_FV (x_ix (x_FV (x_fr (pv 0) rfl)) (x_FV x_int))) (x_FV (x_tup (a_F x_str (a_F x_str (a_F x_str a_nil))))))
theorem ok_sooner {f : Addr} {fd : FuncData} (F : Fun K "sooner" "sooner" s_sooner f fd) (T : Txt K mg)  : FnOk P w K mg base CX0 1 f fd ["told", "at", "word"] (spR (rF K) K [true, true, true] l_sooner) :=
  def_ok (R := rF K) (N := ["told", "at", "word"]) F sc_sooner rfl (by decide) fun cdv A outer s H E hr G n ds hds => match ds, hds with
    | [u_told, u_at, u_word], _ => by
      have hu := hr.units
      show PSs _ _ (tS _ _ _ _ _ (m_sooner n u_told u_at u_word))
      refine s_ifQ (α := D) ?_ ?_ ?_
      · exact (y_pw (w_or (x_cmpT op_isN sm_isN (nomark _) (x_FV (x_fr (pv 0) rfl)) (x_FV x_non)) (w_or1 (x_cmpT op_lt sm_ord (nomark _) (x_FV (x_fr (pv 1) rfl)) (x_FV (x_ix (x_FV (x_fr (pv 0) rfl)) (x_FV x_int)))))))
      · refine s_retQ ww_F ?_
        · exact x_bl
      · refine s_retQ ww_F ?_
        · exact (x_and (x_FV (x_cmp (op_eqA hu) sm_eq (nomark _) (x_FV (x_fr (pv 1) rfl)) (x_FV (x_ix (x_FV (x_fr (pv 0) rfl)) (x_FV x_int))))) (x_one (x_cmp op_lt sm_ord (nomark _) (x_FV (x_tix T.i_ORDER (by rfl) (x_fr (pv 2) rfl) (fun p hp => pe_bm PySem.F.plainAttrs_tuple PySem.F.slot_tuple_index PySem.F.type_tuple_index mt_tup_index (pe_glob (by rfl) hp rfl (by decide)) (pa_cons (x_fr (pv 2) rfl) pa_nil)))) (x_FV (x_tix T.i_ORDER (by rfl) (x_ix (x_FV (x_fr (pv 0) rfl)) (x_FV x_int)) (fun p hp => pe_bm PySem.F.plainAttrs_tuple PySem.F.slot_tuple_index PySem.F.type_tuple_index mt_tup_index (pe_glob (by rfl) hp rfl (by decide)) (pa_cons (x_ix (x_FV (x_fr (pv 0) rfl)) (x_FV x_int)) pa_nil)))))))
theorem ok_law_cell_at {f : Addr} {fd : FuncData} (F : Fun K "_law_cell_at" "_law_cell_at" s_law_cell_at f fd) (T : Txt K mg)  : FnOk P w K mg base CX0 1 f fd ["_law_script", "_law_k"] (spR (rF K) K [true, true] l_law_cell_at) :=
  def_ok (R := rF K) (N := ["_law_script", "_law_k"]) F sc_law_cell_at rfl (by decide) fun cdv A outer s H E hr G n ds hds => match ds, hds with
    | [u_law_script, u_law_k], _ => by
      have hu := hr.units
      show PSs _ _ (tS _ _ _ _ _ (m_law_cell_at n u_law_script u_law_k))
      refine s_ifQ (α := D) ?_ ?_ ?_
      · exact (x_cmpT op_lt sm_ord (nomark _) (x_FV (x_fr (pv 1) rfl)) (x_FV (x_callB call_lenX sm_len (by rfl) T.b_len (by decide +kernel) (x_FV (x_fr (pv 0) rfl)))))
      · refine s_retQ ww_F ?_
        · exact (x_ix (x_FV (x_fr (pv 0) rfl)) (x_FV (x_fr (pv 1) rfl)))
      · refine s_retQ ww_F ?_
        · exact x_int
theorem ok_law_word {f : Addr} {fd : FuncData} (F : Fun K "_law_word" "_law_word" s_law_word f fd) (T : Txt K mg)  : FnOk P w K mg base CX0 1 f fd ["_law_one", "_law_two", "_law_deep", "_law_draw_here"] (spR (rF K) K [true, true, true, true] l_law_word) :=
  def_ok (R := rF K) (N := ["_law_one", "_law_two", "_law_deep", "_law_draw_here", "_law_letters", "_law_sign", "_law_found", "_law_k"]) F sc_law_word rfl (by decide) fun cdv A outer s H E hr G n ds hds => match ds, hds with
    | [u_law_one, u_law_two, u_law_deep, u_law_draw_here], _ => by
      have hu := hr.units
      show PSs _ _ (tS _ _ _ _ _ (m_law_word n u_law_one u_law_two u_law_deep u_law_draw_here))
      refine s_set (T := D) (i := 4) zcQ ?_ ?_ ?_ ?_ ?_
      · exact ⟨sc_law_word.nd, rfl, .inl rfl, Or.inl rfl⟩
      · exact (by decide : 4 < 8)
      · exact x_str
      · intro u_law_letters
        refine s_set (T := D) (i := 5) zcQ ?_ ?_ ?_ ?_ ?_
        · exact ⟨sc_law_word.nd, rfl, .inl rfl, Or.inl rfl⟩
        · exact (by decide : 5 < 8)
        · exact (x_ix (x_FV (x_fr (pv 4) rfl)) (x_FV (x_bin op_mod sm_mod (x_FV (x_bin op_addD sm_add (x_FV (x_ix (x_FV (x_fr (pv 3) rfl)) (x_FV x_int))) (x_FV (x_bin op_mulD sm_mul (x_FV x_int) (x_FV (x_fr (pv 2) rfl)))))) (x_FV x_int))))
        · intro u_law_sign
          refine s_ifQ (α := D) ?_ ?_ ?_
          · exact (x_cmpT (op_eqA hu) sm_eq (nomark _) (x_FV (x_ix (x_FV (x_fr (pv 3) rfl)) (x_FV x_int))) (x_FV x_int))
          · refine s_retQ ww_F ?_
            · exact (x_bin op_mulD sm_mul (x_FV (x_ix (x_FV (x_fr (pv 4) rfl)) (x_FV (x_bin op_mod sm_mod (x_FV (x_ix (x_FV (x_fr (pv 3) rfl)) (x_FV x_int))) (x_FV x_int))))) (x_FV (x_bin op_addD sm_add (x_FV (x_fr (pv 2) rfl)) (x_FV x_int))))
          · refine s_set (T := D) (i := 6) zcQ ?_ ?_ ?_ ?_ ?_
            · exact ⟨sc_law_word.nd, rfl, .inl rfl, Or.inl rfl⟩
            · exact (by decide : 6 < 8)
            · exact x_str
            · intro u_law_found
              refine s_seqN (T := D) (enc := (fun s1 : D => ([.fr u_law_one, .fr u_law_two, .fr u_law_deep, .fr u_law_draw_here, .fr u_law_letters, .fr u_law_sign, .fr s1, .no] : En))) zcQ ?_ ?_
              · refine p_forN (i := 7) (enc := (fun s1 : D => ([.fr u_law_one, .fr u_law_two, .fr u_law_deep, .fr u_law_draw_here, .fr u_law_letters, .fr u_law_sign, .fr s1, .no] : En))) (s0 := u_law_found) [true, true, true, true, true, true, true, false] ?_ ?_ PassesOwn.never rfl ?_ ?_ ?_ (fun _ => rfl)
                · exact ⟨sc_law_word.nd, rfl, .inl rfl, Or.inl rfl⟩
                · exact (fun _ => (by decide : 7 < 8))
                · exact (i_rng1 (by rfl) T.b_range (x_FV (x_ix (x_FV (x_fr (pv 3) rfl)) (x_FV x_int))))
                · exact rfl
                · intro u_law_k s1
                  refine s_ifN (T := (D)) (enc := (fun s2 : D => ([.fr u_law_one, .fr u_law_two, .fr u_law_deep, .fr u_law_draw_here, .fr u_law_letters, .fr u_law_sign, .fr s2, .fr u_law_k] : En))) zcN ?_ ?_ ?_ ?_
                  · exact (x_cmpT (op_eqA hu) sm_eq (nomark _) (x_FV (x_fr (pv 7) rfl)) (x_FV (x_ix (x_FV (x_fr (pv 3) rfl)) (x_FV x_int))))
                  · refine s_set (T := (D)) (i := 6) zcN ?_ ?_ ?_ ?_ ?_
                    · exact ⟨sc_law_word.nd, rfl, .inl rfl, Or.inl rfl⟩
                    · exact (by decide : 6 < 8)
                    · exact (x_bin op_addD sm_add (x_FV (x_fr (pv 6) rfl)) (x_FV (x_fr (pv 5) rfl)))
                    · intro u_law_found
                      exact s_nilN (enc := (fun s2 : D => ([.fr u_law_one, .fr u_law_two, .fr u_law_deep, .fr u_law_draw_here, .fr u_law_letters, .fr u_law_sign, .fr s2, .fr u_law_k] : En))) (s := u_law_found) [true, true, true, true, true, true, true, true] rfl
                    · exact rfl
                  · refine s_ifN (T := (D)) (enc := (fun s3 : D => ([.fr u_law_one, .fr u_law_two, .fr u_law_deep, .fr u_law_draw_here, .fr u_law_letters, .fr u_law_sign, .fr s3, .fr u_law_k] : En))) zcN ?_ ?_ ?_ ?_
                    · exact (x_cmpT (op_eqA hu) sm_eq (nomark _) (x_FV (x_ix (x_FV (x_fr (pv 3) rfl)) (x_FV x_int))) (x_FV x_int))
                    · refine s_set (T := (D)) (i := 6) zcN ?_ ?_ ?_ ?_ ?_
                      · exact ⟨sc_law_word.nd, rfl, .inl rfl, Or.inl rfl⟩
                      · exact (by decide : 6 < 8)
                      · exact (x_bin op_addD sm_add (x_FV (x_fr (pv 6) rfl)) (x_FV (x_ix (x_FV (x_fr (pv 4) rfl)) (x_FV (x_bin op_mod sm_mod (x_FV (x_bin op_addD sm_add (x_FV (x_fr (pv 0) rfl)) (x_FV (x_bin op_mulD sm_mul (x_FV (x_fr (pv 7) rfl)) (x_FV (x_fr (pv 1) rfl)))))) (x_FV x_int))))))
                      · intro u_law_found
                        exact s_nilN (enc := (fun s3 : D => ([.fr u_law_one, .fr u_law_two, .fr u_law_deep, .fr u_law_draw_here, .fr u_law_letters, .fr u_law_sign, .fr s3, .fr u_law_k] : En))) (s := u_law_found) [true, true, true, true, true, true, true, true] rfl
                      · exact rfl
                    · refine s_set (T := (D)) (i := 6) zcN ?_ ?_ ?_ ?_ ?_
                      · exact ⟨sc_law_word.nd, rfl, .inl rfl, Or.inl rfl⟩
                      · exact (by decide : 6 < 8)
                      · exact (x_bin op_addD sm_add (x_FV (x_fr (pv 6) rfl)) (x_FV (x_ix (x_FV (x_fr (pv 4) rfl)) (x_FV (x_ix (x_FV (x_fr (pv 3) rfl)) (x_FV x_int))))))
                      · intro u_law_found
                        exact s_nilN (enc := (fun s3 : D => ([.fr u_law_one, .fr u_law_two, .fr u_law_deep, .fr u_law_draw_here, .fr u_law_letters, .fr u_law_sign, .fr s3, .fr u_law_k] : En))) (s := u_law_found) [true, true, true, true, true, true, true, true] rfl
                      · exact rfl
                    · intro s3
                      exact s_nilN (enc := (fun s2 : D => ([.fr u_law_one, .fr u_law_two, .fr u_law_deep, .fr u_law_draw_here, .fr u_law_letters, .fr u_law_sign, .fr s2, .fr u_law_k] : En))) (s := s3) [true, true, true, true, true, true, true, true] rfl
                  · intro s2
                    exact s_nilN (enc := (fun s1 : D => ([.fr u_law_one, .fr u_law_two, .fr u_law_deep, .fr u_law_draw_here, .fr u_law_letters, .fr u_law_sign, .fr s1, .no] : En))) (s := s2) [true, true, true, true, true, true, true, false] rfl
              · intro s1
                refine s_retQ ww_F ?_
                · exact (x_fr (pv 6) rfl)
            · exact rfl
        · exact rfl
      · exact rfl
theorem ok_law_thing {f : Addr} {fd : FuncData} (F : Fun K "_law_thing" "_law_thing" s_law_thing f fd) (T : Txt K mg)  : FnOk P w K mg base CX0 1 f fd ["_law_cell", "_law_base"] (spR (rF K) K [true, true] l_law_thing) :=
  def_ok (R := rF K) (N := ["_law_cell", "_law_base"]) F sc_law_thing rfl (by decide) fun cdv A outer s H E hr G n ds hds => match ds, hds with
    | [u_law_cell, u_law_base], _ => by
      have hu := hr.units
      show PSs _ _ (tS _ _ _ _ _ (m_law_thing n u_law_cell u_law_base))
      refine s_ifQ (α := D) ?_ ?_ ?_
      · exact (x_cmpT (op_eqA hu) sm_eq (nomark _) (x_FV (x_bin op_mod sm_mod (x_FV (x_fr (pv 0) rfl)) (x_FV x_int))) (x_FV x_int))
      · refine s_retQ ww_F ?_
        · exact (x_bin op_mod sm_mod (x_FV (x_bin op_fdiv sm_fdiv (x_FV (x_fr (pv 0) rfl)) (x_FV x_int))) (x_FV (x_bin op_pow sm_pow (x_FV x_int) (x_FV x_int))))
      · refine s_retQ ww_F ?_
        · exact (x_bin op_mod sm_mod (x_FV (x_bin op_addD sm_add (x_FV (x_fr (pv 1) rfl)) (x_FV (x_bin op_mod sm_mod (x_FV (x_fr (pv 0) rfl)) (x_FV x_int))))) (x_FV (x_bin op_pow sm_pow (x_FV x_int) (x_FV x_int))))
theorem ok_law_deed {f : Addr} {fd : FuncData} (F : Fun K "_law_deed" "_law_deed" s_law_deed f fd) (T : Txt K mg)  : FnOk P w K mg base CX0 1 f fd ["_law_one", "_law_two", "_law_hands_here"] (spR (rF K) K [true, true, true] l_law_deed) :=
  def_ok (R := rF K) (N := ["_law_one", "_law_two", "_law_hands_here", "_law_hand", "_law_word_here"]) F sc_law_deed rfl (by decide) fun cdv A outer s H E hr G n ds hds => match ds, hds with
    | [u_law_one, u_law_two, u_law_hands_here], _ => by
      have hu := hr.units
      show PSs _ _ (tS _ _ _ _ _ (m_law_deed n u_law_one u_law_two u_law_hands_here))
      refine s_set (T := D) (i := 3) zcQ ?_ ?_ ?_ ?_ ?_
      · exact ⟨sc_law_deed.nd, rfl, .inl rfl, Or.inl rfl⟩
      · exact (by decide : 3 < 5)
      · exact (x_ix (x_FV (x_fr (pv 2) rfl)) (x_FV (x_bin op_mod sm_mod (x_FV (x_fr (pv 1) rfl)) (x_FV (x_callB call_lenX sm_len (by rfl) T.b_len (by decide +kernel) (x_FV (x_fr (pv 2) rfl)))))))
      · intro u_law_hand
        refine s_set (T := D) (i := 4) zcQ ?_ ?_ ?_ ?_ ?_
        · exact ⟨sc_law_deed.nd, rfl, .inl rfl, Or.inl rfl⟩
        · exact (by decide : 4 < 5)
        · exact (x_ix (x_OV (x_lst (a_F x_str (a_F x_str (a_F x_str a_nil))))) (x_FV (x_bin op_mod sm_mod (x_FV (x_fr (pv 0) rfl)) (x_FV x_int))))
        · intro u_law_word_here
          refine s_ifN (T := D) (enc := (fun s1 : D => ([.fr u_law_one, .fr u_law_two, .fr u_law_hands_here, .fr u_law_hand, .fr s1] : En))) zcQ ?_ ?_ ?_ ?_
          · exact (y_pw (w_and (x_cmpT (op_eqA hu) sm_eq (nomark _) (x_FV (x_fr (pv 4) rfl)) (x_FV x_str)) (w_and1 (x_cmpT (op_eqA hu) sm_eq (nomark _) (x_FV (x_ix (x_FV (x_fr (pv 3) rfl)) (x_FV x_int))) (x_FV x_str)))))
          · refine s_set (T := (D)) (i := 4) zcN ?_ ?_ ?_ ?_ ?_
            · exact ⟨sc_law_deed.nd, rfl, .inl rfl, Or.inl rfl⟩
            · exact (by decide : 4 < 5)
            · exact x_str
            · intro u_law_word_here
              exact s_nilN (enc := (fun s1 : D => ([.fr u_law_one, .fr u_law_two, .fr u_law_hands_here, .fr u_law_hand, .fr s1] : En))) (s := u_law_word_here) [true, true, true, true, true] rfl
            · exact rfl
          · exact s_nilN (enc := (fun s1 : D => ([.fr u_law_one, .fr u_law_two, .fr u_law_hands_here, .fr u_law_hand, .fr s1] : En))) (s := u_law_word_here) [true, true, true, true, true] rfl
          · intro s1
            refine s_retQ ww_F ?_
            · exact (x_tup (a_F (x_fr (pv 4) rfl) (a_F (x_ix (x_FV (x_fr (pv 3) rfl)) (x_FV x_int)) a_nil)))
        · exact rfl
      · exact rfl
theorem ok_law_first_four {f : Addr} {fd : FuncData} (F : Fun K "_law_first_four" "_law_first_four" s_law_first_four f fd) (T : Txt K mg)  : FnOk P w K mg base CX0 1 f fd ["_law_way", "_law_one", "_law_two", "_law_names", "_law_thing_here"] (spR (rF K) K [true, true, true, true, true] l_law_first_four) :=
  def_ok (R := rF K) (N := ["_law_way", "_law_one", "_law_two", "_law_names", "_law_thing_here", "_law_a", "_law_b", "_law_c", "_law_kind", "_law_end", "_law_rows", "_law_first"]) F sc_law_first_four rfl (by decide) fun cdv A outer s H E hr G n ds hds => match ds, hds with
    | [u_law_way, u_law_one, u_law_two, u_law_names, u_law_thing_here], _ => by
      have hu := hr.units
      show PSs _ _ (tS _ _ _ _ _ (m_law_first_four n u_law_way u_law_one u_law_two u_law_names u_law_thing_here))
      refine s_set (T := D) (i := 5) zcQ ?_ ?_ ?_ ?_ ?_
      · exact ⟨sc_law_first_four.nd, rfl, .inl rfl, Or.inl rfl⟩
      · exact (by decide : 5 < 12)
      · exact (x_ix (x_FV (x_fr (pv 3) rfl)) (x_FV x_int))
      · intro u_law_a
        refine s_set (T := D) (i := 6) zcQ ?_ ?_ ?_ ?_ ?_
        · exact ⟨sc_law_first_four.nd, rfl, .inl rfl, Or.inl rfl⟩
        · exact (by decide : 6 < 12)
        · exact (x_ix (x_FV (x_fr (pv 3) rfl)) (x_FV x_int))
        · intro u_law_b
          refine s_set (T := D) (i := 7) zcQ ?_ ?_ ?_ ?_ ?_
          · exact ⟨sc_law_first_four.nd, rfl, .inl rfl, Or.inl rfl⟩
          · exact (by decide : 7 < 12)
          · exact (x_ix (x_FV (x_fr (pv 3) rfl)) (x_FV x_int))
          · intro u_law_c
            refine s_set (T := D) (i := 8) zcQ ?_ ?_ ?_ ?_ ?_
            · exact ⟨sc_law_first_four.nd, rfl, .inl rfl, Or.inl rfl⟩
            · exact (by decide : 8 < 12)
            · exact (x_ix (x_OV (x_lst (a_F x_str (a_F x_str a_nil)))) (x_FV (x_bin op_mod sm_mod (x_FV (x_bin op_fdiv sm_fdiv (x_FV (x_fr (pv 1) rfl)) (x_FV x_int))) (x_FV x_int))))
            · intro u_law_kind
              refine s_set (T := D) (i := 9) zcQ ?_ ?_ ?_ ?_ ?_
              · exact ⟨sc_law_first_four.nd, rfl, .inl rfl, Or.inl rfl⟩
              · exact (by decide : 9 < 12)
              · exact (x_tup (a_F x_str a_nil))
              · intro u_law_end
                refine s_ifQ (α := D) ?_ ?_ ?_
                · exact (x_cmpT (op_eqA hu) sm_eq (nomark _) (x_FV (x_fr (pv 0) rfl)) (x_FV x_int))
                · refine s_retQ ww_F ?_
                  · exact (x_OF (x_lst (a_F (x_tup (a_F x_str (a_F (x_fr (pv 5) rfl) (a_F (x_fr (pv 8) rfl) (a_F (x_fr (pv 4) rfl) a_nil))))) (a_F (x_tup (a_F x_str a_nil)) (a_F (x_tup (a_F x_str (a_F (x_fr (pv 5) rfl) a_nil))) (a_F (x_tup (a_F x_str (a_F (x_fr (pv 5) rfl) a_nil))) (a_F (x_fr (pv 9) rfl) (a_F (x_fr (pv 9) rfl) a_nil))))))))
                · refine s_ifQ (α := D) ?_ ?_ ?_
                  · exact (x_cmpT (op_eqA hu) sm_eq (nomark _) (x_FV (x_fr (pv 0) rfl)) (x_FV x_int))
                  · refine s_set (T := D) (i := 10) zcQ ?_ ?_ ?_ ?_ ?_
                    · exact ⟨sc_law_first_four.nd, rfl, .inl rfl, Or.inl rfl⟩
                    · exact (by decide : 10 < 12)
                    · exact (x_OF (x_lst (a_F (x_tup (a_F x_str (a_F (x_fr (pv 5) rfl) (a_F (x_fr (pv 8) rfl) (a_F (x_fr (pv 4) rfl) a_nil))))) (a_F (x_tup (a_F x_str a_nil)) (a_F (x_tup (a_F x_str (a_F (x_fr (pv 5) rfl) a_nil))) (a_F (x_tup (a_F x_str a_nil)) (a_F (x_tup (a_F x_str (a_F (x_fr (pv 5) rfl) a_nil))) (a_F (x_fr (pv 9) rfl) a_nil))))))))
                    · intro u_law_rows
                      refine s_retQ ww_F ?_
                      · exact (x_bin op_addD sm_add (x_FV (x_fr (pv 10) rfl)) (x_OV (x_lst (a_F (x_tup (a_F x_str (a_F (x_fr (pv 5) rfl) a_nil))) (a_F (x_fr (pv 9) rfl) a_nil)))))
                    · exact rfl
                  · refine s_set (T := D) (i := 11) zcQ ?_ ?_ ?_ ?_ ?_
                    · exact ⟨sc_law_first_four.nd, rfl, .inl rfl, Or.inl rfl⟩
                    · exact (by decide : 11 < 12)
                    · exact (x_tup (a_F x_str (a_F (x_fr (pv 5) rfl) (a_F x_str (a_F (x_fr (pv 4) rfl) a_nil)))))
                    · intro u_law_first
                      refine s_ifQ (α := D) ?_ ?_ ?_
                      · exact (x_cmpT (op_eqA hu) sm_eq (nomark _) (x_FV (x_fr (pv 0) rfl)) (x_FV x_int))
                      · refine s_set (T := D) (i := 10) zcQ ?_ ?_ ?_ ?_ ?_
                        · exact ⟨sc_law_first_four.nd, rfl, .inl rfl, Or.inl rfl⟩
                        · exact (by decide : 10 < 12)
                        · exact (x_OF (x_lst (a_F (x_fr (pv 11) rfl) (a_F (x_tup (a_F x_str (a_F (x_fr (pv 6) rfl) (a_F x_str (a_F (x_fr (pv 5) rfl) a_nil))))) (a_F (x_tup (a_F x_str (a_F (x_fr (pv 7) rfl) (a_F (x_fr (pv 8) rfl) (a_F (x_fr (pv 6) rfl) a_nil))))) a_nil)))))
                        · intro u_law_rows
                          refine s_retQ ww_F ?_
                          · exact (x_bin op_addD sm_add (x_FV (x_fr (pv 10) rfl)) (x_OV (x_lst (a_F (x_tup (a_F x_str (a_F (x_ix (x_OV (x_lst (a_F (x_fr (pv 5) rfl) (a_F (x_fr (pv 6) rfl) (a_F (x_fr (pv 5) rfl) a_nil))))) (x_FV (x_bin op_mod sm_mod (x_FV (x_fr (pv 2) rfl)) (x_FV x_int)))) a_nil))) (a_F (x_tup (a_F x_str (a_F (x_ix (x_OV (x_lst (a_F (x_fr (pv 7) rfl) (a_F (x_fr (pv 7) rfl) (a_F (x_fr (pv 6) rfl) a_nil))))) (x_FV (x_bin op_mod sm_mod (x_FV (x_fr (pv 1) rfl)) (x_FV x_int)))) a_nil))) (a_F (x_fr (pv 9) rfl) (a_F (x_fr (pv 9) rfl) (a_F (x_fr (pv 9) rfl) a_nil))))))))
                        · exact rfl
                      · refine s_set (T := D) (i := 10) zcQ ?_ ?_ ?_ ?_ ?_
                        · exact ⟨sc_law_first_four.nd, rfl, .inl rfl, Or.inl rfl⟩
                        · exact (by decide : 10 < 12)
                        · exact (x_OF (x_lst (a_F (x_fr (pv 11) rfl) (a_F (x_tup (a_F x_str (a_F (x_fr (pv 6) rfl) (a_F x_str (a_F (x_fr (pv 5) rfl) a_nil))))) (a_F (x_tup (a_F x_str (a_F (x_fr (pv 7) rfl) (a_F (x_ix (x_OV (x_lst (a_F x_str (a_F x_str a_nil)))) (x_FV (x_bin op_mod sm_mod (x_FV (x_fr (pv 2) rfl)) (x_FV x_int)))) (a_F (x_fr (pv 4) rfl) a_nil))))) (a_F (x_tup (a_F x_str a_nil)) a_nil))))))
                        · intro u_law_rows
                          refine s_retQ ww_F ?_
                          · exact (x_bin op_addD sm_add (x_FV (x_fr (pv 10) rfl)) (x_OV (x_lst (a_F (x_tup (a_F x_str (a_F (x_fr (pv 6) rfl) a_nil))) (a_F (x_fr (pv 9) rfl) (a_F (x_fr (pv 9) rfl) (a_F (x_fr (pv 9) rfl) (a_F (x_fr (pv 9) rfl) a_nil))))))))
                        · exact rfl
                    · exact rfl
              · exact rfl
            · exact rfl
          · exact rfl
        · exact rfl
      · exact rfl
theorem ok_law_homes {f : Addr} {fd : FuncData} (F : Fun K "_law_homes" "_law_homes" s_law_homes f fd) (T : Txt K mg)  : FnOk P w K mg base CX0 1 f fd ["_law_rows"] (spR (rF K) K [true] l_law_homes) :=
  def_ok (R := rF K) (N := ["_law_rows", "_law_found", "_law_opened", "_law_at", "_law_row_here"]) F sc_law_homes rfl (by decide) fun cdv A outer s H E hr G n ds hds => match ds, hds with
    | [u_law_rows], _ => by
      have hu := hr.units
      show PSs _ _ (tS _ _ _ _ _ (m_law_homes n u_law_rows))
      refine s_setO (T := D) (i := 1) zcQ ?_ ?_ ?_ ?_ ?_
      · exact ⟨sc_law_homes.nd, rfl, .inl rfl, Or.inl rfl⟩
      · exact (by decide : 1 < 5)
      · exact (x_lst a_nil)
      · intro u_law_found
        refine s_setO (T := D) (i := 2) zcQ ?_ ?_ ?_ ?_ ?_
        · exact ⟨sc_law_homes.nd, rfl, .inl rfl, Or.inl rfl⟩
        · exact (by decide : 2 < 5)
        · exact (x_lst (a_F (x_neg (x_FV x_int)) a_nil))
        · intro u_law_opened
          refine s_seqN (T := D) (enc := (fun s1 : (List D) × (List D) => ([.fr u_law_rows, .ow s1.1, .ow s1.2, .no, .no] : En))) zcQ ?_ ?_
          · refine p_forN2 (i := 3) (j := 4) (enc := (fun s1 : (List D) × (List D) => ([.fr u_law_rows, .ow s1.1, .ow s1.2, .no, .no] : En))) (s0 := (u_law_found, u_law_opened)) [true, true, true, false, false] ?_ ?_ ?_ ?_ PassesOwn.never rfl ?_ ?_ ?_ (fun _ => rfl) rfl rfl rfl rfl
            · exact ⟨sc_law_homes.nd, rfl, .inl rfl, Or.inl rfl⟩
            · exact ⟨sc_law_homes.nd, rfl, .inl rfl, Or.inl rfl⟩
            · exact (fun _ => (by decide : 3 < 5))
            · exact (fun _ => (by decide : 4 < 5))
            · exact (i_enum (by rfl) T.b_enumerate (x_FW (lo := true) (x_fr (pv 0) rfl)))
            · exact rfl
            · intro p_u_law_at s1
              refine s_app (T := ((List D) × (List D))) (i := 1) zcN ?_ ?_ ?_ ?_ ?_ ?_
              · exact (pv 1)
              · exact rfl
              · exact (x_ix (x_ow (pv 2) rfl) (x_FV (x_neg (x_FV x_int))))
              · intro u_law_found
                refine s_ifN (T := ((List D) × (List D))) (enc := (fun s2 : (List D) => ([.fr u_law_rows, .ow u_law_found, .ow s2, .fr p_u_law_at.1, .fr p_u_law_at.2] : En))) zcN ?_ ?_ ?_ ?_
                · exact (x_cmpT op_inX sm_in (by rfl) (x_FV (x_ix (x_FV (x_fr (pv 4) rfl)) (x_FV x_int))) (x_OV (x_lst (a_F x_str (a_F x_str (a_F x_str (a_F x_str a_nil)))))))
                · refine s_app (T := ((List D))) (i := 2) zcN ?_ ?_ ?_ ?_ ?_ ?_
                  · exact (pv 2)
                  · exact rfl
                  · exact (x_fr (pv 3) rfl)
                  · intro u_law_opened
                    exact s_nilN (enc := (fun s2 : (List D) => ([.fr u_law_rows, .ow u_law_found, .ow s2, .fr p_u_law_at.1, .fr p_u_law_at.2] : En))) (s := u_law_opened) [true, true, true, true, true] rfl
                  · exact (pe_bm PySem.F.plainAttrs_list PySem.F.slot_list_append PySem.F.type_list_append mt_append (pv 2) (pa_cons (x_fr (pv 3) rfl) pa_nil))
                  · exact rfl
                · exact s_nilN (enc := (fun s2 : (List D) => ([.fr u_law_rows, .ow u_law_found, .ow s2, .fr p_u_law_at.1, .fr p_u_law_at.2] : En))) (s := s1.2) [true, true, true, true, true] rfl
                · intro s2
                  refine s_ifN (T := ((List D) × (List D))) (enc := (fun s3 : (List D) => ([.fr u_law_rows, .ow u_law_found, .ow s3, .fr p_u_law_at.1, .fr p_u_law_at.2] : En))) zcN ?_ ?_ ?_ ?_
                  · exact (x_cmpT (op_eqA hu) sm_eq (nomark _) (x_FV (x_ix (x_FV (x_fr (pv 4) rfl)) (x_FV x_int))) (x_FV x_str))
                  · refine s_pop (T := ((List D))) (i := 2) zcN ?_ ?_ ?_ ?_ ?_
                    · exact (pv 2)
                    · exact rfl
                    · intro u_law_opened
                      exact s_nilN (enc := (fun s3 : (List D) => ([.fr u_law_rows, .ow u_law_found, .ow s3, .fr p_u_law_at.1, .fr p_u_law_at.2] : En))) (s := u_law_opened) [true, true, true, true, true] rfl
                    · exact (pe_bm0 PySem.F.plainAttrs_list PySem.F.slot_list_pop PySem.F.type_list_pop mt_pop (pv 2))
                    · exact rfl
                  · exact s_nilN (enc := (fun s3 : (List D) => ([.fr u_law_rows, .ow u_law_found, .ow s3, .fr p_u_law_at.1, .fr p_u_law_at.2] : En))) (s := s2) [true, true, true, true, true] rfl
                  · intro s3
                    exact s_nilN (enc := (fun s1 : (List D) × (List D) => ([.fr u_law_rows, .ow s1.1, .ow s1.2, .no, .no] : En))) (s := (u_law_found, s3)) [true, true, true, false, false] rfl
              · exact (pe_bm PySem.F.plainAttrs_list PySem.F.slot_list_append PySem.F.type_list_append mt_append (pv 1) (pa_cons (x_ix (x_ow (pv 2) rfl) (x_FV (x_neg (x_FV x_int)))) pa_nil))
              · exact rfl
          · intro s1
            refine s_frz (T := D) (i := 1) (ds := s1.1) zcQ ?_ ?_
            · exact rfl
            · refine s_retQ ww_F ?_
              · exact (x_fr (pv 1) rfl)
        · exact rfl
      · exact rfl
theorem ok_law_last {f : Addr} {fd : FuncData} (F : Fun K "_law_last" "_law_last" s_law_last f fd) (T : Txt K mg)  : FnOk P w K mg base CX0 1 f fd ["_law_rows", "_law_home", "_law_at"] (spR (rF K) K [true, true, true] l_law_last) :=
  def_ok (R := rF K) (N := ["_law_rows", "_law_home", "_law_at", "_law_place"]) F sc_law_last rfl (by decide) fun cdv A outer s H E hr G n ds hds => match ds, hds with
    | [u_law_rows, u_law_home, u_law_at], _ => by
      have hu := hr.units
      show PSs _ _ (tS _ _ _ _ _ (m_law_last n u_law_rows u_law_home u_law_at))
      refine s_seqQ (α := D) (enc := (fun s1 : Unit => ([.fr u_law_rows, .fr u_law_home, .fr u_law_at, .no] : En))) ?_ ?_
      · refine p_for (i := 3) (enc := (fun s1 : Unit => ([.fr u_law_rows, .fr u_law_home, .fr u_law_at, .no] : En))) (s0 := ()) [true, true, true, false] ?_ ?_ PassesOwn.never rfl ?_ ?_ ?_ (fun _ => rfl)
        · exact ⟨sc_law_last.nd, rfl, .inl rfl, Or.inl rfl⟩
        · exact (fun _ => (by decide : 3 < 4))
        · exact (i_rng2 (by rfl) T.b_range (x_FV (x_bin op_addD sm_add (x_FV (x_fr (pv 2) rfl)) (x_FV x_int))) (x_FV (x_callB call_lenX sm_len (by rfl) T.b_len (by decide +kernel) (x_FV (x_fr (pv 0) rfl)))))
        · exact rfl
        · intro u_law_place s1
          refine s_ifQM (α := D) ?_ ?_ ?_
          · exact (y_pw (w_and (x_cmpT (op_eqA hu) sm_eq (nomark _) (x_FV (x_ix (x_FV (x_fr (pv 1) rfl)) (x_FV (x_fr (pv 3) rfl)))) (x_FV (x_fr (pv 2) rfl))) (w_and1 (x_cmpT (op_eqA hu) sm_eq (nomark _) (x_FV (x_ix (x_FV (x_ix (x_FV (x_fr (pv 0) rfl)) (x_FV (x_fr (pv 3) rfl)))) (x_FV x_int))) (x_FV x_str)))))
          · refine s_retQ ww_F ?_
            · exact (x_fr (pv 3) rfl)
          · exact s_nilM (enc := (fun s1 : Unit => ([.fr u_law_rows, .fr u_law_home, .fr u_law_at, .no] : En))) (s := ()) [true, true, true, false] rfl
      · intro s1
        refine s_retQ ww_F ?_
        · exact (x_neg (x_FV x_int))
theorem ok_law_starts {f : Addr} {fd : FuncData} (F : Fun K "_law_starts" "_law_starts" s_law_starts f fd) (T : Txt K mg)  : FnOk P w K mg base CX0 1 f fd ["_law_rows", "_law_home", "_law_at"] (spR (rF K) K [true, true, true] l_law_starts) :=
  def_ok (R := rF K) (N := ["_law_rows", "_law_home", "_law_at", "_law_found", "_law_place"]) F sc_law_starts rfl (by decide) fun cdv A outer s H E hr G n ds hds => match ds, hds with
    | [u_law_rows, u_law_home, u_law_at], _ => by
      have hu := hr.units
      show PSs _ _ (tS _ _ _ _ _ (m_law_starts n u_law_rows u_law_home u_law_at))
      refine s_setO (T := D) (i := 3) zcQ ?_ ?_ ?_ ?_ ?_
      · exact ⟨sc_law_starts.nd, rfl, .inl rfl, Or.inl rfl⟩
      · exact (by decide : 3 < 5)
      · exact (x_lst (a_F (x_bin op_addD sm_add (x_FV (x_fr (pv 2) rfl)) (x_FV x_int)) a_nil))
      · intro u_law_found
        refine s_seqN (T := D) (enc := (fun s1 : (List D) => ([.fr u_law_rows, .fr u_law_home, .fr u_law_at, .ow s1, .no] : En))) zcQ ?_ ?_
        · refine p_forN (i := 4) (enc := (fun s1 : (List D) => ([.fr u_law_rows, .fr u_law_home, .fr u_law_at, .ow s1, .no] : En))) (s0 := u_law_found) [true, true, true, true, false] ?_ ?_ PassesOwn.never rfl ?_ ?_ ?_ (fun _ => rfl)
          · exact ⟨sc_law_starts.nd, rfl, .inl rfl, Or.inl rfl⟩
          · exact (fun _ => (by decide : 4 < 5))
          · exact (i_rng2 (by rfl) T.b_range (x_FV (x_bin op_addD sm_add (x_FV (x_fr (pv 2) rfl)) (x_FV x_int))) (x_FV (x_callB call_lenX sm_len (by rfl) T.b_len (by decide +kernel) (x_FV (x_fr (pv 0) rfl)))))
          · exact rfl
          · intro u_law_place s1
            refine s_ifN (T := ((List D))) (enc := (fun s2 : (List D) => ([.fr u_law_rows, .fr u_law_home, .fr u_law_at, .ow s2, .fr u_law_place] : En))) zcN ?_ ?_ ?_ ?_
            · exact (y_pw (w_and (x_cmpT (op_eqA hu) sm_eq (nomark _) (x_FV (x_ix (x_FV (x_fr (pv 1) rfl)) (x_FV (x_fr (pv 4) rfl)))) (x_FV (x_fr (pv 2) rfl))) (w_and1 (x_cmpT (op_eqA hu) sm_eq (nomark _) (x_FV (x_ix (x_FV (x_ix (x_FV (x_fr (pv 0) rfl)) (x_FV (x_fr (pv 4) rfl)))) (x_FV x_int))) (x_FV x_str)))))
            · refine s_app (T := ((List D))) (i := 3) zcN ?_ ?_ ?_ ?_ ?_ ?_
              · exact (pv 3)
              · exact rfl
              · exact (x_bin op_addD sm_add (x_FV (x_fr (pv 4) rfl)) (x_FV x_int))
              · intro u_law_found
                exact s_nilN (enc := (fun s2 : (List D) => ([.fr u_law_rows, .fr u_law_home, .fr u_law_at, .ow s2, .fr u_law_place] : En))) (s := u_law_found) [true, true, true, true, true] rfl
              · exact (pe_bm PySem.F.plainAttrs_list PySem.F.slot_list_append PySem.F.type_list_append mt_append (pv 3) (pa_cons (x_bin op_addD sm_add (x_FV (x_fr (pv 4) rfl)) (x_FV x_int)) pa_nil))
              · exact rfl
            · exact s_nilN (enc := (fun s2 : (List D) => ([.fr u_law_rows, .fr u_law_home, .fr u_law_at, .ow s2, .fr u_law_place] : En))) (s := s1) [true, true, true, true, true] rfl
            · intro s2
              exact s_nilN (enc := (fun s1 : (List D) => ([.fr u_law_rows, .fr u_law_home, .fr u_law_at, .ow s1, .no] : En))) (s := s2) [true, true, true, true, false] rfl
        · intro s1
          refine s_frz (T := D) (i := 3) (ds := s1) zcQ ?_ ?_
          · exact rfl
          · refine s_retQ ww_F ?_
            · exact (x_fr (pv 3) rfl)
      · exact rfl
theorem ok_law_lent {f : Addr} {fd : FuncData} (F : Fun K "_law_lent" "_law_lent" s_law_lent f fd) (T : Txt K mg)  : FnOk P w K mg base CX0 1 f fd ["_law_held", "_law_row_here"] (spR (rF K) K [true, true] l_law_lent) :=
  def_ok (R := rF K) (N := ["_law_held", "_law_row_here", "_law_thing_here", "_law_source", "_law_out", "_law_one"]) F sc_law_lent rfl (by decide) fun cdv A outer s H E hr G n ds hds => match ds, hds with
    | [u_law_held, u_law_row_here], _ => by
      have hu := hr.units
      show PSs _ _ (tS _ _ _ _ _ (m_law_lent n u_law_held u_law_row_here))
      refine s_set (T := D) (i := 2) zcQ ?_ ?_ ?_ ?_ ?_
      · exact ⟨sc_law_lent.nd, rfl, .inl rfl, Or.inl rfl⟩
      · exact (by decide : 2 < 6)
      · exact (x_ix (x_FV (x_fr (pv 1) rfl)) (x_FV x_int))
      · intro u_law_thing_here
        refine s_set (T := D) (i := 3) zcQ ?_ ?_ ?_ ?_ ?_
        · exact ⟨sc_law_lent.nd, rfl, .inl rfl, Or.inl rfl⟩
        · exact (by decide : 3 < 6)
        · exact x_str
        · intro u_law_source
          refine s_set (T := D) (i := 4) zcQ ?_ ?_ ?_ ?_ ?_
          · exact ⟨sc_law_lent.nd, rfl, .inl rfl, Or.inl rfl⟩
          · exact (by decide : 4 < 6)
          · exact x_bl
          · intro u_law_out
            refine s_seqN (T := D) (enc := (fun s1 : D × D × D => ([.fr u_law_held, .fr u_law_row_here, .fr s1.1, .fr s1.2.1, .fr s1.2.2, .no] : En))) zcQ ?_ ?_
            · refine p_forN (i := 5) (enc := (fun s1 : D × D × D => ([.fr u_law_held, .fr u_law_row_here, .fr s1.1, .fr s1.2.1, .fr s1.2.2, .no] : En))) (s0 := (u_law_thing_here, u_law_source, u_law_out)) [true, true, true, true, true, false] ?_ ?_ PassesOwn.never rfl ?_ ?_ ?_ (fun _ => rfl)
              · exact ⟨sc_law_lent.nd, rfl, .inl rfl, Or.inl rfl⟩
              · exact (fun _ => (by decide : 5 < 6))
              · exact (i_any (x_FW (lo := true) (x_fr (pv 0) rfl)))
              · exact rfl
              · intro u_law_one s1
                refine s_ifN (T := (D × D × D)) (enc := (fun s2 : D × D × D => ([.fr u_law_held, .fr u_law_row_here, .fr s2.1, .fr s2.2.1, .fr s2.2.2, .fr u_law_one] : En))) zcN ?_ ?_ ?_ ?_
                · exact (x_cmpT (op_eqA hu) sm_eq (nomark _) (x_FV (x_ix (x_FV (x_fr (pv 5) rfl)) (x_FV x_int))) (x_FV (x_ix (x_FV (x_fr (pv 1) rfl)) (x_FV x_int))))
                · refine s_set (T := (D × D × D)) (i := 2) zcN ?_ ?_ ?_ ?_ ?_
                  · exact ⟨sc_law_lent.nd, rfl, .inl rfl, Or.inl rfl⟩
                  · exact (by decide : 2 < 6)
                  · exact (x_ix (x_FV (x_fr (pv 5) rfl)) (x_FV x_int))
                  · intro u_law_thing_here
                    refine s_set (T := (D × D × D)) (i := 4) zcN ?_ ?_ ?_ ?_ ?_
                    · exact ⟨sc_law_lent.nd, rfl, .inl rfl, Or.inl rfl⟩
                    · exact (by decide : 4 < 6)
                    · exact (x_ix (x_FV (x_fr (pv 5) rfl)) (x_FV x_int))
                    · intro u_law_out
                      refine s_ifN (T := (D × D × D)) (enc := (fun s3 : D => ([.fr u_law_held, .fr u_law_row_here, .fr u_law_thing_here, .fr s3, .fr u_law_out, .fr u_law_one] : En))) zcN ?_ ?_ ?_ ?_
                      · exact (x_cmpT (op_neA hu) sm_ne (nomark _) (x_FV (x_ix (x_FV (x_fr (pv 5) rfl)) (x_FV x_int))) (x_FV x_str))
                      · refine s_set (T := (D)) (i := 3) zcN ?_ ?_ ?_ ?_ ?_
                        · exact ⟨sc_law_lent.nd, rfl, .inl rfl, Or.inl rfl⟩
                        · exact (by decide : 3 < 6)
                        · exact (x_ix (x_FV (x_fr (pv 5) rfl)) (x_FV x_int))
                        · intro u_law_source
                          exact s_nilN (enc := (fun s3 : D => ([.fr u_law_held, .fr u_law_row_here, .fr u_law_thing_here, .fr s3, .fr u_law_out, .fr u_law_one] : En))) (s := u_law_source) [true, true, true, true, true, true] rfl
                        · exact rfl
                      · exact s_nilN (enc := (fun s3 : D => ([.fr u_law_held, .fr u_law_row_here, .fr u_law_thing_here, .fr s3, .fr u_law_out, .fr u_law_one] : En))) (s := s1.2.1) [true, true, true, true, true, true] rfl
                      · intro s3
                        exact s_nilN (enc := (fun s2 : D × D × D => ([.fr u_law_held, .fr u_law_row_here, .fr s2.1, .fr s2.2.1, .fr s2.2.2, .fr u_law_one] : En))) (s := (u_law_thing_here, s3, u_law_out)) [true, true, true, true, true, true] rfl
                    · exact rfl
                  · exact rfl
                · exact s_nilN (enc := (fun s2 : D × D × D => ([.fr u_law_held, .fr u_law_row_here, .fr s2.1, .fr s2.2.1, .fr s2.2.2, .fr u_law_one] : En))) (s := (s1.1, s1.2.1, s1.2.2)) [true, true, true, true, true, true] rfl
                · intro s2
                  exact s_nilN (enc := (fun s1 : D × D × D => ([.fr u_law_held, .fr u_law_row_here, .fr s1.1, .fr s1.2.1, .fr s1.2.2, .no] : En))) (s := (s2.1, s2.2.1, s2.2.2)) [true, true, true, true, true, false] rfl
            · intro s1
              refine s_retQ ww_F ?_
              · exact (x_bin op_addD sm_add (x_FV (x_fr (pv 0) rfl)) (x_FV (x_tup (a_F (x_tup (a_F (x_ix (x_FV (x_fr (pv 1) rfl)) (x_FV x_int)) (a_F (x_ix (x_FV (x_fr (pv 1) rfl)) (x_FV x_int)) (a_F (x_fr (pv 2) rfl) (a_F (x_fr (pv 3) rfl) (a_F (x_fr (pv 4) rfl) a_nil)))))) a_nil))))
          · exact rfl
        · exact rfl
      · exact rfl
theorem ok_law_back {f : Addr} {fd : FuncData} (F : Fun K "_law_back" "_law_back" s_law_back f fd) (T : Txt K mg)  : FnOk P w K mg base CX0 1 f fd ["_law_held", "_law_word_here"] (spR (rF K) K [true, true] l_law_back) :=
  def_ok (R := rF K) (N := ["_law_held", "_law_word_here", "_law_gone", "_law_found", "_law_one"]) F sc_law_back rfl (by decide) fun cdv A outer s H E hr G n ds hds => match ds, hds with
    | [u_law_held, u_law_word_here], _ => by
      have hu := hr.units
      show PSs _ _ (tS _ _ _ _ _ (m_law_back n u_law_held u_law_word_here))
      refine s_setO (T := D) (i := 2) zcQ ?_ ?_ ?_ ?_ ?_
      · exact ⟨sc_law_back.nd, rfl, .inl rfl, Or.inl rfl⟩
      · exact (by decide : 2 < 5)
      · exact (x_lst (a_F (x_fr (pv 1) rfl) a_nil))
      · intro u_law_gone
        refine s_set (T := D) (i := 3) zcQ ?_ ?_ ?_ ?_ ?_
        · exact ⟨sc_law_back.nd, rfl, .inl rfl, Or.inl rfl⟩
        · exact (by decide : 3 < 5)
        · exact (x_tup a_nil)
        · intro u_law_found
          refine s_seqN (T := D) (enc := (fun s1 : (List D) × D => ([.fr u_law_held, .fr u_law_word_here, .ow s1.1, .fr s1.2, .no] : En))) zcQ ?_ ?_
          · refine p_forN (i := 4) (enc := (fun s1 : (List D) × D => ([.fr u_law_held, .fr u_law_word_here, .ow s1.1, .fr s1.2, .no] : En))) (s0 := (u_law_gone, u_law_found)) [true, true, true, true, false] ?_ ?_ PassesOwn.never rfl ?_ ?_ ?_ (fun _ => rfl)
            · exact ⟨sc_law_back.nd, rfl, .inl rfl, Or.inl rfl⟩
            · exact (fun _ => (by decide : 4 < 5))
            · exact (i_any (x_FW (lo := true) (x_fr (pv 0) rfl)))
            · exact rfl
            · intro u_law_one s1
              refine s_ifN (T := ((List D) × D)) (enc := (fun s2 : (List D) × D => ([.fr u_law_held, .fr u_law_word_here, .ow s2.1, .fr s1.2, .fr s2.2] : En))) zcN ?_ ?_ ?_ ?_
              · exact (y_pw (w_or (x_cmpT op_inX sm_in (by rfl) (x_FV (x_ix (x_FV (x_fr (pv 4) rfl)) (x_FV x_int))) (x_ow (pv 2) rfl)) (w_or1 (x_cmpT op_inX sm_in (by rfl) (x_FV (x_ix (x_FV (x_fr (pv 4) rfl)) (x_FV x_int))) (x_ow (pv 2) rfl)))))
              · refine s_app (T := ((List D) × D)) (i := 2) zcN ?_ ?_ ?_ ?_ ?_ ?_
                · exact (pv 2)
                · exact rfl
                · exact (x_ix (x_FV (x_fr (pv 4) rfl)) (x_FV x_int))
                · intro u_law_gone
                  refine s_set (T := ((List D) × D)) (i := 4) zcN ?_ ?_ ?_ ?_ ?_
                  · exact ⟨sc_law_back.nd, rfl, .inl rfl, Or.inl rfl⟩
                  · exact (by decide : 4 < 5)
                  · exact (x_bin op_addD sm_add (x_FV (x_slc (x_FV (x_fr (pv 4) rfl)) p_none (p_some (x_FV x_int)))) (x_FV (x_tup (a_F x_bl a_nil))))
                  · intro u_law_one
                    exact s_nilN (enc := (fun s2 : (List D) × D => ([.fr u_law_held, .fr u_law_word_here, .ow s2.1, .fr s1.2, .fr s2.2] : En))) (s := (u_law_gone, u_law_one)) [true, true, true, true, true] rfl
                  · exact rfl
                · exact (pe_bm PySem.F.plainAttrs_list PySem.F.slot_list_append PySem.F.type_list_append mt_append (pv 2) (pa_cons (x_ix (x_FV (x_fr (pv 4) rfl)) (x_FV x_int)) pa_nil))
                · exact rfl
              · exact s_nilN (enc := (fun s2 : (List D) × D => ([.fr u_law_held, .fr u_law_word_here, .ow s2.1, .fr s1.2, .fr s2.2] : En))) (s := (s1.1, u_law_one)) [true, true, true, true, true] rfl
              · intro s2
                refine s_set (T := ((List D) × D)) (i := 3) zcN ?_ ?_ ?_ ?_ ?_
                · exact ⟨sc_law_back.nd, rfl, .inl rfl, Or.inl rfl⟩
                · exact (by decide : 3 < 5)
                · exact (x_bin op_addD sm_add (x_FV (x_fr (pv 3) rfl)) (x_FV (x_tup (a_F (x_fr (pv 4) rfl) a_nil))))
                · intro u_law_found
                  exact s_nilN (enc := (fun s1 : (List D) × D => ([.fr u_law_held, .fr u_law_word_here, .ow s1.1, .fr s1.2, .no] : En))) (s := (s2.1, u_law_found)) [true, true, true, true, false] rfl
                · exact rfl
          · intro s1
            refine s_retQ ww_F ?_
            · exact (x_fr (pv 3) rfl)
        · exact rfl
      · exact rfl
theorem ok_law_awake {f : Addr} {fd : FuncData} (F : Fun K "_law_awake" "_law_awake" s_law_awake f fd) (T : Txt K mg)  : FnOk P w K mg base CX0 1 f fd ["_law_held"] (spR (rF K) K [true] l_law_awake) :=
  def_ok (R := rF K) (N := ["_law_held", "_law_lending", "_law_one", "_law_hands_here"]) F sc_law_awake rfl (by decide) fun cdv A outer s H E hr G n ds hds => match ds, hds with
    | [u_law_held], _ => by
      have hu := hr.units
      show PSs _ _ (tS _ _ _ _ _ (m_law_awake n u_law_held))
      refine s_set (T := D) (i := 1) zcQ ?_ ?_ ?_ ?_ ?_
      · exact ⟨sc_law_awake.nd, rfl, .inr rfl, Or.inl rfl⟩
      · exact (by decide : 1 < 4)
      · exact (x_OF (x_lc1 (j := 2) rfl sc_law_awake.nd (by decide : 2 < 4) (i_any (x_VW (x_FV (x_fr (pv 0) rfl)))) (blkOk_by (own := [("_law_one", 2)]) (N := ["_law_held", "_law_lending", "_law_one", "_law_hands_here"]) (sc := defScope s_law_awake) (by decide +kernel)) (fun _ _ _ _ _ => pg_name (i := 2) sc_law_awake.nd rfl (Or.inl rfl)) (fun _ _ _ _ _ u_law_one => (c_one (y_val (x_FV (x_ix (x_FV (x_fr (pv 2) rfl)) (x_FV x_int)))))) (fun _ _ _ _ _ u_law_one => (x_ix (x_FV (x_fr (pv 2) rfl)) (x_FV x_int)))))
      · intro u_law_lending
        refine s_lc1F (T := D) (i := 3) (j := 2) zcQ ?_ ?_ rfl sc_law_awake.nd rfl rfl (sw_true rfl rfl rfl (by decide +kernel)) ?_ (blkOk_by (own := [("_law_one", 2)]) (N := ["_law_held", "_law_lending", "_law_one", "_law_hands_here"]) (sc := defScope s_law_awake) (by decide +kernel)) ?_ ?_ ?_ (fun _ => rfl) ?_
        · exact (by decide : 3 < 4)
        · exact (by decide : 2 < 4)
        · exact (i_any (x_VW (x_FV (x_fr (pv 0) rfl))))
        · exact (fun _ _ _ _ _ => pg_name (i := 2) sc_law_awake.nd rfl (Or.inl rfl))
        · exact (fun _ _ _ _ _ u_law_one => (c_one (y_pw (w_and (x_cmpT (op_neA hu) sm_ne (nomark _) (x_FV (x_ix (x_FV (x_fr (pv 2) rfl)) (x_FV x_int))) (x_FV x_str)) (w_and1 (y_val (x_FV (x_ix (x_FV (x_fr (pv 2) rfl)) (x_FV x_int)))))))))
        · exact (fun _ _ _ _ _ u_law_one => (x_fr (pv 2) rfl))
        · intro u_law_hands_here
          refine s_retQ ww_F ?_
          · exact (x_OF (x_lc1 (j := 2) rfl sc_law_awake.nd (by decide : 2 < 4) (i_any (x_VW (x_FV (x_fr (pv 3) rfl)))) (blkOk_by (own := [("_law_one", 2)]) (N := ["_law_held", "_law_lending", "_law_one", "_law_hands_here"]) (sc := defScope s_law_awake) (by decide +kernel)) (fun _ _ _ _ _ => pg_name (i := 2) sc_law_awake.nd rfl (Or.inl rfl)) (fun _ _ _ _ _ u_law_one => (c_one (x_cmpT op_ninX sm_nin (by rfl) (x_FV (x_ix (x_FV (x_fr (pv 2) rfl)) (x_FV x_int))) (x_FV (x_fr (pv 1) rfl))))) (fun _ _ _ _ _ u_law_one => (x_fr (pv 2) rfl))))
      · exact rfl
theorem ok_law_whole {f : Addr} {fd : FuncData} (F : Fun K "_law_whole" "_law_whole" s_law_whole f fd) (T : Txt K mg)  : FnOk P w K mg base CX0 1 f fd ["_law_found"] (spR (rF K) K [true] l_law_whole) :=
  def_ok (R := rF K) (N := ["_law_found"]) F sc_law_whole rfl (by decide) fun cdv A outer s H E hr G n ds hds => match ds, hds with
    | [u_law_found], _ => by
      have hu := hr.units
      show PSs _ _ (tS _ _ _ _ _ (m_law_whole n u_law_found))
      refine s_retQ ww_F ?_
      · exact (x_and (x_FV (x_isi of_int (by rfl) T.b_isinstance (by rfl) T.b_int (by decide +kernel) (x_FV (x_fr (pv 0) rfl)))) (x_one (x_not (x_FV (x_isi of_bool (by rfl) T.b_isinstance (by rfl) T.b_bool (by decide +kernel) (x_FV (x_fr (pv 0) rfl)))))))
theorem ok_law_rows_alike {f : Addr} {fd : FuncData} (F : Fun K "_law_rows_alike" "_law_rows_alike" s_law_rows_alike f fd) (T : Txt K mg)  : FnOk P w K mg base CX0 1 f fd ["_law_rows", "_law_kept"] (spR (rF K) K [true, true] l_law_rows_alike) :=
  def_ok (R := rF K) (N := ["_law_rows", "_law_kept", "_law_row_here", "_law_other"]) F sc_law_rows_alike rfl (by decide) fun cdv A outer s H E hr G n ds hds => match ds, hds with
    | [u_law_rows, u_law_kept], _ => by
      have hu := hr.units
      show PSs _ _ (tS _ _ _ _ _ (m_law_rows_alike n u_law_rows u_law_kept))
      refine s_ifQ (α := D) ?_ ?_ ?_
      · exact (y_pw (w_or (y_not (y_isi of_lst (by rfl) T.b_isinstance (by rfl) T.b_list (by decide +kernel) (x_FV (x_fr (pv 0) rfl)))) (w_or1 (x_cmpT (op_neA hu) sm_ne (nomark _) (x_FV (x_callB call_lenX sm_len (by rfl) T.b_len (by decide +kernel) (x_FV (x_fr (pv 0) rfl)))) (x_FV (x_callB call_lenX sm_len (by rfl) T.b_len (by decide +kernel) (x_FV (x_fr (pv 1) rfl))))))))
      · refine s_retQ ww_F ?_
        · exact x_bl
      · refine s_retQ ww_F ?_
        · exact (x_callB (cr_all rfl) sm_all (by rfl) T.b_all (by decide +kernel) (x_OV (x_lc2 (i := 2) (j := 3) rfl sc_law_rows_alike.nd (by decide : 2 < 4) (by decide : 3 < 4) (i_zip (by rfl) T.b_zip (x_FV (x_fr (pv 0) rfl)) (x_FV (x_fr (pv 1) rfl))) (blkOk_by (own := [("_law_row_here", 2), ("_law_other", 3)]) (N := ["_law_rows", "_law_kept", "_law_row_here", "_law_other"]) (sc := defScope s_law_rows_alike) (by decide +kernel)) (fun _ _ _ _ _ => pg_tup rfl (pgs_cons (pg_name (i := 2) sc_law_rows_alike.nd rfl (Or.inl rfl)) (pgs_cons (pg_name (i := 3) sc_law_rows_alike.nd rfl (Or.inl rfl)) pgs_nil))) (fun _ _ _ _ _ p_u_law_row_here => c_yes) (fun _ _ _ _ _ p_u_law_row_here => (x_and (x_FV (x_isi of_tup (by rfl) T.b_isinstance (by rfl) T.b_tuple (by decide +kernel) (x_FV (x_fr (pv 2) rfl)))) (x_one (x_cmp (op_eqA hu) sm_eq (nomark _) (x_FV (x_fr (pv 2) rfl)) (x_FV (x_fr (pv 3) rfl)))))))))
theorem ok_law_choices {f : Addr} {fd : FuncData} (F : Fun K "_law_choices" "_law_choices" s_law_choices f fd) (T : Txt K mg)  : FnOk P w K mg base CX0 1 f fd ["_law_script"] (spR (rF K) K [true] l_law_choices) :=
  def_ok (R := rF K) (N := ["_law_script", "_law_cell"]) F sc_law_choices rfl (by decide) fun cdv A outer s H E hr G n ds hds => match ds, hds with
    | [u_law_script], _ => by
      have hu := hr.units
      show PSs _ _ (tS _ _ _ _ _ (m_law_choices n u_law_script))
      refine s_retQ ww_F ?_
      · exact (x_OF (x_lc1 (j := 1) rfl sc_law_choices.nd (by decide : 1 < 2) (i_any (x_VW (x_FV (x_slc (x_OV (x_lrev (by rfl) T.b_list (by rfl) T.b_reversed (x_FV (x_fr (pv 0) rfl)))) p_none (p_some (x_FV x_int)))))) (blkOk_by (own := [("_law_cell", 1)]) (N := ["_law_script", "_law_cell"]) (sc := defScope s_law_choices) (by decide +kernel)) (fun _ _ _ _ _ => pg_name (i := 1) sc_law_choices.nd rfl (Or.inl rfl)) (fun _ _ _ _ _ u_law_cell => c_yes) (fun _ _ _ _ _ u_law_cell => (x_bin op_mod sm_mod (x_FV (x_fr (pv 1) rfl)) (x_FV x_int)))))
theorem ok_ends {f : Addr} {fd : FuncData} (F : Fun K "ends" "ends" s_ends f fd) (T : Txt K mg) (C_homes : Cal P w K mg base "homes" ["rows"] 1 (spR (rO K) K [true] l_homes)) : FnOk P w K mg base CX0 2 f fd ["rows"] (spR (rO K) K [true] l_ends) :=
  def_ok (R := rO K) (N := ["rows", "found", "row", "at", "home"]) F sc_ends rfl (by decide) fun cdv A outer s H E hr G n ds hds => match ds, hds with
    | [u_rows], _ => by
      have hu := hr.units
      show PSs _ _ (tS _ _ _ _ _ (m_ends n u_rows))
      refine s_lc1O (T := (List D)) (i := 1) (j := 2) zcQ ?_ ?_ rfl sc_ends.nd rfl rfl (sw_true rfl rfl rfl (by decide +kernel)) ?_ (blkOk_by (own := [("row", 2)]) (N := ["rows", "found", "row", "at", "home"]) (sc := defScope s_ends) (by decide +kernel)) ?_ ?_ ?_ (fun _ => rfl) ?_
      · exact (by decide : 1 < 5)
      · exact (by decide : 2 < 5)
      · exact (i_any (x_VW (x_FV (x_fr (pv 0) rfl))))
      · exact (fun _ _ _ _ _ => pg_name (i := 2) sc_ends.nd rfl (Or.inl rfl))
      · exact (fun _ _ _ _ _ u_row => c_yes)
      · exact (fun _ _ _ _ _ u_row => (x_neg (x_FV x_int)))
      · intro u_found
        refine s_seqN (T := (List D)) (enc := (fun s1 : (List D) => ([.fr u_rows, .ow s1, .no, .no, .no] : En))) zcQ ?_ ?_
        · refine p_forN2 (i := 3) (j := 4) (enc := (fun s1 : (List D) => ([.fr u_rows, .ow s1, .no, .no, .no] : En))) (s0 := u_found) [true, true, false, false, false] ?_ ?_ ?_ ?_ PassesOwn.never rfl ?_ ?_ ?_ (fun _ => rfl) rfl rfl rfl rfl
          · exact ⟨sc_ends.nd, rfl, .inl rfl, Or.inl rfl⟩
          · exact ⟨sc_ends.nd, rfl, .inl rfl, Or.inl rfl⟩
          · exact (fun _ => (by decide : 3 < 5))
          · exact (fun _ => (by decide : 4 < 5))
          · exact (i_enum (by rfl) T.b_enumerate (x_FW (lo := true) (x_OF (x_call C_homes n (hr.mono (by decide)) (by rfl) ww_O (a_F (x_fr (pv 0) rfl) a_nil)))))
          · exact rfl
          · intro p_u_at s1
            refine s_ifN (T := ((List D))) (enc := (fun s2 : (List D) => ([.fr u_rows, .ow s2, .no, .fr p_u_at.1, .fr p_u_at.2] : En))) zcN ?_ ?_ ?_ ?_
            · exact (x_cmpT (op_eqA hu) sm_eq (nomark _) (x_FV (x_ix (x_FV (x_ix (x_FV (x_fr (pv 0) rfl)) (x_FV (x_fr (pv 3) rfl)))) (x_FV x_int))) (x_FV x_str))
            · refine s_sub (T := ((List D))) (i := 1) zcN (pv 1) ?_ ?_ ?_ ?_ rfl rfl rfl (fun _ => rfl)
              · exact rfl
              · exact (x_fr (pv 3) rfl)
              · exact (x_FV (x_fr (pv 4) rfl))
              · intro u_found
                exact s_nilN (enc := (fun s2 : (List D) => ([.fr u_rows, .ow s2, .no, .fr p_u_at.1, .fr p_u_at.2] : En))) (s := u_found) [true, true, false, true, true] rfl
            · exact s_nilN (enc := (fun s2 : (List D) => ([.fr u_rows, .ow s2, .no, .fr p_u_at.1, .fr p_u_at.2] : En))) (s := s1) [true, true, false, true, true] rfl
            · intro s2
              exact s_nilN (enc := (fun s1 : (List D) => ([.fr u_rows, .ow s1, .no, .no, .no] : En))) (s := s2) [true, true, false, false, false] rfl
        · intro s1
          exact s_retO (pv 1) rfl
theorem ok_branches {f : Addr} {fd : FuncData} (F : Fun K "branches" "branches" s_branches f fd) (T : Txt K mg) (C_homes : Cal P w K mg base "homes" ["rows"] 1 (spR (rO K) K [true] l_homes)) : FnOk P w K mg base CX0 2 f fd ["rows", "at"] (spR (rF K) K [true, true] l_branches) :=
  def_ok (R := rF K) (N := ["rows", "at", "found", "place", "home"]) F sc_branches rfl (by decide) fun cdv A outer s H E hr G n ds hds => match ds, hds with
    | [u_rows, u_at], _ => by
      have hu := hr.units
      show PSs _ _ (tS _ _ _ _ _ (m_branches n u_rows u_at))
      refine s_setO (T := D) (i := 2) zcQ ?_ ?_ ?_ ?_ ?_
      · exact ⟨sc_branches.nd, rfl, .inl rfl, Or.inl rfl⟩
      · exact (by decide : 2 < 5)
      · exact (x_lst (a_F (x_bin op_addD sm_add (x_FV (x_fr (pv 1) rfl)) (x_FV x_int)) a_nil))
      · intro u_found
        refine s_seqN (T := D) (enc := (fun s1 : (List D) => ([.fr u_rows, .fr u_at, .ow s1, .no, .no] : En))) zcQ ?_ ?_
        · refine p_forN2 (i := 3) (j := 4) (enc := (fun s1 : (List D) => ([.fr u_rows, .fr u_at, .ow s1, .no, .no] : En))) (s0 := u_found) [true, true, true, false, false] ?_ ?_ ?_ ?_ PassesOwn.never rfl ?_ ?_ ?_ (fun _ => rfl) rfl rfl rfl rfl
          · exact ⟨sc_branches.nd, rfl, .inl rfl, Or.inl rfl⟩
          · exact ⟨sc_branches.nd, rfl, .inl rfl, Or.inl rfl⟩
          · exact (fun _ => (by decide : 3 < 5))
          · exact (fun _ => (by decide : 4 < 5))
          · exact (i_enum (by rfl) T.b_enumerate (x_FW (lo := true) (x_OF (x_call C_homes n (hr.mono (by decide)) (by rfl) ww_O (a_F (x_fr (pv 0) rfl) a_nil)))))
          · exact rfl
          · intro p_u_place s1
            refine s_ifN (T := ((List D))) (enc := (fun s2 : (List D) => ([.fr u_rows, .fr u_at, .ow s2, .fr p_u_place.1, .fr p_u_place.2] : En))) zcN ?_ ?_ ?_ ?_
            · exact (y_pw (w_and (x_cmpT (op_eqA hu) sm_eq (nomark _) (x_FV (x_fr (pv 4) rfl)) (x_FV (x_fr (pv 1) rfl))) (w_and1 (x_cmpT (op_eqA hu) sm_eq (nomark _) (x_FV (x_ix (x_FV (x_ix (x_FV (x_fr (pv 0) rfl)) (x_FV (x_fr (pv 3) rfl)))) (x_FV x_int))) (x_FV x_str)))))
            · refine s_app (T := ((List D))) (i := 2) zcN ?_ ?_ ?_ ?_ ?_ ?_
              · exact (pv 2)
              · exact rfl
              · exact (x_bin op_addD sm_add (x_FV (x_fr (pv 3) rfl)) (x_FV x_int))
              · intro u_found
                exact s_nilN (enc := (fun s2 : (List D) => ([.fr u_rows, .fr u_at, .ow s2, .fr p_u_place.1, .fr p_u_place.2] : En))) (s := u_found) [true, true, true, true, true] rfl
              · exact (pe_bm PySem.F.plainAttrs_list PySem.F.slot_list_append PySem.F.type_list_append mt_append (pv 2) (pa_cons (x_bin op_addD sm_add (x_FV (x_fr (pv 3) rfl)) (x_FV x_int)) pa_nil))
              · exact rfl
            · exact s_nilN (enc := (fun s2 : (List D) => ([.fr u_rows, .fr u_at, .ow s2, .fr p_u_place.1, .fr p_u_place.2] : En))) (s := s1) [true, true, true, true, true] rfl
            · intro s2
              exact s_nilN (enc := (fun s1 : (List D) => ([.fr u_rows, .fr u_at, .ow s1, .no, .no] : En))) (s := s2) [true, true, true, false, false] rfl
        · intro s1
          refine s_frz (T := D) (i := 2) (ds := s1) zcQ ?_ ?_
          · exact rfl
          · refine s_retQ ww_F ?_
            · exact (x_fr (pv 2) rfl)
      · exact rfl
theorem ok_awake {f : Addr} {fd : FuncData} (F : Fun K "awake" "awake" s_awake f fd) (T : Txt K mg) (C_is_asleep : Cal P w K mg base "is_asleep" ["held", "word"] 1 (spR (rF K) K [true, true] l_is_asleep)) : FnOk P w K mg base CX0 2 f fd ["held"] (spR (rO K) K [true] l_awake) :=
  def_ok (R := rO K) (N := ["held", "found", "one"]) F sc_awake rfl (by decide) fun cdv A outer s H E hr G n ds hds => match ds, hds with
    | [u_held], _ => by
      have hu := hr.units
      show PSs _ _ (tS _ _ _ _ _ (m_awake n u_held))
      refine s_setO (T := (List D)) (i := 1) zcQ ?_ ?_ ?_ ?_ ?_
      · exact ⟨sc_awake.nd, rfl, .inl rfl, Or.inl rfl⟩
      · exact (by decide : 1 < 3)
      · exact (x_lst a_nil)
      · intro u_found
        refine s_seqN (T := (List D)) (enc := (fun s1 : (List D) => ([.fr u_held, .ow s1, .no] : En))) zcQ ?_ ?_
        · refine p_forN (i := 2) (enc := (fun s1 : (List D) => ([.fr u_held, .ow s1, .no] : En))) (s0 := u_found) [true, true, false] ?_ ?_ PassesOwn.never rfl ?_ ?_ ?_ (fun _ => rfl)
          · exact ⟨sc_awake.nd, rfl, .inl rfl, Or.inl rfl⟩
          · exact (fun _ => (by decide : 2 < 3))
          · exact (i_any (x_FW (lo := true) (x_fr (pv 0) rfl)))
          · exact rfl
          · intro u_one s1
            refine s_ifN (T := ((List D))) (enc := (fun s2 : (List D) => ([.fr u_held, .ow s2, .fr u_one] : En))) zcN ?_ ?_ ?_ ?_
            · exact (y_pw (w_and (x_cmpT (op_neA hu) sm_ne (nomark _) (x_FV (x_ix (x_FV (x_fr (pv 2) rfl)) (x_FV x_int))) (x_FV x_str)) (w_and (y_val (x_FV (x_ix (x_FV (x_fr (pv 2) rfl)) (x_FV x_int)))) (w_and1 (y_not (y_val (x_FV (x_call C_is_asleep n (hr.mono (by decide)) (by rfl) ww_F (a_F (x_fr (pv 0) rfl) (a_F (x_ix (x_FV (x_fr (pv 2) rfl)) (x_FV x_int)) a_nil))))))))))
            · refine s_app (T := ((List D))) (i := 1) zcN ?_ ?_ ?_ ?_ ?_ ?_
              · exact (pv 1)
              · exact rfl
              · exact (x_fr (pv 2) rfl)
              · intro u_found
                exact s_nilN (enc := (fun s2 : (List D) => ([.fr u_held, .ow s2, .fr u_one] : En))) (s := u_found) [true, true, true] rfl
              · exact (pe_bm PySem.F.plainAttrs_list PySem.F.slot_list_append PySem.F.type_list_append mt_append (pv 1) (pa_cons (x_fr (pv 2) rfl) pa_nil))
              · exact rfl
            · exact s_nilN (enc := (fun s2 : (List D) => ([.fr u_held, .ow s2, .fr u_one] : En))) (s := s1) [true, true, true] rfl
            · intro s2
              exact s_nilN (enc := (fun s1 : (List D) => ([.fr u_held, .ow s1, .no] : En))) (s := s2) [true, true, false] rfl
        · intro s1
          exact s_retO (pv 1) rfl
      · exact rfl
theorem ok_is_row {f : Addr} {fd : FuncData} (F : Fun K "is_row" "is_row" s_is_row f fd) (T : Txt K mg) (C_is_word : Cal P w K mg base "is_word" ["value"] 1 (spR (rF K) K [true] l_is_word)) (C_is_thing : Cal P w K mg base "is_thing" ["value"] 1 (spR (rF K) K [true] l_is_thing)) : FnOk P w K mg base CX0 2 f fd ["row"] (spR (rF K) K [true] l_is_row) :=
  def_ok (R := rF K) (N := ["row", "good", "thing"]) F sc_is_row rfl (by decide) fun cdv A outer s H E hr G n ds hds => match ds, hds with
    | [u_row], _ => by
      have hu := hr.units
      show PSs _ _ (tS _ _ _ _ _ (m_is_row n u_row))
      refine s_ifQ (α := D) ?_ ?_ ?_
      · exact (y_pw (w_or (y_not (y_isi of_tup (by rfl) T.b_isinstance (by rfl) T.b_tuple (by decide +kernel) (x_FV (x_fr (pv 0) rfl)))) (w_or (x_cmpT (op_eqA hu) sm_eq (nomark _) (x_FV (x_callB call_lenX sm_len (by rfl) T.b_len (by decide +kernel) (x_FV (x_fr (pv 0) rfl)))) (x_FV x_int)) (w_or1 (y_not (y_isi of_str (by rfl) T.b_isinstance (by rfl) T.b_str (by decide +kernel) (x_FV (x_ix (x_FV (x_fr (pv 0) rfl)) (x_FV x_int)))))))))
      · refine s_retQ ww_F ?_
        · exact x_bl
      · refine s_ifQ (α := D) ?_ ?_ ?_
        · exact (x_cmpT op_inX sm_in (by rfl) (x_FV (x_ix (x_FV (x_fr (pv 0) rfl)) (x_FV x_int))) (x_FV (x_tup (a_F x_str (a_F x_str (a_F x_str (a_F x_str a_nil)))))))
        · refine s_retQ ww_F ?_
          · exact (x_cmp (op_eqA hu) sm_eq (nomark _) (x_FV (x_callB call_lenX sm_len (by rfl) T.b_len (by decide +kernel) (x_FV (x_fr (pv 0) rfl)))) (x_FV x_int))
        · refine s_ifQ (α := D) ?_ ?_ ?_
          · exact (x_cmpT op_inX sm_in (by rfl) (x_FV (x_ix (x_FV (x_fr (pv 0) rfl)) (x_FV x_int))) (x_FV (x_tup (a_F x_str (a_F x_str (a_F x_str a_nil))))))
          · refine s_retQ ww_F ?_
            · exact (x_and (x_FV (x_cmp (op_eqA hu) sm_eq (nomark _) (x_FV (x_callB call_lenX sm_len (by rfl) T.b_len (by decide +kernel) (x_FV (x_fr (pv 0) rfl)))) (x_FV x_int))) (x_one (x_call C_is_word n (hr.mono (by decide)) (by rfl) ww_F (a_F (x_ix (x_FV (x_fr (pv 0) rfl)) (x_FV x_int)) a_nil))))
          · refine s_ifQ (α := D) ?_ ?_ ?_
            · exact (x_cmpT (op_eqA hu) sm_eq (nomark _) (x_FV (x_ix (x_FV (x_fr (pv 0) rfl)) (x_FV x_int))) (x_FV x_str))
            · refine s_set (T := D) (i := 1) zcQ ?_ ?_ ?_ ?_ ?_
              · exact ⟨sc_is_row.nd, rfl, .inl rfl, Or.inl rfl⟩
              · exact (by decide : 1 < 3)
              · exact (x_and (x_FV (x_cmp (op_eqA hu) sm_eq (nomark _) (x_FV (x_callB call_lenX sm_len (by rfl) T.b_len (by decide +kernel) (x_FV (x_fr (pv 0) rfl)))) (x_FV x_int))) (x_and (x_FV (x_call C_is_word n (hr.mono (by decide)) (by rfl) ww_F (a_F (x_ix (x_FV (x_fr (pv 0) rfl)) (x_FV x_int)) a_nil))) (x_and (x_FV (x_isi of_str (by rfl) T.b_isinstance (by rfl) T.b_str (by decide +kernel) (x_FV (x_ix (x_FV (x_fr (pv 0) rfl)) (x_FV x_int))))) (x_one (x_cmp op_inX sm_in (by rfl) (x_FV (x_ix (x_FV (x_fr (pv 0) rfl)) (x_FV x_int))) (x_FV (x_tup (a_F x_str (a_F x_str a_nil)))))))))
              · intro u_good
                refine s_retQ ww_F ?_
                · exact (x_and (x_FV (x_fr (pv 1) rfl)) (x_one (x_or (x_FV (x_call C_is_thing n (hr.mono (by decide)) (by rfl) ww_F (a_F (x_ix (x_FV (x_fr (pv 0) rfl)) (x_FV x_int)) a_nil))) (x_one (x_call C_is_word n (hr.mono (by decide)) (by rfl) ww_F (a_F (x_ix (x_FV (x_fr (pv 0) rfl)) (x_FV x_int)) a_nil))))))
              · exact rfl
            · refine s_ifQ (α := D) ?_ ?_ ?_
              · exact (y_pw (w_or (x_cmpT (op_neA hu) sm_ne (nomark _) (x_FV (x_ix (x_FV (x_fr (pv 0) rfl)) (x_FV x_int))) (x_FV x_str)) (w_or (x_cmpT (op_neA hu) sm_ne (nomark _) (x_FV (x_callB call_lenX sm_len (by rfl) T.b_len (by decide +kernel) (x_FV (x_fr (pv 0) rfl)))) (x_FV x_int)) (w_or (y_not (y_val (x_FV (x_call C_is_word n (hr.mono (by decide)) (by rfl) ww_F (a_F (x_ix (x_FV (x_fr (pv 0) rfl)) (x_FV x_int)) a_nil))))) (w_or1 (y_not (y_isi of_tup (by rfl) T.b_isinstance (by rfl) T.b_tuple (by decide +kernel) (x_FV (x_ix (x_FV (x_fr (pv 0) rfl)) (x_FV x_int))))))))))
              · refine s_retQ ww_F ?_
                · exact x_bl
              · refine s_retQ ww_F ?_
                · exact (x_and (x_FV (x_cmp op_lt sm_ord (nomark _) (x_FV x_int) (x_FV (x_callB call_lenX sm_len (by rfl) T.b_len (by decide +kernel) (x_FV (x_ix (x_FV (x_fr (pv 0) rfl)) (x_FV x_int))))))) (x_and (x_FV (x_cmp op_le sm_ord (nomark _) (x_FV (x_callB call_lenX sm_len (by rfl) T.b_len (by decide +kernel) (x_FV (x_ix (x_FV (x_fr (pv 0) rfl)) (x_FV x_int))))) (x_FV (x_cst T.c_MOST_THINGS (by rfl))))) (x_one (x_callB (cr_all rfl) sm_all (by rfl) T.b_all (by decide +kernel) (x_OV (x_lc1 (j := 2) rfl sc_is_row.nd (by decide : 2 < 3) (i_any (x_VW (x_FV (x_ix (x_FV (x_fr (pv 0) rfl)) (x_FV x_int))))) (blkOk_by (own := [("thing", 2)]) (N := ["row", "good", "thing"]) (sc := defScope s_is_row) (by decide +kernel)) (fun _ _ _ _ _ => pg_name (i := 2) sc_is_row.nd rfl (Or.inl rfl)) (fun _ _ _ _ _ u_thing => c_yes) (fun _ _ _ _ _ u_thing => (x_call C_is_thing n (hr.mono (by decide)) (by rfl) ww_F (a_F (x_fr (pv 2) rfl) a_nil)))))))))
theorem ok_checked_words {f : Addr} {fd : FuncData} (F : Fun K "checked_words" "checked_words" s_checked_words f fd) (T : Txt K mg) (C_kind_of : Cal P w K mg base "kind_of" ["opened", "word"] 1 (spR (rF K) K [false, true] l_kind_of)) : FnOk P w K mg base CX0 2 f fd ["at", "row", "opened"] (spR (rF K) K [true, true, false] l_checked_words) :=
  def_okN (mf := k_checked_words) (enc := fun _ : Unit => ([.no, .no, .no, .no] : En)) (N := ["at", "row", "opened", "kind"]) F sc_checked_words rfl (by decide) fun cdv A outer s H E hr G n ds hds => match ds, hds with
    | [u_at, u_row, u_opened], _ => by
      have hu := hr.units
      show PSs _ _ (tS _ _ _ _ _ (m_checked_words n u_at u_row u_opened))
      refine s_ifMM (α := D) (enc := (fun s1 : Unit => ([.fr u_at, .fr u_row, .vw u_opened, .no] : En))) ?_ ?_ ?_ ?_
      · exact (x_cmpT op_inX sm_in (by rfl) (x_FV (x_ix (x_FV (x_fr (pv 1) rfl)) (x_FV x_int))) (x_FV (x_tup (a_F x_str (a_F x_str (a_F x_str a_nil))))))
      · refine s_set (T := (Fl (Unit) D)) (i := 3) zcM ?_ ?_ ?_ ?_ ?_
        · exact ⟨sc_checked_words.nd, rfl, .inl rfl, Or.inl rfl⟩
        · exact (by decide : 3 < 4)
        · exact (x_call C_kind_of n (hr.mono (by decide)) (by rfl) ww_F (a_V (x_vw (pv 2) rfl) (a_F (x_ix (x_FV (x_fr (pv 1) rfl)) (x_FV x_int)) a_nil)))
        · intro u_kind
          refine s_ifQM (α := D) ?_ ?_ ?_
          · exact (y_pw (w_or (x_cmpT (op_eqA hu) sm_eq (nomark _) (x_FV (x_fr (pv 3) rfl)) (x_FV x_str)) (w_or1 (x_cmpT (op_eqA hu) sm_eq (nomark _) (x_FV (x_fr (pv 3) rfl)) (x_FV x_str)))))
          · exact s_never
          · refine s_ifQM (α := D) ?_ ?_ ?_
            · exact (y_pw (w_and (x_cmpT (op_eqA hu) sm_eq (nomark _) (x_FV (x_ix (x_FV (x_fr (pv 1) rfl)) (x_FV x_int))) (x_FV x_str)) (w_and1 (x_cmpT (op_eqA hu) sm_eq (nomark _) (x_FV (x_fr (pv 3) rfl)) (x_FV x_str)))))
            · exact s_never
            · exact s_nilM (enc := (fun s1 : Unit => ([.fr u_at, .fr u_row, .vw u_opened, .no] : En))) (s := ()) [true, true, true, false] rfl
        · exact rfl
      · exact s_nilM (enc := (fun s1 : Unit => ([.fr u_at, .fr u_row, .vw u_opened, .no] : En))) (s := ()) [true, true, true, false] rfl
      · intro s1
        refine s_ifQM (α := D) ?_ ?_ ?_
        · exact (y_pw (w_and (x_cmpT (op_eqA hu) sm_eq (nomark _) (x_FV (x_ix (x_FV (x_fr (pv 1) rfl)) (x_FV x_int))) (x_FV x_str)) (w_and (y_isi of_str (by rfl) T.b_isinstance (by rfl) T.b_str (by decide +kernel) (x_FV (x_ix (x_FV (x_fr (pv 1) rfl)) (x_FV x_int)))) (w_and1 (x_cmpT (op_eqA hu) sm_eq (nomark _) (x_FV (x_call C_kind_of n (hr.mono (by decide)) (by rfl) ww_F (a_V (x_vw (pv 2) rfl) (a_F (x_ix (x_FV (x_fr (pv 1) rfl)) (x_FV x_int)) a_nil)))) (x_FV x_str))))))
        · exact s_never
        · refine s_ifQM (α := D) ?_ ?_ ?_
          · exact (y_pw (w_and (x_cmpT op_inX sm_in (by rfl) (x_FV (x_ix (x_FV (x_fr (pv 1) rfl)) (x_FV x_int))) (x_FV (x_tup (a_F x_str (a_F x_str a_nil))))) (w_and1 (x_cmpT (op_neA hu) sm_ne (nomark _) (x_FV (x_call C_kind_of n (hr.mono (by decide)) (by rfl) ww_F (a_V (x_vw (pv 2) rfl) (a_F (x_ix (x_FV (x_fr (pv 1) rfl)) (x_FV x_int)) a_nil)))) (x_FV x_str)))))
          · exact s_never
          · refine s_ifQM (α := D) ?_ ?_ ?_
            · exact (y_pw (w_and (x_cmpT (op_eqA hu) sm_eq (nomark _) (x_FV (x_ix (x_FV (x_fr (pv 1) rfl)) (x_FV x_int))) (x_FV x_str)) (w_and (x_cmpT (op_eqA hu) sm_eq (nomark _) (x_FV (x_ix (x_FV (x_fr (pv 1) rfl)) (x_FV x_int))) (x_FV x_str)) (w_and (y_isi of_str (by rfl) T.b_isinstance (by rfl) T.b_str (by decide +kernel) (x_FV (x_ix (x_FV (x_fr (pv 1) rfl)) (x_FV x_int)))) (w_and1 (x_cmpT (op_eqA hu) sm_eq (nomark _) (x_FV (x_call C_kind_of n (hr.mono (by decide)) (by rfl) ww_F (a_V (x_vw (pv 2) rfl) (a_F (x_ix (x_FV (x_fr (pv 1) rfl)) (x_FV x_int)) a_nil)))) (x_FV x_str)))))))
            · exact s_never
            · exact s_nilM (enc := (fun s : Unit => ([.no, .no, .no, .no] : En))) (s := ()) [false, false, false, false] rfl
theorem ok_lent {f : Addr} {fd : FuncData} (F : Fun K "lent" "lent" s_lent f fd) (T : Txt K mg) (C_entry_of : Cal P w K mg base "entry_of" ["held", "word"] 1 (spR (rF K) K [true, true] l_entry_of)) : FnOk P w K mg base CX0 2 f fd ["held", "row"] (spR (rF K) K [true, true] l_lent) :=
  def_ok (R := rF K) (N := ["held", "row", "source", "holder"]) F sc_lent rfl (by decide) fun cdv A outer s H E hr G n ds hds => match ds, hds with
    | [u_held, u_row], _ => by
      have hu := hr.units
      show PSs _ _ (tS _ _ _ _ _ (m_lent n u_held u_row))
      refine s_set (T := D) (i := 2) zcQ ?_ ?_ ?_ ?_ ?_
      · exact ⟨sc_lent.nd, rfl, .inl rfl, Or.inl rfl⟩
      · exact (by decide : 2 < 4)
      · exact (x_ix (x_FV (x_fr (pv 1) rfl)) (x_FV x_int))
      · intro u_source
        refine s_ifQ (α := D) ?_ ?_ ?_
        · exact (y_isi of_int (by rfl) T.b_isinstance (by rfl) T.b_int (by decide +kernel) (x_FV (x_fr (pv 2) rfl)))
        · refine s_retQ ww_F ?_
          · exact (x_bin op_addD sm_add (x_FV (x_fr (pv 0) rfl)) (x_FV (x_tup (a_F (x_tup (a_F (x_ix (x_FV (x_fr (pv 1) rfl)) (x_FV x_int)) (a_F (x_ix (x_FV (x_fr (pv 1) rfl)) (x_FV x_int)) (a_F (x_fr (pv 2) rfl) (a_F x_str (a_F x_bl a_nil)))))) a_nil))))
        · refine s_set (T := D) (i := 3) zcQ ?_ ?_ ?_ ?_ ?_
          · exact ⟨sc_lent.nd, rfl, .inl rfl, Or.inl rfl⟩
          · exact (by decide : 3 < 4)
          · exact (x_call C_entry_of n (hr.mono (by decide)) (by rfl) ww_F (a_F (x_fr (pv 0) rfl) (a_F (x_fr (pv 2) rfl) a_nil)))
          · intro u_holder
            refine s_ifQ (α := D) ?_ ?_ ?_
            · exact (x_cmpT (op_eqA hu) sm_eq (nomark _) (x_FV (x_ix (x_FV (x_fr (pv 3) rfl)) (x_FV x_int))) (x_FV x_str))
            · refine s_retQ ww_F ?_
              · exact (x_bin op_addD sm_add (x_FV (x_fr (pv 0) rfl)) (x_FV (x_tup (a_F (x_tup (a_F (x_ix (x_FV (x_fr (pv 1) rfl)) (x_FV x_int)) (a_F (x_ix (x_FV (x_fr (pv 1) rfl)) (x_FV x_int)) (a_F (x_ix (x_FV (x_fr (pv 3) rfl)) (x_FV x_int)) (a_F x_str (a_F x_bl a_nil)))))) a_nil))))
            · refine s_retQ ww_F ?_
              · exact (x_bin op_addD sm_add (x_FV (x_fr (pv 0) rfl)) (x_FV (x_tup (a_F (x_tup (a_F (x_ix (x_FV (x_fr (pv 1) rfl)) (x_FV x_int)) (a_F (x_ix (x_FV (x_fr (pv 1) rfl)) (x_FV x_int)) (a_F (x_ix (x_FV (x_fr (pv 3) rfl)) (x_FV x_int)) (a_F (x_fr (pv 2) rfl) (a_F (x_ix (x_FV (x_fr (pv 3) rfl)) (x_FV x_int)) a_nil)))))) a_nil))))
          · exact rfl
      · exact rfl
theorem ok_law_draw {f : Addr} {fd : FuncData} (F : Fun K "_law_draw" "_law_draw" s_law_draw f fd) (T : Txt K mg) (C_law_cell_at : Cal P w K mg base "_law_cell_at" ["_law_script", "_law_k"] 1 (spR (rF K) K [true, true] l_law_cell_at)) : FnOk P w K mg base CX0 2 f fd ["_law_script"] (spR (rF K) K [true] l_law_draw) :=
  def_ok (R := rF K) (N := ["_law_script", "_law_base", "_law_style", "_law_size"]) F sc_law_draw rfl (by decide) fun cdv A outer s H E hr G n ds hds => match ds, hds with
    | [u_law_script], _ => by
      have hu := hr.units
      show PSs _ _ (tS _ _ _ _ _ (m_law_draw n u_law_script))
      refine s_set (T := D) (i := 1) zcQ ?_ ?_ ?_ ?_ ?_
      · exact ⟨sc_law_draw.nd, rfl, .inl rfl, Or.inl rfl⟩
      · exact (by decide : 1 < 4)
      · exact (x_bin op_mulD sm_mul (x_FV (x_bin op_mod sm_mod (x_FV (x_bin op_fdiv sm_fdiv (x_FV (x_call C_law_cell_at n (hr.mono (by decide)) (by rfl) ww_F (a_F (x_fr (pv 0) rfl) (a_F x_int a_nil)))) (x_FV x_int))) (x_FV (x_bin op_pow sm_pow (x_FV x_int) (x_FV x_int))))) (x_FV (x_bin op_mod sm_mod (x_FV (x_call C_law_cell_at n (hr.mono (by decide)) (by rfl) ww_F (a_F (x_fr (pv 0) rfl) (a_F x_int a_nil)))) (x_FV x_int))))
      · intro u_law_base
        refine s_set (T := D) (i := 2) zcQ ?_ ?_ ?_ ?_ ?_
        · exact ⟨sc_law_draw.nd, rfl, .inl rfl, Or.inl rfl⟩
        · exact (by decide : 2 < 4)
        · exact (x_bin op_fdiv sm_fdiv (x_FV (x_call C_law_cell_at n (hr.mono (by decide)) (by rfl) ww_F (a_F (x_fr (pv 0) rfl) (a_F x_int a_nil)))) (x_FV x_int))
        · intro u_law_style
          refine s_set (T := D) (i := 3) zcQ ?_ ?_ ?_ ?_ ?_
          · exact ⟨sc_law_draw.nd, rfl, .inl rfl, Or.inl rfl⟩
          · exact (by decide : 3 < 4)
          · exact (x_bin op_addD sm_add (x_FV x_int) (x_FV (x_bin op_mod sm_mod (x_FV (x_bin op_fdiv sm_fdiv (x_FV (x_fr (pv 2) rfl)) (x_FV x_int))) (x_FV x_int))))
          · intro u_law_size
            refine s_retQ ww_F ?_
            · exact (x_OF (x_lst (a_F (x_fr (pv 1) rfl) (a_F (x_bin op_mod sm_mod (x_FV (x_fr (pv 2) rfl)) (x_FV x_int)) (a_F (x_fr (pv 3) rfl) (a_F (x_bin op_mod sm_mod (x_FV (x_call C_law_cell_at n (hr.mono (by decide)) (by rfl) ww_F (a_F (x_fr (pv 0) rfl) (a_F x_int a_nil)))) (x_FV (x_fr (pv 3) rfl))) (a_F (x_bin op_mod sm_mod (x_FV (x_call C_law_cell_at n (hr.mono (by decide)) (by rfl) ww_F (a_F (x_fr (pv 0) rfl) (a_F x_int a_nil)))) (x_FV x_int)) a_nil)))))))
          · exact rfl
        · exact rfl
      · exact rfl
theorem ok_law_lend {f : Addr} {fd : FuncData} (F : Fun K "_law_lend" "_law_lend" s_law_lend f fd) (T : Txt K mg) (C_law_thing : Cal P w K mg base "_law_thing" ["_law_cell", "_law_base"] 1 (spR (rF K) K [true, true] l_law_thing)) (C_law_word : Cal P w K mg base "_law_word" ["_law_one", "_law_two", "_law_deep", "_law_draw_here"] 1 (spR (rF K) K [true, true, true, true] l_law_word)) : FnOk P w K mg base CX0 2 f fd ["_law_one", "_law_two", "_law_named", "_law_draw_here"] (spR (rF K) K [true, true, true, true] l_law_lend) :=
  def_ok (R := rF K) (N := ["_law_one", "_law_two", "_law_named", "_law_draw_here", "_law_kind", "_law_source", "_law_holder"]) F sc_law_lend rfl (by decide) fun cdv A outer s H E hr G n ds hds => match ds, hds with
    | [u_law_one, u_law_two, u_law_named, u_law_draw_here], _ => by
      have hu := hr.units
      show PSs _ _ (tS _ _ _ _ _ (m_law_lend n u_law_one u_law_two u_law_named u_law_draw_here))
      refine s_set (T := D) (i := 4) zcQ ?_ ?_ ?_ ?_ ?_
      · exact ⟨sc_law_lend.nd, rfl, .inl rfl, Or.inl rfl⟩
      · exact (by decide : 4 < 7)
      · exact (x_ix (x_OV (x_lst (a_F x_str (a_F x_str a_nil)))) (x_FV (x_bin op_mod sm_mod (x_FV (x_fr (pv 0) rfl)) (x_FV x_int))))
      · intro u_law_kind
        refine s_set (T := D) (i := 5) zcQ ?_ ?_ ?_ ?_ ?_
        · exact ⟨sc_law_lend.nd, rfl, .inl rfl, Or.inl rfl⟩
        · exact (by decide : 5 < 7)
        · exact (x_call C_law_thing n (hr.mono (by decide)) (by rfl) ww_F (a_F (x_fr (pv 1) rfl) (a_F (x_ix (x_FV (x_fr (pv 3) rfl)) (x_FV x_int)) a_nil)))
        · intro u_law_source
          refine s_ifN (T := D) (enc := (fun s1 : D × D => ([.fr u_law_one, .fr u_law_two, .fr u_law_named, .fr u_law_draw_here, .fr s1.1, .fr s1.2, .no] : En))) zcQ ?_ ?_ ?_ ?_
          · exact (y_pw (w_and (x_cmpT (op_eqA hu) sm_eq (nomark _) (x_FV (x_bin op_mod sm_mod (x_FV (x_bin op_fdiv sm_fdiv (x_FV (x_fr (pv 0) rfl)) (x_FV x_int))) (x_FV x_int))) (x_FV x_int)) (w_and1 (x_cmpT op_gt sm_ord (nomark _) (x_FV (x_callB call_lenX sm_len (by rfl) T.b_len (by decide +kernel) (x_FV (x_fr (pv 2) rfl)))) (x_FV x_int)))))
          · refine s_set (T := (D × D)) (i := 6) zcN ?_ ?_ ?_ ?_ ?_
            · exact ⟨sc_law_lend.nd, rfl, .inl rfl, Or.inl rfl⟩
            · exact (by decide : 6 < 7)
            · exact (x_ix (x_FV (x_fr (pv 2) rfl)) (x_FV (x_bin op_mod sm_mod (x_FV (x_fr (pv 1) rfl)) (x_FV (x_callB call_lenX sm_len (by rfl) T.b_len (by decide +kernel) (x_FV (x_fr (pv 2) rfl)))))))
            · intro u_law_holder
              refine s_set (T := (D × D)) (i := 5) zcN ?_ ?_ ?_ ?_ ?_
              · exact ⟨sc_law_lend.nd, rfl, .inl rfl, Or.inl rfl⟩
              · exact (by decide : 5 < 7)
              · exact (x_ix (x_FV (x_fr (pv 6) rfl)) (x_FV x_int))
              · intro u_law_source
                refine s_ifN (T := (D × D)) (enc := (fun s2 : D => ([.fr u_law_one, .fr u_law_two, .fr u_law_named, .fr u_law_draw_here, .fr s2, .fr u_law_source, .fr u_law_holder] : En))) zcN ?_ ?_ ?_ ?_
                · exact (y_pw (w_and (x_cmpT (op_eqA hu) sm_eq (nomark _) (x_FV (x_ix (x_FV (x_fr (pv 6) rfl)) (x_FV x_int))) (x_FV x_str)) (w_and1 (x_cmpT (op_eqA hu) sm_eq (nomark _) (x_FV (x_ix (x_FV (x_fr (pv 6) rfl)) (x_FV x_int))) (x_FV x_str)))))
                · refine s_set (T := (D)) (i := 4) zcN ?_ ?_ ?_ ?_ ?_
                  · exact ⟨sc_law_lend.nd, rfl, .inl rfl, Or.inl rfl⟩
                  · exact (by decide : 4 < 7)
                  · exact x_str
                  · intro u_law_kind
                    exact s_nilN (enc := (fun s2 : D => ([.fr u_law_one, .fr u_law_two, .fr u_law_named, .fr u_law_draw_here, .fr s2, .fr u_law_source, .fr u_law_holder] : En))) (s := u_law_kind) [true, true, true, true, true, true, true] rfl
                  · exact rfl
                · exact s_nilN (enc := (fun s2 : D => ([.fr u_law_one, .fr u_law_two, .fr u_law_named, .fr u_law_draw_here, .fr s2, .fr u_law_source, .fr u_law_holder] : En))) (s := u_law_kind) [true, true, true, true, true, true, true] rfl
                · intro s2
                  exact s_nilN (enc := (fun s1 : D × D => ([.fr u_law_one, .fr u_law_two, .fr u_law_named, .fr u_law_draw_here, .fr s1.1, .fr s1.2, .no] : En))) (s := (s2, u_law_source)) [true, true, true, true, true, true, false] rfl
              · exact rfl
            · exact rfl
          · exact s_nilN (enc := (fun s1 : D × D => ([.fr u_law_one, .fr u_law_two, .fr u_law_named, .fr u_law_draw_here, .fr s1.1, .fr s1.2, .no] : En))) (s := (u_law_kind, u_law_source)) [true, true, true, true, true, true, false] rfl
          · intro s1
            refine s_retQ ww_F ?_
            · exact (x_tup (a_F x_str (a_F (x_call C_law_word n (hr.mono (by decide)) (by rfl) ww_F (a_F (x_fr (pv 0) rfl) (a_F (x_fr (pv 1) rfl) (a_F (x_callB call_lenX sm_len (by rfl) T.b_len (by decide +kernel) (x_FV (x_fr (pv 2) rfl))) (a_F (x_fr (pv 3) rfl) a_nil))))) (a_F (x_fr (pv 4) rfl) (a_F (x_fr (pv 5) rfl) a_nil)))))
        · exact rfl
      · exact rfl
theorem ok_law_hands {f : Addr} {fd : FuncData} (F : Fun K "_law_hands" "_law_hands" s_law_hands f fd) (T : Txt K mg) (C_law_word : Cal P w K mg base "_law_word" ["_law_one", "_law_two", "_law_deep", "_law_draw_here"] 1 (spR (rF K) K [true, true, true, true] l_law_word)) : FnOk P w K mg base CX0 2 f fd ["_law_one", "_law_two", "_law_deep", "_law_draw_here"] (spR (rF K) K [true, true, true, true] l_law_hands) :=
  def_ok (R := rF K) (N := ["_law_one", "_law_two", "_law_deep", "_law_draw_here", "_law_found"]) F sc_law_hands rfl (by decide) fun cdv A outer s H E hr G n ds hds => match ds, hds with
    | [u_law_one, u_law_two, u_law_deep, u_law_draw_here], _ => by
      have hu := hr.units
      show PSs _ _ (tS _ _ _ _ _ (m_law_hands n u_law_one u_law_two u_law_deep u_law_draw_here))
      refine s_set (T := D) (i := 4) zcQ ?_ ?_ ?_ ?_ ?_
      · exact ⟨sc_law_hands.nd, rfl, .inl rfl, Or.inl rfl⟩
      · exact (by decide : 4 < 5)
      · exact (x_OF (x_lst (a_F (x_call C_law_word n (hr.mono (by decide)) (by rfl) ww_F (a_F (x_fr (pv 0) rfl) (a_F (x_fr (pv 1) rfl) (a_F (x_fr (pv 2) rfl) (a_F (x_fr (pv 3) rfl) a_nil))))) (a_F (x_call C_law_word n (hr.mono (by decide)) (by rfl) ww_F (a_F (x_fr (pv 1) rfl) (a_F (x_fr (pv 0) rfl) (a_F (x_bin op_addD sm_add (x_FV (x_fr (pv 2) rfl)) (x_FV x_int)) (a_F (x_fr (pv 3) rfl) a_nil))))) a_nil))))
      · intro u_law_found
        refine s_retQ ww_F ?_
        · exact (x_bin op_addD sm_add (x_FV (x_fr (pv 4) rfl)) (x_OV (x_lst (a_F (x_call C_law_word n (hr.mono (by decide)) (by rfl) ww_F (a_F (x_fr (pv 0) rfl) (a_F (x_fr (pv 0) rfl) (a_F (x_bin op_addD sm_add (x_FV (x_fr (pv 2) rfl)) (x_FV x_int)) (a_F (x_fr (pv 3) rfl) a_nil))))) a_nil))))
      · exact rfl
theorem ok_law_step {f : Addr} {fd : FuncData} (F : Fun K "_law_step" "_law_step" s_law_step f fd) (T : Txt K mg) (C_law_lent : Cal P w K mg base "_law_lent" ["_law_held", "_law_row_here"] 1 (spR (rF K) K [true, true] l_law_lent)) (C_law_back : Cal P w K mg base "_law_back" ["_law_held", "_law_word_here"] 1 (spR (rF K) K [true, true] l_law_back)) (C_law_starts : Cal P w K mg base "_law_starts" ["_law_rows", "_law_home", "_law_at"] 1 (spR (rF K) K [true, true, true] l_law_starts)) (C_law_last : Cal P w K mg base "_law_last" ["_law_rows", "_law_home", "_law_at"] 1 (spR (rF K) K [true, true, true] l_law_last)) : FnOk P w K mg base CX0 2 f fd ["_law_rows", "_law_home", "_law_standing", "_law_choice"] (spR (rF K) K [true, true, true, true] l_law_step) :=
  def_ok (R := rF K) (N := ["_law_rows", "_law_home", "_law_standing", "_law_choice", "_law_at", "_law_held", "_law_word_here", "_law_things", "_law_starts_here"]) F sc_law_step rfl (by decide) fun cdv A outer s H E hr G n ds hds => match ds, hds with
    | [u_law_rows, u_law_home, u_law_standing, u_law_choice], _ => by
      have hu := hr.units
      show PSs _ _ (tS _ _ _ _ _ (m_law_step n u_law_rows u_law_home u_law_standing u_law_choice))
      refine s_set (T := D) (i := 4) zcQ ?_ ?_ ?_ ?_ ?_
      · exact ⟨sc_law_step.nd, rfl, .inl rfl, Or.inl rfl⟩
      · exact (by decide : 4 < 9)
      · exact (x_ix (x_FV (x_fr (pv 2) rfl)) (x_FV x_int))
      · intro u_law_at
        refine s_set (T := D) (i := 5) zcQ ?_ ?_ ?_ ?_ ?_
        · exact ⟨sc_law_step.nd, rfl, .inl rfl, Or.inl rfl⟩
        · exact (by decide : 5 < 9)
        · exact (x_ix (x_FV (x_fr (pv 2) rfl)) (x_FV x_int))
        · intro u_law_held
          refine s_set (T := D) (i := 6) zcQ ?_ ?_ ?_ ?_ ?_
          · exact ⟨sc_law_step.nd, rfl, .inl rfl, Or.inl rfl⟩
          · exact (by decide : 6 < 9)
          · exact (x_ix (x_FV (x_ix (x_FV (x_fr (pv 0) rfl)) (x_FV (x_fr (pv 4) rfl)))) (x_FV x_int))
          · intro u_law_word_here
            refine s_ifN (T := D) (enc := (fun s1 : D => ([.fr u_law_rows, .fr u_law_home, .fr u_law_standing, .fr u_law_choice, .fr u_law_at, .fr s1, .fr u_law_word_here, .no, .no] : En))) zcQ ?_ ?_ ?_ ?_
            · exact (x_cmpT (op_eqA hu) sm_eq (nomark _) (x_FV (x_fr (pv 6) rfl)) (x_FV x_str))
            · refine s_set (T := (D)) (i := 5) zcN ?_ ?_ ?_ ?_ ?_
              · exact ⟨sc_law_step.nd, rfl, .inl rfl, Or.inl rfl⟩
              · exact (by decide : 5 < 9)
              · exact (x_call C_law_lent n (hr.mono (by decide)) (by rfl) ww_F (a_F (x_fr (pv 5) rfl) (a_F (x_ix (x_FV (x_fr (pv 0) rfl)) (x_FV (x_fr (pv 4) rfl))) a_nil)))
              · intro u_law_held
                exact s_nilN (enc := (fun s1 : D => ([.fr u_law_rows, .fr u_law_home, .fr u_law_standing, .fr u_law_choice, .fr u_law_at, .fr s1, .fr u_law_word_here, .no, .no] : En))) (s := u_law_held) [true, true, true, true, true, true, true, false, false] rfl
              · exact rfl
            · exact s_nilN (enc := (fun s1 : D => ([.fr u_law_rows, .fr u_law_home, .fr u_law_standing, .fr u_law_choice, .fr u_law_at, .fr s1, .fr u_law_word_here, .no, .no] : En))) (s := u_law_held) [true, true, true, true, true, true, true, false, false] rfl
            · intro s1
              refine s_ifN (T := D) (enc := (fun s2 : D => ([.fr u_law_rows, .fr u_law_home, .fr u_law_standing, .fr u_law_choice, .fr u_law_at, .fr s2, .fr u_law_word_here, .no, .no] : En))) zcQ ?_ ?_ ?_ ?_
              · exact (x_cmpT (op_eqA hu) sm_eq (nomark _) (x_FV (x_fr (pv 6) rfl)) (x_FV x_str))
              · refine s_set (T := (D)) (i := 7) zcN ?_ ?_ ?_ ?_ ?_
                · exact ⟨sc_law_step.nd, rfl, .inl rfl, Or.inl rfl⟩
                · exact (by decide : 7 < 9)
                · exact (x_ix (x_FV (x_ix (x_FV (x_fr (pv 0) rfl)) (x_FV (x_fr (pv 4) rfl)))) (x_FV x_int))
                · intro u_law_things
                  refine s_set (T := (D)) (i := 5) zcN ?_ ?_ ?_ ?_ ?_
                  · exact ⟨sc_law_step.nd, rfl, .inl rfl, Or.inl rfl⟩
                  · exact (by decide : 5 < 9)
                  · exact (x_bin op_addD sm_add (x_FV (x_fr (pv 5) rfl)) (x_FV (x_tup (a_F (x_tup (a_F (x_ix (x_FV (x_ix (x_FV (x_fr (pv 0) rfl)) (x_FV (x_fr (pv 4) rfl)))) (x_FV x_int)) (a_F x_str (a_F (x_ix (x_FV (x_fr (pv 7) rfl)) (x_FV (x_bin op_mod sm_mod (x_FV (x_fr (pv 3) rfl)) (x_FV (x_callB call_lenX sm_len (by rfl) T.b_len (by decide +kernel) (x_FV (x_fr (pv 7) rfl))))))) (a_F x_str (a_F x_bl a_nil)))))) a_nil))))
                  · intro u_law_held
                    exact s_nilN (enc := (fun s2 : D => ([.fr u_law_rows, .fr u_law_home, .fr u_law_standing, .fr u_law_choice, .fr u_law_at, .fr s2, .fr u_law_word_here, .no, .no] : En))) (s := u_law_held) [true, true, true, true, true, true, true, false, false] rfl
                  · exact rfl
                · exact rfl
              · exact s_nilN (enc := (fun s2 : D => ([.fr u_law_rows, .fr u_law_home, .fr u_law_standing, .fr u_law_choice, .fr u_law_at, .fr s2, .fr u_law_word_here, .no, .no] : En))) (s := s1) [true, true, true, true, true, true, true, false, false] rfl
              · intro s2
                refine s_ifN (T := D) (enc := (fun s3 : D => ([.fr u_law_rows, .fr u_law_home, .fr u_law_standing, .fr u_law_choice, .fr u_law_at, .fr s3, .fr u_law_word_here, .no, .no] : En))) zcQ ?_ ?_ ?_ ?_
                · exact (x_cmpT (op_eqA hu) sm_eq (nomark _) (x_FV (x_fr (pv 6) rfl)) (x_FV x_str))
                · refine s_set (T := (D)) (i := 5) zcN ?_ ?_ ?_ ?_ ?_
                  · exact ⟨sc_law_step.nd, rfl, .inl rfl, Or.inl rfl⟩
                  · exact (by decide : 5 < 9)
                  · exact (x_call C_law_back n (hr.mono (by decide)) (by rfl) ww_F (a_F (x_fr (pv 5) rfl) (a_F (x_ix (x_FV (x_ix (x_FV (x_fr (pv 0) rfl)) (x_FV (x_fr (pv 4) rfl)))) (x_FV x_int)) a_nil)))
                  · intro u_law_held
                    exact s_nilN (enc := (fun s3 : D => ([.fr u_law_rows, .fr u_law_home, .fr u_law_standing, .fr u_law_choice, .fr u_law_at, .fr s3, .fr u_law_word_here, .no, .no] : En))) (s := u_law_held) [true, true, true, true, true, true, true, false, false] rfl
                  · exact rfl
                · exact s_nilN (enc := (fun s3 : D => ([.fr u_law_rows, .fr u_law_home, .fr u_law_standing, .fr u_law_choice, .fr u_law_at, .fr s3, .fr u_law_word_here, .no, .no] : En))) (s := s2) [true, true, true, true, true, true, true, false, false] rfl
                · intro s3
                  refine s_ifQ (α := D) ?_ ?_ ?_
                  · exact (x_cmpT (op_eqA hu) sm_eq (nomark _) (x_FV (x_fr (pv 6) rfl)) (x_FV x_str))
                  · refine s_set (T := D) (i := 8) zcQ ?_ ?_ ?_ ?_ ?_
                    · exact ⟨sc_law_step.nd, rfl, .inl rfl, Or.inl rfl⟩
                    · exact (by decide : 8 < 9)
                    · exact (x_call C_law_starts n (hr.mono (by decide)) (by rfl) ww_F (a_F (x_fr (pv 0) rfl) (a_F (x_fr (pv 1) rfl) (a_F (x_fr (pv 4) rfl) a_nil))))
                    · intro u_law_starts_here
                      refine s_retQ ww_F ?_
                      · exact (x_tup (a_F (x_ix (x_FV (x_fr (pv 8) rfl)) (x_FV (x_bin op_mod sm_mod (x_FV (x_fr (pv 3) rfl)) (x_FV (x_callB call_lenX sm_len (by rfl) T.b_len (by decide +kernel) (x_FV (x_fr (pv 8) rfl))))))) (a_F (x_fr (pv 5) rfl) a_nil)))
                    · exact rfl
                  · refine s_ifQ (α := D) ?_ ?_ ?_
                    · exact (x_cmpT (op_eqA hu) sm_eq (nomark _) (x_FV (x_fr (pv 6) rfl)) (x_FV x_str))
                    · refine s_retQ ww_F ?_
                      · exact (x_tup (a_F (x_call C_law_last n (hr.mono (by decide)) (by rfl) ww_F (a_F (x_fr (pv 0) rfl) (a_F (x_fr (pv 1) rfl) (a_F (x_ix (x_FV (x_fr (pv 1) rfl)) (x_FV (x_fr (pv 4) rfl))) a_nil)))) (a_F (x_fr (pv 5) rfl) a_nil)))
                    · refine s_ifQ (α := D) ?_ ?_ ?_
                      · exact (y_pw (w_and (x_cmpT (op_eqA hu) sm_eq (nomark _) (x_FV (x_fr (pv 6) rfl)) (x_FV x_str)) (w_and1 (x_cmpT (op_eqA hu) sm_eq (nomark _) (x_FV (x_bin op_mod sm_mod (x_FV (x_fr (pv 3) rfl)) (x_FV x_int))) (x_FV x_int)))))
                      · refine s_retQ ww_F ?_
                        · exact (x_tup (a_F (x_bin op_addD sm_add (x_FV (x_call C_law_last n (hr.mono (by decide)) (by rfl) ww_F (a_F (x_fr (pv 0) rfl) (a_F (x_fr (pv 1) rfl) (a_F (x_fr (pv 4) rfl) a_nil))))) (x_FV x_int)) (a_F (x_fr (pv 5) rfl) a_nil)))
                      · refine s_ifQ (α := D) ?_ ?_ ?_
                        · exact (y_pw (w_and (x_cmpT (op_eqA hu) sm_eq (nomark _) (x_FV (x_fr (pv 6) rfl)) (x_FV x_str)) (w_and1 (x_cmpT (op_eqA hu) sm_eq (nomark _) (x_FV (x_ix (x_FV (x_ix (x_FV (x_fr (pv 0) rfl)) (x_FV (x_ix (x_FV (x_fr (pv 1) rfl)) (x_FV (x_fr (pv 4) rfl)))))) (x_FV x_int))) (x_FV x_str)))))
                        · refine s_retQ ww_F ?_
                          · exact (x_tup (a_F (x_ix (x_FV (x_fr (pv 1) rfl)) (x_FV (x_fr (pv 4) rfl))) (a_F (x_fr (pv 5) rfl) a_nil)))
                        · refine s_ifN (T := D) (enc := (fun s4 : D => ([.fr u_law_rows, .fr u_law_home, .fr u_law_standing, .fr u_law_choice, .fr u_law_at, .fr s4, .fr u_law_word_here, .no, .no] : En))) zcQ ?_ ?_ ?_ ?_
                          · exact (y_pw (w_and (x_cmpT (op_eqA hu) sm_eq (nomark _) (x_FV (x_fr (pv 6) rfl)) (x_FV x_str)) (w_and1 (x_cmpT (op_neA hu) sm_ne (nomark _) (x_FV (x_ix (x_FV (x_ix (x_FV (x_fr (pv 0) rfl)) (x_FV (x_ix (x_FV (x_fr (pv 1) rfl)) (x_FV (x_fr (pv 4) rfl)))))) (x_FV x_int))) (x_FV x_str)))))
                          · refine s_set (T := (D)) (i := 5) zcN ?_ ?_ ?_ ?_ ?_
                            · exact ⟨sc_law_step.nd, rfl, .inl rfl, Or.inl rfl⟩
                            · exact (by decide : 5 < 9)
                            · exact (x_slc (x_FV (x_fr (pv 5) rfl)) p_none (p_some (x_FV (x_neg (x_FV x_int)))))
                            · intro u_law_held
                              exact s_nilN (enc := (fun s4 : D => ([.fr u_law_rows, .fr u_law_home, .fr u_law_standing, .fr u_law_choice, .fr u_law_at, .fr s4, .fr u_law_word_here, .no, .no] : En))) (s := u_law_held) [true, true, true, true, true, true, true, false, false] rfl
                            · exact rfl
                          · exact s_nilN (enc := (fun s4 : D => ([.fr u_law_rows, .fr u_law_home, .fr u_law_standing, .fr u_law_choice, .fr u_law_at, .fr s4, .fr u_law_word_here, .no, .no] : En))) (s := s3) [true, true, true, true, true, true, true, false, false] rfl
                          · intro s4
                            refine s_retQ ww_F ?_
                            · exact (x_tup (a_F (x_bin op_addD sm_add (x_FV (x_fr (pv 4) rfl)) (x_FV x_int)) (a_F (x_fr (pv 5) rfl) a_nil)))
          · exact rfl
        · exact rfl
      · exact rfl
theorem ok_law_fault {f : Addr} {fd : FuncData} (F : Fun K "_law_fault" "_law_fault" s_law_fault f fd) (T : Txt K mg) (C_law_awake : Cal P w K mg base "_law_awake" ["_law_held"] 1 (spR (rF K) K [true] l_law_awake)) : FnOk P w K mg base CX0 2 f fd ["_law_row_here", "_law_held"] (spR (rF K) K [true, true] l_law_fault) :=
  def_ok (R := rF K) (N := ["_law_row_here", "_law_held", "_law_loans", "_law_place", "_law_one", "_law_other", "_law_hand"]) F sc_law_fault rfl (by decide) fun cdv A outer s H E hr G n ds hds => match ds, hds with
    | [u_law_row_here, u_law_held], _ => by
      have hu := hr.units
      show PSs _ _ (tS _ _ _ _ _ (m_law_fault n u_law_row_here u_law_held))
      refine s_set (T := D) (i := 2) zcQ ?_ ?_ ?_ ?_ ?_
      · exact ⟨sc_law_fault.nd, rfl, .inl rfl, Or.inl rfl⟩
      · exact (by decide : 2 < 7)
      · exact (x_call C_law_awake n (hr.mono (by decide)) (by rfl) ww_F (a_F (x_fr (pv 1) rfl) a_nil))
      · intro u_law_loans
        refine s_seqQ (α := D) (enc := (fun s1 : Unit => ([.fr u_law_row_here, .fr u_law_held, .fr u_law_loans, .no, .no, .no, .no] : En))) ?_ ?_
        · refine p_for2 (i := 3) (j := 4) (enc := (fun s1 : Unit => ([.fr u_law_row_here, .fr u_law_held, .fr u_law_loans, .no, .no, .no, .no] : En))) (s0 := ()) [true, true, true, false, false, false, false] ?_ ?_ ?_ ?_ PassesOwn.never rfl ?_ ?_ ?_ (fun _ => rfl) rfl rfl rfl rfl
          · exact ⟨sc_law_fault.nd, rfl, .inl rfl, Or.inl rfl⟩
          · exact ⟨sc_law_fault.nd, rfl, .inl rfl, Or.inl rfl⟩
          · exact (fun _ => (by decide : 3 < 7))
          · exact (fun _ => (by decide : 4 < 7))
          · exact (i_enum (by rfl) T.b_enumerate (x_FW (lo := true) (x_fr (pv 2) rfl)))
          · exact rfl
          · intro p_u_law_place s1
            refine s_seqM (α := D) (enc := (fun s2 : Unit => ([.fr u_law_row_here, .fr u_law_held, .fr u_law_loans, .fr p_u_law_place.1, .fr p_u_law_place.2, .no, .no] : En))) ?_ ?_
            · refine p_for (i := 5) (enc := (fun s2 : Unit => ([.fr u_law_row_here, .fr u_law_held, .fr u_law_loans, .fr p_u_law_place.1, .fr p_u_law_place.2, .no, .no] : En))) (s0 := ()) [true, true, true, true, true, false, false] ?_ ?_ PassesOwn.never rfl ?_ ?_ ?_ (fun _ => rfl)
              · exact ⟨sc_law_fault.nd, rfl, .inl rfl, Or.inl rfl⟩
              · exact (fun _ => (by decide : 5 < 7))
              · exact (i_any (x_FW (lo := true) (x_slc (x_FV (x_fr (pv 2) rfl)) p_none (p_some (x_FV (x_fr (pv 3) rfl))))))
              · exact rfl
              · intro u_law_other s2
                refine s_ifQM (α := D) ?_ ?_ ?_
                · exact (y_pw (w_and (x_cmpT (op_eqA hu) sm_eq (nomark _) (x_FV (x_ix (x_FV (x_fr (pv 4) rfl)) (x_FV x_int))) (x_FV (x_ix (x_FV (x_fr (pv 5) rfl)) (x_FV x_int)))) (w_and1 (x_cmpT op_inX sm_in (by rfl) (x_FV x_str) (x_OV (x_lst (a_F (x_ix (x_FV (x_fr (pv 4) rfl)) (x_FV x_int)) (a_F (x_ix (x_FV (x_fr (pv 5) rfl)) (x_FV x_int)) a_nil))))))))
                · refine s_retQ ww_F ?_
                  · exact x_str
                · exact s_nilM (enc := (fun s2 : Unit => ([.fr u_law_row_here, .fr u_law_held, .fr u_law_loans, .fr p_u_law_place.1, .fr p_u_law_place.2, .no, .no] : En))) (s := ()) [true, true, true, true, true, false, false] rfl
            · intro s2
              exact s_nilM (enc := (fun s1 : Unit => ([.fr u_law_row_here, .fr u_law_held, .fr u_law_loans, .no, .no, .no, .no] : En))) (s := ()) [true, true, true, false, false, false, false] rfl
        · intro s1
          refine s_set (T := D) (i := 6) zcQ ?_ ?_ ?_ ?_ ?_
          · exact ⟨sc_law_fault.nd, rfl, .inl rfl, Or.inl rfl⟩
          · exact (by decide : 6 < 7)
          · exact x_str
          · intro u_law_hand
            refine s_ifN (T := D) (enc := (fun s3 : D => ([.fr u_law_row_here, .fr u_law_held, .fr u_law_loans, .no, .no, .no, .fr s3] : En))) zcQ ?_ ?_ ?_ ?_
            · exact (x_cmpT op_inX sm_in (by rfl) (x_FV (x_ix (x_FV (x_fr (pv 0) rfl)) (x_FV x_int))) (x_OV (x_lst (a_F x_str (a_F x_str a_nil)))))
            · refine s_set (T := (D)) (i := 6) zcN ?_ ?_ ?_ ?_ ?_
              · exact ⟨sc_law_fault.nd, rfl, .inl rfl, Or.inl rfl⟩
              · exact (by decide : 6 < 7)
              · exact (x_ix (x_FV (x_fr (pv 0) rfl)) (x_FV x_int))
              · intro u_law_hand
                exact s_nilN (enc := (fun s3 : D => ([.fr u_law_row_here, .fr u_law_held, .fr u_law_loans, .no, .no, .no, .fr s3] : En))) (s := u_law_hand) [true, true, true, false, false, false, true] rfl
              · exact rfl
            · exact s_nilN (enc := (fun s3 : D => ([.fr u_law_row_here, .fr u_law_held, .fr u_law_loans, .no, .no, .no, .fr s3] : En))) (s := u_law_hand) [true, true, true, false, false, false, true] rfl
            · intro s3
              refine s_ifN (T := D) (enc := (fun s4 : D => ([.fr u_law_row_here, .fr u_law_held, .fr u_law_loans, .no, .no, .no, .fr s4] : En))) zcQ ?_ ?_ ?_ ?_
              · exact (y_pw (w_and (x_cmpT (op_eqA hu) sm_eq (nomark _) (x_FV (x_ix (x_FV (x_fr (pv 0) rfl)) (x_FV x_int))) (x_FV x_str)) (w_and1 (y_isi of_str (by rfl) T.b_isinstance (by rfl) T.b_str (by decide +kernel) (x_FV (x_ix (x_FV (x_fr (pv 0) rfl)) (x_FV x_int)))))))
              · refine s_set (T := (D)) (i := 6) zcN ?_ ?_ ?_ ?_ ?_
                · exact ⟨sc_law_fault.nd, rfl, .inl rfl, Or.inl rfl⟩
                · exact (by decide : 6 < 7)
                · exact (x_ix (x_FV (x_fr (pv 0) rfl)) (x_FV x_int))
                · intro u_law_hand
                  exact s_nilN (enc := (fun s4 : D => ([.fr u_law_row_here, .fr u_law_held, .fr u_law_loans, .no, .no, .no, .fr s4] : En))) (s := u_law_hand) [true, true, true, false, false, false, true] rfl
                · exact rfl
              · exact s_nilN (enc := (fun s4 : D => ([.fr u_law_row_here, .fr u_law_held, .fr u_law_loans, .no, .no, .no, .fr s4] : En))) (s := s3) [true, true, true, false, false, false, true] rfl
              · intro s4
                refine s_seqQ (α := D) (enc := (fun s5 : Unit => ([.fr u_law_row_here, .fr u_law_held, .fr u_law_loans, .no, .no, .no, .fr s4] : En))) ?_ ?_
                · refine p_for (i := 4) (enc := (fun s5 : Unit => ([.fr u_law_row_here, .fr u_law_held, .fr u_law_loans, .no, .no, .no, .fr s4] : En))) (s0 := ()) [true, true, true, false, false, false, true] ?_ ?_ PassesOwn.never rfl ?_ ?_ ?_ (fun _ => rfl)
                  · exact ⟨sc_law_fault.nd, rfl, .inl rfl, Or.inl rfl⟩
                  · exact (fun _ => (by decide : 4 < 7))
                  · exact (i_any (x_FW (lo := true) (x_fr (pv 1) rfl)))
                  · exact rfl
                  · intro u_law_one s5
                    refine s_ifQM (α := D) ?_ ?_ ?_
                    · exact (y_pw (w_and (x_cmpT (op_eqA hu) sm_eq (nomark _) (x_FV (x_ix (x_FV (x_fr (pv 4) rfl)) (x_FV x_int))) (x_FV (x_fr (pv 6) rfl))) (w_and1 (y_not (y_val (x_FV (x_ix (x_FV (x_fr (pv 4) rfl)) (x_FV x_int))))))))
                    · refine s_retQ ww_F ?_
                      · exact x_str
                    · exact s_nilM (enc := (fun s5 : Unit => ([.fr u_law_row_here, .fr u_law_held, .fr u_law_loans, .no, .no, .no, .fr s4] : En))) (s := ()) [true, true, true, false, false, false, true] rfl
                · intro s5
                  refine s_ifQ (α := D) ?_ ?_ ?_
                  · exact (y_pw (w_and (x_cmpT op_inX sm_in (by rfl) (x_FV (x_ix (x_FV (x_fr (pv 0) rfl)) (x_FV x_int))) (x_OV (x_lst (a_F x_str (a_F x_str a_nil))))) (w_and1 (x_cmpT op_ninX sm_nin (by rfl) (x_FV (x_fr (pv 6) rfl)) (x_OV (x_lc1 (j := 4) rfl sc_law_fault.nd (by decide : 4 < 7) (i_any (x_VW (x_FV (x_fr (pv 2) rfl)))) (blkOk_by (own := [("_law_one", 4)]) (N := ["_law_row_here", "_law_held", "_law_loans", "_law_place", "_law_one", "_law_other", "_law_hand"]) (sc := defScope s_law_fault) (by decide +kernel)) (fun _ _ _ _ _ => pg_name (i := 4) sc_law_fault.nd rfl (Or.inl rfl)) (fun _ _ _ _ _ u_law_one => c_yes) (fun _ _ _ _ _ u_law_one => (x_ix (x_FV (x_fr (pv 4) rfl)) (x_FV x_int)))))))))
                  · refine s_retQ ww_F ?_
                    · exact x_str
                  · refine s_retQ ww_F ?_
                    · exact x_str
          · exact rfl
      · exact rfl
theorem ok_law_told {f : Addr} {fd : FuncData} (F : Fun K "_law_told" "_law_told" s_law_told f fd) (T : Txt K mg) (C_law_whole : Cal P w K mg base "_law_whole" ["_law_found"] 1 (spR (rF K) K [true] l_law_whole)) : FnOk P w K mg base CX0 2 f fd ["_law_told_here"] (spR (rF K) K [true] l_law_told) :=
  def_ok (R := rF K) (N := ["_law_told_here", "_law_choice"]) F sc_law_told rfl (by decide) fun cdv A outer s H E hr G n ds hds => match ds, hds with
    | [u_law_told_here], _ => by
      have hu := hr.units
      show PSs _ _ (tS _ _ _ _ _ (m_law_told n u_law_told_here))
      refine s_ifQ (α := D) ?_ ?_ ?_
      · exact (y_pw (w_or (y_not (y_isi of_tup (by rfl) T.b_isinstance (by rfl) T.b_tuple (by decide +kernel) (x_FV (x_fr (pv 0) rfl)))) (w_or (x_cmpT (op_neA hu) sm_ne (nomark _) (x_FV (x_callB call_lenX sm_len (by rfl) T.b_len (by decide +kernel) (x_FV (x_fr (pv 0) rfl)))) (x_FV x_int)) (w_or1 (y_not (y_val (x_FV (x_call C_law_whole n (hr.mono (by decide)) (by rfl) ww_F (a_F (x_ix (x_FV (x_fr (pv 0) rfl)) (x_FV x_int)) a_nil)))))))))
      · refine s_retQ ww_F ?_
        · exact x_bl
      · refine s_ifQ (α := D) ?_ ?_ ?_
        · exact (y_pw (w_or (y_not (y_isi of_str (by rfl) T.b_isinstance (by rfl) T.b_str (by decide +kernel) (x_FV (x_ix (x_FV (x_fr (pv 0) rfl)) (x_FV x_int))))) (w_or (x_cmpT op_ninX sm_nin (by rfl) (x_FV (x_ix (x_FV (x_fr (pv 0) rfl)) (x_FV x_int))) (x_OV (x_lst (a_F x_str (a_F x_str (a_F x_str a_nil)))))) (w_or1 (y_not (y_isi of_lst (by rfl) T.b_isinstance (by rfl) T.b_list (by decide +kernel) (x_FV (x_ix (x_FV (x_fr (pv 0) rfl)) (x_FV x_int)))))))))
        · refine s_retQ ww_F ?_
          · exact x_bl
        · refine s_retQ ww_F ?_
          · exact (x_callB (cr_all rfl) sm_all (by rfl) T.b_all (by decide +kernel) (x_OV (x_lc1 (j := 1) rfl sc_law_told.nd (by decide : 1 < 2) (i_any (x_VW (x_FV (x_ix (x_FV (x_fr (pv 0) rfl)) (x_FV x_int))))) (blkOk_by (own := [("_law_choice", 1)]) (N := ["_law_told_here", "_law_choice"]) (sc := defScope s_law_told) (by decide +kernel)) (fun _ _ _ _ _ => pg_name (i := 1) sc_law_told.nd rfl (Or.inl rfl)) (fun _ _ _ _ _ u_law_choice => c_yes) (fun _ _ _ _ _ u_law_choice => (x_and (x_FV (x_call C_law_whole n (hr.mono (by decide)) (by rfl) ww_F (a_F (x_fr (pv 1) rfl) a_nil))) (x_one (x_cmp op_ge sm_ord (nomark _) (x_FV (x_fr (pv 1) rfl)) (x_FV x_int))))))))
theorem ok_law_long {f : Addr} {fd : FuncData} (F : Fun K "_law_long" "_law_long" s_law_long f fd) (T : Txt K mg) (C_law_cell_at : Cal P w K mg base "_law_cell_at" ["_law_script", "_law_k"] 1 (spR (rF K) K [true, true] l_law_cell_at)) : FnOk P w K mg base CX0 2 f fd ["_law_script", "_law_rows"] (spR (rF K) K [true, true] l_law_long) :=
  def_ok (R := rF K) (N := ["_law_script", "_law_rows", "_law_some", "_law_k"]) F sc_law_long rfl (by decide) fun cdv A outer s H E hr G n ds hds => match ds, hds with
    | [u_law_script, u_law_rows], _ => by
      have hu := hr.units
      show PSs _ _ (tS _ _ _ _ _ (m_law_long n u_law_script u_law_rows))
      refine s_ifQ (α := D) ?_ ?_ ?_
      · exact (y_pw (w_or (x_cmpT (op_neA hu) sm_ne (nomark _) (x_FV (x_bin op_mod sm_mod (x_FV (x_call C_law_cell_at n (hr.mono (by decide)) (by rfl) ww_F (a_F (x_fr (pv 0) rfl) (a_F x_int a_nil)))) (x_FV x_int))) (x_FV x_int)) (w_or1 (x_cmpT op_gt sm_ord (nomark _) (x_FV (x_callB call_lenX sm_len (by rfl) T.b_len (by decide +kernel) (x_FV (x_fr (pv 1) rfl)))) (x_FV x_int)))))
      · refine s_retQ ww_F ?_
        · exact (x_fr (pv 1) rfl)
      · refine s_set (T := D) (i := 2) zcQ ?_ ?_ ?_ ?_ ?_
        · exact ⟨sc_law_long.nd, rfl, .inl rfl, Or.inl rfl⟩
        · exact (by decide : 2 < 4)
        · exact (x_OF (x_lst a_nil))
        · intro u_law_some
          refine s_seqN (T := D) (enc := (fun s1 : D => ([.fr u_law_script, .fr u_law_rows, .fr s1, .no] : En))) zcQ ?_ ?_
          · refine p_forN (i := 3) (enc := (fun s1 : D => ([.fr u_law_script, .fr u_law_rows, .fr s1, .no] : En))) (s0 := u_law_some) [true, true, true, false] ?_ ?_ PassesOwn.never rfl ?_ ?_ ?_ (fun _ => rfl)
            · exact ⟨sc_law_long.nd, rfl, .inl rfl, Or.inl rfl⟩
            · exact (fun _ => (by decide : 3 < 4))
            · exact (i_rng1 (by rfl) T.b_range (x_FV (x_bin op_addD sm_add (x_FV x_int) (x_FV (x_bin op_mod sm_mod (x_FV (x_call C_law_cell_at n (hr.mono (by decide)) (by rfl) ww_F (a_F (x_fr (pv 0) rfl) (a_F x_int a_nil)))) (x_FV x_int))))))
            · exact rfl
            · intro u_law_k s1
              refine s_set (T := (D)) (i := 2) zcN ?_ ?_ ?_ ?_ ?_
              · exact ⟨sc_law_long.nd, rfl, .inl rfl, Or.inl rfl⟩
              · exact (by decide : 2 < 4)
              · exact (x_bin op_addD sm_add (x_FV (x_fr (pv 2) rfl)) (x_OV (x_lst (a_F (x_tup (a_F x_str (a_F x_str (a_F x_str (a_F (x_fr (pv 3) rfl) a_nil))))) (a_F (x_tup (a_F x_str a_nil)) a_nil)))))
              · intro u_law_some
                exact s_nilN (enc := (fun s1 : D => ([.fr u_law_script, .fr u_law_rows, .fr s1, .no] : En))) (s := u_law_some) [true, true, true, false] rfl
              · exact rfl
          · intro s1
            refine s_retQ ww_F ?_
            · exact (x_bin op_addD sm_add (x_FV (x_fr (pv 2) rfl)) (x_FV (x_fr (pv 1) rfl)))
        · exact rfl
theorem ok_law_some_ways {f : Addr} {fd : FuncData} (F : Fun K "_law_some_ways" "_law_some_ways" s_law_some_ways f fd) (T : Txt K mg) (C_law_starts : Cal P w K mg base "_law_starts" ["_law_rows", "_law_home", "_law_at"] 1 (spR (rF K) K [true, true, true] l_law_starts)) : FnOk P w K mg base CX0 2 f fd ["_law_rows", "_law_home", "_law_at"] (spR (rF K) K [true, true, true] l_law_some_ways) :=
  def_ok (R := rF K) (N := ["_law_rows", "_law_home", "_law_at"]) F sc_law_some_ways rfl (by decide) fun cdv A outer s H E hr G n ds hds => match ds, hds with
    | [u_law_rows, u_law_home, u_law_at], _ => by
      have hu := hr.units
      show PSs _ _ (tS _ _ _ _ _ (m_law_some_ways n u_law_rows u_law_home u_law_at))
      refine s_ifQ (α := D) ?_ ?_ ?_
      · exact (x_cmpT (op_eqA hu) sm_eq (nomark _) (x_FV (x_ix (x_FV (x_ix (x_FV (x_fr (pv 0) rfl)) (x_FV (x_fr (pv 2) rfl)))) (x_FV x_int))) (x_FV x_str))
      · refine s_retQ ww_F ?_
        · exact (x_callB call_lenX sm_len (by rfl) T.b_len (by decide +kernel) (x_FV (x_ix (x_FV (x_ix (x_FV (x_fr (pv 0) rfl)) (x_FV (x_fr (pv 2) rfl)))) (x_FV x_int))))
      · refine s_ifQ (α := D) ?_ ?_ ?_
        · exact (x_cmpT (op_eqA hu) sm_eq (nomark _) (x_FV (x_ix (x_FV (x_ix (x_FV (x_fr (pv 0) rfl)) (x_FV (x_fr (pv 2) rfl)))) (x_FV x_int))) (x_FV x_str))
        · refine s_retQ ww_F ?_
          · exact (x_callB call_lenX sm_len (by rfl) T.b_len (by decide +kernel) (x_FV (x_call C_law_starts n (hr.mono (by decide)) (by rfl) ww_F (a_F (x_fr (pv 0) rfl) (a_F (x_fr (pv 1) rfl) (a_F (x_fr (pv 2) rfl) a_nil))))))
        · refine s_retQ ww_F ?_
          · exact (x_ix (x_OV (x_lst (a_F x_int (a_F x_int a_nil)))) (x_FV (x_callTy call_intX sm_int (by rfl) T.b_int (by decide +kernel) (x_FV (x_cmp (op_eqA hu) sm_eq (nomark _) (x_FV (x_ix (x_FV (x_ix (x_FV (x_fr (pv 0) rfl)) (x_FV (x_fr (pv 2) rfl)))) (x_FV x_int))) (x_FV x_str))))))
theorem ok_is_beside {f : Addr} {fd : FuncData} (F : Fun K "is_beside" "is_beside" s_is_beside f fd) (T : Txt K mg) (C_awake : Cal P w K mg base "awake" ["held"] 2 (spR (rO K) K [true] l_awake)) : FnOk P w K mg base CX0 3 f fd ["held"] (spR (rF K) K [true] l_is_beside) :=
  def_ok (R := rF K) (N := ["held", "loans", "place", "one", "other"]) F sc_is_beside rfl (by decide) fun cdv A outer s H E hr G n ds hds => match ds, hds with
    | [u_held], _ => by
      have hu := hr.units
      show PSs _ _ (tS _ _ _ _ _ (m_is_beside n u_held))
      refine s_set (T := D) (i := 1) zcQ ?_ ?_ ?_ ?_ ?_
      · exact ⟨sc_is_beside.nd, rfl, .inl rfl, Or.inl rfl⟩
      · exact (by decide : 1 < 5)
      · exact (x_OF (x_call C_awake n (hr.mono (by decide)) (by rfl) ww_O (a_F (x_fr (pv 0) rfl) a_nil)))
      · intro u_loans
        refine s_seqQ (α := D) (enc := (fun s1 : Unit => ([.fr u_held, .fr u_loans, .no, .no, .no] : En))) ?_ ?_
        · refine p_for2 (i := 2) (j := 3) (enc := (fun s1 : Unit => ([.fr u_held, .fr u_loans, .no, .no, .no] : En))) (s0 := ()) [true, true, false, false, false] ?_ ?_ ?_ ?_ PassesOwn.never rfl ?_ ?_ ?_ (fun _ => rfl) rfl rfl rfl rfl
          · exact ⟨sc_is_beside.nd, rfl, .inl rfl, Or.inl rfl⟩
          · exact ⟨sc_is_beside.nd, rfl, .inl rfl, Or.inl rfl⟩
          · exact (fun _ => (by decide : 2 < 5))
          · exact (fun _ => (by decide : 3 < 5))
          · exact (i_enum (by rfl) T.b_enumerate (x_FW (lo := true) (x_fr (pv 1) rfl)))
          · exact rfl
          · intro p_u_place s1
            refine s_seqM (α := D) (enc := (fun s2 : Unit => ([.fr u_held, .fr u_loans, .fr p_u_place.1, .fr p_u_place.2, .no] : En))) ?_ ?_
            · refine p_for (i := 4) (enc := (fun s2 : Unit => ([.fr u_held, .fr u_loans, .fr p_u_place.1, .fr p_u_place.2, .no] : En))) (s0 := ()) [true, true, true, true, false] ?_ ?_ PassesOwn.never rfl ?_ ?_ ?_ (fun _ => rfl)
              · exact ⟨sc_is_beside.nd, rfl, .inl rfl, Or.inl rfl⟩
              · exact (fun _ => (by decide : 4 < 5))
              · exact (i_any (x_FW (lo := true) (x_slc (x_FV (x_fr (pv 1) rfl)) p_none (p_some (x_FV (x_fr (pv 2) rfl))))))
              · exact rfl
              · intro u_other s2
                refine s_ifQM (α := D) ?_ ?_ ?_
                · exact (y_pw (w_and (x_cmpT (op_eqA hu) sm_eq (nomark _) (x_FV (x_ix (x_FV (x_fr (pv 3) rfl)) (x_FV x_int))) (x_FV (x_ix (x_FV (x_fr (pv 4) rfl)) (x_FV x_int)))) (w_and1 (y_pw (w_or (x_cmpT (op_eqA hu) sm_eq (nomark _) (x_FV (x_ix (x_FV (x_fr (pv 3) rfl)) (x_FV x_int))) (x_FV x_str)) (w_or1 (x_cmpT (op_eqA hu) sm_eq (nomark _) (x_FV (x_ix (x_FV (x_fr (pv 4) rfl)) (x_FV x_int))) (x_FV x_str))))))))
                · refine s_retQ ww_F ?_
                  · exact x_bl
                · exact s_nilM (enc := (fun s2 : Unit => ([.fr u_held, .fr u_loans, .fr p_u_place.1, .fr p_u_place.2, .no] : En))) (s := ()) [true, true, true, true, false] rfl
            · intro s2
              exact s_nilM (enc := (fun s1 : Unit => ([.fr u_held, .fr u_loans, .no, .no, .no] : En))) (s := ()) [true, true, false, false, false] rfl
        · intro s1
          refine s_retQ ww_F ?_
          · exact x_bl
      · exact rfl
theorem ok_checked {f : Addr} {fd : FuncData} (F : Fun K "checked" "checked" s_checked f fd) (T : Txt K mg) (C_checked_words : Cal P w K mg base "checked_words" ["at", "row", "opened"] 2 (spR (rF K) K [true, true, false] l_checked_words)) (C_is_row : Cal P w K mg base "is_row" ["row"] 2 (spR (rF K) K [true] l_is_row)) : FnOk P w K mg base CX0 3 f fd ["rows"] (spR (rF K) K [true] l_checked) :=
  def_okN (mf := k_checked) (enc := fun _ : Unit => ([.no, .no, .no, .no, .no] : En)) (N := ["rows", "opened", "numbers", "at", "row"]) F sc_checked rfl (by decide) fun cdv A outer s H E hr G n ds hds => match ds, hds with
    | [u_rows], _ => by
      have hu := hr.units
      show PSs _ _ (tS _ _ _ _ _ (m_checked n u_rows))
      refine s_setO (T := (Fl (Unit) D)) (i := 1) zcM ?_ ?_ ?_ ?_ ?_
      · exact ⟨sc_checked.nd, rfl, .inl rfl, Or.inl rfl⟩
      · exact (by decide : 1 < 5)
      · exact (x_lst a_nil)
      · intro u_opened
        refine s_setO (T := (Fl (Unit) D)) (i := 2) zcM ?_ ?_ ?_ ?_ ?_
        · exact ⟨sc_checked.nd, rfl, .inl rfl, Or.inl rfl⟩
        · exact (by decide : 2 < 5)
        · exact (x_lst a_nil)
        · intro u_numbers
          refine s_seqM (α := D) (enc := (fun s1 : (List D) × (List D) => ([.fr u_rows, .ow s1.1, .ow s1.2, .no, .no] : En))) ?_ ?_
          · refine p_for2 (i := 3) (j := 4) (enc := (fun s1 : (List D) × (List D) => ([.fr u_rows, .ow s1.1, .ow s1.2, .no, .no] : En))) (s0 := (u_opened, u_numbers)) [true, true, true, false, false] ?_ ?_ ?_ ?_ PassesOwn.never rfl ?_ ?_ ?_ (fun _ => rfl) rfl rfl rfl rfl
            · exact ⟨sc_checked.nd, rfl, .inl rfl, Or.inl rfl⟩
            · exact ⟨sc_checked.nd, rfl, .inl rfl, Or.inl rfl⟩
            · exact (fun _ => (by decide : 3 < 5))
            · exact (fun _ => (by decide : 4 < 5))
            · exact (i_enum (by rfl) T.b_enumerate (x_FW (lo := true) (x_fr (pv 0) rfl)))
            · exact rfl
            · intro p_u_at s1
              refine s_ifQM (α := D) ?_ ?_ ?_
              · exact (y_not (y_val (x_FV (x_call C_is_row n (hr.mono (by decide)) (by rfl) ww_F (a_F (x_fr (pv 4) rfl) a_nil)))))
              · exact s_never
              · refine s_ifQM (α := D) ?_ ?_ ?_
                · exact (y_pw (w_and (x_cmpT (op_eqA hu) sm_eq (nomark _) (x_FV (x_ix (x_FV (x_fr (pv 4) rfl)) (x_FV x_int))) (x_FV x_str)) (w_and1 (x_cmpT (op_eqA hu) sm_eq (nomark _) (x_FV (x_callB call_lenX sm_len (by rfl) T.b_len (by decide +kernel) (x_ow (pv 1) rfl))) (x_FV x_int)))))
                · exact s_never
                · refine s_ifQM (α := D) ?_ ?_ ?_
                  · exact (y_pw (w_and (x_cmpT (op_eqA hu) sm_eq (nomark _) (x_FV (x_ix (x_FV (x_fr (pv 4) rfl)) (x_FV x_int))) (x_FV x_str)) (w_and1 (y_pw (w_or (x_cmpT (op_eqA hu) sm_eq (nomark _) (x_FV (x_callB call_lenX sm_len (by rfl) T.b_len (by decide +kernel) (x_ow (pv 1) rfl))) (x_FV x_int)) (w_or1 (x_cmpT (op_neA hu) sm_ne (nomark _) (x_FV (x_ix (x_FV (x_ix (x_ow (pv 1) rfl) (x_FV (x_neg (x_FV x_int))))) (x_FV x_int))) (x_FV x_str))))))))
                  · exact s_never
                  · refine s_drop (T := (Fl ((List D) × (List D)) D)) zcM ?_ ?_ ?_
                    · exact (x_call C_checked_words n (hr.mono (by decide)) (by rfl) ww_F (a_F (x_fr (pv 3) rfl) (a_F (x_fr (pv 4) rfl) (a_V (x_ow (pv 1) rfl) a_nil))))
                    · refine s_ifN (T := (Fl ((List D) × (List D)) D)) (enc := (fun s2 : (List D) × (List D) => ([.fr u_rows, .ow s2.1, .ow s2.2, .fr p_u_at.1, .fr p_u_at.2] : En))) zcM ?_ ?_ ?_ ?_
                      · exact (x_cmpT op_inX sm_in (by rfl) (x_FV (x_ix (x_FV (x_fr (pv 4) rfl)) (x_FV x_int))) (x_FV (x_cst T.c_OPENERS (by rfl))))
                      · refine s_app (T := ((List D) × (List D))) (i := 1) zcN ?_ ?_ ?_ ?_ ?_ ?_
                        · exact (pv 1)
                        · exact rfl
                        · exact (x_fr (pv 4) rfl)
                        · intro u_opened
                          refine s_app (T := ((List D) × (List D))) (i := 2) zcN ?_ ?_ ?_ ?_ ?_ ?_
                          · exact (pv 2)
                          · exact rfl
                          · exact (x_fr (pv 3) rfl)
                          · intro u_numbers
                            exact s_nilN (enc := (fun s2 : (List D) × (List D) => ([.fr u_rows, .ow s2.1, .ow s2.2, .fr p_u_at.1, .fr p_u_at.2] : En))) (s := (u_opened, u_numbers)) [true, true, true, true, true] rfl
                          · exact (pe_bm PySem.F.plainAttrs_list PySem.F.slot_list_append PySem.F.type_list_append mt_append (pv 2) (pa_cons (x_fr (pv 3) rfl) pa_nil))
                          · exact rfl
                        · exact (pe_bm PySem.F.plainAttrs_list PySem.F.slot_list_append PySem.F.type_list_append mt_append (pv 1) (pa_cons (x_fr (pv 4) rfl) pa_nil))
                        · exact rfl
                      · refine s_ifN (T := ((List D) × (List D))) (enc := (fun s3 : (List D) × (List D) => ([.fr u_rows, .ow s3.1, .ow s3.2, .fr p_u_at.1, .fr p_u_at.2] : En))) zcN ?_ ?_ ?_ ?_
                        · exact (x_cmpT (op_eqA hu) sm_eq (nomark _) (x_FV (x_ix (x_FV (x_fr (pv 4) rfl)) (x_FV x_int))) (x_FV x_str))
                        · refine s_pop (T := ((List D) × (List D))) (i := 1) zcN ?_ ?_ ?_ ?_ ?_
                          · exact (pv 1)
                          · exact rfl
                          · intro u_opened
                            refine s_pop (T := ((List D) × (List D))) (i := 2) zcN ?_ ?_ ?_ ?_ ?_
                            · exact (pv 2)
                            · exact rfl
                            · intro u_numbers
                              exact s_nilN (enc := (fun s3 : (List D) × (List D) => ([.fr u_rows, .ow s3.1, .ow s3.2, .fr p_u_at.1, .fr p_u_at.2] : En))) (s := (u_opened, u_numbers)) [true, true, true, true, true] rfl
                            · exact (pe_bm0 PySem.F.plainAttrs_list PySem.F.slot_list_pop PySem.F.type_list_pop mt_pop (pv 2))
                            · exact rfl
                          · exact (pe_bm0 PySem.F.plainAttrs_list PySem.F.slot_list_pop PySem.F.type_list_pop mt_pop (pv 1))
                          · exact rfl
                        · exact s_nilN (enc := (fun s3 : (List D) × (List D) => ([.fr u_rows, .ow s3.1, .ow s3.2, .fr p_u_at.1, .fr p_u_at.2] : En))) (s := (s1.1, s1.2)) [true, true, true, true, true] rfl
                        · intro s3
                          exact s_nilN (enc := (fun s2 : (List D) × (List D) => ([.fr u_rows, .ow s2.1, .ow s2.2, .fr p_u_at.1, .fr p_u_at.2] : En))) (s := (s3.1, s3.2)) [true, true, true, true, true] rfl
                      · intro s2
                        exact s_nilM (enc := (fun s1 : (List D) × (List D) => ([.fr u_rows, .ow s1.1, .ow s1.2, .no, .no] : En))) (s := (s2.1, s2.2)) [true, true, true, false, false] rfl
                    · exact rfl
          · intro s1
            refine s_ifQM (α := D) ?_ ?_ ?_
            · exact (x_cmpT op_gt sm_ord (nomark _) (x_FV (x_callB call_lenX sm_len (by rfl) T.b_len (by decide +kernel) (x_ow (pv 2) rfl))) (x_FV x_int))
            · exact s_never
            · exact s_nilM (enc := (fun s : Unit => ([.no, .no, .no, .no, .no] : En))) (s := ()) [false, false, false, false, false] rfl
        · exact rfl
      · exact rfl
theorem ok_ways {f : Addr} {fd : FuncData} (F : Fun K "ways" "ways" s_ways f fd) (T : Txt K mg) (C_branches : Cal P w K mg base "branches" ["rows", "at"] 2 (spR (rF K) K [true, true] l_branches)) : FnOk P w K mg base CX0 3 f fd ["rows", "standing"] (spR (rF K) K [true, true] l_ways) :=
  def_ok (R := rF K) (N := ["rows", "standing", "row"]) F sc_ways rfl (by decide) fun cdv A outer s H E hr G n ds hds => match ds, hds with
    | [u_rows, u_standing], _ => by
      have hu := hr.units
      show PSs _ _ (tS _ _ _ _ _ (m_ways n u_rows u_standing))
      refine s_set (T := D) (i := 2) zcQ ?_ ?_ ?_ ?_ ?_
      · exact ⟨sc_ways.nd, rfl, .inl rfl, Or.inl rfl⟩
      · exact (by decide : 2 < 3)
      · exact (x_ix (x_FV (x_fr (pv 0) rfl)) (x_FV (x_ix (x_FV (x_fr (pv 1) rfl)) (x_FV x_int))))
      · intro u_row
        refine s_ifQ (α := D) ?_ ?_ ?_
        · exact (x_cmpT (op_eqA hu) sm_eq (nomark _) (x_FV (x_ix (x_FV (x_fr (pv 2) rfl)) (x_FV x_int))) (x_FV x_str))
        · refine s_retQ ww_F ?_
          · exact (x_callB call_lenX sm_len (by rfl) T.b_len (by decide +kernel) (x_FV (x_ix (x_FV (x_fr (pv 2) rfl)) (x_FV x_int))))
        · refine s_ifQ (α := D) ?_ ?_ ?_
          · exact (x_cmpT (op_eqA hu) sm_eq (nomark _) (x_FV (x_ix (x_FV (x_fr (pv 2) rfl)) (x_FV x_int))) (x_FV x_str))
          · refine s_retQ ww_F ?_
            · exact (x_callB call_lenX sm_len (by rfl) T.b_len (by decide +kernel) (x_FV (x_call C_branches n (hr.mono (by decide)) (by rfl) ww_F (a_F (x_fr (pv 0) rfl) (a_F (x_ix (x_FV (x_fr (pv 1) rfl)) (x_FV x_int)) a_nil)))))
          · refine s_ifQ (α := D) ?_ ?_ ?_
            · exact (x_cmpT (op_eqA hu) sm_eq (nomark _) (x_FV (x_ix (x_FV (x_fr (pv 2) rfl)) (x_FV x_int))) (x_FV x_str))
            · refine s_retQ ww_F ?_
              · exact x_int
            · refine s_retQ ww_F ?_
              · exact x_int
      · exact rfl
theorem ok_stepped_by {f : Addr} {fd : FuncData} (F : Fun K "stepped_by" "stepped_by" s_stepped_by f fd) (T : Txt K mg) (C_branches : Cal P w K mg base "branches" ["rows", "at"] 2 (spR (rF K) K [true, true] l_branches)) (C_left : Cal P w K mg base "left" ["rows", "home", "at", "held"] 1 (spR (rF K) K [true, true, true, true] l_left)) (C_lent : Cal P w K mg base "lent" ["held", "row"] 2 (spR (rF K) K [true, true] l_lent)) (C_given_back : Cal P w K mg base "given_back" ["held", "word"] 1 (spR (rF K) K [true, true] l_given_back)) : FnOk P w K mg base CX0 3 f fd ["rows", "home", "last", "standing", "choice"] (spR (rF K) K [true, true, true, true, true] l_stepped_by) :=
  def_ok (R := rF K) (N := ["rows", "home", "last", "standing", "choice", "at", "held", "row", "thing", "starts"]) F sc_stepped_by rfl (by decide) fun cdv A outer s H E hr G n ds hds => match ds, hds with
    | [u_rows, u_home, u_last, u_standing, u_choice], _ => by
      have hu := hr.units
      show PSs _ _ (tS _ _ _ _ _ (m_stepped_by n u_rows u_home u_last u_standing u_choice))
      refine s_set (T := D) (i := 5) zcQ ?_ ?_ ?_ ?_ ?_
      · exact ⟨sc_stepped_by.nd, rfl, .inl rfl, Or.inl rfl⟩
      · exact (by decide : 5 < 10)
      · exact (x_ix (x_FV (x_fr (pv 3) rfl)) (x_FV x_int))
      · intro u_at
        refine s_set (T := D) (i := 6) zcQ ?_ ?_ ?_ ?_ ?_
        · exact ⟨sc_stepped_by.nd, rfl, .inl rfl, Or.inl rfl⟩
        · exact (by decide : 6 < 10)
        · exact (x_ix (x_FV (x_fr (pv 3) rfl)) (x_FV x_int))
        · intro u_held
          refine s_set (T := D) (i := 7) zcQ ?_ ?_ ?_ ?_ ?_
          · exact ⟨sc_stepped_by.nd, rfl, .inl rfl, Or.inl rfl⟩
          · exact (by decide : 7 < 10)
          · exact (x_ix (x_FV (x_fr (pv 0) rfl)) (x_FV (x_fr (pv 5) rfl)))
          · intro u_row
            refine s_ifQ (α := D) ?_ ?_ ?_
            · exact (x_cmpT (op_eqA hu) sm_eq (nomark _) (x_FV (x_ix (x_FV (x_fr (pv 7) rfl)) (x_FV x_int))) (x_FV x_str))
            · refine s_retQ ww_F ?_
              · exact (x_tup (a_F (x_bin op_addD sm_add (x_FV (x_fr (pv 5) rfl)) (x_FV x_int)) (a_F (x_call C_lent n (hr.mono (by decide)) (by rfl) ww_F (a_F (x_fr (pv 6) rfl) (a_F (x_fr (pv 7) rfl) a_nil))) a_nil)))
            · refine s_ifQ (α := D) ?_ ?_ ?_
              · exact (x_cmpT (op_eqA hu) sm_eq (nomark _) (x_FV (x_ix (x_FV (x_fr (pv 7) rfl)) (x_FV x_int))) (x_FV x_str))
              · refine s_set (T := D) (i := 8) zcQ ?_ ?_ ?_ ?_ ?_
                · exact ⟨sc_stepped_by.nd, rfl, .inl rfl, Or.inl rfl⟩
                · exact (by decide : 8 < 10)
                · exact (x_ix (x_FV (x_ix (x_FV (x_fr (pv 7) rfl)) (x_FV x_int))) (x_FV (x_bin op_mod sm_mod (x_FV (x_fr (pv 4) rfl)) (x_FV (x_callB call_lenX sm_len (by rfl) T.b_len (by decide +kernel) (x_FV (x_ix (x_FV (x_fr (pv 7) rfl)) (x_FV x_int))))))))
                · intro u_thing
                  refine s_retQ ww_F ?_
                  · exact (x_tup (a_F (x_bin op_addD sm_add (x_FV (x_fr (pv 5) rfl)) (x_FV x_int)) (a_F (x_bin op_addD sm_add (x_FV (x_fr (pv 6) rfl)) (x_FV (x_tup (a_F (x_tup (a_F (x_ix (x_FV (x_fr (pv 7) rfl)) (x_FV x_int)) (a_F x_str (a_F (x_fr (pv 8) rfl) (a_F x_str (a_F x_bl a_nil)))))) a_nil)))) a_nil)))
                · exact rfl
              · refine s_ifQ (α := D) ?_ ?_ ?_
                · exact (x_cmpT (op_eqA hu) sm_eq (nomark _) (x_FV (x_ix (x_FV (x_fr (pv 7) rfl)) (x_FV x_int))) (x_FV x_str))
                · refine s_set (T := D) (i := 9) zcQ ?_ ?_ ?_ ?_ ?_
                  · exact ⟨sc_stepped_by.nd, rfl, .inl rfl, Or.inl rfl⟩
                  · exact (by decide : 9 < 10)
                  · exact (x_call C_branches n (hr.mono (by decide)) (by rfl) ww_F (a_F (x_fr (pv 0) rfl) (a_F (x_fr (pv 5) rfl) a_nil)))
                  · intro u_starts
                    refine s_retQ ww_F ?_
                    · exact (x_tup (a_F (x_ix (x_FV (x_fr (pv 9) rfl)) (x_FV (x_bin op_mod sm_mod (x_FV (x_fr (pv 4) rfl)) (x_FV (x_callB call_lenX sm_len (by rfl) T.b_len (by decide +kernel) (x_FV (x_fr (pv 9) rfl))))))) (a_F (x_fr (pv 6) rfl) a_nil)))
                  · exact rfl
                · refine s_ifQ (α := D) ?_ ?_ ?_
                  · exact (x_cmpT (op_eqA hu) sm_eq (nomark _) (x_FV (x_ix (x_FV (x_fr (pv 7) rfl)) (x_FV x_int))) (x_FV x_str))
                  · refine s_ifQ (α := D) ?_ ?_ ?_
                    · exact (x_cmpT (op_eqA hu) sm_eq (nomark _) (x_FV (x_bin op_mod sm_mod (x_FV (x_fr (pv 4) rfl)) (x_FV x_int))) (x_FV x_int))
                    · refine s_retQ ww_F ?_
                      · exact (x_tup (a_F (x_bin op_addD sm_add (x_FV (x_fr (pv 5) rfl)) (x_FV x_int)) (a_F (x_fr (pv 6) rfl) a_nil)))
                    · refine s_retQ ww_F ?_
                      · exact (x_tup (a_F (x_bin op_addD sm_add (x_FV (x_ix (x_FV (x_fr (pv 2) rfl)) (x_FV (x_fr (pv 5) rfl)))) (x_FV x_int)) (a_F (x_fr (pv 6) rfl) a_nil)))
                  · refine s_ifQ (α := D) ?_ ?_ ?_
                    · exact (x_cmpT (op_eqA hu) sm_eq (nomark _) (x_FV (x_ix (x_FV (x_fr (pv 7) rfl)) (x_FV x_int))) (x_FV x_str))
                    · refine s_retQ ww_F ?_
                      · exact (x_tup (a_F (x_ix (x_FV (x_fr (pv 2) rfl)) (x_FV (x_ix (x_FV (x_fr (pv 1) rfl)) (x_FV (x_fr (pv 5) rfl))))) (a_F (x_fr (pv 6) rfl) a_nil)))
                    · refine s_ifQ (α := D) ?_ ?_ ?_
                      · exact (x_cmpT (op_eqA hu) sm_eq (nomark _) (x_FV (x_ix (x_FV (x_fr (pv 7) rfl)) (x_FV x_int))) (x_FV x_str))
                      · refine s_retQ ww_F ?_
                        · exact (x_call C_left n (hr.mono (by decide)) (by rfl) ww_F (a_F (x_fr (pv 0) rfl) (a_F (x_ix (x_FV (x_fr (pv 1) rfl)) (x_FV (x_fr (pv 5) rfl))) (a_F (x_fr (pv 5) rfl) (a_F (x_fr (pv 6) rfl) a_nil)))))
                      · refine s_ifQ (α := D) ?_ ?_ ?_
                        · exact (x_cmpT (op_eqA hu) sm_eq (nomark _) (x_FV (x_ix (x_FV (x_fr (pv 7) rfl)) (x_FV x_int))) (x_FV x_str))
                        · refine s_retQ ww_F ?_
                          · exact (x_tup (a_F (x_bin op_addD sm_add (x_FV (x_fr (pv 5) rfl)) (x_FV x_int)) (a_F (x_call C_given_back n (hr.mono (by decide)) (by rfl) ww_F (a_F (x_fr (pv 6) rfl) (a_F (x_ix (x_FV (x_fr (pv 7) rfl)) (x_FV x_int)) a_nil))) a_nil)))
                        · refine s_retQ ww_F ?_
                          · exact (x_tup (a_F (x_bin op_addD sm_add (x_FV (x_fr (pv 5) rfl)) (x_FV x_int)) (a_F (x_fr (pv 6) rfl) a_nil)))
          · exact rfl
        · exact rfl
      · exact rfl
theorem ok_law_row {f : Addr} {fd : FuncData} (F : Fun K "_law_row" "_law_row" s_law_row f fd) (T : Txt K mg) (C_law_lend : Cal P w K mg base "_law_lend" ["_law_one", "_law_two", "_law_named", "_law_draw_here"] 2 (spR (rF K) K [true, true, true, true] l_law_lend)) (C_law_deed : Cal P w K mg base "_law_deed" ["_law_one", "_law_two", "_law_hands_here"] 1 (spR (rF K) K [true, true, true] l_law_deed)) (C_law_word : Cal P w K mg base "_law_word" ["_law_one", "_law_two", "_law_deep", "_law_draw_here"] 1 (spR (rF K) K [true, true, true, true] l_law_word)) (C_law_thing : Cal P w K mg base "_law_thing" ["_law_cell", "_law_base"] 1 (spR (rF K) K [true, true] l_law_thing)) : FnOk P w K mg base CX0 3 f fd ["_law_way", "_law_one", "_law_two", "_law_opened", "_law_draw_here"] (spR (rF K) K [true, true, true, false, true] l_law_row) :=
  def_ok (R := rF K) (N := ["_law_way", "_law_one", "_law_two", "_law_opened", "_law_draw_here", "_law_named", "_law_row_here", "_law_hands_here", "_law_things", "_law_k"]) F sc_law_row rfl (by decide) fun cdv A outer s H E hr G n ds hds => match ds, hds with
    | [u_law_way, u_law_one, u_law_two, u_law_opened, u_law_draw_here], _ => by
      have hu := hr.units
      show PSs _ _ (tS _ _ _ _ _ (m_law_row n u_law_way u_law_one u_law_two u_law_opened u_law_draw_here))
      refine s_lc1F (T := D) (i := 5) (j := 6) zcQ ?_ ?_ rfl sc_law_row.nd rfl rfl (sw_true rfl rfl rfl (by decide +kernel)) ?_ (blkOk_by (own := [("_law_row_here", 6)]) (N := ["_law_way", "_law_one", "_law_two", "_law_opened", "_law_draw_here", "_law_named", "_law_row_here", "_law_hands_here", "_law_things", "_law_k"]) (sc := defScope s_law_row) (by decide +kernel)) ?_ ?_ ?_ (fun _ => rfl) ?_
      · exact (by decide : 5 < 10)
      · exact (by decide : 6 < 10)
      · exact (i_any (x_VW (x_vw (pv 3) rfl)))
      · exact (fun _ _ _ _ _ => pg_name (i := 6) sc_law_row.nd rfl (Or.inl rfl))
      · exact (fun _ _ _ _ _ u_law_row_here => (c_one (x_cmpT op_inX sm_in (by rfl) (x_FV (x_ix (x_FV (x_fr (pv 6) rfl)) (x_FV x_int))) (x_OV (x_lst (a_F x_str (a_F x_str a_nil)))))))
      · exact (fun _ _ _ _ _ u_law_row_here => (x_fr (pv 6) rfl))
      · intro u_law_named
        refine s_lc1F (T := D) (i := 7) (j := 6) zcQ ?_ ?_ rfl sc_law_row.nd rfl rfl (sw_true rfl rfl rfl (by decide +kernel)) ?_ (blkOk_by (own := [("_law_row_here", 6)]) (N := ["_law_way", "_law_one", "_law_two", "_law_opened", "_law_draw_here", "_law_named", "_law_row_here", "_law_hands_here", "_law_things", "_law_k"]) (sc := defScope s_law_row) (by decide +kernel)) ?_ ?_ ?_ (fun _ => rfl) ?_
        · exact (by decide : 7 < 10)
        · exact (by decide : 6 < 10)
        · exact (i_any (x_VW (x_FV (x_fr (pv 5) rfl))))
        · exact (fun _ _ _ _ _ => pg_name (i := 6) sc_law_row.nd rfl (Or.inl rfl))
        · exact (fun _ _ _ _ _ u_law_row_here => (c_one (x_cmpT (op_eqA hu) sm_eq (nomark _) (x_FV (x_ix (x_FV (x_fr (pv 6) rfl)) (x_FV x_int))) (x_FV x_str))))
        · exact (fun _ _ _ _ _ u_law_row_here => (x_fr (pv 6) rfl))
        · intro u_law_hands_here
          refine s_ifQ (α := D) ?_ ?_ ?_
          · exact (y_pw (w_and (x_cmpT op_lt sm_ord (nomark _) (x_FV (x_fr (pv 0) rfl)) (x_FV x_int)) (w_and1 (x_cmpT op_lt sm_ord (nomark _) (x_FV (x_callB call_lenX sm_len (by rfl) T.b_len (by decide +kernel) (x_FV (x_fr (pv 7) rfl)))) (x_FV x_int)))))
          · refine s_retQ ww_F ?_
            · exact (x_call C_law_lend n (hr.mono (by decide)) (by rfl) ww_F (a_F (x_fr (pv 1) rfl) (a_F (x_fr (pv 2) rfl) (a_F (x_fr (pv 5) rfl) (a_F (x_fr (pv 4) rfl) a_nil)))))
          · refine s_ifQ (α := D) ?_ ?_ ?_
            · exact (y_pw (w_and (x_cmpT (op_eqA hu) sm_eq (nomark _) (x_FV (x_fr (pv 0) rfl)) (x_FV x_int)) (w_and1 (x_cmpT op_lt sm_ord (nomark _) (x_FV (x_bin op_sub sm_sub (x_FV (x_callB call_lenX sm_len (by rfl) T.b_len (by decide +kernel) (x_FV (x_fr (pv 5) rfl)))) (x_FV (x_callB call_lenX sm_len (by rfl) T.b_len (by decide +kernel) (x_FV (x_fr (pv 7) rfl)))))) (x_FV x_int)))))
            · refine s_set (T := D) (i := 8) zcQ ?_ ?_ ?_ ?_ ?_
              · exact ⟨sc_law_row.nd, rfl, .inl rfl, Or.inl rfl⟩
              · exact (by decide : 8 < 10)
              · exact (x_callTy call_tupX sm_tup (by rfl) T.b_tuple (by decide +kernel) (x_OV (x_lc1 (j := 9) rfl sc_law_row.nd (by decide : 9 < 10) (i_rng1 (by rfl) T.b_range (x_FV (x_bin op_addD sm_add (x_FV x_int) (x_FV (x_bin op_mod sm_mod (x_FV (x_fr (pv 1) rfl)) (x_FV x_int)))))) (blkOk_by (own := [("_law_k", 9)]) (N := ["_law_way", "_law_one", "_law_two", "_law_opened", "_law_draw_here", "_law_named", "_law_row_here", "_law_hands_here", "_law_things", "_law_k"]) (sc := defScope s_law_row) (by decide +kernel)) (fun _ _ _ _ _ => pg_name (i := 9) sc_law_row.nd rfl (Or.inl rfl)) (fun _ _ _ _ _ u_law_k => c_yes) (fun _ _ _ _ _ u_law_k => (x_call C_law_thing n (hr.mono (by decide)) (by rfl) ww_F (a_F (x_bin op_addD sm_add (x_FV (x_fr (pv 2) rfl)) (x_FV (x_bin op_mulD sm_mul (x_FV (x_fr (pv 9) rfl)) (x_FV (x_bin op_addD sm_add (x_FV x_int) (x_FV (x_bin op_mod sm_mod (x_FV (x_fr (pv 1) rfl)) (x_FV x_int)))))))) (a_F (x_ix (x_FV (x_fr (pv 4) rfl)) (x_FV x_int)) a_nil)))))))
              · intro u_law_things
                refine s_retQ ww_F ?_
                · exact (x_tup (a_F x_str (a_F (x_call C_law_word n (hr.mono (by decide)) (by rfl) ww_F (a_F (x_fr (pv 1) rfl) (a_F (x_fr (pv 2) rfl) (a_F (x_callB call_lenX sm_len (by rfl) T.b_len (by decide +kernel) (x_FV (x_fr (pv 5) rfl))) (a_F (x_fr (pv 4) rfl) a_nil))))) (a_F (x_fr (pv 8) rfl) a_nil))))
              · exact rfl
            · refine s_ifQ (α := D) ?_ ?_ ?_
              · exact (y_pw (w_and (x_cmpT op_inX sm_in (by rfl) (x_FV (x_fr (pv 0) rfl)) (x_OV (x_lst (a_F x_int (a_F x_int a_nil))))) (w_and1 (x_cmpT op_lt sm_ord (nomark _) (x_FV (x_callB call_lenX sm_len (by rfl) T.b_len (by decide +kernel) (x_vw (pv 3) rfl))) (x_FV x_int)))))
              · refine s_retQ ww_F ?_
                · exact (x_tup (a_F (x_ix (x_OV (x_lst (a_F x_str (a_F x_str a_nil)))) (x_FV (x_bin op_sub sm_sub (x_FV (x_fr (pv 0) rfl)) (x_FV x_int)))) a_nil))
              · refine s_ifQ (α := D) ?_ ?_ ?_
                · exact (y_pw (w_and (x_cmpT (op_eqA hu) sm_eq (nomark _) (x_FV (x_fr (pv 0) rfl)) (x_FV x_int)) (w_and (x_cmpT op_gt sm_ord (nomark _) (x_FV (x_callB call_lenX sm_len (by rfl) T.b_len (by decide +kernel) (x_vw (pv 3) rfl))) (x_FV x_int)) (w_and1 (x_cmpT (op_eqA hu) sm_eq (nomark _) (x_FV (x_ix (x_FV (x_ix (x_vw (pv 3) rfl) (x_FV (x_neg (x_FV x_int))))) (x_FV x_int))) (x_FV x_str))))))
                · refine s_retQ ww_F ?_
                  · exact (x_tup (a_F x_str a_nil))
                · refine s_ifQ (α := D) ?_ ?_ ?_
                  · exact (y_pw (w_and (x_cmpT op_lt sm_ord (nomark _) (x_FV (x_fr (pv 0) rfl)) (x_FV x_int)) (w_and1 (x_cmpT op_gt sm_ord (nomark _) (x_FV (x_callB call_lenX sm_len (by rfl) T.b_len (by decide +kernel) (x_FV (x_fr (pv 7) rfl)))) (x_FV x_int)))))
                  · refine s_retQ ww_F ?_
                    · exact (x_call C_law_deed n (hr.mono (by decide)) (by rfl) ww_F (a_F (x_fr (pv 1) rfl) (a_F (x_fr (pv 2) rfl) (a_F (x_fr (pv 7) rfl) a_nil))))
                  · refine s_ifQ (α := D) ?_ ?_ ?_
                    · exact (x_cmpT op_gt sm_ord (nomark _) (x_FV (x_callB call_lenX sm_len (by rfl) T.b_len (by decide +kernel) (x_vw (pv 3) rfl))) (x_FV x_int))
                    · refine s_retQ ww_F ?_
                      · exact (x_tup (a_F x_str a_nil))
                    · refine s_retQ ww_F ?_
                      · exact (x_call C_law_lend n (hr.mono (by decide)) (by rfl) ww_F (a_F (x_fr (pv 1) rfl) (a_F (x_fr (pv 2) rfl) (a_F (x_fr (pv 5) rfl) (a_F (x_fr (pv 4) rfl) a_nil)))))
theorem ok_law_gadget {f : Addr} {fd : FuncData} (F : Fun K "_law_gadget" "_law_gadget" s_law_gadget f fd) (T : Txt K mg) (C_law_hands : Cal P w K mg base "_law_hands" ["_law_one", "_law_two", "_law_deep", "_law_draw_here"] 2 (spR (rF K) K [true, true, true, true] l_law_hands)) (C_law_thing : Cal P w K mg base "_law_thing" ["_law_cell", "_law_base"] 1 (spR (rF K) K [true, true] l_law_thing)) (C_law_first_four : Cal P w K mg base "_law_first_four" ["_law_way", "_law_one", "_law_two", "_law_names", "_law_thing_here"] 1 (spR (rF K) K [true, true, true, true, true] l_law_first_four)) : FnOk P w K mg base CX0 3 f fd ["_law_one", "_law_two", "_law_deep", "_law_draw_here"] (spR (rF K) K [true, true, true, true] l_law_gadget) :=
  def_ok (R := rF K) (N := ["_law_one", "_law_two", "_law_deep", "_law_draw_here", "_law_names", "_law_a", "_law_b", "_law_thing_here", "_law_far", "_law_last_here", "_law_kind", "_law_end", "_law_way", "_law_rows"]) F sc_law_gadget rfl (by decide) fun cdv A outer s H E hr G n ds hds => match ds, hds with
    | [u_law_one, u_law_two, u_law_deep, u_law_draw_here], _ => by
      have hu := hr.units
      show PSs _ _ (tS _ _ _ _ _ (m_law_gadget n u_law_one u_law_two u_law_deep u_law_draw_here))
      refine s_set (T := D) (i := 4) zcQ ?_ ?_ ?_ ?_ ?_
      · exact ⟨sc_law_gadget.nd, rfl, .inl rfl, Or.inl rfl⟩
      · exact (by decide : 4 < 14)
      · exact (x_call C_law_hands n (hr.mono (by decide)) (by rfl) ww_F (a_F (x_fr (pv 0) rfl) (a_F (x_fr (pv 1) rfl) (a_F (x_fr (pv 2) rfl) (a_F (x_fr (pv 3) rfl) a_nil)))))
      · intro u_law_names
        refine s_set (T := D) (i := 5) zcQ ?_ ?_ ?_ ?_ ?_
        · exact ⟨sc_law_gadget.nd, rfl, .inl rfl, Or.inl rfl⟩
        · exact (by decide : 5 < 14)
        · exact (x_ix (x_FV (x_fr (pv 4) rfl)) (x_FV x_int))
        · intro u_law_a
          refine s_set (T := D) (i := 6) zcQ ?_ ?_ ?_ ?_ ?_
          · exact ⟨sc_law_gadget.nd, rfl, .inl rfl, Or.inl rfl⟩
          · exact (by decide : 6 < 14)
          · exact (x_ix (x_FV (x_fr (pv 4) rfl)) (x_FV x_int))
          · intro u_law_b
            refine s_set (T := D) (i := 7) zcQ ?_ ?_ ?_ ?_ ?_
            · exact ⟨sc_law_gadget.nd, rfl, .inl rfl, Or.inl rfl⟩
            · exact (by decide : 7 < 14)
            · exact (x_call C_law_thing n (hr.mono (by decide)) (by rfl) ww_F (a_F (x_fr (pv 1) rfl) (a_F (x_ix (x_FV (x_fr (pv 3) rfl)) (x_FV x_int)) a_nil)))
            · intro u_law_thing_here
              refine s_set (T := D) (i := 8) zcQ ?_ ?_ ?_ ?_ ?_
              · exact ⟨sc_law_gadget.nd, rfl, .inl rfl, Or.inl rfl⟩
              · exact (by decide : 8 < 14)
              · exact (x_bin op_mod sm_mod (x_FV (x_bin op_addD sm_add (x_FV (x_fr (pv 7) rfl)) (x_FV x_int))) (x_FV (x_bin op_pow sm_pow (x_FV x_int) (x_FV x_int))))
              · intro u_law_far
                refine s_set (T := D) (i := 9) zcQ ?_ ?_ ?_ ?_ ?_
                · exact ⟨sc_law_gadget.nd, rfl, .inl rfl, Or.inl rfl⟩
                · exact (by decide : 9 < 14)
                · exact (x_bin op_mod sm_mod (x_FV (x_bin op_addD sm_add (x_FV (x_fr (pv 7) rfl)) (x_FV x_int))) (x_FV (x_bin op_pow sm_pow (x_FV x_int) (x_FV x_int))))
                · intro u_law_last_here
                  refine s_set (T := D) (i := 10) zcQ ?_ ?_ ?_ ?_ ?_
                  · exact ⟨sc_law_gadget.nd, rfl, .inl rfl, Or.inl rfl⟩
                  · exact (by decide : 10 < 14)
                  · exact (x_ix (x_OV (x_lst (a_F x_str (a_F x_str a_nil)))) (x_FV (x_bin op_mod sm_mod (x_FV (x_bin op_fdiv sm_fdiv (x_FV (x_fr (pv 0) rfl)) (x_FV x_int))) (x_FV x_int))))
                  · intro u_law_kind
                    refine s_set (T := D) (i := 11) zcQ ?_ ?_ ?_ ?_ ?_
                    · exact ⟨sc_law_gadget.nd, rfl, .inl rfl, Or.inl rfl⟩
                    · exact (by decide : 11 < 14)
                    · exact (x_tup (a_F x_str a_nil))
                    · intro u_law_end
                      refine s_set (T := D) (i := 12) zcQ ?_ ?_ ?_ ?_ ?_
                      · exact ⟨sc_law_gadget.nd, rfl, .inl rfl, Or.inl rfl⟩
                      · exact (by decide : 12 < 14)
                      · exact (x_bin op_mod sm_mod (x_FV (x_fr (pv 0) rfl)) (x_FV x_int))
                      · intro u_law_way
                        refine s_ifQ (α := D) ?_ ?_ ?_
                        · exact (x_cmpT op_lt sm_ord (nomark _) (x_FV (x_fr (pv 12) rfl)) (x_FV x_int))
                        · refine s_retQ ww_F ?_
                          · exact (x_call C_law_first_four n (hr.mono (by decide)) (by rfl) ww_F (a_F (x_fr (pv 12) rfl) (a_F (x_fr (pv 0) rfl) (a_F (x_fr (pv 1) rfl) (a_F (x_fr (pv 4) rfl) (a_F (x_fr (pv 7) rfl) a_nil))))))
                        · refine s_ifQ (α := D) ?_ ?_ ?_
                          · exact (x_cmpT (op_eqA hu) sm_eq (nomark _) (x_FV (x_fr (pv 12) rfl)) (x_FV x_int))
                          · refine s_set (T := D) (i := 13) zcQ ?_ ?_ ?_ ?_ ?_
                            · exact ⟨sc_law_gadget.nd, rfl, .inl rfl, Or.inl rfl⟩
                            · exact (by decide : 13 < 14)
                            · exact (x_OF (x_lst (a_F (x_tup (a_F x_str (a_F (x_ix (x_FV (x_fr (pv 4) rfl)) (x_FV x_int)) (a_F (x_tup (a_F (x_fr (pv 7) rfl) (a_F (x_fr (pv 7) rfl) (a_F (x_fr (pv 8) rfl) (a_F (x_fr (pv 8) rfl) (a_F (x_fr (pv 9) rfl) a_nil)))))) a_nil)))) a_nil)))
                            · intro u_law_rows
                              refine s_set (T := D) (i := 13) zcQ ?_ ?_ ?_ ?_ ?_
                              · exact ⟨sc_law_gadget.nd, rfl, .inl rfl, Or.inl rfl⟩
                              · exact (by decide : 13 < 14)
                              · exact (x_bin op_addD sm_add (x_FV (x_fr (pv 13) rfl)) (x_OV (x_lst (a_F (x_tup (a_F x_str (a_F (x_fr (pv 5) rfl) (a_F x_str (a_F (x_ix (x_OV (x_lst (a_F (x_fr (pv 7) rfl) (a_F (x_fr (pv 8) rfl) (a_F (x_fr (pv 9) rfl) a_nil))))) (x_FV (x_bin op_mod sm_mod (x_FV (x_fr (pv 1) rfl)) (x_FV x_int)))) a_nil))))) (a_F (x_tup (a_F x_str (a_F (x_fr (pv 6) rfl) (a_F (x_fr (pv 10) rfl) (a_F (x_ix (x_FV (x_fr (pv 4) rfl)) (x_FV x_int)) a_nil))))) a_nil)))))
                              · intro u_law_rows
                                refine s_retQ ww_F ?_
                                · exact (x_bin op_addD sm_add (x_FV (x_fr (pv 13) rfl)) (x_OV (x_lst (a_F (x_fr (pv 11) rfl) (a_F (x_fr (pv 11) rfl) (a_F (x_fr (pv 11) rfl) a_nil))))))
                              · exact rfl
                            · exact rfl
                          · refine s_ifQ (α := D) ?_ ?_ ?_
                            · exact (x_cmpT (op_eqA hu) sm_eq (nomark _) (x_FV (x_fr (pv 12) rfl)) (x_FV x_int))
                            · refine s_set (T := D) (i := 13) zcQ ?_ ?_ ?_ ?_ ?_
                              · exact ⟨sc_law_gadget.nd, rfl, .inl rfl, Or.inl rfl⟩
                              · exact (by decide : 13 < 14)
                              · exact (x_OF (x_lst (a_F (x_tup (a_F x_str (a_F (x_fr (pv 5) rfl) (a_F x_str (a_F (x_fr (pv 7) rfl) a_nil))))) (a_F (x_tup (a_F x_str (a_F (x_fr (pv 6) rfl) (a_F x_str (a_F (x_fr (pv 5) rfl) a_nil))))) (a_F (x_tup (a_F x_str a_nil)) (a_F (x_tup (a_F x_str (a_F (x_ix (x_OV (x_lst (a_F (x_fr (pv 5) rfl) (a_F (x_fr (pv 6) rfl) a_nil)))) (x_FV (x_bin op_mod sm_mod (x_FV (x_fr (pv 1) rfl)) (x_FV x_int)))) a_nil))) a_nil))))))
                              · intro u_law_rows
                                refine s_retQ ww_F ?_
                                · exact (x_bin op_addD sm_add (x_FV (x_fr (pv 13) rfl)) (x_OV (x_lst (a_F (x_tup (a_F x_str a_nil)) (a_F (x_tup (a_F x_str (a_F (x_fr (pv 6) rfl) a_nil))) (a_F (x_fr (pv 11) rfl) (a_F (x_tup (a_F x_str (a_F (x_fr (pv 5) rfl) a_nil))) (a_F (x_fr (pv 11) rfl) (a_F (x_fr (pv 11) rfl) a_nil)))))))))
                              · exact rfl
                            · refine s_ifQ (α := D) ?_ ?_ ?_
                              · exact (x_cmpT (op_eqA hu) sm_eq (nomark _) (x_FV (x_fr (pv 12) rfl)) (x_FV x_int))
                              · refine s_set (T := D) (i := 13) zcQ ?_ ?_ ?_ ?_ ?_
                                · exact ⟨sc_law_gadget.nd, rfl, .inl rfl, Or.inl rfl⟩
                                · exact (by decide : 13 < 14)
                                · exact (x_OF (x_lst (a_F (x_tup (a_F x_str (a_F (x_fr (pv 5) rfl) (a_F (x_fr (pv 10) rfl) (a_F (x_fr (pv 8) rfl) a_nil))))) (a_F (x_tup (a_F x_str (a_F (x_fr (pv 6) rfl) (a_F (x_ix (x_OV (x_lst (a_F x_str (a_F x_str a_nil)))) (x_FV (x_bin op_mod sm_mod (x_FV (x_fr (pv 1) rfl)) (x_FV x_int)))) (a_F (x_fr (pv 7) rfl) a_nil))))) a_nil))))
                                · intro u_law_rows
                                  refine s_retQ ww_F ?_
                                  · exact (x_bin op_addD sm_add (x_FV (x_fr (pv 13) rfl)) (x_OV (x_lst (a_F (x_tup (a_F x_str (a_F (x_ix (x_FV (x_fr (pv 4) rfl)) (x_FV x_int)) (a_F x_str (a_F (x_fr (pv 7) rfl) a_nil))))) (a_F (x_tup (a_F x_str (a_F (x_fr (pv 6) rfl) a_nil))) (a_F (x_fr (pv 11) rfl) (a_F (x_fr (pv 11) rfl) (a_F (x_fr (pv 11) rfl) a_nil))))))))
                                · exact rfl
                              · refine s_ifQ (α := D) ?_ ?_ ?_
                                · exact (x_cmpT (op_eqA hu) sm_eq (nomark _) (x_FV (x_bin op_mod sm_mod (x_FV (x_fr (pv 1) rfl)) (x_FV x_int))) (x_FV x_int))
                                · refine s_retQ ww_F ?_
                                  · exact (x_OF (x_lst (a_F (x_tup (a_F x_str (a_F (x_fr (pv 5) rfl) (a_F x_str (a_F (x_fr (pv 7) rfl) a_nil))))) (a_F (x_tup (a_F x_str (a_F (x_fr (pv 5) rfl) a_nil))) (a_F (x_tup (a_F x_str (a_F (x_fr (pv 6) rfl) (a_F (x_fr (pv 10) rfl) (a_F (x_fr (pv 5) rfl) a_nil))))) (a_F (x_tup (a_F x_str (a_F (x_fr (pv 6) rfl) a_nil))) (a_F (x_fr (pv 11) rfl) (a_F (x_fr (pv 11) rfl) a_nil))))))))
                                · refine s_set (T := D) (i := 13) zcQ ?_ ?_ ?_ ?_ ?_
                                  · exact ⟨sc_law_gadget.nd, rfl, .inl rfl, Or.inl rfl⟩
                                  · exact (by decide : 13 < 14)
                                  · exact (x_OF (x_lst (a_F (x_tup (a_F x_str (a_F (x_ix (x_FV (x_fr (pv 4) rfl)) (x_FV x_int)) (a_F (x_tup (a_F (x_fr (pv 8) rfl) (a_F (x_fr (pv 7) rfl) a_nil))) a_nil)))) (a_F (x_tup (a_F x_str (a_F (x_fr (pv 5) rfl) (a_F x_str (a_F (x_fr (pv 7) rfl) a_nil))))) (a_F (x_tup (a_F x_str a_nil)) (a_F (x_tup (a_F x_str (a_F (x_fr (pv 5) rfl) a_nil))) a_nil))))))
                                  · intro u_law_rows
                                    refine s_retQ ww_F ?_
                                    · exact (x_bin op_addD sm_add (x_FV (x_fr (pv 13) rfl)) (x_OV (x_lst (a_F (x_tup (a_F x_str a_nil)) (a_F (x_fr (pv 11) rfl) (a_F (x_tup (a_F x_str (a_F (x_fr (pv 6) rfl) (a_F (x_fr (pv 10) rfl) (a_F (x_ix (x_FV (x_fr (pv 4) rfl)) (x_FV x_int)) a_nil))))) (a_F (x_tup (a_F x_str (a_F (x_fr (pv 5) rfl) a_nil))) (a_F (x_fr (pv 11) rfl) (a_F (x_fr (pv 11) rfl) (a_F (x_fr (pv 11) rfl) a_nil))))))))))
                                  · exact rfl
                      · exact rfl
                    · exact rfl
                  · exact rfl
                · exact rfl
              · exact rfl
            · exact rfl
          · exact rfl
        · exact rfl
      · exact rfl
theorem ok_law_run {f : Addr} {fd : FuncData} (F : Fun K "_law_run" "_law_run" s_law_run f fd) (T : Txt K mg) (C_law_homes : Cal P w K mg base "_law_homes" ["_law_rows"] 1 (spR (rF K) K [true] l_law_homes)) (C_law_step : Cal P w K mg base "_law_step" ["_law_rows", "_law_home", "_law_standing", "_law_choice"] 2 (spR (rF K) K [true, true, true, true] l_law_step)) : FnOk P w K mg base CX0 3 f fd ["_law_rows", "_law_choices_here"] (spR (rF K) K [true, true] l_law_run) :=
  def_ok (R := rF K) (N := ["_law_rows", "_law_choices_here", "_law_home", "_law_found", "_law_standing", "_law_taken", "_law_choice"]) F sc_law_run rfl (by decide) fun cdv A outer s H E hr G n ds hds => match ds, hds with
    | [u_law_rows, u_law_choices_here], _ => by
      have hu := hr.units
      show PSs _ _ (tS _ _ _ _ _ (m_law_run n u_law_rows u_law_choices_here))
      refine s_set (T := D) (i := 2) zcQ ?_ ?_ ?_ ?_ ?_
      · exact ⟨sc_law_run.nd, rfl, .inl rfl, Or.inl rfl⟩
      · exact (by decide : 2 < 7)
      · exact (x_call C_law_homes n (hr.mono (by decide)) (by rfl) ww_F (a_F (x_fr (pv 0) rfl) a_nil))
      · intro u_law_home
        refine s_setO (T := D) (i := 3) zcQ ?_ ?_ ?_ ?_ ?_
        · exact ⟨sc_law_run.nd, rfl, .inl rfl, Or.inl rfl⟩
        · exact (by decide : 3 < 7)
        · exact (x_lst a_nil)
        · intro u_law_found
          refine s_set (T := D) (i := 4) zcQ ?_ ?_ ?_ ?_ ?_
          · exact ⟨sc_law_run.nd, rfl, .inl rfl, Or.inl rfl⟩
          · exact (by decide : 4 < 7)
          · exact (x_tup (a_F x_int (a_F (x_tup a_nil) a_nil)))
          · intro u_law_standing
            refine s_set (T := D) (i := 5) zcQ ?_ ?_ ?_ ?_ ?_
            · exact ⟨sc_law_run.nd, rfl, .inl rfl, Or.inl rfl⟩
            · exact (by decide : 5 < 7)
            · exact x_int
            · intro u_law_taken
              refine s_seqN (T := D) (enc := (fun s1 : (List D) × D × D => ([.fr u_law_rows, .fr u_law_choices_here, .fr u_law_home, .ow s1.1, .fr s1.2.1, .fr s1.2.2, .no] : En))) zcQ ?_ ?_
              · refine p_whileN (enc := (fun s1 : (List D) × D × D => ([.fr u_law_rows, .fr u_law_choices_here, .fr u_law_home, .ow s1.1, .fr s1.2.1, .fr s1.2.2, .no] : En))) (s0 := (u_law_found, u_law_standing, u_law_taken)) n [true, true, true, true, true, true, false] PassesOwn.never ?_ ?_ ?_
                · exact rfl
                · exact (fun s1 => (x_cmpT op_lt sm_ord (nomark _) (x_FV (x_ix (x_FV (x_fr (pv 4) rfl)) (x_FV x_int))) (x_FV (x_callB call_lenX sm_len (by rfl) T.b_len (by decide +kernel) (x_FV (x_fr (pv 0) rfl))))))
                · intro s1
                  refine s_app (T := ((List D) × D × D)) (i := 3) zcN ?_ ?_ ?_ ?_ ?_ ?_
                  · exact (pv 3)
                  · exact rfl
                  · exact (x_fr (pv 4) rfl)
                  · intro u_law_found
                    refine s_set (T := ((List D) × D × D)) (i := 6) zcN ?_ ?_ ?_ ?_ ?_
                    · exact ⟨sc_law_run.nd, rfl, .inl rfl, Or.inl rfl⟩
                    · exact (by decide : 6 < 7)
                    · exact x_int
                    · intro u_law_choice
                      refine s_ifN (T := ((List D) × D × D)) (enc := (fun s2 : D × D => ([.fr u_law_rows, .fr u_law_choices_here, .fr u_law_home, .ow u_law_found, .fr s1.2.1, .fr s2.1, .fr s2.2] : En))) zcN ?_ ?_ ?_ ?_
                      · exact (x_cmpT op_inX sm_in (by rfl) (x_FV (x_ix (x_FV (x_ix (x_FV (x_fr (pv 0) rfl)) (x_FV (x_ix (x_FV (x_fr (pv 4) rfl)) (x_FV x_int))))) (x_FV x_int))) (x_OV (x_lst (a_F x_str (a_F x_str (a_F x_str a_nil))))))
                      · refine s_ifN (T := (D × D)) (enc := (fun s3 : D => ([.fr u_law_rows, .fr u_law_choices_here, .fr u_law_home, .ow u_law_found, .fr s1.2.1, .fr s1.2.2, .fr s3] : En))) zcN ?_ ?_ ?_ ?_
                        · exact (x_cmpT op_lt sm_ord (nomark _) (x_FV (x_fr (pv 5) rfl)) (x_FV (x_callB call_lenX sm_len (by rfl) T.b_len (by decide +kernel) (x_FV (x_fr (pv 1) rfl)))))
                        · refine s_set (T := (D)) (i := 6) zcN ?_ ?_ ?_ ?_ ?_
                          · exact ⟨sc_law_run.nd, rfl, .inl rfl, Or.inl rfl⟩
                          · exact (by decide : 6 < 7)
                          · exact (x_ix (x_FV (x_fr (pv 1) rfl)) (x_FV (x_fr (pv 5) rfl)))
                          · intro u_law_choice
                            exact s_nilN (enc := (fun s3 : D => ([.fr u_law_rows, .fr u_law_choices_here, .fr u_law_home, .ow u_law_found, .fr s1.2.1, .fr s1.2.2, .fr s3] : En))) (s := u_law_choice) [true, true, true, true, true, true, true] rfl
                          · exact rfl
                        · exact s_nilN (enc := (fun s3 : D => ([.fr u_law_rows, .fr u_law_choices_here, .fr u_law_home, .ow u_law_found, .fr s1.2.1, .fr s1.2.2, .fr s3] : En))) (s := u_law_choice) [true, true, true, true, true, true, true] rfl
                        · intro s3
                          refine s_set (T := (D × D)) (i := 5) zcN ?_ ?_ ?_ ?_ ?_
                          · exact ⟨sc_law_run.nd, rfl, .inl rfl, Or.inl rfl⟩
                          · exact (by decide : 5 < 7)
                          · exact (x_bin op_addD sm_add (x_FV (x_fr (pv 5) rfl)) (x_FV x_int))
                          · intro u_law_taken
                            exact s_nilN (enc := (fun s2 : D × D => ([.fr u_law_rows, .fr u_law_choices_here, .fr u_law_home, .ow u_law_found, .fr s1.2.1, .fr s2.1, .fr s2.2] : En))) (s := (u_law_taken, s3)) [true, true, true, true, true, true, true] rfl
                          · exact rfl
                      · exact s_nilN (enc := (fun s2 : D × D => ([.fr u_law_rows, .fr u_law_choices_here, .fr u_law_home, .ow u_law_found, .fr s1.2.1, .fr s2.1, .fr s2.2] : En))) (s := (s1.2.2, u_law_choice)) [true, true, true, true, true, true, true] rfl
                      · intro s2
                        refine s_set (T := ((List D) × D × D)) (i := 4) zcN ?_ ?_ ?_ ?_ ?_
                        · exact ⟨sc_law_run.nd, rfl, .inl rfl, Or.inl rfl⟩
                        · exact (by decide : 4 < 7)
                        · exact (x_call C_law_step n (hr.mono (by decide)) (by rfl) ww_F (a_F (x_fr (pv 0) rfl) (a_F (x_fr (pv 2) rfl) (a_F (x_fr (pv 4) rfl) (a_F (x_fr (pv 6) rfl) a_nil)))))
                        · intro u_law_standing
                          exact s_nilN (enc := (fun s1 : (List D) × D × D => ([.fr u_law_rows, .fr u_law_choices_here, .fr u_law_home, .ow s1.1, .fr s1.2.1, .fr s1.2.2, .no] : En))) (s := (u_law_found, u_law_standing, s2.1)) [true, true, true, true, true, true, false] rfl
                        · exact rfl
                    · exact rfl
                  · exact (pe_bm PySem.F.plainAttrs_list PySem.F.slot_list_append PySem.F.type_list_append mt_append (pv 3) (pa_cons (x_fr (pv 4) rfl) pa_nil))
                  · exact rfl
              · intro s1
                refine s_frz (T := D) (i := 3) (ds := s1.1) zcQ ?_ ?_
                · exact rfl
                · refine s_retQ ww_F ?_
                  · exact (x_fr (pv 3) rfl)
            · exact rfl
          · exact rfl
        · exact rfl
      · exact rfl
theorem ok_law_few {f : Addr} {fd : FuncData} (F : Fun K "_law_few" "_law_few" s_law_few f fd) (T : Txt K mg) (C_law_homes : Cal P w K mg base "_law_homes" ["_law_rows"] 1 (spR (rF K) K [true] l_law_homes)) (C_law_some_ways : Cal P w K mg base "_law_some_ways" ["_law_rows", "_law_home", "_law_at"] 2 (spR (rF K) K [true, true, true] l_law_some_ways)) (C_law_step : Cal P w K mg base "_law_step" ["_law_rows", "_law_home", "_law_standing", "_law_choice"] 2 (spR (rF K) K [true, true, true, true] l_law_step)) : FnOk P w K mg base CX0 3 f fd ["_law_rows", "_law_most"] (spR (rF K) K [true, true] l_law_few) :=
  def_ok (R := rF K) (N := ["_law_rows", "_law_most", "_law_home", "_law_queue", "_law_seen", "_law_place", "_law_standing", "_law_choice", "_law_other"]) F sc_law_few rfl (by decide) fun cdv A outer s H E hr G n ds hds => match ds, hds with
    | [u_law_rows, u_law_most], _ => by
      have hu := hr.units
      show PSs _ _ (tS _ _ _ _ _ (m_law_few n u_law_rows u_law_most))
      refine s_set (T := D) (i := 2) zcQ ?_ ?_ ?_ ?_ ?_
      · exact ⟨sc_law_few.nd, rfl, .inl rfl, Or.inl rfl⟩
      · exact (by decide : 2 < 9)
      · exact (x_call C_law_homes n (hr.mono (by decide)) (by rfl) ww_F (a_F (x_fr (pv 0) rfl) a_nil))
      · intro u_law_home
        refine s_setO (T := D) (i := 3) zcQ ?_ ?_ ?_ ?_ ?_
        · exact ⟨sc_law_few.nd, rfl, .inl rfl, Or.inl rfl⟩
        · exact (by decide : 3 < 9)
        · exact (x_lst (a_F (x_tup (a_F x_int (a_F (x_tup a_nil) a_nil))) a_nil))
        · intro u_law_queue
          refine s_setD (T := D) (i := 4) hu zcQ ?_ ?_ ?_ ?_ ?_ ?_
          · exact ⟨sc_law_few.nd, rfl, .inl rfl, Or.inl rfl⟩
          · exact (by decide : 4 < 9)
          · exact (x_tup (a_F x_int (a_F (x_tup a_nil) a_nil)))
          · exact (x_FN x_bl)
          · intro u_law_seen
            refine s_set (T := D) (i := 5) zcQ ?_ ?_ ?_ ?_ ?_
            · exact ⟨sc_law_few.nd, rfl, .inl rfl, Or.inl rfl⟩
            · exact (by decide : 5 < 9)
            · exact x_int
            · intro u_law_place
              refine s_seqQ (α := D) (enc := (fun s1 : (List D) × (List (D × D)) × D => ([.fr u_law_rows, .fr u_law_most, .fr u_law_home, .ow s1.1, .dk w s1.2.1, .fr s1.2.2, .no, .no, .no] : En))) ?_ ?_
              · refine p_while (enc := (fun s1 : (List D) × (List (D × D)) × D => ([.fr u_law_rows, .fr u_law_most, .fr u_law_home, .ow s1.1, .dk w s1.2.1, .fr s1.2.2, .no, .no, .no] : En))) (s0 := (u_law_queue, u_law_seen, u_law_place)) n [true, true, true, true, true, true, false, false, false] PassesOwn.never ?_ ?_ ?_
                · exact rfl
                · exact (fun s1 => (y_pw (w_and (x_cmpT op_lt sm_ord (nomark _) (x_FV (x_fr (pv 5) rfl)) (x_FV (x_callB call_lenX sm_len (by rfl) T.b_len (by decide +kernel) (x_ow (pv 3) rfl)))) (w_and1 (x_cmpT op_gt sm_ord (nomark _) (x_FV (x_callB call_lenX sm_len (by rfl) T.b_len (by decide +kernel) (x_FV (x_fr (pv 0) rfl)))) (x_FV x_int))))))
                · intro s1
                  refine s_ifQM (α := D) ?_ ?_ ?_
                  · exact (x_cmpT op_gt sm_ord (nomark _) (x_FV (x_callB call_lenX sm_len (by rfl) T.b_len (by decide +kernel) (x_ow (pv 3) rfl))) (x_FV (x_fr (pv 1) rfl)))
                  · refine s_retQ ww_F ?_
                    · exact x_bl
                  · refine s_set (T := (Fl ((List D) × (List (D × D)) × D) D)) (i := 6) zcM ?_ ?_ ?_ ?_ ?_
                    · exact ⟨sc_law_few.nd, rfl, .inl rfl, Or.inl rfl⟩
                    · exact (by decide : 6 < 9)
                    · exact (x_ix (x_ow (pv 3) rfl) (x_FV (x_fr (pv 5) rfl)))
                    · intro u_law_standing
                      refine s_seqN (T := (Fl ((List D) × (List (D × D)) × D) D)) (enc := (fun s2 : (List D) × (List (D × D)) => ([.fr u_law_rows, .fr u_law_most, .fr u_law_home, .ow s2.1, .dk w s2.2, .fr s1.2.2, .fr u_law_standing, .no, .no] : En))) zcM ?_ ?_
                      · refine p_forN (i := 7) (enc := (fun s2 : (List D) × (List (D × D)) => ([.fr u_law_rows, .fr u_law_most, .fr u_law_home, .ow s2.1, .dk w s2.2, .fr s1.2.2, .fr u_law_standing, .no, .no] : En))) (s0 := (s1.1, s1.2.1)) [true, true, true, true, true, true, true, false, false] ?_ ?_ PassesOwn.never rfl ?_ ?_ ?_ (fun _ => rfl)
                        · exact ⟨sc_law_few.nd, rfl, .inl rfl, Or.inl rfl⟩
                        · exact (fun _ => (by decide : 7 < 9))
                        · exact (i_rng1 (by rfl) T.b_range (x_FV (x_call C_law_some_ways n (hr.mono (by decide)) (by rfl) ww_F (a_F (x_fr (pv 0) rfl) (a_F (x_fr (pv 2) rfl) (a_F (x_ix (x_FV (x_fr (pv 6) rfl)) (x_FV x_int)) a_nil))))))
                        · exact rfl
                        · intro u_law_choice s2
                          refine s_set (T := ((List D) × (List (D × D)))) (i := 8) zcN ?_ ?_ ?_ ?_ ?_
                          · exact ⟨sc_law_few.nd, rfl, .inl rfl, Or.inl rfl⟩
                          · exact (by decide : 8 < 9)
                          · exact (x_call C_law_step n (hr.mono (by decide)) (by rfl) ww_F (a_F (x_fr (pv 0) rfl) (a_F (x_fr (pv 2) rfl) (a_F (x_fr (pv 6) rfl) (a_F (x_fr (pv 7) rfl) a_nil)))))
                          · intro u_law_other
                            refine s_ifN (T := ((List D) × (List (D × D)))) (enc := (fun s3 : (List D) × (List (D × D)) => ([.fr u_law_rows, .fr u_law_most, .fr u_law_home, .ow s3.1, .dk w s3.2, .fr s1.2.2, .fr u_law_standing, .fr u_law_choice, .fr u_law_other] : En))) zcN ?_ ?_ ?_ ?_
                            · exact (y_pw (w_and (x_cmpT op_lt sm_ord (nomark _) (x_FV (x_ix (x_FV (x_fr (pv 8) rfl)) (x_FV x_int))) (x_FV (x_callB call_lenX sm_len (by rfl) T.b_len (by decide +kernel) (x_FV (x_fr (pv 0) rfl))))) (w_and1 (x_dninT hu (pv 4) rfl (x_fr (pv 8) rfl) (by rfl)))))
                            · refine s_dset (T := ((List D) × (List (D × D)))) (i := 4) hu zcN (pv 4) ?_ ?_ ?_ ?_ rfl rfl rfl (fun _ => rfl)
                              · exact rfl
                              · exact (x_FN x_bl)
                              · exact (x_fr (pv 8) rfl)
                              · intro u_law_seen
                                refine s_app (T := ((List D) × (List (D × D)))) (i := 3) zcN ?_ ?_ ?_ ?_ ?_ ?_
                                · exact (pv 3)
                                · exact rfl
                                · exact (x_fr (pv 8) rfl)
                                · intro u_law_queue
                                  exact s_nilN (enc := (fun s3 : (List D) × (List (D × D)) => ([.fr u_law_rows, .fr u_law_most, .fr u_law_home, .ow s3.1, .dk w s3.2, .fr s1.2.2, .fr u_law_standing, .fr u_law_choice, .fr u_law_other] : En))) (s := (u_law_queue, u_law_seen)) [true, true, true, true, true, true, true, true, true] rfl
                                · exact (pe_bm PySem.F.plainAttrs_list PySem.F.slot_list_append PySem.F.type_list_append mt_append (pv 3) (pa_cons (x_fr (pv 8) rfl) pa_nil))
                                · exact rfl
                            · exact s_nilN (enc := (fun s3 : (List D) × (List (D × D)) => ([.fr u_law_rows, .fr u_law_most, .fr u_law_home, .ow s3.1, .dk w s3.2, .fr s1.2.2, .fr u_law_standing, .fr u_law_choice, .fr u_law_other] : En))) (s := (s2.1, s2.2)) [true, true, true, true, true, true, true, true, true] rfl
                            · intro s3
                              exact s_nilN (enc := (fun s2 : (List D) × (List (D × D)) => ([.fr u_law_rows, .fr u_law_most, .fr u_law_home, .ow s2.1, .dk w s2.2, .fr s1.2.2, .fr u_law_standing, .no, .no] : En))) (s := (s3.1, s3.2)) [true, true, true, true, true, true, true, false, false] rfl
                          · exact rfl
                      · intro s2
                        refine s_set (T := (Fl ((List D) × (List (D × D)) × D) D)) (i := 5) zcM ?_ ?_ ?_ ?_ ?_
                        · exact ⟨sc_law_few.nd, rfl, .inl rfl, Or.inl rfl⟩
                        · exact (by decide : 5 < 9)
                        · exact (x_bin op_addD sm_add (x_FV (x_fr (pv 5) rfl)) (x_FV x_int))
                        · intro u_law_place
                          exact s_nilM (enc := (fun s1 : (List D) × (List (D × D)) × D => ([.fr u_law_rows, .fr u_law_most, .fr u_law_home, .ow s1.1, .dk w s1.2.1, .fr s1.2.2, .no, .no, .no] : En))) (s := (s2.1, s2.2, u_law_place)) [true, true, true, true, true, true, false, false, false] rfl
                        · exact rfl
                    · exact rfl
              · intro s1
                refine s_retQ ww_F ?_
                · exact x_bl
            · exact rfl
          · exact rfl
        · exact rfl
      · exact rfl
theorem ok_fault {f : Addr} {fd : FuncData} (F : Fun K "fault" "fault" s_fault f fd) (T : Txt K mg) (C_is_beside : Cal P w K mg base "is_beside" ["held"] 3 (spR (rF K) K [true] l_is_beside)) (C_is_asleep : Cal P w K mg base "is_asleep" ["held", "word"] 1 (spR (rF K) K [true, true] l_is_asleep)) (C_hand_of : Cal P w K mg base "hand_of" ["row"] 1 (spR (rF K) K [true] l_hand_of)) : FnOk P w K mg base CX0 4 f fd ["rows", "standing"] (spR (rF K) K [true, true] l_fault) :=
  def_ok (R := rF K) (N := ["rows", "standing", "row", "held", "one"]) F sc_fault rfl (by decide) fun cdv A outer s H E hr G n ds hds => match ds, hds with
    | [u_rows, u_standing], _ => by
      have hu := hr.units
      show PSs _ _ (tS _ _ _ _ _ (m_fault n u_rows u_standing))
      refine s_set (T := D) (i := 2) zcQ ?_ ?_ ?_ ?_ ?_
      · exact ⟨sc_fault.nd, rfl, .inl rfl, Or.inl rfl⟩
      · exact (by decide : 2 < 5)
      · exact (x_ix (x_FV (x_fr (pv 0) rfl)) (x_FV (x_ix (x_FV (x_fr (pv 1) rfl)) (x_FV x_int))))
      · intro u_row
        refine s_set (T := D) (i := 3) zcQ ?_ ?_ ?_ ?_ ?_
        · exact ⟨sc_fault.nd, rfl, .inl rfl, Or.inl rfl⟩
        · exact (by decide : 3 < 5)
        · exact (x_ix (x_FV (x_fr (pv 1) rfl)) (x_FV x_int))
        · intro u_held
          refine s_ifQ (α := D) ?_ ?_ ?_
          · exact (y_val (x_FV (x_call C_is_beside n (hr.mono (by decide)) (by rfl) ww_F (a_F (x_fr (pv 3) rfl) a_nil))))
          · refine s_retQ ww_F ?_
            · exact x_str
          · refine s_seqQ (α := D) (enc := (fun s1 : Unit => ([.fr u_rows, .fr u_standing, .fr u_row, .fr u_held, .no] : En))) ?_ ?_
            · refine p_for (i := 4) (enc := (fun s1 : Unit => ([.fr u_rows, .fr u_standing, .fr u_row, .fr u_held, .no] : En))) (s0 := ()) [true, true, true, true, false] ?_ ?_ PassesOwn.never rfl ?_ ?_ ?_ (fun _ => rfl)
              · exact ⟨sc_fault.nd, rfl, .inl rfl, Or.inl rfl⟩
              · exact (fun _ => (by decide : 4 < 5))
              · exact (i_any (x_FW (lo := true) (x_fr (pv 3) rfl)))
              · exact rfl
              · intro u_one s1
                refine s_ifQM (α := D) ?_ ?_ ?_
                · exact (y_pw (w_and (x_cmpT (op_neA hu) sm_ne (nomark _) (x_FV (x_ix (x_FV (x_fr (pv 4) rfl)) (x_FV x_int))) (x_FV x_str)) (w_and (x_cmpT (op_eqA hu) sm_eq (nomark _) (x_FV (x_ix (x_FV (x_fr (pv 4) rfl)) (x_FV x_int))) (x_FV (x_call C_hand_of n (hr.mono (by decide)) (by rfl) ww_F (a_F (x_fr (pv 2) rfl) a_nil)))) (w_and1 (y_not (y_val (x_FV (x_ix (x_FV (x_fr (pv 4) rfl)) (x_FV x_int)))))))))
                · refine s_retQ ww_F ?_
                  · exact x_str
                · exact s_nilM (enc := (fun s1 : Unit => ([.fr u_rows, .fr u_standing, .fr u_row, .fr u_held, .no] : En))) (s := ()) [true, true, true, true, false] rfl
            · intro s1
              refine s_ifQ (α := D) ?_ ?_ ?_
              · exact (y_pw (w_and (x_cmpT op_inX sm_in (by rfl) (x_FV (x_ix (x_FV (x_fr (pv 2) rfl)) (x_FV x_int))) (x_FV (x_tup (a_F x_str (a_F x_str a_nil))))) (w_and1 (y_val (x_FV (x_call C_is_asleep n (hr.mono (by decide)) (by rfl) ww_F (a_F (x_fr (pv 3) rfl) (a_F (x_ix (x_FV (x_fr (pv 2) rfl)) (x_FV x_int)) a_nil))))))))
              · refine s_retQ ww_F ?_
                · exact x_str
              · refine s_retQ ww_F ?_
                · exact x_str
        · exact rfl
      · exact rfl
theorem ok_law_sheet {f : Addr} {fd : FuncData} (F : Fun K "_law_sheet" "_law_sheet" s_law_sheet f fd) (T : Txt K mg) (C_law_row : Cal P w K mg base "_law_row" ["_law_way", "_law_one", "_law_two", "_law_opened", "_law_draw_here"] 3 (spR (rF K) K [true, true, true, false, true] l_law_row)) (C_law_gadget : Cal P w K mg base "_law_gadget" ["_law_one", "_law_two", "_law_deep", "_law_draw_here"] 3 (spR (rF K) K [true, true, true, true] l_law_gadget)) : FnOk P w K mg base CX0 4 f fd ["_law_cells", "_law_draw_here", "_law_most", "_law_odd"] (spR (rF K) K [true, true, true, true] l_law_sheet) :=
  def_ok (R := rF K) (N := ["_law_cells", "_law_draw_here", "_law_most", "_law_odd", "_law_rows", "_law_opened", "_law_k", "_law_named", "_law_row_here", "_law_way"]) F sc_law_sheet rfl (by decide) fun cdv A outer s H E hr G n ds hds => match ds, hds with
    | [u_law_cells, u_law_draw_here, u_law_most, u_law_odd], _ => by
      have hu := hr.units
      show PSs _ _ (tS _ _ _ _ _ (m_law_sheet n u_law_cells u_law_draw_here u_law_most u_law_odd))
      refine s_set (T := D) (i := 4) zcQ ?_ ?_ ?_ ?_ ?_
      · exact ⟨sc_law_sheet.nd, rfl, .inl rfl, Or.inl rfl⟩
      · exact (by decide : 4 < 10)
      · exact (x_OF (x_lst a_nil))
      · intro u_law_rows
        refine s_setO (T := D) (i := 5) zcQ ?_ ?_ ?_ ?_ ?_
        · exact ⟨sc_law_sheet.nd, rfl, .inl rfl, Or.inl rfl⟩
        · exact (by decide : 5 < 10)
        · exact (x_lst a_nil)
        · intro u_law_opened
          refine s_seqN (T := D) (enc := (fun s1 : D × (List D) => ([.fr u_law_cells, .fr u_law_draw_here, .fr u_law_most, .fr u_law_odd, .fr s1.1, .ow s1.2, .no, .no, .no, .no] : En))) zcQ ?_ ?_
          · refine p_forN (i := 6) (enc := (fun s1 : D × (List D) => ([.fr u_law_cells, .fr u_law_draw_here, .fr u_law_most, .fr u_law_odd, .fr s1.1, .ow s1.2, .no, .no, .no, .no] : En))) (s0 := (u_law_rows, u_law_opened)) [true, true, true, true, true, true, false, false, false, false] ?_ ?_ PassesOwn.never rfl ?_ ?_ ?_ (fun _ => rfl)
            · exact ⟨sc_law_sheet.nd, rfl, .inl rfl, Or.inl rfl⟩
            · exact (fun _ => (by decide : 6 < 10))
            · exact (i_rng1 (by rfl) T.b_range (x_FV (x_bin op_fdiv sm_fdiv (x_FV (x_callB call_lenX sm_len (by rfl) T.b_len (by decide +kernel) (x_FV (x_fr (pv 0) rfl)))) (x_FV x_int))))
            · exact rfl
            · intro u_law_k s1
              refine s_lc1F (T := (D × (List D))) (i := 7) (j := 8) zcN ?_ ?_ rfl sc_law_sheet.nd rfl rfl (sw_true rfl rfl rfl (by decide +kernel)) ?_ (blkOk_by (own := [("_law_row_here", 8)]) (N := ["_law_cells", "_law_draw_here", "_law_most", "_law_odd", "_law_rows", "_law_opened", "_law_k", "_law_named", "_law_row_here", "_law_way"]) (sc := defScope s_law_sheet) (by decide +kernel)) ?_ ?_ ?_ (fun _ => rfl) ?_
              · exact (by decide : 7 < 10)
              · exact (by decide : 8 < 10)
              · exact (i_any (x_VW (x_ow (pv 5) rfl)))
              · exact (fun _ _ _ _ _ => pg_name (i := 8) sc_law_sheet.nd rfl (Or.inl rfl))
              · exact (fun _ _ _ _ _ u_law_row_here => (c_one (x_cmpT op_inX sm_in (by rfl) (x_FV (x_ix (x_FV (x_fr (pv 8) rfl)) (x_FV x_int))) (x_OV (x_lst (a_F x_str (a_F x_str a_nil)))))))
              · exact (fun _ _ _ _ _ u_law_row_here => (x_fr (pv 8) rfl))
              · intro u_law_named
                refine s_set (T := (D × (List D))) (i := 9) zcN ?_ ?_ ?_ ?_ ?_
                · exact ⟨sc_law_sheet.nd, rfl, .inl rfl, Or.inl rfl⟩
                · exact (by decide : 9 < 10)
                · exact (x_ix (x_FV (x_fr (pv 0) rfl)) (x_FV (x_bin op_mulD sm_mul (x_FV x_int) (x_FV (x_fr (pv 6) rfl)))))
                · intro u_law_way
                  refine s_ifN (T := (D × (List D))) (enc := (fun s2 : D × (List D) => ([.fr u_law_cells, .fr u_law_draw_here, .fr u_law_most, .fr u_law_odd, .fr s2.1, .ow s2.2, .fr u_law_k, .fr u_law_named, .no, .fr u_law_way] : En))) zcN ?_ ?_ ?_ ?_
                  · exact (y_pw (w_and (y_val (x_FV (x_fr (pv 3) rfl))) (w_and (x_cmpT (op_eqA hu) sm_eq (nomark _) (x_FV (x_bin op_mod sm_mod (x_FV (x_fr (pv 9) rfl)) (x_FV x_int))) (x_FV x_int)) (w_and1 (x_cmpT op_lt sm_ord (nomark _) (x_FV (x_callB call_lenX sm_len (by rfl) T.b_len (by decide +kernel) (x_FV (x_fr (pv 7) rfl)))) (x_FV x_int))))))
                  · refine s_set (T := (D × (List D))) (i := 4) zcN ?_ ?_ ?_ ?_ ?_
                    · exact ⟨sc_law_sheet.nd, rfl, .inl rfl, Or.inl rfl⟩
                    · exact (by decide : 4 < 10)
                    · exact (x_bin op_addD sm_add (x_FV (x_fr (pv 4) rfl)) (x_FV (x_call C_law_gadget n (hr.mono (by decide)) (by rfl) ww_F (a_F (x_ix (x_FV (x_fr (pv 0) rfl)) (x_FV (x_bin op_addD sm_add (x_FV (x_bin op_mulD sm_mul (x_FV x_int) (x_FV (x_fr (pv 6) rfl)))) (x_FV x_int)))) (a_F (x_ix (x_FV (x_fr (pv 0) rfl)) (x_FV (x_bin op_addD sm_add (x_FV (x_bin op_mulD sm_mul (x_FV x_int) (x_FV (x_fr (pv 6) rfl)))) (x_FV x_int)))) (a_F (x_callB call_lenX sm_len (by rfl) T.b_len (by decide +kernel) (x_FV (x_fr (pv 7) rfl))) (a_F (x_fr (pv 1) rfl) a_nil)))))))
                    · intro u_law_rows
                      exact s_nilN (enc := (fun s2 : D × (List D) => ([.fr u_law_cells, .fr u_law_draw_here, .fr u_law_most, .fr u_law_odd, .fr s2.1, .ow s2.2, .fr u_law_k, .fr u_law_named, .no, .fr u_law_way] : En))) (s := (u_law_rows, s1.2)) [true, true, true, true, true, true, true, true, false, true] rfl
                    · exact rfl
                  · refine s_set (T := (D × (List D))) (i := 8) zcN ?_ ?_ ?_ ?_ ?_
                    · exact ⟨sc_law_sheet.nd, rfl, .inl rfl, Or.inl rfl⟩
                    · exact (by decide : 8 < 10)
                    · exact (x_call C_law_row n (hr.mono (by decide)) (by rfl) ww_F (a_F (x_bin op_mod sm_mod (x_FV (x_fr (pv 9) rfl)) (x_FV (x_fr (pv 2) rfl))) (a_F (x_ix (x_FV (x_fr (pv 0) rfl)) (x_FV (x_bin op_addD sm_add (x_FV (x_bin op_mulD sm_mul (x_FV x_int) (x_FV (x_fr (pv 6) rfl)))) (x_FV x_int)))) (a_F (x_ix (x_FV (x_fr (pv 0) rfl)) (x_FV (x_bin op_addD sm_add (x_FV (x_bin op_mulD sm_mul (x_FV x_int) (x_FV (x_fr (pv 6) rfl)))) (x_FV x_int)))) (a_V (x_ow (pv 5) rfl) (a_F (x_fr (pv 1) rfl) a_nil))))))
                    · intro u_law_row_here
                      refine s_set (T := (D × (List D))) (i := 4) zcN ?_ ?_ ?_ ?_ ?_
                      · exact ⟨sc_law_sheet.nd, rfl, .inl rfl, Or.inl rfl⟩
                      · exact (by decide : 4 < 10)
                      · exact (x_bin op_addD sm_add (x_FV (x_fr (pv 4) rfl)) (x_OV (x_lst (a_F (x_fr (pv 8) rfl) a_nil))))
                      · intro u_law_rows
                        refine s_ifN (T := (D × (List D))) (enc := (fun s3 : (List D) => ([.fr u_law_cells, .fr u_law_draw_here, .fr u_law_most, .fr u_law_odd, .fr u_law_rows, .ow s3, .fr u_law_k, .fr u_law_named, .fr u_law_row_here, .fr u_law_way] : En))) zcN ?_ ?_ ?_ ?_
                        · exact (x_cmpT op_inX sm_in (by rfl) (x_FV (x_ix (x_FV (x_fr (pv 8) rfl)) (x_FV x_int))) (x_OV (x_lst (a_F x_str (a_F x_str (a_F x_str (a_F x_str a_nil)))))))
                        · refine s_app (T := ((List D))) (i := 5) zcN ?_ ?_ ?_ ?_ ?_ ?_
                          · exact (pv 5)
                          · exact rfl
                          · exact (x_fr (pv 8) rfl)
                          · intro u_law_opened
                            exact s_nilN (enc := (fun s3 : (List D) => ([.fr u_law_cells, .fr u_law_draw_here, .fr u_law_most, .fr u_law_odd, .fr u_law_rows, .ow s3, .fr u_law_k, .fr u_law_named, .fr u_law_row_here, .fr u_law_way] : En))) (s := u_law_opened) [true, true, true, true, true, true, true, true, true, true] rfl
                          · exact (pe_bm PySem.F.plainAttrs_list PySem.F.slot_list_append PySem.F.type_list_append mt_append (pv 5) (pa_cons (x_fr (pv 8) rfl) pa_nil))
                          · exact rfl
                        · exact s_nilN (enc := (fun s3 : (List D) => ([.fr u_law_cells, .fr u_law_draw_here, .fr u_law_most, .fr u_law_odd, .fr u_law_rows, .ow s3, .fr u_law_k, .fr u_law_named, .fr u_law_row_here, .fr u_law_way] : En))) (s := s1.2) [true, true, true, true, true, true, true, true, true, true] rfl
                        · intro s3
                          refine s_ifN (T := (D × (List D))) (enc := (fun s4 : (List D) => ([.fr u_law_cells, .fr u_law_draw_here, .fr u_law_most, .fr u_law_odd, .fr u_law_rows, .ow s4, .fr u_law_k, .fr u_law_named, .fr u_law_row_here, .fr u_law_way] : En))) zcN ?_ ?_ ?_ ?_
                          · exact (x_cmpT (op_eqA hu) sm_eq (nomark _) (x_FV (x_ix (x_FV (x_fr (pv 8) rfl)) (x_FV x_int))) (x_FV x_str))
                          · refine s_pop (T := ((List D))) (i := 5) zcN ?_ ?_ ?_ ?_ ?_
                            · exact (pv 5)
                            · exact rfl
                            · intro u_law_opened
                              exact s_nilN (enc := (fun s4 : (List D) => ([.fr u_law_cells, .fr u_law_draw_here, .fr u_law_most, .fr u_law_odd, .fr u_law_rows, .ow s4, .fr u_law_k, .fr u_law_named, .fr u_law_row_here, .fr u_law_way] : En))) (s := u_law_opened) [true, true, true, true, true, true, true, true, true, true] rfl
                            · exact (pe_bm0 PySem.F.plainAttrs_list PySem.F.slot_list_pop PySem.F.type_list_pop mt_pop (pv 5))
                            · exact rfl
                          · exact s_nilN (enc := (fun s4 : (List D) => ([.fr u_law_cells, .fr u_law_draw_here, .fr u_law_most, .fr u_law_odd, .fr u_law_rows, .ow s4, .fr u_law_k, .fr u_law_named, .fr u_law_row_here, .fr u_law_way] : En))) (s := s3) [true, true, true, true, true, true, true, true, true, true] rfl
                          · intro s4
                            exact s_nilN (enc := (fun s2 : D × (List D) => ([.fr u_law_cells, .fr u_law_draw_here, .fr u_law_most, .fr u_law_odd, .fr s2.1, .ow s2.2, .fr u_law_k, .fr u_law_named, .no, .fr u_law_way] : En))) (s := (u_law_rows, s4)) [true, true, true, true, true, true, true, true, false, true] rfl
                      · exact rfl
                    · exact rfl
                  · intro s2
                    exact s_nilN (enc := (fun s1 : D × (List D) => ([.fr u_law_cells, .fr u_law_draw_here, .fr u_law_most, .fr u_law_odd, .fr s1.1, .ow s1.2, .no, .no, .no, .no] : En))) (s := (s2.1, s2.2)) [true, true, true, true, true, true, false, false, false, false] rfl
                · exact rfl
          · intro s1
            refine s_retQ ww_F ?_
            · exact (x_bin op_addD sm_add (x_FV (x_fr (pv 4) rfl)) (x_OV (x_lc1 (j := 8) rfl sc_law_sheet.nd (by decide : 8 < 10) (i_any (x_VW (x_ow (pv 5) rfl))) (blkOk_by (own := [("_law_row_here", 8)]) (N := ["_law_cells", "_law_draw_here", "_law_most", "_law_odd", "_law_rows", "_law_opened", "_law_k", "_law_named", "_law_row_here", "_law_way"]) (sc := defScope s_law_sheet) (by decide +kernel)) (fun _ _ _ _ _ => pg_name (i := 8) sc_law_sheet.nd rfl (Or.inl rfl)) (fun _ _ _ _ _ u_law_row_here => c_yes) (fun _ _ _ _ _ u_law_row_here => (x_tup (a_F x_str a_nil))))))
        · exact rfl
      · exact rfl
theorem ok_looked {f : Addr} {fd : FuncData} (F : Fun K "looked" "looked" s_looked f fd) (T : Txt K mg) (C_checked : Cal P w K mg base "checked" ["rows"] 3 (spR (rF K) K [true] l_checked)) (C_homes : Cal P w K mg base "homes" ["rows"] 1 (spR (rO K) K [true] l_homes)) (C_ends : Cal P w K mg base "ends" ["rows"] 2 (spR (rO K) K [true] l_ends)) (C_fault : Cal P w K mg base "fault" ["rows", "standing"] 4 (spR (rF K) K [true, true] l_fault)) (C_sooner : Cal P w K mg base "sooner" ["told", "at", "word"] 1 (spR (rF K) K [true, true, true] l_sooner)) (C_ways : Cal P w K mg base "ways" ["rows", "standing"] 3 (spR (rF K) K [true, true] l_ways)) (C_stepped_by : Cal P w K mg base "stepped_by" ["rows", "home", "last", "standing", "choice"] 3 (spR (rF K) K [true, true, true, true, true] l_stepped_by)) (C_chooses : Cal P w K mg base "chooses" ["row"] 1 (spR (rF K) K [true] l_chooses)) : FnOk P w K mg base CX0 5 f fd ["rows"] (spR (rT K) K [true] l_looked) :=
  def_ok (R := rT K) (N := ["rows", "home", "last", "queue", "choices", "told", "place", "standing", "word", "choice", "found"]) F sc_looked rfl (by decide) fun cdv A outer s H E hr G n ds hds => match ds, hds with
    | [u_rows], _ => by
      have hu := hr.units
      show PSs _ _ (tS _ _ _ _ _ (m_looked n u_rows))
      refine s_drop (T := D) zcQ ?_ ?_ ?_
      · exact (x_call C_checked n (hr.mono (by decide)) (by rfl) ww_F (a_F (x_fr (pv 0) rfl) a_nil))
      · refine s_ifQ (α := D) ?_ ?_ ?_
        · exact (x_cmpT (op_eqA hu) sm_eq (nomark _) (x_FV (x_callB call_lenX sm_len (by rfl) T.b_len (by decide +kernel) (x_FV (x_fr (pv 0) rfl)))) (x_FV x_int))
        · refine s_retT ?_
          · exact (x_FN x_non)
        · refine s_set (T := D) (i := 1) zcQ ?_ ?_ ?_ ?_ ?_
          · exact ⟨sc_looked.nd, rfl, .inl rfl, Or.inl rfl⟩
          · exact (by decide : 1 < 11)
          · exact (x_OF (x_call C_homes n (hr.mono (by decide)) (by rfl) ww_O (a_F (x_fr (pv 0) rfl) a_nil)))
          · intro u_home
            refine s_set (T := D) (i := 2) zcQ ?_ ?_ ?_ ?_ ?_
            · exact ⟨sc_looked.nd, rfl, .inl rfl, Or.inl rfl⟩
            · exact (by decide : 2 < 11)
            · exact (x_OF (x_call C_ends n (hr.mono (by decide)) (by rfl) ww_O (a_F (x_fr (pv 0) rfl) a_nil)))
            · intro u_last
              refine s_setO (T := D) (i := 3) zcQ ?_ ?_ ?_ ?_ ?_
              · exact ⟨sc_looked.nd, rfl, .inl rfl, Or.inl rfl⟩
              · exact (by decide : 3 < 11)
              · exact (x_lst (a_F (x_tup (a_F x_int (a_F (x_tup a_nil) a_nil))) a_nil))
              · intro u_queue
                refine s_setD (T := D) (i := 4) hu zcQ ?_ ?_ ?_ ?_ ?_ ?_
                · exact ⟨sc_looked.nd, rfl, .inl rfl, Or.inl rfl⟩
                · exact (by decide : 4 < 11)
                · exact (x_tup (a_F x_int (a_F (x_tup a_nil) a_nil)))
                · exact (x_ON (x_lst a_nil))
                · intro u_choices
                  refine s_setN (T := D) (i := 5) zcQ ?_ ?_ ?_ ?_ ?_
                  · exact ⟨sc_looked.nd, rfl, .inl rfl, Or.inl rfl⟩
                  · exact (by decide : 5 < 11)
                  · exact (x_FN x_non)
                  · intro u_told
                    refine s_set (T := D) (i := 6) zcQ ?_ ?_ ?_ ?_ ?_
                    · exact ⟨sc_looked.nd, rfl, .inl rfl, Or.inl rfl⟩
                    · exact (by decide : 6 < 11)
                    · exact x_int
                    · intro u_place
                      refine s_seqN (T := D) (enc := (fun s1 : (List D) × (List (D × D)) × D × D => ([.fr u_rows, .fr u_home, .fr u_last, .ow s1.1, .dk w s1.2.1, .ff s1.2.2.1, .fr s1.2.2.2, .no, .no, .no, .no] : En))) zcQ ?_ ?_
                      · refine p_whileN (enc := (fun s1 : (List D) × (List (D × D)) × D × D => ([.fr u_rows, .fr u_home, .fr u_last, .ow s1.1, .dk w s1.2.1, .ff s1.2.2.1, .fr s1.2.2.2, .no, .no, .no, .no] : En))) (s0 := (u_queue, u_choices, u_told, u_place)) n [true, true, true, true, true, true, true, false, false, false, false] PassesOwn.never ?_ ?_ ?_
                        · exact rfl
                        · exact (fun s1 => (x_cmpT op_lt sm_ord (nomark _) (x_FV (x_fr (pv 6) rfl)) (x_FV (x_callB call_lenX sm_len (by rfl) T.b_len (by decide +kernel) (x_ow (pv 3) rfl)))))
                        · intro s1
                          refine s_set (T := ((List D) × (List (D × D)) × D × D)) (i := 7) zcN ?_ ?_ ?_ ?_ ?_
                          · exact ⟨sc_looked.nd, rfl, .inl rfl, Or.inl rfl⟩
                          · exact (by decide : 7 < 11)
                          · exact (x_ix (x_ow (pv 3) rfl) (x_FV (x_fr (pv 6) rfl)))
                          · intro u_standing
                            refine s_set (T := ((List D) × (List (D × D)) × D × D)) (i := 6) zcN ?_ ?_ ?_ ?_ ?_
                            · exact ⟨sc_looked.nd, rfl, .inl rfl, Or.inl rfl⟩
                            · exact (by decide : 6 < 11)
                            · exact (x_bin op_addD sm_add (x_FV (x_fr (pv 6) rfl)) (x_FV x_int))
                            · intro u_place
                              refine s_set (T := ((List D) × (List (D × D)) × D × D)) (i := 8) zcN ?_ ?_ ?_ ?_ ?_
                              · exact ⟨sc_looked.nd, rfl, .inl rfl, Or.inl rfl⟩
                              · exact (by decide : 8 < 11)
                              · exact (x_call C_fault n (hr.mono (by decide)) (by rfl) ww_F (a_F (x_fr (pv 0) rfl) (a_F (x_fr (pv 7) rfl) a_nil)))
                              · intro u_word
                                refine s_ifN (T := ((List D) × (List (D × D)) × D × D)) (enc := (fun s2 : D => ([.fr u_rows, .fr u_home, .fr u_last, .ow s1.1, .dk w s1.2.1, .ff s2, .fr u_place, .fr u_standing, .fr u_word, .no, .no] : En))) zcN ?_ ?_ ?_ ?_
                                · exact (y_pw (w_and (x_cmpT (op_neA hu) sm_ne (nomark _) (x_FV (x_fr (pv 8) rfl)) (x_FV x_str)) (w_and1 (y_val (x_FV (x_call C_sooner n (hr.mono (by decide)) (by rfl) ww_F (a_F (x_NF (x_ff (pv 5) rfl)) (a_F (x_ix (x_FV (x_fr (pv 7) rfl)) (x_FV x_int)) (a_F (x_fr (pv 8) rfl) a_nil)))))))))
                                · refine s_setN (T := (D)) (i := 5) zcN ?_ ?_ ?_ ?_ ?_
                                  · exact ⟨sc_looked.nd, rfl, .inl rfl, Or.inl rfl⟩
                                  · exact (by decide : 5 < 11)
                                  · exact (x_tupN (n_cons (x_FN (x_ix (x_FV (x_fr (pv 7) rfl)) (x_FV x_int))) (n_cons (x_FN (x_fr (pv 8) rfl)) (n_cons (x_dget hu (pv 4) rfl (x_fr (pv 7) rfl)) n_nil))))
                                  · intro u_told
                                    exact s_nilN (enc := (fun s2 : D => ([.fr u_rows, .fr u_home, .fr u_last, .ow s1.1, .dk w s1.2.1, .ff s2, .fr u_place, .fr u_standing, .fr u_word, .no, .no] : En))) (s := u_told) [true, true, true, true, true, true, true, true, true, false, false] rfl
                                  · exact rfl
                                · exact s_nilN (enc := (fun s2 : D => ([.fr u_rows, .fr u_home, .fr u_last, .ow s1.1, .dk w s1.2.1, .ff s2, .fr u_place, .fr u_standing, .fr u_word, .no, .no] : En))) (s := s1.2.2.1) [true, true, true, true, true, true, true, true, true, false, false] rfl
                                · intro s2
                                  refine s_seqN (T := ((List D) × (List (D × D)) × D × D)) (enc := (fun s3 : (List D) × (List (D × D)) => ([.fr u_rows, .fr u_home, .fr u_last, .ow s3.1, .dk w s3.2, .ff s2, .fr u_place, .fr u_standing, .fr u_word, .no, .no] : En))) zcN ?_ ?_
                                  · refine p_forN (i := 9) (enc := (fun s3 : (List D) × (List (D × D)) => ([.fr u_rows, .fr u_home, .fr u_last, .ow s3.1, .dk w s3.2, .ff s2, .fr u_place, .fr u_standing, .fr u_word, .no, .no] : En))) (s0 := (s1.1, s1.2.1)) [true, true, true, true, true, true, true, true, true, false, false] ?_ ?_ PassesOwn.never rfl ?_ ?_ ?_ (fun _ => rfl)
                                    · exact ⟨sc_looked.nd, rfl, .inl rfl, Or.inl rfl⟩
                                    · exact (fun _ => (by decide : 9 < 11))
                                    · exact (i_rng1 (by rfl) T.b_range (x_FV (x_call C_ways n (hr.mono (by decide)) (by rfl) ww_F (a_F (x_fr (pv 0) rfl) (a_F (x_fr (pv 7) rfl) a_nil)))))
                                    · exact rfl
                                    · intro u_choice s3
                                      refine s_set (T := ((List D) × (List (D × D)))) (i := 10) zcN ?_ ?_ ?_ ?_ ?_
                                      · exact ⟨sc_looked.nd, rfl, .inl rfl, Or.inl rfl⟩
                                      · exact (by decide : 10 < 11)
                                      · exact (x_call C_stepped_by n (hr.mono (by decide)) (by rfl) ww_F (a_F (x_fr (pv 0) rfl) (a_F (x_fr (pv 1) rfl) (a_F (x_fr (pv 2) rfl) (a_F (x_fr (pv 7) rfl) (a_F (x_fr (pv 9) rfl) a_nil))))))
                                      · intro u_found
                                        refine s_ifN (T := ((List D) × (List (D × D)))) (enc := (fun s4 : (List D) × (List (D × D)) => ([.fr u_rows, .fr u_home, .fr u_last, .ow s4.1, .dk w s4.2, .ff s2, .fr u_place, .fr u_standing, .fr u_word, .fr u_choice, .fr u_found] : En))) zcN ?_ ?_ ?_ ?_
                                        · exact (y_pw (w_and (x_cmpT op_lt sm_ord (nomark _) (x_FV (x_ix (x_FV (x_fr (pv 10) rfl)) (x_FV x_int))) (x_FV (x_callB call_lenX sm_len (by rfl) T.b_len (by decide +kernel) (x_FV (x_fr (pv 0) rfl))))) (w_and1 (x_dninT hu (pv 4) rfl (x_fr (pv 10) rfl) (by rfl)))))
                                        · refine s_dset (T := ((List D) × (List (D × D)))) (i := 4) hu zcN (pv 4) ?_ ?_ ?_ ?_ rfl rfl rfl (fun _ => rfl)
                                          · exact rfl
                                          · exact (x_dget hu (pv 4) rfl (x_fr (pv 7) rfl))
                                          · exact (x_fr (pv 10) rfl)
                                          · intro u_choices
                                            refine s_ifN (T := ((List D) × (List (D × D)))) (enc := (fun s5 : (List (D × D)) => ([.fr u_rows, .fr u_home, .fr u_last, .ow s3.1, .dk w s5, .ff s2, .fr u_place, .fr u_standing, .fr u_word, .fr u_choice, .fr u_found] : En))) zcN ?_ ?_ ?_ ?_
                                            · exact (y_val (x_FV (x_call C_chooses n (hr.mono (by decide)) (by rfl) ww_F (a_F (x_ix (x_FV (x_fr (pv 0) rfl)) (x_FV (x_ix (x_FV (x_fr (pv 7) rfl)) (x_FV x_int)))) a_nil))))
                                            · refine s_dset (T := ((List (D × D)))) (i := 4) hu zcN (pv 4) ?_ ?_ ?_ ?_ rfl rfl rfl (fun _ => rfl)
                                              · exact rfl
                                              · exact (x_catN (x_FV (x_NF (x_dget hu (pv 4) rfl (x_fr (pv 7) rfl)))) (x_OV (x_lst (a_F (x_fr (pv 9) rfl) a_nil))))
                                              · exact (x_fr (pv 10) rfl)
                                              · intro u_choices
                                                exact s_nilN (enc := (fun s5 : (List (D × D)) => ([.fr u_rows, .fr u_home, .fr u_last, .ow s3.1, .dk w s5, .ff s2, .fr u_place, .fr u_standing, .fr u_word, .fr u_choice, .fr u_found] : En))) (s := u_choices) [true, true, true, true, true, true, true, true, true, true, true] rfl
                                            · exact s_nilN (enc := (fun s5 : (List (D × D)) => ([.fr u_rows, .fr u_home, .fr u_last, .ow s3.1, .dk w s5, .ff s2, .fr u_place, .fr u_standing, .fr u_word, .fr u_choice, .fr u_found] : En))) (s := u_choices) [true, true, true, true, true, true, true, true, true, true, true] rfl
                                            · intro s5
                                              refine s_app (T := ((List D) × (List (D × D)))) (i := 3) zcN ?_ ?_ ?_ ?_ ?_ ?_
                                              · exact (pv 3)
                                              · exact rfl
                                              · exact (x_fr (pv 10) rfl)
                                              · intro u_queue
                                                exact s_nilN (enc := (fun s4 : (List D) × (List (D × D)) => ([.fr u_rows, .fr u_home, .fr u_last, .ow s4.1, .dk w s4.2, .ff s2, .fr u_place, .fr u_standing, .fr u_word, .fr u_choice, .fr u_found] : En))) (s := (u_queue, s5)) [true, true, true, true, true, true, true, true, true, true, true] rfl
                                              · exact (pe_bm PySem.F.plainAttrs_list PySem.F.slot_list_append PySem.F.type_list_append mt_append (pv 3) (pa_cons (x_fr (pv 10) rfl) pa_nil))
                                              · exact rfl
                                        · exact s_nilN (enc := (fun s4 : (List D) × (List (D × D)) => ([.fr u_rows, .fr u_home, .fr u_last, .ow s4.1, .dk w s4.2, .ff s2, .fr u_place, .fr u_standing, .fr u_word, .fr u_choice, .fr u_found] : En))) (s := (s3.1, s3.2)) [true, true, true, true, true, true, true, true, true, true, true] rfl
                                        · intro s4
                                          exact s_nilN (enc := (fun s3 : (List D) × (List (D × D)) => ([.fr u_rows, .fr u_home, .fr u_last, .ow s3.1, .dk w s3.2, .ff s2, .fr u_place, .fr u_standing, .fr u_word, .no, .no] : En))) (s := (s4.1, s4.2)) [true, true, true, true, true, true, true, true, true, false, false] rfl
                                      · exact rfl
                                  · intro s3
                                    exact s_nilN (enc := (fun s1 : (List D) × (List (D × D)) × D × D => ([.fr u_rows, .fr u_home, .fr u_last, .ow s1.1, .dk w s1.2.1, .ff s1.2.2.1, .fr s1.2.2.2, .no, .no, .no, .no] : En))) (s := (s3.1, s3.2, s2, u_place)) [true, true, true, true, true, true, true, false, false, false, false] rfl
                              · exact rfl
                            · exact rfl
                          · exact rfl
                      · intro s1
                        refine s_retT ?_
                        · exact (x_ff (pv 5) rfl)
                    · exact rfl
                  · exact rfl
                · exact rfl
              · exact rfl
            · exact rfl
          · exact rfl
      · exact rfl
theorem ok_law_drawn {f : Addr} {fd : FuncData} (F : Fun K "_law_drawn" "_law_drawn" s_law_drawn f fd) (T : Txt K mg) (C_law_sheet : Cal P w K mg base "_law_sheet" ["_law_cells", "_law_draw_here", "_law_most", "_law_odd"] 4 (spR (rF K) K [true, true, true, true] l_law_sheet)) (C_law_cell_at : Cal P w K mg base "_law_cell_at" ["_law_script", "_law_k"] 1 (spR (rF K) K [true, true] l_law_cell_at)) (C_law_draw : Cal P w K mg base "_law_draw" ["_law_script"] 2 (spR (rF K) K [true] l_law_draw)) : FnOk P w K mg base CX0 5 f fd ["_law_script", "_law_most"] (spR (rF K) K [true, true] l_law_drawn) :=
  def_ok (R := rF K) (N := ["_law_script", "_law_most", "_law_many", "_law_way", "_law_cells", "_law_k", "_law_rows"]) F sc_law_drawn rfl (by decide) fun cdv A outer s H E hr G n ds hds => match ds, hds with
    | [u_law_script, u_law_most], _ => by
      have hu := hr.units
      show PSs _ _ (tS _ _ _ _ _ (m_law_drawn n u_law_script u_law_most))
      refine s_ifN (T := D) (enc := (fun s1 : D => ([.fr u_law_script, .fr s1, .no, .no, .no, .no, .no] : En))) zcQ ?_ ?_ ?_ ?_
      · exact (x_cmpT (op_eqA hu) sm_eq (nomark _) (x_FV (x_bin op_mod sm_mod (x_FV (x_bin op_fdiv sm_fdiv (x_FV (x_call C_law_cell_at n (hr.mono (by decide)) (by rfl) ww_F (a_F (x_fr (pv 0) rfl) (a_F x_int a_nil)))) (x_FV x_int))) (x_FV x_int))) (x_FV x_int))
      · refine s_set (T := (D)) (i := 1) zcN ?_ ?_ ?_ ?_ ?_
        · exact ⟨sc_law_drawn.nd, rfl, .inl rfl, Or.inl rfl⟩
        · exact (by decide : 1 < 7)
        · exact (x_bin op_addD sm_add (x_FV (x_fr (pv 1) rfl)) (x_FV x_int))
        · intro u_law_most
          exact s_nilN (enc := (fun s1 : D => ([.fr u_law_script, .fr s1, .no, .no, .no, .no, .no] : En))) (s := u_law_most) [true, true, false, false, false, false, false] rfl
        · exact rfl
      · exact s_nilN (enc := (fun s1 : D => ([.fr u_law_script, .fr s1, .no, .no, .no, .no, .no] : En))) (s := u_law_most) [true, true, false, false, false, false, false] rfl
      · intro s1
        refine s_set (T := D) (i := 2) zcQ ?_ ?_ ?_ ?_ ?_
        · exact ⟨sc_law_drawn.nd, rfl, .inl rfl, Or.inl rfl⟩
        · exact (by decide : 2 < 7)
        · exact (x_bin op_mod sm_mod (x_FV (x_call C_law_cell_at n (hr.mono (by decide)) (by rfl) ww_F (a_F (x_fr (pv 0) rfl) (a_F x_int a_nil)))) (x_FV (x_fr (pv 1) rfl)))
        · intro u_law_many
          refine s_set (T := D) (i := 3) zcQ ?_ ?_ ?_ ?_ ?_
          · exact ⟨sc_law_drawn.nd, rfl, .inl rfl, Or.inl rfl⟩
          · exact (by decide : 3 < 7)
          · exact (x_bin op_mod sm_mod (x_FV (x_call C_law_cell_at n (hr.mono (by decide)) (by rfl) ww_F (a_F (x_fr (pv 0) rfl) (a_F x_int a_nil)))) (x_FV x_int))
          · intro u_law_way
            refine s_ifN (T := D) (enc := (fun s2 : D => ([.fr u_law_script, .fr s1, .fr s2, .fr u_law_way, .no, .no, .no] : En))) zcQ ?_ ?_ ?_ ?_
            · exact (x_cmpT op_gt sm_ord (nomark _) (x_FV (x_fr (pv 3) rfl)) (x_FV x_int))
            · refine s_set (T := (D)) (i := 2) zcN ?_ ?_ ?_ ?_ ?_
              · exact ⟨sc_law_drawn.nd, rfl, .inl rfl, Or.inl rfl⟩
              · exact (by decide : 2 < 7)
              · exact (x_bin op_mod sm_mod (x_FV (x_fr (pv 2) rfl)) (x_FV x_int))
              · intro u_law_many
                exact s_nilN (enc := (fun s2 : D => ([.fr u_law_script, .fr s1, .fr s2, .fr u_law_way, .no, .no, .no] : En))) (s := u_law_many) [true, true, true, true, false, false, false] rfl
              · exact rfl
            · exact s_nilN (enc := (fun s2 : D => ([.fr u_law_script, .fr s1, .fr s2, .fr u_law_way, .no, .no, .no] : En))) (s := u_law_many) [true, true, true, true, false, false, false] rfl
            · intro s2
              refine s_lc1F (T := D) (i := 4) (j := 5) zcQ ?_ ?_ rfl sc_law_drawn.nd rfl rfl (sw_true rfl rfl rfl (by decide +kernel)) ?_ (blkOk_by (own := [("_law_k", 5)]) (N := ["_law_script", "_law_most", "_law_many", "_law_way", "_law_cells", "_law_k", "_law_rows"]) (sc := defScope s_law_drawn) (by decide +kernel)) ?_ ?_ ?_ (fun _ => rfl) ?_
              · exact (by decide : 4 < 7)
              · exact (by decide : 5 < 7)
              · exact (i_rng1 (by rfl) T.b_range (x_FV (x_bin op_mulD sm_mul (x_FV x_int) (x_FV (x_fr (pv 2) rfl)))))
              · exact (fun _ _ _ _ _ => pg_name (i := 5) sc_law_drawn.nd rfl (Or.inl rfl))
              · exact (fun _ _ _ _ _ u_law_k => c_yes)
              · exact (fun _ _ _ _ _ u_law_k => (x_call C_law_cell_at n (hr.mono (by decide)) (by rfl) ww_F (a_F (x_fr (pv 0) rfl) (a_F (x_bin op_addD sm_add (x_FV x_int) (x_FV (x_fr (pv 5) rfl))) a_nil))))
              · intro u_law_cells
                refine s_set (T := D) (i := 6) zcQ ?_ ?_ ?_ ?_ ?_
                · exact ⟨sc_law_drawn.nd, rfl, .inl rfl, Or.inl rfl⟩
                · exact (by decide : 6 < 7)
                · exact (x_call C_law_sheet n (hr.mono (by decide)) (by rfl) ww_F (a_F (x_fr (pv 4) rfl) (a_F (x_call C_law_draw n (hr.mono (by decide)) (by rfl) ww_F (a_F (x_fr (pv 0) rfl) a_nil)) (a_F (x_ix (x_OV (x_lst (a_F x_int (a_F x_int (a_F x_int (a_F x_int (a_F x_int (a_F x_int (a_F x_int (a_F x_int a_nil)))))))))) (x_FV (x_fr (pv 3) rfl))) (a_F (x_cmp op_gt sm_ord (nomark _) (x_FV (x_fr (pv 3) rfl)) (x_FV x_int)) a_nil)))))
                · intro u_law_rows
                  refine s_ifN (T := D) (enc := (fun s3 : D => ([.fr u_law_script, .fr s1, .fr s2, .fr u_law_way, .fr u_law_cells, .no, .fr s3] : En))) zcQ ?_ ?_ ?_ ?_
                  · exact (y_pw (w_and (x_cmpT op_inX sm_in (by rfl) (x_FV (x_fr (pv 3) rfl)) (x_OV (x_lst (a_F x_int (a_F x_int a_nil))))) (w_and1 (x_cmpT op_lt sm_ord (nomark _) (x_FV (x_callB call_lenX sm_len (by rfl) T.b_len (by decide +kernel) (x_FV (x_fr (pv 6) rfl)))) (x_FV x_int)))))
                  · refine s_set (T := (D)) (i := 6) zcN ?_ ?_ ?_ ?_ ?_
                    · exact ⟨sc_law_drawn.nd, rfl, .inl rfl, Or.inl rfl⟩
                    · exact (by decide : 6 < 7)
                    · exact (x_bin op_addD sm_add (x_FV (x_bin op_addD sm_add (x_FV (x_bin op_addD sm_add (x_FV (x_fr (pv 6) rfl)) (x_FV (x_fr (pv 6) rfl)))) (x_FV (x_fr (pv 6) rfl)))) (x_FV (x_fr (pv 6) rfl)))
                    · intro u_law_rows
                      exact s_nilN (enc := (fun s3 : D => ([.fr u_law_script, .fr s1, .fr s2, .fr u_law_way, .fr u_law_cells, .no, .fr s3] : En))) (s := u_law_rows) [true, true, true, true, true, false, true] rfl
                    · exact rfl
                  · exact s_nilN (enc := (fun s3 : D => ([.fr u_law_script, .fr s1, .fr s2, .fr u_law_way, .fr u_law_cells, .no, .fr s3] : En))) (s := u_law_rows) [true, true, true, true, true, false, true] rfl
                  · intro s3
                    refine s_retQ ww_F ?_
                    · exact (x_fr (pv 6) rfl)
                · exact rfl
          · exact rfl
        · exact rfl
theorem ok_law {f : Addr} {fd : FuncData} (F : Fun K "law" "law" s_law f fd) (T : Txt K mg) (C_law_long : Cal P w K mg base "_law_long" ["_law_script", "_law_rows"] 2 (spR (rF K) K [true, true] l_law_long)) (C_law_choices : Cal P w K mg base "_law_choices" ["_law_script"] 1 (spR (rF K) K [true] l_law_choices)) (C_looked : Cal P w K mg base "looked" ["rows"] 5 (spR (rT K) K [true] l_looked)) (C_law_drawn : Cal P w K mg base "_law_drawn" ["_law_script", "_law_most"] 5 (spR (rF K) K [true, true] l_law_drawn)) (C_law_few : Cal P w K mg base "_law_few" ["_law_rows", "_law_most"] 3 (spR (rF K) K [true, true] l_law_few)) (C_law_run : Cal P w K mg base "_law_run" ["_law_rows", "_law_choices_here"] 3 (spR (rF K) K [true, true] l_law_run)) (C_law_rows_alike : Cal P w K mg base "_law_rows_alike" ["_law_rows", "_law_kept"] 1 (spR (rF K) K [true, true] l_law_rows_alike)) (C_law_fault : Cal P w K mg base "_law_fault" ["_law_row_here", "_law_held"] 2 (spR (rF K) K [true, true] l_law_fault)) (C_law_told : Cal P w K mg base "_law_told" ["_law_told_here"] 2 (spR (rF K) K [true] l_law_told)) : FnOk P w K mg base CX0 6 f fd ["_law_script"] (spR (rF K) K [true] l_law) :=
  def_ok (R := rF K) (N := ["_law_script", "_law_rows", "_law_choices_here", "_law_kept", "_law_told_here", "_law_again", "_law_order", "_law_turn", "_law_some", "_law_choice", "_law_standing", "_law_word_here"]) F sc_law rfl (by decide) fun cdv A outer s H E hr G n ds hds => match ds, hds with
    | [u_law_script], _ => by
      have hu := hr.units
      show PSs _ _ (tS _ _ _ _ _ (m_law n u_law_script))
      refine s_set (T := D) (i := 1) zcQ ?_ ?_ ?_ ?_ ?_
      · exact ⟨sc_law.nd, rfl, .inl rfl, Or.inl rfl⟩
      · exact (by decide : 1 < 12)
      · exact (x_call C_law_long n (hr.mono (by decide)) (by rfl) ww_F (a_F (x_fr (pv 0) rfl) (a_F (x_call C_law_drawn n (hr.mono (by decide)) (by rfl) ww_F (a_F (x_fr (pv 0) rfl) (a_F x_int a_nil))) a_nil)))
      · intro u_law_rows
        refine s_set (T := D) (i := 2) zcQ ?_ ?_ ?_ ?_ ?_
        · exact ⟨sc_law.nd, rfl, .inl rfl, Or.inl rfl⟩
        · exact (by decide : 2 < 12)
        · exact (x_call C_law_choices n (hr.mono (by decide)) (by rfl) ww_F (a_F (x_fr (pv 0) rfl) a_nil))
        · intro u_law_choices_here
          refine s_ifQ (α := D) ?_ ?_ ?_
          · exact (y_not (y_val (x_FV (x_call C_law_few n (hr.mono (by decide)) (by rfl) ww_F (a_F (x_fr (pv 1) rfl) (a_F x_int a_nil))))))
          · refine s_retQ ww_F ?_
            · exact x_bl
          · refine s_set (T := D) (i := 3) zcQ ?_ ?_ ?_ ?_ ?_
            · exact ⟨sc_law.nd, rfl, .inl rfl, Or.inl rfl⟩
            · exact (by decide : 3 < 12)
            · exact (x_OF (x_list (by rfl) T.b_list (x_FV (x_fr (pv 1) rfl))))
            · intro u_law_kept
              refine s_setT (T := D) (i := 4) zcQ ?_ ?_ ?_ ?_ ?_
              · exact ⟨sc_law.nd, rfl, .inl rfl, Or.inl rfl⟩
              · exact (by decide : 4 < 12)
              · exact (x_call C_looked n (hr.mono (by decide)) (by rfl) ww_T (a_F (x_fr (pv 3) rfl) a_nil))
              · intro u_law_told_here l_u_law_told_here
                refine s_ifQ (α := D) ?_ ?_ ?_
                · exact (y_bor (i := 4) (l := l_u_law_told_here) (d := u_law_told_here) rfl (y_pw (w_or (y_not (y_val (x_FV (x_call C_law_rows_alike n (hr.mono (by decide)) (by rfl) ww_F (a_F (x_fr (pv 3) rfl) (a_F (x_fr (pv 1) rfl) a_nil)))))) (w_or1 (y_pw (w_and (x_cmpT op_notN sm_notN (nomark _) (x_FV (x_fr (pv 4) rfl)) (x_FV x_non)) (w_and1 (y_not (y_val (x_FV (x_call C_law_told n (hr.mono (by decide)) (by rfl) ww_F (a_F (x_fr (pv 4) rfl) a_nil))))))))))))
                · refine s_retQ ww_F ?_
                  · exact x_bl
                · refine s_ifM (α := D) (enc := (fun s1 : D => ([.fr u_law_script, .fr u_law_rows, .fr u_law_choices_here, .fr u_law_kept, .fr s1, .no, .no, .no, .no, .no, .no, .no] : En))) ?_ ?_ ?_ ?_
                  · exact (y_bor (i := 4) (l := l_u_law_told_here) (d := u_law_told_here) rfl (x_cmpT op_notN sm_notN (nomark _) (x_FV (x_fr (pv 4) rfl)) (x_FV x_non)))
                  · refine s_appT (T := (Fl (D) D)) (i := 4) (l := l_u_law_told_here) (d := u_law_told_here) zcM ?_ ?_ ?_ ?_ ?_ ?_
                    · exact (pv 4)
                    · exact rfl
                    · exact x_int
                    · intro u_law_told_here
                      refine s_setT (T := (Fl (D) D)) (i := 5) zcM ?_ ?_ ?_ ?_ ?_
                      · exact ⟨sc_law.nd, rfl, .inl rfl, Or.inl rfl⟩
                      · exact (by decide : 5 < 12)
                      · exact (x_call C_looked n (hr.mono (by decide)) (by rfl) ww_T (a_F (x_fr (pv 3) rfl) a_nil))
                      · intro u_law_again l_u_law_again
                        refine s_frzT (T := (Fl (D) D)) (i := 5) (l := l_u_law_again) (d := u_law_again) zcM ?_ ?_
                        · exact rfl
                        · refine s_frzT (T := (Fl (D) D)) (i := 4) (l := l_u_law_told_here) (d := u_law_told_here) zcM ?_ ?_
                          · exact rfl
                          · refine s_ifQM (α := D) ?_ ?_ ?_
                            · exact (y_pw (w_or (x_cmpT op_isN sm_isN (nomark _) (x_FV (x_fr (pv 5) rfl)) (x_FV x_non)) (w_or (y_not (y_val (x_FV (x_call C_law_told n (hr.mono (by decide)) (by rfl) ww_F (a_F (x_fr (pv 5) rfl) a_nil))))) (w_or (x_cmpT (op_neA hu) sm_ne (nomark _) (x_FV (x_ix (x_FV (x_fr (pv 5) rfl)) (x_FV x_int))) (x_FV (x_ix (x_FV (x_fr (pv 4) rfl)) (x_FV x_int)))) (w_or1 (x_cmpT (op_neA hu) sm_ne (nomark _) (x_FV (x_ix (x_FV (x_fr (pv 5) rfl)) (x_FV x_int))) (x_FV (x_ix (x_FV (x_fr (pv 4) rfl)) (x_FV x_int)))))))))
                            · refine s_retQ ww_F ?_
                              · exact x_bl
                            · exact s_nilM (enc := (fun s1 : D => ([.fr u_law_script, .fr u_law_rows, .fr u_law_choices_here, .fr u_law_kept, .fr s1, .no, .no, .no, .no, .no, .no, .no] : En))) (s := u_law_told_here) [true, true, true, true, true, false, false, false, false, false, false, false] rfl
                      · exact rfl
                    · exact (pe_bm PySem.F.plainAttrs_list PySem.F.slot_list_append PySem.F.type_list_append mt_append (pe_ix ix_tup (pv 4) pe_int (fun _ _ => rfl)) (pa_cons x_int pa_nil))
                    · exact rfl
                  · refine s_frzT (T := (Fl (D) D)) (i := 4) (l := l_u_law_told_here) (d := u_law_told_here) zcM ?_ ?_
                    · exact rfl
                    · exact s_nilM (enc := (fun s1 : D => ([.fr u_law_script, .fr u_law_rows, .fr u_law_choices_here, .fr u_law_kept, .fr s1, .no, .no, .no, .no, .no, .no, .no] : En))) (s := u_law_told_here) [true, true, true, true, true, false, false, false, false, false, false, false] rfl
                  · intro s1
                    refine s_set (T := D) (i := 6) zcQ ?_ ?_ ?_ ?_ ?_
                    · exact ⟨sc_law.nd, rfl, .inl rfl, Or.inl rfl⟩
                    · exact (by decide : 6 < 12)
                    · exact (x_OF (x_lst (a_F x_str (a_F x_str (a_F x_str a_nil)))))
                    · intro u_law_order
                      refine s_seqQ (α := D) (enc := (fun s2 : Unit => ([.fr u_law_script, .fr u_law_rows, .fr u_law_choices_here, .fr u_law_kept, .fr s1, .no, .fr u_law_order, .no, .no, .no, .no, .no] : En))) ?_ ?_
                      · refine p_for (i := 7) (enc := (fun s2 : Unit => ([.fr u_law_script, .fr u_law_rows, .fr u_law_choices_here, .fr u_law_kept, .fr s1, .no, .fr u_law_order, .no, .no, .no, .no, .no] : En))) (s0 := ()) [true, true, true, true, true, false, true, false, false, false, false, false] ?_ ?_ PassesOwn.never rfl ?_ ?_ ?_ (fun _ => rfl)
                        · exact ⟨sc_law.nd, rfl, .inr rfl, Or.inl rfl⟩
                        · exact (fun _ => (by decide : 7 < 12))
                        · exact (i_rng1 (by rfl) T.b_range (x_FV (x_ix (x_OV (x_lst (a_F x_int (a_F x_int a_nil)))) (x_FV (x_callTy call_intX sm_int (by rfl) T.b_int (by decide +kernel) (x_FV (x_cmp op_gt sm_ord (nomark _) (x_FV (x_callB call_lenX sm_len (by rfl) T.b_len (by decide +kernel) (x_FV (x_fr (pv 1) rfl)))) (x_FV x_int))))))))
                        · exact rfl
                        · intro u_law_turn s2
                          refine s_set (T := (Fl (Unit) D)) (i := 8) zcM ?_ ?_ ?_ ?_ ?_
                          · exact ⟨sc_law.nd, rfl, .inl rfl, Or.inl rfl⟩
                          · exact (by decide : 8 < 12)
                          · exact (x_fr (pv 2) rfl)
                          · intro u_law_some
                            refine s_ifN (T := (Fl (Unit) D)) (enc := (fun s3 : D => ([.fr u_law_script, .fr u_law_rows, .fr u_law_choices_here, .fr u_law_kept, .fr s1, .no, .fr u_law_order, .fr u_law_turn, .fr s3, .no, .no, .no] : En))) zcM ?_ ?_ ?_ ?_
                            · exact (x_cmpT op_gt sm_ord (nomark _) (x_FV (x_fr (pv 7) rfl)) (x_FV x_int))
                            · refine s_set (T := (D)) (i := 8) zcN ?_ ?_ ?_ ?_ ?_
                              · exact ⟨sc_law.nd, rfl, .inl rfl, Or.inl rfl⟩
                              · exact (by decide : 8 < 12)
                              · exact (x_bin op_addD sm_add (x_OV (x_lc1 (j := 9) rfl sc_law.nd (by decide : 9 < 12) (i_any (x_VW (x_FV (x_slc (x_FV (x_fr (pv 2) rfl)) p_none (p_some (x_FV x_int)))))) (blkOk_by (own := [("_law_choice", 9)]) (N := ["_law_script", "_law_rows", "_law_choices_here", "_law_kept", "_law_told_here", "_law_again", "_law_order", "_law_turn", "_law_some", "_law_choice", "_law_standing", "_law_word_here"]) (sc := defScope s_law) (by decide +kernel)) (fun _ _ _ _ _ => pg_name (i := 9) sc_law.nd rfl (Or.inl rfl)) (fun _ _ _ _ _ u_law_choice => c_yes) (fun _ _ _ _ _ u_law_choice => (x_bin op_addD sm_add (x_FV (x_fr (pv 9) rfl)) (x_FV (x_fr (pv 7) rfl)))))) (x_OV (x_lst (a_F (x_fr (pv 7) rfl) a_nil))))
                              · intro u_law_some
                                exact s_nilN (enc := (fun s3 : D => ([.fr u_law_script, .fr u_law_rows, .fr u_law_choices_here, .fr u_law_kept, .fr s1, .no, .fr u_law_order, .fr u_law_turn, .fr s3, .no, .no, .no] : En))) (s := u_law_some) [true, true, true, true, true, false, true, true, true, false, false, false] rfl
                              · exact rfl
                            · exact s_nilN (enc := (fun s3 : D => ([.fr u_law_script, .fr u_law_rows, .fr u_law_choices_here, .fr u_law_kept, .fr s1, .no, .fr u_law_order, .fr u_law_turn, .fr s3, .no, .no, .no] : En))) (s := u_law_some) [true, true, true, true, true, false, true, true, true, false, false, false] rfl
                            · intro s3
                              refine s_seqM (α := D) (enc := (fun s4 : Unit => ([.fr u_law_script, .fr u_law_rows, .fr u_law_choices_here, .fr u_law_kept, .fr s1, .no, .fr u_law_order, .fr u_law_turn, .fr s3, .no, .no, .no] : En))) ?_ ?_
                              · refine p_for (i := 10) (enc := (fun s4 : Unit => ([.fr u_law_script, .fr u_law_rows, .fr u_law_choices_here, .fr u_law_kept, .fr s1, .no, .fr u_law_order, .fr u_law_turn, .fr s3, .no, .no, .no] : En))) (s0 := ()) [true, true, true, true, true, false, true, true, true, false, false, false] ?_ ?_ PassesOwn.never rfl ?_ ?_ ?_ (fun _ => rfl)
                                · exact ⟨sc_law.nd, rfl, .inl rfl, Or.inl rfl⟩
                                · exact (fun _ => (by decide : 10 < 12))
                                · exact (i_any (x_FW (lo := true) (x_call C_law_run n (hr.mono (by decide)) (by rfl) ww_F (a_F (x_fr (pv 1) rfl) (a_F (x_fr (pv 8) rfl) a_nil)))))
                                · exact rfl
                                · intro u_law_standing s4
                                  refine s_set (T := (Fl (Unit) D)) (i := 11) zcM ?_ ?_ ?_ ?_ ?_
                                  · exact ⟨sc_law.nd, rfl, .inl rfl, Or.inl rfl⟩
                                  · exact (by decide : 11 < 12)
                                  · exact (x_call C_law_fault n (hr.mono (by decide)) (by rfl) ww_F (a_F (x_ix (x_FV (x_fr (pv 1) rfl)) (x_FV (x_ix (x_FV (x_fr (pv 10) rfl)) (x_FV x_int)))) (a_F (x_ix (x_FV (x_fr (pv 10) rfl)) (x_FV x_int)) a_nil)))
                                  · intro u_law_word_here
                                    refine s_ifMM (α := D) (enc := (fun s5 : Unit => ([.fr u_law_script, .fr u_law_rows, .fr u_law_choices_here, .fr u_law_kept, .fr s1, .no, .fr u_law_order, .fr u_law_turn, .fr s3, .no, .fr u_law_standing, .fr u_law_word_here] : En))) ?_ ?_ ?_ ?_
                                    · exact (x_cmpT (op_neA hu) sm_ne (nomark _) (x_FV (x_fr (pv 11) rfl)) (x_FV x_str))
                                    · refine s_ifQM (α := D) ?_ ?_ ?_
                                      · exact (y_pw (w_or (x_cmpT op_isN sm_isN (nomark _) (x_FV (x_fr (pv 4) rfl)) (x_FV x_non)) (w_or1 (x_cmpT op_lt sm_ord (nomark _) (x_FV (x_ix (x_FV (x_fr (pv 10) rfl)) (x_FV x_int))) (x_FV (x_ix (x_FV (x_fr (pv 4) rfl)) (x_FV x_int)))))))
                                      · refine s_retQ ww_F ?_
                                        · exact x_bl
                                      · refine s_ifQM (α := D) ?_ ?_ ?_
                                        · exact (y_pw (w_and (x_cmpT (op_eqA hu) sm_eq (nomark _) (x_FV (x_ix (x_FV (x_fr (pv 10) rfl)) (x_FV x_int))) (x_FV (x_ix (x_FV (x_fr (pv 4) rfl)) (x_FV x_int)))) (w_and1 (x_cmpT op_lt sm_ord (nomark _) (x_FV (x_lix (x_FV (x_fr (pv 6) rfl)) (x_fr (pv 11) rfl) (pe_bm PySem.F.plainAttrs_list PySem.F.slot_list_index PySem.F.type_list_index mt_index (x_FV (x_fr (pv 6) rfl)) (pa_cons (x_fr (pv 11) rfl) pa_nil)))) (x_FV (x_lix (x_FV (x_fr (pv 6) rfl)) (x_ix (x_FV (x_fr (pv 4) rfl)) (x_FV x_int)) (pe_bm PySem.F.plainAttrs_list PySem.F.slot_list_index PySem.F.type_list_index mt_index (x_FV (x_fr (pv 6) rfl)) (pa_cons (x_ix (x_FV (x_fr (pv 4) rfl)) (x_FV x_int)) pa_nil))))))))
                                        · refine s_retQ ww_F ?_
                                          · exact x_bl
                                        · exact s_nilM (enc := (fun s5 : Unit => ([.fr u_law_script, .fr u_law_rows, .fr u_law_choices_here, .fr u_law_kept, .fr s1, .no, .fr u_law_order, .fr u_law_turn, .fr s3, .no, .fr u_law_standing, .fr u_law_word_here] : En))) (s := ()) [true, true, true, true, true, false, true, true, true, false, true, true] rfl
                                    · exact s_nilM (enc := (fun s5 : Unit => ([.fr u_law_script, .fr u_law_rows, .fr u_law_choices_here, .fr u_law_kept, .fr s1, .no, .fr u_law_order, .fr u_law_turn, .fr s3, .no, .fr u_law_standing, .fr u_law_word_here] : En))) (s := ()) [true, true, true, true, true, false, true, true, true, false, true, true] rfl
                                    · intro s5
                                      exact s_nilM (enc := (fun s4 : Unit => ([.fr u_law_script, .fr u_law_rows, .fr u_law_choices_here, .fr u_law_kept, .fr s1, .no, .fr u_law_order, .fr u_law_turn, .fr s3, .no, .no, .no] : En))) (s := ()) [true, true, true, true, true, false, true, true, true, false, false, false] rfl
                                  · exact rfl
                              · intro s4
                                exact s_nilM (enc := (fun s2 : Unit => ([.fr u_law_script, .fr u_law_rows, .fr u_law_choices_here, .fr u_law_kept, .fr s1, .no, .fr u_law_order, .no, .no, .no, .no, .no] : En))) (s := ()) [true, true, true, true, true, false, true, false, false, false, false, false] rfl
                          · exact rfl
                      · intro s2
                        refine s_retQ ww_F ?_
                        · exact x_bl
                    · exact rfl
              · exact rfl
            · exact rfl
        · exact rfl
      · exact rfl
end
end Bw
namespace Bw
open PySem PySem.Spec PyProof.Rows L2 Bd
/-! ### the end -/
theorem all_mk {l : PySem.W.OpenLaw} {w : World} {K : PySem.W.Frag} {h : Heap} {mg : Str → Option Value} {fa : Addr} (X : K.In h) (G : h.Ns mainGlobals mg) (hfa : mg "law" = some (.ref fa))
    (hm : ∀ ns : List Int, ns.length ≤ 63 → ∃ n, l_law n [.list (ns.map PyData.int)] = some (.bool true))
    {f0 : Addr} {od0 an0 : Option Addr} {sl0 : Array (Option Value)} {oc0 kV0 dc0 pm0 cd0 ct0 : Value}
    (a0 : PySem.W.nsIn K mainGlobals "homes" = some (some (.ref f0))) (l0 : K.lookup f0 = some ⟨oc0, od0, .func (PySem.W.fnOf "homes" "homes" (defArgs s_homes) (defBody s_homes) (defScope s_homes) .none kV0 dc0 pm0 an0 cd0 ct0), sl0⟩) (c0 : PySem.W.codeIn K cd0 "homes" = true) (k0 : PySem.W.keepIn K (.ref f0) = true)
    {f1 : Addr} {od1 an1 : Option Addr} {sl1 : Array (Option Value)} {oc1 kV1 dc1 pm1 cd1 ct1 : Value}
    (a1 : PySem.W.nsIn K mainGlobals "ends" = some (some (.ref f1))) (l1 : K.lookup f1 = some ⟨oc1, od1, .func (PySem.W.fnOf "ends" "ends" (defArgs s_ends) (defBody s_ends) (defScope s_ends) .none kV1 dc1 pm1 an1 cd1 ct1), sl1⟩) (c1 : PySem.W.codeIn K cd1 "ends" = true) (k1 : PySem.W.keepIn K (.ref f1) = true)
    {f2 : Addr} {od2 an2 : Option Addr} {sl2 : Array (Option Value)} {oc2 kV2 dc2 pm2 cd2 ct2 : Value}
    (a2 : PySem.W.nsIn K mainGlobals "branches" = some (some (.ref f2))) (l2 : K.lookup f2 = some ⟨oc2, od2, .func (PySem.W.fnOf "branches" "branches" (defArgs s_branches) (defBody s_branches) (defScope s_branches) .none kV2 dc2 pm2 an2 cd2 ct2), sl2⟩) (c2 : PySem.W.codeIn K cd2 "branches" = true) (k2 : PySem.W.keepIn K (.ref f2) = true)
    {f3 : Addr} {od3 an3 : Option Addr} {sl3 : Array (Option Value)} {oc3 kV3 dc3 pm3 cd3 ct3 : Value}
    (a3 : PySem.W.nsIn K mainGlobals "is_asleep" = some (some (.ref f3))) (l3 : K.lookup f3 = some ⟨oc3, od3, .func (PySem.W.fnOf "is_asleep" "is_asleep" (defArgs s_is_asleep) (defBody s_is_asleep) (defScope s_is_asleep) .none kV3 dc3 pm3 an3 cd3 ct3), sl3⟩) (c3 : PySem.W.codeIn K cd3 "is_asleep" = true) (k3 : PySem.W.keepIn K (.ref f3) = true)
    {f4 : Addr} {od4 an4 : Option Addr} {sl4 : Array (Option Value)} {oc4 kV4 dc4 pm4 cd4 ct4 : Value}
    (a4 : PySem.W.nsIn K mainGlobals "awake" = some (some (.ref f4))) (l4 : K.lookup f4 = some ⟨oc4, od4, .func (PySem.W.fnOf "awake" "awake" (defArgs s_awake) (defBody s_awake) (defScope s_awake) .none kV4 dc4 pm4 an4 cd4 ct4), sl4⟩) (c4 : PySem.W.codeIn K cd4 "awake" = true) (k4 : PySem.W.keepIn K (.ref f4) = true)
    {f5 : Addr} {od5 an5 : Option Addr} {sl5 : Array (Option Value)} {oc5 kV5 dc5 pm5 cd5 ct5 : Value}
    (a5 : PySem.W.nsIn K mainGlobals "is_beside" = some (some (.ref f5))) (l5 : K.lookup f5 = some ⟨oc5, od5, .func (PySem.W.fnOf "is_beside" "is_beside" (defArgs s_is_beside) (defBody s_is_beside) (defScope s_is_beside) .none kV5 dc5 pm5 an5 cd5 ct5), sl5⟩) (c5 : PySem.W.codeIn K cd5 "is_beside" = true) (k5 : PySem.W.keepIn K (.ref f5) = true)
    {f6 : Addr} {od6 an6 : Option Addr} {sl6 : Array (Option Value)} {oc6 kV6 dc6 pm6 cd6 ct6 : Value}
    (a6 : PySem.W.nsIn K mainGlobals "hand_of" = some (some (.ref f6))) (l6 : K.lookup f6 = some ⟨oc6, od6, .func (PySem.W.fnOf "hand_of" "hand_of" (defArgs s_hand_of) (defBody s_hand_of) (defScope s_hand_of) .none kV6 dc6 pm6 an6 cd6 ct6), sl6⟩) (c6 : PySem.W.codeIn K cd6 "hand_of" = true) (k6 : PySem.W.keepIn K (.ref f6) = true)
    {f7 : Addr} {od7 an7 : Option Addr} {sl7 : Array (Option Value)} {oc7 kV7 dc7 pm7 cd7 ct7 : Value}
    (a7 : PySem.W.nsIn K mainGlobals "fault" = some (some (.ref f7))) (l7 : K.lookup f7 = some ⟨oc7, od7, .func (PySem.W.fnOf "fault" "fault" (defArgs s_fault) (defBody s_fault) (defScope s_fault) .none kV7 dc7 pm7 an7 cd7 ct7), sl7⟩) (c7 : PySem.W.codeIn K cd7 "fault" = true) (k7 : PySem.W.keepIn K (.ref f7) = true)
    {f8 : Addr} {od8 an8 : Option Addr} {sl8 : Array (Option Value)} {oc8 kV8 dc8 pm8 cd8 ct8 : Value}
    (a8 : PySem.W.nsIn K mainGlobals "is_word" = some (some (.ref f8))) (l8 : K.lookup f8 = some ⟨oc8, od8, .func (PySem.W.fnOf "is_word" "is_word" (defArgs s_is_word) (defBody s_is_word) (defScope s_is_word) .none kV8 dc8 pm8 an8 cd8 ct8), sl8⟩) (c8 : PySem.W.codeIn K cd8 "is_word" = true) (k8 : PySem.W.keepIn K (.ref f8) = true)
    {f9 : Addr} {od9 an9 : Option Addr} {sl9 : Array (Option Value)} {oc9 kV9 dc9 pm9 cd9 ct9 : Value}
    (a9 : PySem.W.nsIn K mainGlobals "is_thing" = some (some (.ref f9))) (l9 : K.lookup f9 = some ⟨oc9, od9, .func (PySem.W.fnOf "is_thing" "is_thing" (defArgs s_is_thing) (defBody s_is_thing) (defScope s_is_thing) .none kV9 dc9 pm9 an9 cd9 ct9), sl9⟩) (c9 : PySem.W.codeIn K cd9 "is_thing" = true) (k9 : PySem.W.keepIn K (.ref f9) = true)
    {f10 : Addr} {od10 an10 : Option Addr} {sl10 : Array (Option Value)} {oc10 kV10 dc10 pm10 cd10 ct10 : Value}
    (a10 : PySem.W.nsIn K mainGlobals "is_row" = some (some (.ref f10))) (l10 : K.lookup f10 = some ⟨oc10, od10, .func (PySem.W.fnOf "is_row" "is_row" (defArgs s_is_row) (defBody s_is_row) (defScope s_is_row) .none kV10 dc10 pm10 an10 cd10 ct10), sl10⟩) (c10 : PySem.W.codeIn K cd10 "is_row" = true) (k10 : PySem.W.keepIn K (.ref f10) = true)
    {f11 : Addr} {od11 an11 : Option Addr} {sl11 : Array (Option Value)} {oc11 kV11 dc11 pm11 cd11 ct11 : Value}
    (a11 : PySem.W.nsIn K mainGlobals "kind_of" = some (some (.ref f11))) (l11 : K.lookup f11 = some ⟨oc11, od11, .func (PySem.W.fnOf "kind_of" "kind_of" (defArgs s_kind_of) (defBody s_kind_of) (defScope s_kind_of) .none kV11 dc11 pm11 an11 cd11 ct11), sl11⟩) (c11 : PySem.W.codeIn K cd11 "kind_of" = true) (k11 : PySem.W.keepIn K (.ref f11) = true)
    {f12 : Addr} {od12 an12 : Option Addr} {sl12 : Array (Option Value)} {oc12 kV12 dc12 pm12 cd12 ct12 : Value}
    (a12 : PySem.W.nsIn K mainGlobals "checked_words" = some (some (.ref f12))) (l12 : K.lookup f12 = some ⟨oc12, od12, .func (PySem.W.fnOf "checked_words" "checked_words" (defArgs s_checked_words) (defBody s_checked_words) (defScope s_checked_words) .none kV12 dc12 pm12 an12 cd12 ct12), sl12⟩) (c12 : PySem.W.codeIn K cd12 "checked_words" = true) (k12 : PySem.W.keepIn K (.ref f12) = true)
    {f13 : Addr} {od13 an13 : Option Addr} {sl13 : Array (Option Value)} {oc13 kV13 dc13 pm13 cd13 ct13 : Value}
    (a13 : PySem.W.nsIn K mainGlobals "checked" = some (some (.ref f13))) (l13 : K.lookup f13 = some ⟨oc13, od13, .func (PySem.W.fnOf "checked" "checked" (defArgs s_checked) (defBody s_checked) (defScope s_checked) .none kV13 dc13 pm13 an13 cd13 ct13), sl13⟩) (c13 : PySem.W.codeIn K cd13 "checked" = true) (k13 : PySem.W.keepIn K (.ref f13) = true)
    {f14 : Addr} {od14 an14 : Option Addr} {sl14 : Array (Option Value)} {oc14 kV14 dc14 pm14 cd14 ct14 : Value}
    (a14 : PySem.W.nsIn K mainGlobals "entry_of" = some (some (.ref f14))) (l14 : K.lookup f14 = some ⟨oc14, od14, .func (PySem.W.fnOf "entry_of" "entry_of" (defArgs s_entry_of) (defBody s_entry_of) (defScope s_entry_of) .none kV14 dc14 pm14 an14 cd14 ct14), sl14⟩) (c14 : PySem.W.codeIn K cd14 "entry_of" = true) (k14 : PySem.W.keepIn K (.ref f14) = true)
    {f15 : Addr} {od15 an15 : Option Addr} {sl15 : Array (Option Value)} {oc15 kV15 dc15 pm15 cd15 ct15 : Value}
    (a15 : PySem.W.nsIn K mainGlobals "lent" = some (some (.ref f15))) (l15 : K.lookup f15 = some ⟨oc15, od15, .func (PySem.W.fnOf "lent" "lent" (defArgs s_lent) (defBody s_lent) (defScope s_lent) .none kV15 dc15 pm15 an15 cd15 ct15), sl15⟩) (c15 : PySem.W.codeIn K cd15 "lent" = true) (k15 : PySem.W.keepIn K (.ref f15) = true)
    {f16 : Addr} {od16 an16 : Option Addr} {sl16 : Array (Option Value)} {oc16 kV16 dc16 pm16 cd16 ct16 : Value}
    (a16 : PySem.W.nsIn K mainGlobals "given_back" = some (some (.ref f16))) (l16 : K.lookup f16 = some ⟨oc16, od16, .func (PySem.W.fnOf "given_back" "given_back" (defArgs s_given_back) (defBody s_given_back) (defScope s_given_back) .none kV16 dc16 pm16 an16 cd16 ct16), sl16⟩) (c16 : PySem.W.codeIn K cd16 "given_back" = true) (k16 : PySem.W.keepIn K (.ref f16) = true)
    {f17 : Addr} {od17 an17 : Option Addr} {sl17 : Array (Option Value)} {oc17 kV17 dc17 pm17 cd17 ct17 : Value}
    (a17 : PySem.W.nsIn K mainGlobals "ways" = some (some (.ref f17))) (l17 : K.lookup f17 = some ⟨oc17, od17, .func (PySem.W.fnOf "ways" "ways" (defArgs s_ways) (defBody s_ways) (defScope s_ways) .none kV17 dc17 pm17 an17 cd17 ct17), sl17⟩) (c17 : PySem.W.codeIn K cd17 "ways" = true) (k17 : PySem.W.keepIn K (.ref f17) = true)
    {f18 : Addr} {od18 an18 : Option Addr} {sl18 : Array (Option Value)} {oc18 kV18 dc18 pm18 cd18 ct18 : Value}
    (a18 : PySem.W.nsIn K mainGlobals "left" = some (some (.ref f18))) (l18 : K.lookup f18 = some ⟨oc18, od18, .func (PySem.W.fnOf "left" "left" (defArgs s_left) (defBody s_left) (defScope s_left) .none kV18 dc18 pm18 an18 cd18 ct18), sl18⟩) (c18 : PySem.W.codeIn K cd18 "left" = true) (k18 : PySem.W.keepIn K (.ref f18) = true)
    {f19 : Addr} {od19 an19 : Option Addr} {sl19 : Array (Option Value)} {oc19 kV19 dc19 pm19 cd19 ct19 : Value}
    (a19 : PySem.W.nsIn K mainGlobals "stepped_by" = some (some (.ref f19))) (l19 : K.lookup f19 = some ⟨oc19, od19, .func (PySem.W.fnOf "stepped_by" "stepped_by" (defArgs s_stepped_by) (defBody s_stepped_by) (defScope s_stepped_by) .none kV19 dc19 pm19 an19 cd19 ct19), sl19⟩) (c19 : PySem.W.codeIn K cd19 "stepped_by" = true) (k19 : PySem.W.keepIn K (.ref f19) = true)
    {f20 : Addr} {od20 an20 : Option Addr} {sl20 : Array (Option Value)} {oc20 kV20 dc20 pm20 cd20 ct20 : Value}
    (a20 : PySem.W.nsIn K mainGlobals "chooses" = some (some (.ref f20))) (l20 : K.lookup f20 = some ⟨oc20, od20, .func (PySem.W.fnOf "chooses" "chooses" (defArgs s_chooses) (defBody s_chooses) (defScope s_chooses) .none kV20 dc20 pm20 an20 cd20 ct20), sl20⟩) (c20 : PySem.W.codeIn K cd20 "chooses" = true) (k20 : PySem.W.keepIn K (.ref f20) = true)
    {f21 : Addr} {od21 an21 : Option Addr} {sl21 : Array (Option Value)} {oc21 kV21 dc21 pm21 cd21 ct21 : Value}
    (a21 : PySem.W.nsIn K mainGlobals "sooner" = some (some (.ref f21))) (l21 : K.lookup f21 = some ⟨oc21, od21, .func (PySem.W.fnOf "sooner" "sooner" (defArgs s_sooner) (defBody s_sooner) (defScope s_sooner) .none kV21 dc21 pm21 an21 cd21 ct21), sl21⟩) (c21 : PySem.W.codeIn K cd21 "sooner" = true) (k21 : PySem.W.keepIn K (.ref f21) = true)
    {f22 : Addr} {od22 an22 : Option Addr} {sl22 : Array (Option Value)} {oc22 kV22 dc22 pm22 cd22 ct22 : Value}
    (a22 : PySem.W.nsIn K mainGlobals "looked" = some (some (.ref f22))) (l22 : K.lookup f22 = some ⟨oc22, od22, .func (PySem.W.fnOf "looked" "looked" (defArgs s_looked) (defBody s_looked) (defScope s_looked) .none kV22 dc22 pm22 an22 cd22 ct22), sl22⟩) (c22 : PySem.W.codeIn K cd22 "looked" = true) (k22 : PySem.W.keepIn K (.ref f22) = true)
    {f23 : Addr} {od23 an23 : Option Addr} {sl23 : Array (Option Value)} {oc23 kV23 dc23 pm23 cd23 ct23 : Value}
    (a23 : PySem.W.nsIn K mainGlobals "_law_cell_at" = some (some (.ref f23))) (l23 : K.lookup f23 = some ⟨oc23, od23, .func (PySem.W.fnOf "_law_cell_at" "_law_cell_at" (defArgs s_law_cell_at) (defBody s_law_cell_at) (defScope s_law_cell_at) .none kV23 dc23 pm23 an23 cd23 ct23), sl23⟩) (c23 : PySem.W.codeIn K cd23 "_law_cell_at" = true) (k23 : PySem.W.keepIn K (.ref f23) = true)
    {f24 : Addr} {od24 an24 : Option Addr} {sl24 : Array (Option Value)} {oc24 kV24 dc24 pm24 cd24 ct24 : Value}
    (a24 : PySem.W.nsIn K mainGlobals "_law_word" = some (some (.ref f24))) (l24 : K.lookup f24 = some ⟨oc24, od24, .func (PySem.W.fnOf "_law_word" "_law_word" (defArgs s_law_word) (defBody s_law_word) (defScope s_law_word) .none kV24 dc24 pm24 an24 cd24 ct24), sl24⟩) (c24 : PySem.W.codeIn K cd24 "_law_word" = true) (k24 : PySem.W.keepIn K (.ref f24) = true)
    {f25 : Addr} {od25 an25 : Option Addr} {sl25 : Array (Option Value)} {oc25 kV25 dc25 pm25 cd25 ct25 : Value}
    (a25 : PySem.W.nsIn K mainGlobals "_law_draw" = some (some (.ref f25))) (l25 : K.lookup f25 = some ⟨oc25, od25, .func (PySem.W.fnOf "_law_draw" "_law_draw" (defArgs s_law_draw) (defBody s_law_draw) (defScope s_law_draw) .none kV25 dc25 pm25 an25 cd25 ct25), sl25⟩) (c25 : PySem.W.codeIn K cd25 "_law_draw" = true) (k25 : PySem.W.keepIn K (.ref f25) = true)
    {f26 : Addr} {od26 an26 : Option Addr} {sl26 : Array (Option Value)} {oc26 kV26 dc26 pm26 cd26 ct26 : Value}
    (a26 : PySem.W.nsIn K mainGlobals "_law_thing" = some (some (.ref f26))) (l26 : K.lookup f26 = some ⟨oc26, od26, .func (PySem.W.fnOf "_law_thing" "_law_thing" (defArgs s_law_thing) (defBody s_law_thing) (defScope s_law_thing) .none kV26 dc26 pm26 an26 cd26 ct26), sl26⟩) (c26 : PySem.W.codeIn K cd26 "_law_thing" = true) (k26 : PySem.W.keepIn K (.ref f26) = true)
    {f27 : Addr} {od27 an27 : Option Addr} {sl27 : Array (Option Value)} {oc27 kV27 dc27 pm27 cd27 ct27 : Value}
    (a27 : PySem.W.nsIn K mainGlobals "_law_lend" = some (some (.ref f27))) (l27 : K.lookup f27 = some ⟨oc27, od27, .func (PySem.W.fnOf "_law_lend" "_law_lend" (defArgs s_law_lend) (defBody s_law_lend) (defScope s_law_lend) .none kV27 dc27 pm27 an27 cd27 ct27), sl27⟩) (c27 : PySem.W.codeIn K cd27 "_law_lend" = true) (k27 : PySem.W.keepIn K (.ref f27) = true)
    {f28 : Addr} {od28 an28 : Option Addr} {sl28 : Array (Option Value)} {oc28 kV28 dc28 pm28 cd28 ct28 : Value}
    (a28 : PySem.W.nsIn K mainGlobals "_law_deed" = some (some (.ref f28))) (l28 : K.lookup f28 = some ⟨oc28, od28, .func (PySem.W.fnOf "_law_deed" "_law_deed" (defArgs s_law_deed) (defBody s_law_deed) (defScope s_law_deed) .none kV28 dc28 pm28 an28 cd28 ct28), sl28⟩) (c28 : PySem.W.codeIn K cd28 "_law_deed" = true) (k28 : PySem.W.keepIn K (.ref f28) = true)
    {f29 : Addr} {od29 an29 : Option Addr} {sl29 : Array (Option Value)} {oc29 kV29 dc29 pm29 cd29 ct29 : Value}
    (a29 : PySem.W.nsIn K mainGlobals "_law_row" = some (some (.ref f29))) (l29 : K.lookup f29 = some ⟨oc29, od29, .func (PySem.W.fnOf "_law_row" "_law_row" (defArgs s_law_row) (defBody s_law_row) (defScope s_law_row) .none kV29 dc29 pm29 an29 cd29 ct29), sl29⟩) (c29 : PySem.W.codeIn K cd29 "_law_row" = true) (k29 : PySem.W.keepIn K (.ref f29) = true)
    {f30 : Addr} {od30 an30 : Option Addr} {sl30 : Array (Option Value)} {oc30 kV30 dc30 pm30 cd30 ct30 : Value}
    (a30 : PySem.W.nsIn K mainGlobals "_law_hands" = some (some (.ref f30))) (l30 : K.lookup f30 = some ⟨oc30, od30, .func (PySem.W.fnOf "_law_hands" "_law_hands" (defArgs s_law_hands) (defBody s_law_hands) (defScope s_law_hands) .none kV30 dc30 pm30 an30 cd30 ct30), sl30⟩) (c30 : PySem.W.codeIn K cd30 "_law_hands" = true) (k30 : PySem.W.keepIn K (.ref f30) = true)
    {f31 : Addr} {od31 an31 : Option Addr} {sl31 : Array (Option Value)} {oc31 kV31 dc31 pm31 cd31 ct31 : Value}
    (a31 : PySem.W.nsIn K mainGlobals "_law_first_four" = some (some (.ref f31))) (l31 : K.lookup f31 = some ⟨oc31, od31, .func (PySem.W.fnOf "_law_first_four" "_law_first_four" (defArgs s_law_first_four) (defBody s_law_first_four) (defScope s_law_first_four) .none kV31 dc31 pm31 an31 cd31 ct31), sl31⟩) (c31 : PySem.W.codeIn K cd31 "_law_first_four" = true) (k31 : PySem.W.keepIn K (.ref f31) = true)
    {f32 : Addr} {od32 an32 : Option Addr} {sl32 : Array (Option Value)} {oc32 kV32 dc32 pm32 cd32 ct32 : Value}
    (a32 : PySem.W.nsIn K mainGlobals "_law_gadget" = some (some (.ref f32))) (l32 : K.lookup f32 = some ⟨oc32, od32, .func (PySem.W.fnOf "_law_gadget" "_law_gadget" (defArgs s_law_gadget) (defBody s_law_gadget) (defScope s_law_gadget) .none kV32 dc32 pm32 an32 cd32 ct32), sl32⟩) (c32 : PySem.W.codeIn K cd32 "_law_gadget" = true) (k32 : PySem.W.keepIn K (.ref f32) = true)
    {f33 : Addr} {od33 an33 : Option Addr} {sl33 : Array (Option Value)} {oc33 kV33 dc33 pm33 cd33 ct33 : Value}
    (a33 : PySem.W.nsIn K mainGlobals "_law_sheet" = some (some (.ref f33))) (l33 : K.lookup f33 = some ⟨oc33, od33, .func (PySem.W.fnOf "_law_sheet" "_law_sheet" (defArgs s_law_sheet) (defBody s_law_sheet) (defScope s_law_sheet) .none kV33 dc33 pm33 an33 cd33 ct33), sl33⟩) (c33 : PySem.W.codeIn K cd33 "_law_sheet" = true) (k33 : PySem.W.keepIn K (.ref f33) = true)
    {f34 : Addr} {od34 an34 : Option Addr} {sl34 : Array (Option Value)} {oc34 kV34 dc34 pm34 cd34 ct34 : Value}
    (a34 : PySem.W.nsIn K mainGlobals "_law_drawn" = some (some (.ref f34))) (l34 : K.lookup f34 = some ⟨oc34, od34, .func (PySem.W.fnOf "_law_drawn" "_law_drawn" (defArgs s_law_drawn) (defBody s_law_drawn) (defScope s_law_drawn) .none kV34 dc34 pm34 an34 cd34 ct34), sl34⟩) (c34 : PySem.W.codeIn K cd34 "_law_drawn" = true) (k34 : PySem.W.keepIn K (.ref f34) = true)
    {f35 : Addr} {od35 an35 : Option Addr} {sl35 : Array (Option Value)} {oc35 kV35 dc35 pm35 cd35 ct35 : Value}
    (a35 : PySem.W.nsIn K mainGlobals "_law_homes" = some (some (.ref f35))) (l35 : K.lookup f35 = some ⟨oc35, od35, .func (PySem.W.fnOf "_law_homes" "_law_homes" (defArgs s_law_homes) (defBody s_law_homes) (defScope s_law_homes) .none kV35 dc35 pm35 an35 cd35 ct35), sl35⟩) (c35 : PySem.W.codeIn K cd35 "_law_homes" = true) (k35 : PySem.W.keepIn K (.ref f35) = true)
    {f36 : Addr} {od36 an36 : Option Addr} {sl36 : Array (Option Value)} {oc36 kV36 dc36 pm36 cd36 ct36 : Value}
    (a36 : PySem.W.nsIn K mainGlobals "_law_last" = some (some (.ref f36))) (l36 : K.lookup f36 = some ⟨oc36, od36, .func (PySem.W.fnOf "_law_last" "_law_last" (defArgs s_law_last) (defBody s_law_last) (defScope s_law_last) .none kV36 dc36 pm36 an36 cd36 ct36), sl36⟩) (c36 : PySem.W.codeIn K cd36 "_law_last" = true) (k36 : PySem.W.keepIn K (.ref f36) = true)
    {f37 : Addr} {od37 an37 : Option Addr} {sl37 : Array (Option Value)} {oc37 kV37 dc37 pm37 cd37 ct37 : Value}
    (a37 : PySem.W.nsIn K mainGlobals "_law_starts" = some (some (.ref f37))) (l37 : K.lookup f37 = some ⟨oc37, od37, .func (PySem.W.fnOf "_law_starts" "_law_starts" (defArgs s_law_starts) (defBody s_law_starts) (defScope s_law_starts) .none kV37 dc37 pm37 an37 cd37 ct37), sl37⟩) (c37 : PySem.W.codeIn K cd37 "_law_starts" = true) (k37 : PySem.W.keepIn K (.ref f37) = true)
    {f38 : Addr} {od38 an38 : Option Addr} {sl38 : Array (Option Value)} {oc38 kV38 dc38 pm38 cd38 ct38 : Value}
    (a38 : PySem.W.nsIn K mainGlobals "_law_lent" = some (some (.ref f38))) (l38 : K.lookup f38 = some ⟨oc38, od38, .func (PySem.W.fnOf "_law_lent" "_law_lent" (defArgs s_law_lent) (defBody s_law_lent) (defScope s_law_lent) .none kV38 dc38 pm38 an38 cd38 ct38), sl38⟩) (c38 : PySem.W.codeIn K cd38 "_law_lent" = true) (k38 : PySem.W.keepIn K (.ref f38) = true)
    {f39 : Addr} {od39 an39 : Option Addr} {sl39 : Array (Option Value)} {oc39 kV39 dc39 pm39 cd39 ct39 : Value}
    (a39 : PySem.W.nsIn K mainGlobals "_law_back" = some (some (.ref f39))) (l39 : K.lookup f39 = some ⟨oc39, od39, .func (PySem.W.fnOf "_law_back" "_law_back" (defArgs s_law_back) (defBody s_law_back) (defScope s_law_back) .none kV39 dc39 pm39 an39 cd39 ct39), sl39⟩) (c39 : PySem.W.codeIn K cd39 "_law_back" = true) (k39 : PySem.W.keepIn K (.ref f39) = true)
    {f40 : Addr} {od40 an40 : Option Addr} {sl40 : Array (Option Value)} {oc40 kV40 dc40 pm40 cd40 ct40 : Value}
    (a40 : PySem.W.nsIn K mainGlobals "_law_step" = some (some (.ref f40))) (l40 : K.lookup f40 = some ⟨oc40, od40, .func (PySem.W.fnOf "_law_step" "_law_step" (defArgs s_law_step) (defBody s_law_step) (defScope s_law_step) .none kV40 dc40 pm40 an40 cd40 ct40), sl40⟩) (c40 : PySem.W.codeIn K cd40 "_law_step" = true) (k40 : PySem.W.keepIn K (.ref f40) = true)
    {f41 : Addr} {od41 an41 : Option Addr} {sl41 : Array (Option Value)} {oc41 kV41 dc41 pm41 cd41 ct41 : Value}
    (a41 : PySem.W.nsIn K mainGlobals "_law_run" = some (some (.ref f41))) (l41 : K.lookup f41 = some ⟨oc41, od41, .func (PySem.W.fnOf "_law_run" "_law_run" (defArgs s_law_run) (defBody s_law_run) (defScope s_law_run) .none kV41 dc41 pm41 an41 cd41 ct41), sl41⟩) (c41 : PySem.W.codeIn K cd41 "_law_run" = true) (k41 : PySem.W.keepIn K (.ref f41) = true)
    {f42 : Addr} {od42 an42 : Option Addr} {sl42 : Array (Option Value)} {oc42 kV42 dc42 pm42 cd42 ct42 : Value}
    (a42 : PySem.W.nsIn K mainGlobals "_law_awake" = some (some (.ref f42))) (l42 : K.lookup f42 = some ⟨oc42, od42, .func (PySem.W.fnOf "_law_awake" "_law_awake" (defArgs s_law_awake) (defBody s_law_awake) (defScope s_law_awake) .none kV42 dc42 pm42 an42 cd42 ct42), sl42⟩) (c42 : PySem.W.codeIn K cd42 "_law_awake" = true) (k42 : PySem.W.keepIn K (.ref f42) = true)
    {f43 : Addr} {od43 an43 : Option Addr} {sl43 : Array (Option Value)} {oc43 kV43 dc43 pm43 cd43 ct43 : Value}
    (a43 : PySem.W.nsIn K mainGlobals "_law_fault" = some (some (.ref f43))) (l43 : K.lookup f43 = some ⟨oc43, od43, .func (PySem.W.fnOf "_law_fault" "_law_fault" (defArgs s_law_fault) (defBody s_law_fault) (defScope s_law_fault) .none kV43 dc43 pm43 an43 cd43 ct43), sl43⟩) (c43 : PySem.W.codeIn K cd43 "_law_fault" = true) (k43 : PySem.W.keepIn K (.ref f43) = true)
    {f44 : Addr} {od44 an44 : Option Addr} {sl44 : Array (Option Value)} {oc44 kV44 dc44 pm44 cd44 ct44 : Value}
    (a44 : PySem.W.nsIn K mainGlobals "_law_whole" = some (some (.ref f44))) (l44 : K.lookup f44 = some ⟨oc44, od44, .func (PySem.W.fnOf "_law_whole" "_law_whole" (defArgs s_law_whole) (defBody s_law_whole) (defScope s_law_whole) .none kV44 dc44 pm44 an44 cd44 ct44), sl44⟩) (c44 : PySem.W.codeIn K cd44 "_law_whole" = true) (k44 : PySem.W.keepIn K (.ref f44) = true)
    {f45 : Addr} {od45 an45 : Option Addr} {sl45 : Array (Option Value)} {oc45 kV45 dc45 pm45 cd45 ct45 : Value}
    (a45 : PySem.W.nsIn K mainGlobals "_law_told" = some (some (.ref f45))) (l45 : K.lookup f45 = some ⟨oc45, od45, .func (PySem.W.fnOf "_law_told" "_law_told" (defArgs s_law_told) (defBody s_law_told) (defScope s_law_told) .none kV45 dc45 pm45 an45 cd45 ct45), sl45⟩) (c45 : PySem.W.codeIn K cd45 "_law_told" = true) (k45 : PySem.W.keepIn K (.ref f45) = true)
    {f46 : Addr} {od46 an46 : Option Addr} {sl46 : Array (Option Value)} {oc46 kV46 dc46 pm46 cd46 ct46 : Value}
    (a46 : PySem.W.nsIn K mainGlobals "_law_rows_alike" = some (some (.ref f46))) (l46 : K.lookup f46 = some ⟨oc46, od46, .func (PySem.W.fnOf "_law_rows_alike" "_law_rows_alike" (defArgs s_law_rows_alike) (defBody s_law_rows_alike) (defScope s_law_rows_alike) .none kV46 dc46 pm46 an46 cd46 ct46), sl46⟩) (c46 : PySem.W.codeIn K cd46 "_law_rows_alike" = true) (k46 : PySem.W.keepIn K (.ref f46) = true)
    {f47 : Addr} {od47 an47 : Option Addr} {sl47 : Array (Option Value)} {oc47 kV47 dc47 pm47 cd47 ct47 : Value}
    (a47 : PySem.W.nsIn K mainGlobals "_law_choices" = some (some (.ref f47))) (l47 : K.lookup f47 = some ⟨oc47, od47, .func (PySem.W.fnOf "_law_choices" "_law_choices" (defArgs s_law_choices) (defBody s_law_choices) (defScope s_law_choices) .none kV47 dc47 pm47 an47 cd47 ct47), sl47⟩) (c47 : PySem.W.codeIn K cd47 "_law_choices" = true) (k47 : PySem.W.keepIn K (.ref f47) = true)
    {f48 : Addr} {od48 an48 : Option Addr} {sl48 : Array (Option Value)} {oc48 kV48 dc48 pm48 cd48 ct48 : Value}
    (a48 : PySem.W.nsIn K mainGlobals "_law_long" = some (some (.ref f48))) (l48 : K.lookup f48 = some ⟨oc48, od48, .func (PySem.W.fnOf "_law_long" "_law_long" (defArgs s_law_long) (defBody s_law_long) (defScope s_law_long) .none kV48 dc48 pm48 an48 cd48 ct48), sl48⟩) (c48 : PySem.W.codeIn K cd48 "_law_long" = true) (k48 : PySem.W.keepIn K (.ref f48) = true)
    {f49 : Addr} {od49 an49 : Option Addr} {sl49 : Array (Option Value)} {oc49 kV49 dc49 pm49 cd49 ct49 : Value}
    (a49 : PySem.W.nsIn K mainGlobals "_law_some_ways" = some (some (.ref f49))) (l49 : K.lookup f49 = some ⟨oc49, od49, .func (PySem.W.fnOf "_law_some_ways" "_law_some_ways" (defArgs s_law_some_ways) (defBody s_law_some_ways) (defScope s_law_some_ways) .none kV49 dc49 pm49 an49 cd49 ct49), sl49⟩) (c49 : PySem.W.codeIn K cd49 "_law_some_ways" = true) (k49 : PySem.W.keepIn K (.ref f49) = true)
    {f50 : Addr} {od50 an50 : Option Addr} {sl50 : Array (Option Value)} {oc50 kV50 dc50 pm50 cd50 ct50 : Value}
    (a50 : PySem.W.nsIn K mainGlobals "_law_few" = some (some (.ref f50))) (l50 : K.lookup f50 = some ⟨oc50, od50, .func (PySem.W.fnOf "_law_few" "_law_few" (defArgs s_law_few) (defBody s_law_few) (defScope s_law_few) .none kV50 dc50 pm50 an50 cd50 ct50), sl50⟩) (c50 : PySem.W.codeIn K cd50 "_law_few" = true) (k50 : PySem.W.keepIn K (.ref f50) = true)
    {f51 : Addr} {od51 an51 : Option Addr} {sl51 : Array (Option Value)} {oc51 kV51 dc51 pm51 cd51 ct51 : Value}
    (a51 : PySem.W.nsIn K mainGlobals "law" = some (some (.ref f51))) (l51 : K.lookup f51 = some ⟨oc51, od51, .func (PySem.W.fnOf "law" "law" (defArgs s_law) (defBody s_law) (defScope s_law) .none kV51 dc51 pm51 an51 cd51 ct51), sl51⟩) (c51 : PySem.W.codeIn K cd51 "law" = true) (k51 : PySem.W.keepIn K (.ref f51) = true)
    (z_all : PySem.W.nsIn K mainGlobals "all" = some none)
    (z_any : PySem.W.nsIn K mainGlobals "any" = some none)
    (z_bool : PySem.W.nsIn K mainGlobals "bool" = some none)
    (z_enumerate : PySem.W.nsIn K mainGlobals "enumerate" = some none)
    (z_int : PySem.W.nsIn K mainGlobals "int" = some none)
    (z_isinstance : PySem.W.nsIn K mainGlobals "isinstance" = some none)
    (z_len : PySem.W.nsIn K mainGlobals "len" = some none)
    (z_list : PySem.W.nsIn K mainGlobals "list" = some none)
    (z_range : PySem.W.nsIn K mainGlobals "range" = some none)
    (z_reversed : PySem.W.nsIn K mainGlobals "reversed" = some none)
    (z_str : PySem.W.nsIn K mainGlobals "str" = some none)
    (z_tuple : PySem.W.nsIn K mainGlobals "tuple" = some none)
    (z_zip : PySem.W.nsIn K mainGlobals "zip" = some none)
    {t_LETTERS : Tok} (y_LETTERS : PySem.W.nsIn K mainGlobals "LETTERS" = some (some (.str "abcdefghijklmnopqrstuvwxyz" t_LETTERS)))
    {t_MOST_THING : Tok} (y_MOST_THING : PySem.W.nsIn K mainGlobals "MOST_THING" = some (some (.int 1000000000 t_MOST_THING)))
    {t_MOST_THINGS : Tok} (y_MOST_THINGS : PySem.W.nsIn K mainGlobals "MOST_THINGS" = some (some (.int 5 t_MOST_THINGS)))
    {t_MOST_WORD : Tok} (y_MOST_WORD : PySem.W.nsIn K mainGlobals "MOST_WORD" = some (some (.int 12 t_MOST_WORD)))
    {p_OPENERS : Addr} {t_OPENERS0 t_OPENERS1 t_OPENERS2 t_OPENERS3 : Tok} {dd_OPENERS : Option Addr} {n_OPENERS : Nat} {s_OPENERS : Array (Option Value)} (y_OPENERS : PySem.W.nsIn K mainGlobals "OPENERS" = some (some (.ref p_OPENERS))) (x_OPENERS : K.lookup p_OPENERS = some ⟨.type "tuple", dd_OPENERS, .seq #[.str "lend" t_OPENERS0, .str "pick" t_OPENERS1, .str "either" t_OPENERS2, .str "again" t_OPENERS3] n_OPENERS, s_OPENERS⟩)
    {p_ORDER : Addr} {t_ORDER0 t_ORDER1 t_ORDER2 : Tok} {n_ORDER : Nat} {s_ORDER : Array (Option Value)} (y_ORDER : PySem.W.nsIn K mainGlobals "ORDER" = some (some (.ref p_ORDER))) (x_ORDER : K.lookup p_ORDER = some ⟨.type "tuple", none, .seq #[.str "beside" t_ORDER0, .str "empty" t_ORDER1, .str "asleep" t_ORDER2] n_ORDER, s_ORDER⟩)
    : ∃ fd : FuncData, (∀ (s : Shared) (v : Value), BindsTo s fd ⟨[v], []⟩ [("_law_script", v)]) ∧ ∀ base : Heap, K.In base → base.Ns mainGlobals mg → FnOk l.prog w K mg base CX0 6 fa fd ["_law_script"] (spLaw K) := by
  have e := hfa.symm.trans (PySem.W.mg_of X G a51)
  cases e
  have T : Txt K mg := {b_all := PySem.W.mg_none_of X G z_all, b_any := PySem.W.mg_none_of X G z_any, b_bool := PySem.W.mg_none_of X G z_bool, b_enumerate := PySem.W.mg_none_of X G z_enumerate, b_int := PySem.W.mg_none_of X G z_int, b_isinstance := PySem.W.mg_none_of X G z_isinstance, b_len := PySem.W.mg_none_of X G z_len, b_list := PySem.W.mg_none_of X G z_list, b_range := PySem.W.mg_none_of X G z_range, b_reversed := PySem.W.mg_none_of X G z_reversed, b_str := PySem.W.mg_none_of X G z_str, b_tuple := PySem.W.mg_none_of X G z_tuple, b_zip := PySem.W.mg_none_of X G z_zip, c_LETTERS := cst_str (PySem.W.mg_of X G y_LETTERS), c_MOST_THING := cst_int (PySem.W.mg_of X G y_MOST_THING), c_MOST_THINGS := cst_int (PySem.W.mg_of X G y_MOST_THINGS), c_MOST_WORD := cst_int (PySem.W.mg_of X G y_MOST_WORD), c_OPENERS := cst_tup (zs := ["lend", "pick", "either", "again"]) (us := [.str "lend" t_OPENERS0, .str "pick" t_OPENERS1, .str "either" t_OPENERS2, .str "again" t_OPENERS3]) (PySem.W.mg_of X G y_OPENERS) x_OPENERS (by decide : 4 ≤ 1000) (Paired.cons ⟨_, rfl⟩ (Paired.cons ⟨_, rfl⟩ (Paired.cons ⟨_, rfl⟩ (Paired.cons ⟨_, rfl⟩ Paired.nil)))), i_ORDER := cst_ix (zs := ["beside", "empty", "asleep"]) (us := [.str "beside" t_ORDER0, .str "empty" t_ORDER1, .str "asleep" t_ORDER2]) (PySem.W.mg_of X G y_ORDER) x_ORDER (by decide : 3 ≤ 1000) (Paired.cons ⟨_, rfl⟩ (Paired.cons ⟨_, rfl⟩ (Paired.cons ⟨_, rfl⟩ Paired.nil))), c_ORDER := cst_tup (zs := ["beside", "empty", "asleep"]) (us := [.str "beside" t_ORDER0, .str "empty" t_ORDER1, .str "asleep" t_ORDER2]) (PySem.W.mg_of X G y_ORDER) x_ORDER (by decide : 3 ≤ 1000) (Paired.cons ⟨_, rfl⟩ (Paired.cons ⟨_, rfl⟩ (Paired.cons ⟨_, rfl⟩ Paired.nil))) }
  refine ⟨PySem.W.fnOf "law" "law" (defArgs s_law) (defBody s_law) (defScope s_law) .none kV51 dc51 pm51 an51 cd51 ct51, fun s v => .of_eq rfl, fun base _ _ => ?_⟩
  have F0 := fun_mk (st := s_homes) l0 c0 k0
  have C0 := cal_of (ok_homes (P := l.prog) (w := w) (base := base) F0 T ) (PySem.W.mg_of X G a0) k0 (F0.binds (ps := ["rows"]) fun _ _ _ _ _ _ us hl => match us, hl with | [_], _ => rfl)
  have F3 := fun_mk (st := s_is_asleep) l3 c3 k3
  have C3 := cal_of (ok_is_asleep (P := l.prog) (w := w) (base := base) F3 T ) (PySem.W.mg_of X G a3) k3 (F3.binds (ps := ["held", "word"]) fun _ _ _ _ _ _ us hl => match us, hl with | [_, _], _ => rfl)
  have F6 := fun_mk (st := s_hand_of) l6 c6 k6
  have C6 := cal_of (ok_hand_of (P := l.prog) (w := w) (base := base) F6 T ) (PySem.W.mg_of X G a6) k6 (F6.binds (ps := ["row"]) fun _ _ _ _ _ _ us hl => match us, hl with | [_], _ => rfl)
  have F8 := fun_mk (st := s_is_word) l8 c8 k8
  have C8 := cal_of (ok_is_word (P := l.prog) (w := w) (base := base) F8 T ) (PySem.W.mg_of X G a8) k8 (F8.binds (ps := ["value"]) fun _ _ _ _ _ _ us hl => match us, hl with | [_], _ => rfl)
  have F9 := fun_mk (st := s_is_thing) l9 c9 k9
  have C9 := cal_of (ok_is_thing (P := l.prog) (w := w) (base := base) F9 T ) (PySem.W.mg_of X G a9) k9 (F9.binds (ps := ["value"]) fun _ _ _ _ _ _ us hl => match us, hl with | [_], _ => rfl)
  have F11 := fun_mk (st := s_kind_of) l11 c11 k11
  have C11 := cal_of (ok_kind_of (P := l.prog) (w := w) (base := base) F11 T ) (PySem.W.mg_of X G a11) k11 (F11.binds (ps := ["opened", "word"]) fun _ _ _ _ _ _ us hl => match us, hl with | [_, _], _ => rfl)
  have F14 := fun_mk (st := s_entry_of) l14 c14 k14
  have C14 := cal_of (ok_entry_of (P := l.prog) (w := w) (base := base) F14 T ) (PySem.W.mg_of X G a14) k14 (F14.binds (ps := ["held", "word"]) fun _ _ _ _ _ _ us hl => match us, hl with | [_, _], _ => rfl)
  have F16 := fun_mk (st := s_given_back) l16 c16 k16
  have C16 := cal_of (ok_given_back (P := l.prog) (w := w) (base := base) F16 T ) (PySem.W.mg_of X G a16) k16 (F16.binds (ps := ["held", "word"]) fun _ _ _ _ _ _ us hl => match us, hl with | [_, _], _ => rfl)
  have F18 := fun_mk (st := s_left) l18 c18 k18
  have C18 := cal_of (ok_left (P := l.prog) (w := w) (base := base) F18 T ) (PySem.W.mg_of X G a18) k18 (F18.binds (ps := ["rows", "home", "at", "held"]) fun _ _ _ _ _ _ us hl => match us, hl with | [_, _, _, _], _ => rfl)
  have F20 := fun_mk (st := s_chooses) l20 c20 k20
  have C20 := cal_of (ok_chooses (P := l.prog) (w := w) (base := base) F20 T ) (PySem.W.mg_of X G a20) k20 (F20.binds (ps := ["row"]) fun _ _ _ _ _ _ us hl => match us, hl with | [_], _ => rfl)
  have F21 := fun_mk (st := s_sooner) l21 c21 k21
  have C21 := cal_of (ok_sooner (P := l.prog) (w := w) (base := base) F21 T ) (PySem.W.mg_of X G a21) k21 (F21.binds (ps := ["told", "at", "word"]) fun _ _ _ _ _ _ us hl => match us, hl with | [_, _, _], _ => rfl)
  have F23 := fun_mk (st := s_law_cell_at) l23 c23 k23
  have C23 := cal_of (ok_law_cell_at (P := l.prog) (w := w) (base := base) F23 T ) (PySem.W.mg_of X G a23) k23 (F23.binds (ps := ["_law_script", "_law_k"]) fun _ _ _ _ _ _ us hl => match us, hl with | [_, _], _ => rfl)
  have F24 := fun_mk (st := s_law_word) l24 c24 k24
  have C24 := cal_of (ok_law_word (P := l.prog) (w := w) (base := base) F24 T ) (PySem.W.mg_of X G a24) k24 (F24.binds (ps := ["_law_one", "_law_two", "_law_deep", "_law_draw_here"]) fun _ _ _ _ _ _ us hl => match us, hl with | [_, _, _, _], _ => rfl)
  have F26 := fun_mk (st := s_law_thing) l26 c26 k26
  have C26 := cal_of (ok_law_thing (P := l.prog) (w := w) (base := base) F26 T ) (PySem.W.mg_of X G a26) k26 (F26.binds (ps := ["_law_cell", "_law_base"]) fun _ _ _ _ _ _ us hl => match us, hl with | [_, _], _ => rfl)
  have F28 := fun_mk (st := s_law_deed) l28 c28 k28
  have C28 := cal_of (ok_law_deed (P := l.prog) (w := w) (base := base) F28 T ) (PySem.W.mg_of X G a28) k28 (F28.binds (ps := ["_law_one", "_law_two", "_law_hands_here"]) fun _ _ _ _ _ _ us hl => match us, hl with | [_, _, _], _ => rfl)
  have F31 := fun_mk (st := s_law_first_four) l31 c31 k31
  have C31 := cal_of (ok_law_first_four (P := l.prog) (w := w) (base := base) F31 T ) (PySem.W.mg_of X G a31) k31 (F31.binds (ps := ["_law_way", "_law_one", "_law_two", "_law_names", "_law_thing_here"]) fun _ _ _ _ _ _ us hl => match us, hl with | [_, _, _, _, _], _ => rfl)
  have F35 := fun_mk (st := s_law_homes) l35 c35 k35
  have C35 := cal_of (ok_law_homes (P := l.prog) (w := w) (base := base) F35 T ) (PySem.W.mg_of X G a35) k35 (F35.binds (ps := ["_law_rows"]) fun _ _ _ _ _ _ us hl => match us, hl with | [_], _ => rfl)
  have F36 := fun_mk (st := s_law_last) l36 c36 k36
  have C36 := cal_of (ok_law_last (P := l.prog) (w := w) (base := base) F36 T ) (PySem.W.mg_of X G a36) k36 (F36.binds (ps := ["_law_rows", "_law_home", "_law_at"]) fun _ _ _ _ _ _ us hl => match us, hl with | [_, _, _], _ => rfl)
  have F37 := fun_mk (st := s_law_starts) l37 c37 k37
  have C37 := cal_of (ok_law_starts (P := l.prog) (w := w) (base := base) F37 T ) (PySem.W.mg_of X G a37) k37 (F37.binds (ps := ["_law_rows", "_law_home", "_law_at"]) fun _ _ _ _ _ _ us hl => match us, hl with | [_, _, _], _ => rfl)
  have F38 := fun_mk (st := s_law_lent) l38 c38 k38
  have C38 := cal_of (ok_law_lent (P := l.prog) (w := w) (base := base) F38 T ) (PySem.W.mg_of X G a38) k38 (F38.binds (ps := ["_law_held", "_law_row_here"]) fun _ _ _ _ _ _ us hl => match us, hl with | [_, _], _ => rfl)
  have F39 := fun_mk (st := s_law_back) l39 c39 k39
  have C39 := cal_of (ok_law_back (P := l.prog) (w := w) (base := base) F39 T ) (PySem.W.mg_of X G a39) k39 (F39.binds (ps := ["_law_held", "_law_word_here"]) fun _ _ _ _ _ _ us hl => match us, hl with | [_, _], _ => rfl)
  have F42 := fun_mk (st := s_law_awake) l42 c42 k42
  have C42 := cal_of (ok_law_awake (P := l.prog) (w := w) (base := base) F42 T ) (PySem.W.mg_of X G a42) k42 (F42.binds (ps := ["_law_held"]) fun _ _ _ _ _ _ us hl => match us, hl with | [_], _ => rfl)
  have F44 := fun_mk (st := s_law_whole) l44 c44 k44
  have C44 := cal_of (ok_law_whole (P := l.prog) (w := w) (base := base) F44 T ) (PySem.W.mg_of X G a44) k44 (F44.binds (ps := ["_law_found"]) fun _ _ _ _ _ _ us hl => match us, hl with | [_], _ => rfl)
  have F46 := fun_mk (st := s_law_rows_alike) l46 c46 k46
  have C46 := cal_of (ok_law_rows_alike (P := l.prog) (w := w) (base := base) F46 T ) (PySem.W.mg_of X G a46) k46 (F46.binds (ps := ["_law_rows", "_law_kept"]) fun _ _ _ _ _ _ us hl => match us, hl with | [_, _], _ => rfl)
  have F47 := fun_mk (st := s_law_choices) l47 c47 k47
  have C47 := cal_of (ok_law_choices (P := l.prog) (w := w) (base := base) F47 T ) (PySem.W.mg_of X G a47) k47 (F47.binds (ps := ["_law_script"]) fun _ _ _ _ _ _ us hl => match us, hl with | [_], _ => rfl)
  have F1 := fun_mk (st := s_ends) l1 c1 k1
  have C1 := cal_of (ok_ends (P := l.prog) (w := w) (base := base) F1 T C0) (PySem.W.mg_of X G a1) k1 (F1.binds (ps := ["rows"]) fun _ _ _ _ _ _ us hl => match us, hl with | [_], _ => rfl)
  have F2 := fun_mk (st := s_branches) l2 c2 k2
  have C2 := cal_of (ok_branches (P := l.prog) (w := w) (base := base) F2 T C0) (PySem.W.mg_of X G a2) k2 (F2.binds (ps := ["rows", "at"]) fun _ _ _ _ _ _ us hl => match us, hl with | [_, _], _ => rfl)
  have F4 := fun_mk (st := s_awake) l4 c4 k4
  have C4 := cal_of (ok_awake (P := l.prog) (w := w) (base := base) F4 T C3) (PySem.W.mg_of X G a4) k4 (F4.binds (ps := ["held"]) fun _ _ _ _ _ _ us hl => match us, hl with | [_], _ => rfl)
  have F10 := fun_mk (st := s_is_row) l10 c10 k10
  have C10 := cal_of (ok_is_row (P := l.prog) (w := w) (base := base) F10 T C8 C9) (PySem.W.mg_of X G a10) k10 (F10.binds (ps := ["row"]) fun _ _ _ _ _ _ us hl => match us, hl with | [_], _ => rfl)
  have F12 := fun_mk (st := s_checked_words) l12 c12 k12
  have C12 := cal_of (ok_checked_words (P := l.prog) (w := w) (base := base) F12 T C11) (PySem.W.mg_of X G a12) k12 (F12.binds (ps := ["at", "row", "opened"]) fun _ _ _ _ _ _ us hl => match us, hl with | [_, _, _], _ => rfl)
  have F15 := fun_mk (st := s_lent) l15 c15 k15
  have C15 := cal_of (ok_lent (P := l.prog) (w := w) (base := base) F15 T C14) (PySem.W.mg_of X G a15) k15 (F15.binds (ps := ["held", "row"]) fun _ _ _ _ _ _ us hl => match us, hl with | [_, _], _ => rfl)
  have F25 := fun_mk (st := s_law_draw) l25 c25 k25
  have C25 := cal_of (ok_law_draw (P := l.prog) (w := w) (base := base) F25 T C23) (PySem.W.mg_of X G a25) k25 (F25.binds (ps := ["_law_script"]) fun _ _ _ _ _ _ us hl => match us, hl with | [_], _ => rfl)
  have F27 := fun_mk (st := s_law_lend) l27 c27 k27
  have C27 := cal_of (ok_law_lend (P := l.prog) (w := w) (base := base) F27 T C26 C24) (PySem.W.mg_of X G a27) k27 (F27.binds (ps := ["_law_one", "_law_two", "_law_named", "_law_draw_here"]) fun _ _ _ _ _ _ us hl => match us, hl with | [_, _, _, _], _ => rfl)
  have F30 := fun_mk (st := s_law_hands) l30 c30 k30
  have C30 := cal_of (ok_law_hands (P := l.prog) (w := w) (base := base) F30 T C24) (PySem.W.mg_of X G a30) k30 (F30.binds (ps := ["_law_one", "_law_two", "_law_deep", "_law_draw_here"]) fun _ _ _ _ _ _ us hl => match us, hl with | [_, _, _, _], _ => rfl)
  have F40 := fun_mk (st := s_law_step) l40 c40 k40
  have C40 := cal_of (ok_law_step (P := l.prog) (w := w) (base := base) F40 T C38 C39 C37 C36) (PySem.W.mg_of X G a40) k40 (F40.binds (ps := ["_law_rows", "_law_home", "_law_standing", "_law_choice"]) fun _ _ _ _ _ _ us hl => match us, hl with | [_, _, _, _], _ => rfl)
  have F43 := fun_mk (st := s_law_fault) l43 c43 k43
  have C43 := cal_of (ok_law_fault (P := l.prog) (w := w) (base := base) F43 T C42) (PySem.W.mg_of X G a43) k43 (F43.binds (ps := ["_law_row_here", "_law_held"]) fun _ _ _ _ _ _ us hl => match us, hl with | [_, _], _ => rfl)
  have F45 := fun_mk (st := s_law_told) l45 c45 k45
  have C45 := cal_of (ok_law_told (P := l.prog) (w := w) (base := base) F45 T C44) (PySem.W.mg_of X G a45) k45 (F45.binds (ps := ["_law_told_here"]) fun _ _ _ _ _ _ us hl => match us, hl with | [_], _ => rfl)
  have F48 := fun_mk (st := s_law_long) l48 c48 k48
  have C48 := cal_of (ok_law_long (P := l.prog) (w := w) (base := base) F48 T C23) (PySem.W.mg_of X G a48) k48 (F48.binds (ps := ["_law_script", "_law_rows"]) fun _ _ _ _ _ _ us hl => match us, hl with | [_, _], _ => rfl)
  have F49 := fun_mk (st := s_law_some_ways) l49 c49 k49
  have C49 := cal_of (ok_law_some_ways (P := l.prog) (w := w) (base := base) F49 T C37) (PySem.W.mg_of X G a49) k49 (F49.binds (ps := ["_law_rows", "_law_home", "_law_at"]) fun _ _ _ _ _ _ us hl => match us, hl with | [_, _, _], _ => rfl)
  have F5 := fun_mk (st := s_is_beside) l5 c5 k5
  have C5 := cal_of (ok_is_beside (P := l.prog) (w := w) (base := base) F5 T C4) (PySem.W.mg_of X G a5) k5 (F5.binds (ps := ["held"]) fun _ _ _ _ _ _ us hl => match us, hl with | [_], _ => rfl)
  have F13 := fun_mk (st := s_checked) l13 c13 k13
  have C13 := cal_of (ok_checked (P := l.prog) (w := w) (base := base) F13 T C12 C10) (PySem.W.mg_of X G a13) k13 (F13.binds (ps := ["rows"]) fun _ _ _ _ _ _ us hl => match us, hl with | [_], _ => rfl)
  have F17 := fun_mk (st := s_ways) l17 c17 k17
  have C17 := cal_of (ok_ways (P := l.prog) (w := w) (base := base) F17 T C2) (PySem.W.mg_of X G a17) k17 (F17.binds (ps := ["rows", "standing"]) fun _ _ _ _ _ _ us hl => match us, hl with | [_, _], _ => rfl)
  have F19 := fun_mk (st := s_stepped_by) l19 c19 k19
  have C19 := cal_of (ok_stepped_by (P := l.prog) (w := w) (base := base) F19 T C2 C18 C15 C16) (PySem.W.mg_of X G a19) k19 (F19.binds (ps := ["rows", "home", "last", "standing", "choice"]) fun _ _ _ _ _ _ us hl => match us, hl with | [_, _, _, _, _], _ => rfl)
  have F29 := fun_mk (st := s_law_row) l29 c29 k29
  have C29 := cal_of (ok_law_row (P := l.prog) (w := w) (base := base) F29 T C27 C28 C24 C26) (PySem.W.mg_of X G a29) k29 (F29.binds (ps := ["_law_way", "_law_one", "_law_two", "_law_opened", "_law_draw_here"]) fun _ _ _ _ _ _ us hl => match us, hl with | [_, _, _, _, _], _ => rfl)
  have F32 := fun_mk (st := s_law_gadget) l32 c32 k32
  have C32 := cal_of (ok_law_gadget (P := l.prog) (w := w) (base := base) F32 T C30 C26 C31) (PySem.W.mg_of X G a32) k32 (F32.binds (ps := ["_law_one", "_law_two", "_law_deep", "_law_draw_here"]) fun _ _ _ _ _ _ us hl => match us, hl with | [_, _, _, _], _ => rfl)
  have F41 := fun_mk (st := s_law_run) l41 c41 k41
  have C41 := cal_of (ok_law_run (P := l.prog) (w := w) (base := base) F41 T C35 C40) (PySem.W.mg_of X G a41) k41 (F41.binds (ps := ["_law_rows", "_law_choices_here"]) fun _ _ _ _ _ _ us hl => match us, hl with | [_, _], _ => rfl)
  have F50 := fun_mk (st := s_law_few) l50 c50 k50
  have C50 := cal_of (ok_law_few (P := l.prog) (w := w) (base := base) F50 T C35 C49 C40) (PySem.W.mg_of X G a50) k50 (F50.binds (ps := ["_law_rows", "_law_most"]) fun _ _ _ _ _ _ us hl => match us, hl with | [_, _], _ => rfl)
  have F7 := fun_mk (st := s_fault) l7 c7 k7
  have C7 := cal_of (ok_fault (P := l.prog) (w := w) (base := base) F7 T C5 C3 C6) (PySem.W.mg_of X G a7) k7 (F7.binds (ps := ["rows", "standing"]) fun _ _ _ _ _ _ us hl => match us, hl with | [_, _], _ => rfl)
  have F33 := fun_mk (st := s_law_sheet) l33 c33 k33
  have C33 := cal_of (ok_law_sheet (P := l.prog) (w := w) (base := base) F33 T C29 C32) (PySem.W.mg_of X G a33) k33 (F33.binds (ps := ["_law_cells", "_law_draw_here", "_law_most", "_law_odd"]) fun _ _ _ _ _ _ us hl => match us, hl with | [_, _, _, _], _ => rfl)
  have F22 := fun_mk (st := s_looked) l22 c22 k22
  have C22 := cal_of (ok_looked (P := l.prog) (w := w) (base := base) F22 T C13 C0 C1 C7 C21 C17 C19 C20) (PySem.W.mg_of X G a22) k22 (F22.binds (ps := ["rows"]) fun _ _ _ _ _ _ us hl => match us, hl with | [_], _ => rfl)
  have F34 := fun_mk (st := s_law_drawn) l34 c34 k34
  have C34 := cal_of (ok_law_drawn (P := l.prog) (w := w) (base := base) F34 T C33 C23 C25) (PySem.W.mg_of X G a34) k34 (F34.binds (ps := ["_law_script", "_law_most"]) fun _ _ _ _ _ _ us hl => match us, hl with | [_, _], _ => rfl)
  have F51 := fun_mk (st := s_law) l51 c51 k51
  exact law_imp (ok_law (P := l.prog) (w := w) (base := base) F51 T C48 C47 C22 C34 C50 C41 C46 C43 C45) hm
end Bw
open PySem PySem.W PyProof.Rows
set_option maxHeartbeats 0 in
theorem PySem.Challenge.cw_borrowdesk_k07_whole_let_by_holds : PySem.Challenge.rw_borrowdesk_k07_whole_let_by.Holds := by
  w_on; o_law; k_head; (case hw => w_witness2)
  k_fill
  refine L2.walk_of (l := PySem.Challenge.rw_borrowdesk_k07_whole_let_by) (n := 63) (k := 6) (x := "_law_script") (CX := fun _ => L2.CX0) (sp := fun w => Bd.spLaw _) rfl (by decide) rfl ⟨rfl, by decide, by decide⟩ (fun w h Y => PySem.W.kIn_of Y) ?F (fun _ _ a ns hl _ hS => ⟨a, ns, rfl, hS, hl, fun _ => rfl⟩) (fun _ _ _ _ _ h => h)
  case F =>
    intro w mg fa h KX G hmg
    refine' Bw.all_mk KX G hmg Bw.law_true ?a0 ?l0 ?c0 ?k0 ?a1 ?l1 ?c1 ?k1 ?a2 ?l2 ?c2 ?k2 ?a3 ?l3 ?c3 ?k3 ?a4 ?l4 ?c4 ?k4 ?a5 ?l5 ?c5 ?k5 ?a6 ?l6 ?c6 ?k6 ?a7 ?l7 ?c7 ?k7 ?a8 ?l8 ?c8 ?k8 ?a9 ?l9 ?c9 ?k9 ?a10 ?l10 ?c10 ?k10 ?a11 ?l11 ?c11 ?k11 ?a12 ?l12 ?c12 ?k12 ?a13 ?l13 ?c13 ?k13 ?a14 ?l14 ?c14 ?k14 ?a15 ?l15 ?c15 ?k15 ?a16 ?l16 ?c16 ?k16 ?a17 ?l17 ?c17 ?k17 ?a18 ?l18 ?c18 ?k18 ?a19 ?l19 ?c19 ?k19 ?a20 ?l20 ?c20 ?k20 ?a21 ?l21 ?c21 ?k21 ?a22 ?l22 ?c22 ?k22 ?a23 ?l23 ?c23 ?k23 ?a24 ?l24 ?c24 ?k24 ?a25 ?l25 ?c25 ?k25 ?a26 ?l26 ?c26 ?k26 ?a27 ?l27 ?c27 ?k27 ?a28 ?l28 ?c28 ?k28 ?a29 ?l29 ?c29 ?k29 ?a30 ?l30 ?c30 ?k30 ?a31 ?l31 ?c31 ?k31 ?a32 ?l32 ?c32 ?k32 ?a33 ?l33 ?c33 ?k33 ?a34 ?l34 ?c34 ?k34 ?a35 ?l35 ?c35 ?k35 ?a36 ?l36 ?c36 ?k36 ?a37 ?l37 ?c37 ?k37 ?a38 ?l38 ?c38 ?k38 ?a39 ?l39 ?c39 ?k39 ?a40 ?l40 ?c40 ?k40 ?a41 ?l41 ?c41 ?k41 ?a42 ?l42 ?c42 ?k42 ?a43 ?l43 ?c43 ?k43 ?a44 ?l44 ?c44 ?k44 ?a45 ?l45 ?c45 ?k45 ?a46 ?l46 ?c46 ?k46 ?a47 ?l47 ?c47 ?k47 ?a48 ?l48 ?c48 ?k48 ?a49 ?l49 ?c49 ?k49 ?a50 ?l50 ?c50 ?k50 ?a51 ?l51 ?c51 ?k51 ?z_all ?z_any ?z_bool ?z_enumerate ?z_int ?z_isinstance ?z_len ?z_list ?z_range ?z_reversed ?z_str ?z_tuple ?z_zip ?y_LETTERS ?y_MOST_THING ?y_MOST_THINGS ?y_MOST_WORD ?y_OPENERS ?x_OPENERS ?y_ORDER ?x_ORDER
    (case a0 => k_is)
    (case l0 => k_is)
    (case c0 => k_is)
    (case k0 => k_is)
    (case a1 => k_is)
    (case l1 => k_is)
    (case c1 => k_is)
    (case k1 => k_is)
    (case a2 => k_is)
    (case l2 => k_is)
    (case c2 => k_is)
    (case k2 => k_is)
    (case a3 => k_is)
    (case l3 => k_is)
    (case c3 => k_is)
    (case k3 => k_is)
    (case a4 => k_is)
    (case l4 => k_is)
    (case c4 => k_is)
    (case k4 => k_is)
    (case a5 => k_is)
    (case l5 => k_is)
    (case c5 => k_is)
    (case k5 => k_is)
    (case a6 => k_is)
    (case l6 => k_is)
    (case c6 => k_is)
    (case k6 => k_is)
    (case a7 => k_is)
    (case l7 => k_is)
    (case c7 => k_is)
    (case k7 => k_is)
    (case a8 => k_is)
    (case l8 => k_is)
    (case c8 => k_is)
    (case k8 => k_is)
    (case a9 => k_is)
    (case l9 => k_is)
    (case c9 => k_is)
    (case k9 => k_is)
    (case a10 => k_is)
    (case l10 => k_is)
    (case c10 => k_is)
    (case k10 => k_is)
    (case a11 => k_is)
    (case l11 => k_is)
    (case c11 => k_is)
    (case k11 => k_is)
    (case a12 => k_is)
    (case l12 => k_is)
    (case c12 => k_is)
    (case k12 => k_is)
    (case a13 => k_is)
    (case l13 => k_is)
    (case c13 => k_is)
    (case k13 => k_is)
    (case a14 => k_is)
    (case l14 => k_is)
    (case c14 => k_is)
    (case k14 => k_is)
    (case a15 => k_is)
    (case l15 => k_is)
    (case c15 => k_is)
    (case k15 => k_is)
    (case a16 => k_is)
    (case l16 => k_is)
    (case c16 => k_is)
    (case k16 => k_is)
    (case a17 => k_is)
    (case l17 => k_is)
    (case c17 => k_is)
    (case k17 => k_is)
    (case a18 => k_is)
    (case l18 => k_is)
    (case c18 => k_is)
    (case k18 => k_is)
    (case a19 => k_is)
    (case l19 => k_is)
    (case c19 => k_is)
    (case k19 => k_is)
    (case a20 => k_is)
    (case l20 => k_is)
    (case c20 => k_is)
    (case k20 => k_is)
    (case a21 => k_is)
    (case l21 => k_is)
    (case c21 => k_is)
    (case k21 => k_is)
    (case a22 => k_is)
    (case l22 => k_is)
    (case c22 => k_is)
    (case k22 => k_is)
    (case a23 => k_is)
    (case l23 => k_is)
    (case c23 => k_is)
    (case k23 => k_is)
    (case a24 => k_is)
    (case l24 => k_is)
    (case c24 => k_is)
    (case k24 => k_is)
    (case a25 => k_is)
    (case l25 => k_is)
    (case c25 => k_is)
    (case k25 => k_is)
    (case a26 => k_is)
    (case l26 => k_is)
    (case c26 => k_is)
    (case k26 => k_is)
    (case a27 => k_is)
    (case l27 => k_is)
    (case c27 => k_is)
    (case k27 => k_is)
    (case a28 => k_is)
    (case l28 => k_is)
    (case c28 => k_is)
    (case k28 => k_is)
    (case a29 => k_is)
    (case l29 => k_is)
    (case c29 => k_is)
    (case k29 => k_is)
    (case a30 => k_is)
    (case l30 => k_is)
    (case c30 => k_is)
    (case k30 => k_is)
    (case a31 => k_is)
    (case l31 => k_is)
    (case c31 => k_is)
    (case k31 => k_is)
    (case a32 => k_is)
    (case l32 => k_is)
    (case c32 => k_is)
    (case k32 => k_is)
    (case a33 => k_is)
    (case l33 => k_is)
    (case c33 => k_is)
    (case k33 => k_is)
    (case a34 => k_is)
    (case l34 => k_is)
    (case c34 => k_is)
    (case k34 => k_is)
    (case a35 => k_is)
    (case l35 => k_is)
    (case c35 => k_is)
    (case k35 => k_is)
    (case a36 => k_is)
    (case l36 => k_is)
    (case c36 => k_is)
    (case k36 => k_is)
    (case a37 => k_is)
    (case l37 => k_is)
    (case c37 => k_is)
    (case k37 => k_is)
    (case a38 => k_is)
    (case l38 => k_is)
    (case c38 => k_is)
    (case k38 => k_is)
    (case a39 => k_is)
    (case l39 => k_is)
    (case c39 => k_is)
    (case k39 => k_is)
    (case a40 => k_is)
    (case l40 => k_is)
    (case c40 => k_is)
    (case k40 => k_is)
    (case a41 => k_is)
    (case l41 => k_is)
    (case c41 => k_is)
    (case k41 => k_is)
    (case a42 => k_is)
    (case l42 => k_is)
    (case c42 => k_is)
    (case k42 => k_is)
    (case a43 => k_is)
    (case l43 => k_is)
    (case c43 => k_is)
    (case k43 => k_is)
    (case a44 => k_is)
    (case l44 => k_is)
    (case c44 => k_is)
    (case k44 => k_is)
    (case a45 => k_is)
    (case l45 => k_is)
    (case c45 => k_is)
    (case k45 => k_is)
    (case a46 => k_is)
    (case l46 => k_is)
    (case c46 => k_is)
    (case k46 => k_is)
    (case a47 => k_is)
    (case l47 => k_is)
    (case c47 => k_is)
    (case k47 => k_is)
    (case a48 => k_is)
    (case l48 => k_is)
    (case c48 => k_is)
    (case k48 => k_is)
    (case a49 => k_is)
    (case l49 => k_is)
    (case c49 => k_is)
    (case k49 => k_is)
    (case a50 => k_is)
    (case l50 => k_is)
    (case c50 => k_is)
    (case k50 => k_is)
    (case a51 => k_is)
    (case l51 => k_is)
    (case c51 => k_is)
    (case k51 => k_is)
    (case z_all => k_is)
    (case z_any => k_is)
    (case z_bool => k_is)
    (case z_enumerate => k_is)
    (case z_int => k_is)
    (case z_isinstance => k_is)
    (case z_len => k_is)
    (case z_list => k_is)
    (case z_range => k_is)
    (case z_reversed => k_is)
    (case z_str => k_is)
    (case z_tuple => k_is)
    (case z_zip => k_is)
    (case y_LETTERS => k_is)
    (case y_MOST_THING => k_is)
    (case y_MOST_THINGS => k_is)
    (case y_MOST_WORD => k_is)
    (case y_OPENERS => k_is)
    (case x_OPENERS => k_is)
    (case y_ORDER => k_is)
    (case x_ORDER => k_is)
