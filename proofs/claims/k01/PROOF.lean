import PyProof.Rows.All
import Wide.All
import OpenK.AllK
import Wide.FinOn
import HandS.ForMost
import HandS.IsInst
import HandS.TupAny
import HandS.Strs
import HandS.Rev
import HandS.Evl
import PySem.Challenge.RW_borrowdesk_k01_who_is_awake
set_option Elab.async false
set_option linter.all false
set_option maxRecDepth 100000
set_option maxHeartbeats 4000000
/-! Bd: data in two heaps. H is all that is tracked, G what no more changes (G within H). -/
namespace Bd
open PySem PySem.Spec PyProof.Rows L2 Evl

abbrev D := PyData
end Bd
namespace Evl
open PySem PySem.Spec PyProof.Rows L2
theorem Ex.both {G H : Hp} {p : Addr} {o : HO} (e : Ex G H) : Ex (upd G p o) (upd H p o) := fun a u ha => by
  by_cases h : a = p
  · subst h
    rw [upd_same] at ha ⊢
    exact ha
  · rw [upd_ne h] at ha ⊢
    exact e a u ha
theorem Ex.none {G H : Hp} {p : Addr} (e : Ex G H) (h : H p = none) : G p = none := fresh_back e h
end Evl
namespace Bd
open PySem PySem.Spec PyProof.Rows L2 Evl
/-- from one moment to a later one: nothing that stood is changed, what may change stays so -/
structure Grow (H G H' G' : Hp) : Prop where
  gh : Ex G' H'
  g : Ex G G'
  h : Ex H H'
  nw : ∀ a o, H a = some o → G a = none → G' a = none
theorem Grow.refl {H G : Hp} (e : Ex G H) : Grow H G H G := ⟨e, Ex.refl G, Ex.refl H, fun _ _ _ h => h⟩
theorem Grow.trans {H G H1 G1 H2 G2 : Hp} (a : Grow H G H1 G1) (b : Grow H1 G1 H2 G2) : Grow H G H2 G2 :=
  ⟨b.gh, a.g.trans b.g, a.h.trans b.h, fun x o h n => b.nw x o (a.h x o h) (a.nw x o h n)⟩
/-- a new object that never changes | one that may -/
theorem Grow.newF {H G : Hp} (e : Ex G H) {p : Addr} {o : HO} (h : H p = none) : Grow H G (upd H p o) (upd G p o) :=
  ⟨e.both, Ex.new (e.none h), Ex.new h, fun a u ha n => by rw [upd_ne (ne_of_none ha h)]; exact n⟩
theorem Grow.newO {H G : Hp} (e : Ex G H) {p : Addr} {o : HO} (h : H p = none) : Grow H G (upd H p o) G :=
  ⟨e.mut (e.none h), Ex.refl G, Ex.new h, fun _ _ _ n => n⟩

/-! ### data -/
section
variable {K : PySem.W.Frag} {G G' : Hp}
mutual
theorem dp_mono (e : Ex G G') : ∀ (d : D) (v : V), Dp K G v d → Dp K G' v d
  | .none, _, h => by cases h; exact .non
  | .bool b, _, h => by cases h; exact .bl b
  | .int i, _, h => by cases h; exact .int i
  | .str x, _, h => by cases h; exact .str x
  | .list ds, _, h => by
    cases h with
    | lst hs ha => exact .lst (ex_l e hs) (dpAll_mono e ds _ ha)
  | .tuple ds, _, h => by
    cases h with
    | tup hs ha => exact .tup (ex_t e hs) (dpAll_mono e ds _ ha)
  | .dict _, _, h => by cases h
theorem dpAll_mono (e : Ex G G') : ∀ (ds : List D) (vs : List V), DpAll K G vs ds → DpAll K G' vs ds
  | [], _, h => by cases h; exact .nil
  | d :: ds, _, h => by
    cases h with
    | cons h1 h2 => exact .cons (dp_mono e d _ h1) (dpAll_mono e ds _ h2)
end
end
end Bd
namespace L2
open PySem PySem.Spec PyProof.Rows Bd Evl
section
variable {K : PySem.W.Frag} {G G' : Hp}
theorem Dp.to {v : V} {d : D} (h : Dp K G v d) (e : Ex G G') : Dp K G' v d := dp_mono e d v h
theorem DpAll.to {vs : List V} {ds : List D} (h : DpAll K G vs ds) (e : Ex G G') : DpAll K G' vs ds := dpAll_mono e ds vs h
theorem DpAll.length : ∀ {vs : List V} {ds : List D}, DpAll K G vs ds → vs.length = ds.length
  | _, _, .nil => rfl
  | _, _, .cons _ t => by rw [List.length_cons, List.length_cons, DpAll.length t]
theorem DpAll.get : ∀ {vs : List V} {ds : List D} {i : Nat} {d : D}, DpAll K G vs ds → ds[i]? = some d → ∃ v, vs[i]? = some v ∧ Dp K G v d
  | _, _, _, _, .nil, e => by simp at e
  | _, _, 0, _, .cons r _, e => by simp at e; subst e; exact ⟨_, rfl, r⟩
  | _, _, i + 1, d, .cons _ t, e => by
    obtain ⟨u, h1, h2⟩ := DpAll.get (i := i) (d := d) t (by simpa using e)
    exact ⟨u, by simpa using h1, h2⟩
theorem DpAll.getV : ∀ {vs : List V} {ds : List D} {i : Nat} {v : V}, DpAll K G vs ds → vs[i]? = some v → ∃ d, ds[i]? = some d ∧ Dp K G v d
  | _, _, _, _, .nil, e => by simp at e
  | _, _, 0, _, .cons r _, e => by simp at e; subst e; exact ⟨_, rfl, r⟩
  | _, _, i + 1, d, .cons _ t, e => by
    obtain ⟨u, h1, h2⟩ := DpAll.getV (i := i) (v := d) t (by simpa using e)
    exact ⟨u, by simpa using h1, h2⟩
theorem DpAll.append : ∀ {vs ws : List V} {ds es : List D}, DpAll K G vs ds → DpAll K G ws es → DpAll K G (vs ++ ws) (ds ++ es)
  | _, _, _, _, .nil, s => s
  | _, _, _, _, .cons r t, s => .cons r (DpAll.append t s)
theorem DpAll.take : ∀ {vs : List V} {ds : List D} (n : Nat), DpAll K G vs ds → DpAll K G (vs.take n) (ds.take n)
  | _, _, 0, _ => .nil
  | _, _, _ + 1, .nil => .nil
  | _, _, n + 1, .cons r t => .cons r (DpAll.take n t)
theorem DpAll.drop : ∀ {vs : List V} {ds : List D} (n : Nat), DpAll K G vs ds → DpAll K G (vs.drop n) (ds.drop n)
  | _, _, 0, r => r
  | _, _, _ + 1, .nil => .nil
  | _, _, n + 1, .cons _ t => DpAll.drop n t
theorem DpAll.set {v : V} {d : D} (r : Dp K G v d) : ∀ {vs : List V} {ds : List D} (i : Nat), DpAll K G vs ds → DpAll K G (vs.set i v) (ds.set i d)
  | _, _, _, .nil => .nil
  | _, _, 0, .cons _ t => .cons r t
  | _, _, i + 1, .cons q t => .cons q (DpAll.set r i t)
theorem DpAll.dropLast {vs : List V} {ds : List D} (h : DpAll K G vs ds) : DpAll K G vs.dropLast ds.dropLast := by
  rw [List.dropLast_eq_take, List.dropLast_eq_take, h.length]
  exact h.take _
theorem DpAll.reverse : ∀ {vs : List V} {ds : List D}, DpAll K G vs ds → DpAll K G vs.reverse ds.reverse
  | _, _, .nil => .nil
  | _, _, .cons r t => by
    rw [List.reverse_cons, List.reverse_cons]
    exact (DpAll.reverse t).append (.cons r .nil)
theorem DpAll.ints : ∀ {vs : List V} {ns : List Int}, DpAll K G vs (ns.map PyData.int) → vs = ns.map V.int
  | _, [], h => by cases h; rfl
  | _, n :: r, h => by
    cases h with
    | cons a b => cases a; rw [DpAll.ints b]; rfl
theorem DpAll.bls : ∀ {vs : List V} {ns : List Bool}, DpAll K G vs (ns.map PyData.bool) → vs = ns.map V.bl
  | _, [], h => by cases h; rfl
  | _, n :: r, h => by
    cases h with
    | cons a b => cases a; rw [DpAll.bls b]; rfl
theorem DpAll.ofInts : ∀ (ns : List Int), DpAll K G (ns.map V.int) (ns.map PyData.int)
  | [] => .nil
  | n :: r => .cons (.int n) (DpAll.ofInts r)
end
end L2
namespace Bd
open PySem PySem.Spec PyProof.Rows L2 Evl
/-- a value that reads as d; a list may be one that changes later -/
def Vw (K : PySem.W.Frag) (H G : Hp) (v : V) (d : D) : Prop := Dp K G v d ∨ ∃ p vs ds, v = .ref p ∧ d = .list ds ∧ SqL K H p vs ∧ DpAll K G vs ds
section
variable {K : PySem.W.Frag} {H G H' G' : Hp} {v : V} {d : D}
theorem Vw.to (h : Vw K H G v d) (e : Ex H H') (g : Ex G G') : Vw K H' G' v d := by
  rcases h with h | ⟨p, vs, ds, e1, e2, h1, h2⟩
  · exact .inl (h.to g)
  · exact .inr ⟨p, vs, ds, e1, e2, ex_l e h1, h2.to g⟩
theorem Vw.dp (h : Vw K H G v d) (e : Ex G H) : Dp K H v d := by
  rcases h with h | ⟨p, vs, ds, rfl, rfl, h1, h2⟩
  · exact h.to e
  · exact .lst h1 (h2.to e)
theorem Vw.list {ds : List D} (h : Vw K H G v (.list ds)) (e : Ex G H) : ∃ p vs, v = .ref p ∧ SqL K H p vs ∧ DpAll K G vs ds := by
  rcases h with h | ⟨p, vs, ds', rfl, e2, h1, h2⟩
  · cases h with
    | lst hs ha => exact ⟨_, _, rfl, ex_l e hs, ha⟩
  · cases e2
    exact ⟨p, vs, rfl, h1, h2⟩
theorem Vw.tuple {ds : List D} (h : Vw K H G v (.tuple ds)) : ∃ p vs, v = .ref p ∧ SqT K G p vs ∧ DpAll K G vs ds := by
  rcases h with h | ⟨p, vs, ds', rfl, e2, h1, h2⟩
  · cases h with
    | tup hs ha => exact ⟨_, _, rfl, hs, ha⟩
  · cases e2
theorem Vw.int {i : Int} (h : Vw K H G v (.int i)) : v = .int i := by
  rcases h with h | ⟨p, vs, ds', rfl, e2, h1, h2⟩
  · cases h; rfl
  · cases e2
theorem Vw.str {x : Str} (h : Vw K H G v (.str x)) : v = .str x := by
  rcases h with h | ⟨p, vs, ds', rfl, e2, h1, h2⟩
  · cases h; rfl
  · cases e2
theorem Vw.bool {b : Bool} (h : Vw K H G v (.bool b)) : v = .bl b := by
  rcases h with h | ⟨p, vs, ds', rfl, e2, h1, h2⟩
  · cases h; rfl
  · cases e2
theorem Vw.none (h : Vw K H G v .none) : v = .non := by
  rcases h with h | ⟨p, vs, ds', rfl, e2, h1, h2⟩
  · cases h; rfl
  · cases e2
end

/-! ### slots -/
inductive Sl where
  | no | fr (d : D) | vw (d : D) | ow (ds : List D)
abbrev En := List Sl
def nth : En → Nat → Sl
  | [], _ => .no
  | s :: _, 0 => s
  | _ :: r, n + 1 => nth r n
def put : En → Nat → Sl → En
  | [], _, _ => []
  | _ :: r, 0, t => t :: r
  | s :: r, n + 1, t => s :: put r n t
def isOw : Sl → Bool
  | .ow _ => true
  | _ => false
theorem put_length : ∀ (δ : En) (i : Nat) (t : Sl), (put δ i t).length = δ.length
  | [], _, _ => rfl
  | _ :: _, 0, _ => rfl
  | _ :: r, n + 1, t => by
    show (put r n t).length + 1 = r.length + 1
    rw [put_length r n t]
theorem nth_put_same : ∀ (δ : En) (i : Nat) (t : Sl), i < δ.length → nth (put δ i t) i = t
  | [], _, _, h => by simp at h
  | _ :: _, 0, _, _ => rfl
  | _ :: r, n + 1, t, h => nth_put_same r n t (Nat.lt_of_succ_lt_succ h)
theorem nth_put_ne : ∀ (δ : En) (i j : Nat) (t : Sl), j ≠ i → nth (put δ i t) j = nth δ j
  | [], _, _, _, _ => rfl
  | _ :: _, 0, 0, _, h => absurd rfl h
  | _ :: _, 0, _ + 1, _, _ => rfl
  | _ :: _, _ + 1, 0, _, _ => rfl
  | _ :: r, n + 1, m + 1, t, h => nth_put_ne r n m t fun e => h (by rw [e])
theorem nth_out : ∀ (δ : En) (i : Nat), δ.length ≤ i → nth δ i = .no
  | [], _, _ => rfl
  | _ :: _, 0, h => by simp at h
  | _ :: r, n + 1, h => nth_out r n (Nat.le_of_succ_le_succ h)
def SlOk (K : PySem.W.Frag) (H0 G0 H G : Hp) (v : Option (Option V)) : Sl → Prop
  | .no => True
  | .fr d => ∃ x, v = some (some x) ∧ Dp K G x d
  | .vw d => ∃ x, v = some (some x) ∧ Vw K H0 G0 x d
  | .ow ds => ∃ p vs, v = some (some (.ref p)) ∧ H0 p = none ∧ G p = none ∧ H p = some (.lst vs) ∧ DpAll K G vs ds
structure S8 (K : PySem.W.Frag) (H0 G0 : Hp) (δ : En) (σ : L2.St) (H G : Hp) : Prop where
  gr : Grow H0 G0 H G
  len : σ.length = δ.length
  ok : ∀ i, SlOk K H0 G0 H G σ[i]? (nth δ i)
  ap : ∀ i j p, i ≠ j → isOw (nth δ i) = true → isOw (nth δ j) = true → σ[i]? = some (some (V.ref p)) → σ[j]? = some (some (V.ref p)) → False
section
variable {K : PySem.W.Frag} {H0 G0 H G H' G' : Hp} {δ : En} {σ : L2.St}
theorem SlOk.grow {v : Option (Option V)} {s : Sl} (h : SlOk K H0 G0 H G v s) (g : Grow H G H' G') : SlOk K H0 G0 H' G' v s := by
  cases s with
  | no => trivial
  | fr d => obtain ⟨x, e, q⟩ := h; exact ⟨x, e, q.to g.g⟩
  | vw d => exact h
  | ow ds => obtain ⟨p, vs, e, h1, h2, h3, h4⟩ := h; exact ⟨p, vs, e, h1, g.nw p _ h3 h2, g.h _ _ h3, h4.to g.g⟩
theorem S8.grow (s : S8 K H0 G0 δ σ H G) (g : Grow H G H' G') : S8 K H0 G0 δ σ H' G' := ⟨s.gr.trans g, s.len, fun i => (s.ok i).grow g, s.ap⟩
theorem S8.gh (s : S8 K H0 G0 δ σ H G) : Ex G H := s.gr.gh
theorem S8.set {i : Nat} {t : Sl} {v : V} (s : S8 K H0 G0 δ σ H G) (hi : i < δ.length) (ht : SlOk K H0 G0 H G (some (some v)) t)
    (ha : isOw t = true → ∀ j p, j ≠ i → isOw (nth δ j) = true → v = .ref p → σ[j]? = some (some (V.ref p)) → False) : S8 K H0 G0 (put δ i t) (σ.set i (some v)) H G := by
  refine ⟨s.gr, by rw [List.length_set, put_length]; exact s.len, fun j => ?_, fun a b p hab h1 h2 h3 h4 => ?_⟩
  · by_cases hj : j = i
    · subst hj
      rw [nth_put_same _ _ _ hi, List.getElem?_set_self (by rw [s.len]; exact hi)]
      exact ht
    · rw [nth_put_ne _ _ _ _ hj, List.getElem?_set_ne (Ne.symm hj)]
      exact s.ok j
  · by_cases hai : a = i
    · subst hai
      have hb : b ≠ a := fun e => hab e.symm
      rw [nth_put_same _ _ _ hi] at h1
      rw [nth_put_ne _ _ _ _ hb] at h2
      rw [List.getElem?_set_self (by rw [s.len]; exact hi)] at h3
      rw [List.getElem?_set_ne (Ne.symm hb)] at h4
      exact ha h1 b p hb h2 (Option.some.inj (Option.some.inj h3)) h4
    · rw [nth_put_ne _ _ _ _ hai] at h1
      rw [List.getElem?_set_ne (Ne.symm hai)] at h3
      by_cases hbi : b = i
      · subst hbi
        rw [nth_put_same _ _ _ hi] at h2
        rw [List.getElem?_set_self (by rw [s.len]; exact hi)] at h4
        exact ha h2 a p hai h1 (Option.some.inj (Option.some.inj h4)) h3
      · rw [nth_put_ne _ _ _ _ hbi] at h2
        rw [List.getElem?_set_ne (Ne.symm hbi)] at h4
        exact s.ap a b p hab h1 h2 h3 h4
theorem S8.setF {i : Nat} {d : D} {v : V} (s : S8 K H0 G0 δ σ H G) (hi : i < δ.length) (h : Dp K G v d) : S8 K H0 G0 (put δ i (.fr d)) (σ.set i (some v)) H G :=
  s.set hi ⟨v, rfl, h⟩ fun z => nomatch z
/-- a list that was new at an earlier moment of this def -/
theorem S8.setO {i : Nat} {ds : List D} {p : Addr} {vs : List V} {H1 G1 : Hp} (s : S8 K H0 G0 δ σ H G) (g : Grow H G H1 G1) (hi : i < δ.length) (hp : H p = none) (hg : G1 p = none) (h : H1 p = some (.lst vs)) (ha : DpAll K G1 vs ds) : S8 K H0 G0 (put δ i (.ow ds)) (σ.set i (some (.ref p))) H1 G1 := by
  refine (s.grow g).set hi ⟨p, vs, rfl, s.gr.h.none hp, hg, h, ha⟩ fun _ j q _ hj e1 e2 => ?_
  have e : p = q := by injection e1
  subst e
  have o := s.ok j
  revert o hj
  cases nth δ j with
  | ow ds' =>
    intro _ o
    obtain ⟨p', vs', e', _, _, h3, _⟩ := o
    rw [e2] at e'
    have e3 : p = p' := by injection (Option.some.inj (Option.some.inj e'))
    rw [← e3, hp] at h3
    cases h3
  | _ => intro z; cases z
/-- a slot forgotten -/
theorem S8.forget {i : Nat} (s : S8 K H0 G0 δ σ H G) : S8 K H0 G0 (put δ i .no) σ H G := by
  have key : ∀ j, nth (put δ i .no) j = nth δ j ∨ nth (put δ i .no) j = .no := fun j => by
    by_cases hj : j = i
    · by_cases hl : i < δ.length
      · subst hj; exact .inr (nth_put_same _ _ _ hl)
      · exact .inr (nth_out _ _ (by rw [put_length]; omega))
    · exact .inl (nth_put_ne _ _ _ _ hj)
  refine ⟨s.gr, by rw [put_length]; exact s.len, fun j => ?_, fun a b p hab h1 h2 h3 h4 => ?_⟩
  · rcases key j with e | e
    · rw [e]; exact s.ok j
    · rw [e]; trivial
  · rcases key a with e | e
    · rcases key b with e' | e'
      · rw [e] at h1; rw [e'] at h2; exact s.ap a b p hab h1 h2 h3 h4
      · rw [e'] at h2; cases h2
    · rw [e] at h1; cases h1
/-- the frame's slot is emptied too -/
theorem S8.wipe1 {i : Nat} (s : S8 K H0 G0 δ σ H G) : S8 K H0 G0 (put δ i .no) (σ.set i none) H G := by
  have f := s.forget (i := i)
  refine ⟨f.gr, by rw [List.length_set]; exact f.len, fun j => ?_, fun a b p hab h1 h2 h3 h4 => ?_⟩
  · by_cases hj : j = i
    · subst hj
      by_cases hl : j < δ.length
      · rw [nth_put_same _ _ _ hl]; trivial
      · rw [nth_out _ _ (by rw [put_length]; omega)]; trivial
    · rw [List.getElem?_set_ne (Ne.symm hj)]
      exact f.ok j
  · have ne : ∀ c, (σ.set i none)[c]? = some (some (V.ref p)) → σ[c]? = some (some (V.ref p)) := fun c h => by
      by_cases hc : i = c
      · subst hc
        by_cases hl : i < σ.length
        · rw [List.getElem?_set_self hl] at h; cases h
        · rw [List.getElem?_eq_none (by rw [List.length_set]; omega)] at h; cases h
      · rw [List.getElem?_set_ne hc] at h; exact h
    exact f.ap a b p hab h1 h2 (ne a h3) (ne b h4)
def fg : List Bool → En → En
  | [], δ => δ
  | _, [] => []
  | true :: r, s :: δ => s :: fg r δ
  | false :: r, _ :: δ => .no :: fg r δ
theorem fg_length : ∀ (m : List Bool) (δ : En), (fg m δ).length = δ.length
  | [], _ => rfl
  | true :: _, [] => rfl
  | false :: _, [] => rfl
  | true :: r, s :: δ => by
    show (fg r δ).length + 1 = δ.length + 1
    rw [fg_length r δ]
  | false :: r, s :: δ => by
    show (fg r δ).length + 1 = δ.length + 1
    rw [fg_length r δ]
theorem nth_fg : ∀ (m : List Bool) (δ : En) (i : Nat), nth (fg m δ) i = nth δ i ∨ nth (fg m δ) i = .no
  | [], _, _ => .inl rfl
  | true :: _, [], _ => .inl rfl
  | false :: _, [], _ => .inl rfl
  | true :: _, _ :: _, 0 => .inl rfl
  | false :: _, _ :: _, 0 => .inr rfl
  | true :: r, _ :: δ, n + 1 => nth_fg r δ n
  | false :: r, _ :: δ, n + 1 => nth_fg r δ n
theorem S8.fg (s : S8 K H0 G0 δ σ H G) (m : List Bool) : S8 K H0 G0 (fg m δ) σ H G := by
  refine ⟨s.gr, by rw [fg_length]; exact s.len, fun j => ?_, fun a b p hab h1 h2 h3 h4 => ?_⟩
  · rcases nth_fg m δ j with e | e
    · rw [e]; exact s.ok j
    · rw [e]; trivial
  · rcases nth_fg m δ a with e | e
    · rcases nth_fg m δ b with e' | e'
      · rw [e] at h1; rw [e'] at h2; exact s.ap a b p hab h1 h2 h3 h4
      · rw [e'] at h2; cases h2
    · rw [e] at h1; cases h1
/-- a list that may change is changed -/
theorem S8.updO {i : Nat} {ds es : List D} {p : Addr} {ws : List V} (s : S8 K H0 G0 δ σ H G) (hd : nth δ i = .ow ds) (hp : σ[i]? = some (some (.ref p))) (hw : DpAll K G ws es) : S8 K H0 G0 (put δ i (.ow es)) σ (upd H p (.lst ws)) G := by
  have o := s.ok i
  rw [hd] at o
  obtain ⟨p', vs, e', h1, h2, h3, h4⟩ := o
  rw [hp] at e'
  have e : p = p' := by injection (Option.some.inj (Option.some.inj e'))
  subst e
  have hi : i < δ.length := by
    by_cases hl : i < δ.length
    · exact hl
    · rw [nth_out _ _ (by omega)] at hd; cases hd
  refine ⟨⟨s.gr.gh.mut h2, s.gr.g, s.gr.h.mut h1, s.gr.nw⟩, by rw [put_length]; exact s.len, fun j => ?_, fun a b q hab k1 k2 k3 k4 => ?_⟩
  · by_cases hj : j = i
    · subst hj
      rw [nth_put_same _ _ _ hi]
      exact ⟨p, ws, hp, h1, h2, upd_same, hw⟩
    · rw [nth_put_ne _ _ _ _ hj]
      have oj := s.ok j
      cases ej : nth δ j with
      | no => trivial
      | fr d => rw [ej] at oj; exact oj
      | vw d => rw [ej] at oj; exact oj
      | ow dj =>
        rw [ej] at oj
        obtain ⟨q, vq, eq, q1, q2, q3, q4⟩ := oj
        have hne : q ≠ p := fun z => by
          subst z
          exact s.ap j i q hj (by rw [ej]; rfl) (by rw [hd]; rfl) eq hp
        exact ⟨q, vq, eq, q1, q2, by rw [upd_ne hne]; exact q3, q4⟩
  · have k : ∀ c, isOw (nth (put δ i (.ow es)) c) = true → isOw (nth δ c) = true := fun c h => by
      by_cases hc : c = i
      · subst hc; rw [hd]; rfl
      · rw [nth_put_ne _ _ _ _ hc] at h; exact h
    exact s.ap a b q hab (k a k1) (k b k2) k3 k4
/-- from now on it never changes -/
theorem S8.freeze {i : Nat} {ds : List D} (s : S8 K H0 G0 δ σ H G) (hd : nth δ i = .ow ds) : ∃ G', Ex G G' ∧ S8 K H0 G0 (put δ i (.fr (.list ds))) σ H G' := by
  have o := s.ok i
  rw [hd] at o
  obtain ⟨p, vs, hp, h1, h2, h3, h4⟩ := o
  have hi : i < δ.length := by
    by_cases hl : i < δ.length
    · exact hl
    · rw [nth_out _ _ (by omega)] at hd; cases hd
  have eg : Ex G (upd G p (.lst vs)) := Ex.new h2
  refine ⟨upd G p (.lst vs), eg, ⟨⟨fun a u e => ?_, s.gr.g.trans eg, s.gr.h, fun a u e n => ?_⟩, by rw [put_length]; exact s.len, fun j => ?_, fun a b q hab k1 k2 k3 k4 => ?_⟩⟩
  · by_cases ha : a = p
    · subst ha; rw [upd_same] at e; rw [h3]; exact e
    · rw [upd_ne ha] at e; exact s.gr.gh a u e
  · rw [upd_ne (ne_of_none e h1)]
    exact s.gr.nw a u e n
  · by_cases hj : j = i
    · subst hj
      rw [nth_put_same _ _ _ hi]
      exact ⟨_, hp, .lst (.inl (.inl upd_same)) (h4.to eg)⟩
    · rw [nth_put_ne _ _ _ _ hj]
      have oj := s.ok j
      cases ej : nth δ j with
      | no => trivial
      | fr d => rw [ej] at oj; obtain ⟨x, e, q⟩ := oj; exact ⟨x, e, q.to eg⟩
      | vw d => rw [ej] at oj; exact oj
      | ow dj =>
        rw [ej] at oj
        obtain ⟨q, vq, eq, q1, q2, q3, q4⟩ := oj
        have hne : q ≠ p := fun z => by
          subst z
          exact s.ap j i q hj (by rw [ej]; rfl) (by rw [hd]; rfl) eq hp
        exact ⟨q, vq, eq, q1, by rw [upd_ne hne]; exact q2, q3, q4.to eg⟩
  · have k : ∀ c, isOw (nth (put δ i (.fr (.list ds))) c) = true → isOw (nth δ c) = true := fun c h => by
      by_cases hc : c = i
      · subst hc; rw [hd]; rfl
      · rw [nth_put_ne _ _ _ _ hc] at h; exact h
    exact s.ap a b q hab (k a k1) (k b k2) k3 k4
end
end Bd
/-! Bd2: expressions. -/
namespace Bd
open PySem PySem.Spec PyProof.Rows L2 Evl
abbrev Rel (α : Type) := Hp → Hp → Hp → V → α → Prop
def tR {α : Type} (R : Rel α) (K : PySem.W.Frag) (H0 G0 : Hp) (δ : En) (m : Option α) : TE := fun σ H Q => ∃ G, S8 K H0 G0 δ σ H G ∧ ∃ d, m = some d ∧ ∀ v H' G', Grow H G H' G' → R H H' G' v d → Q v H'
abbrev rF (K : PySem.W.Frag) : Rel D := fun _ _ G' v d => Dp K G' v d
abbrev rV (K : PySem.W.Frag) : Rel D := fun _ H' G' v d => Vw K H' G' v d
abbrev rO (K : PySem.W.Frag) : Rel (List D) := fun H H' G' v ds => ∃ p vs, v = .ref p ∧ H p = none ∧ G' p = none ∧ H' p = some (.lst vs) ∧ DpAll K G' vs ds
def tT (K : PySem.W.Frag) (H0 G0 : Hp) (δ : En) (m : Option Bool) : TT := fun σ H Q => ∃ G, S8 K H0 G0 δ σ H G ∧ ∃ b, m = some b ∧ ∀ H' G', Grow H G H' G' → Q b H'
theorem PE_imp {X : Cx} {e : Expr} {t t' : TE} (h : PE X e t) (k : ∀ σ H Q, t' σ H Q → t σ H Q) : PE X e t' := ⟨fun pins s σ H Q I w => h.run pins s σ H Q I (k σ H Q w)⟩
theorem PT_imp {X : Cx} {e : Expr} {t t' : TT} (h : PT X e t) (k : ∀ σ H Q, t' σ H Q → t σ H Q) : PT X e t' := ⟨fun pins s σ H Q I w => h.run pins s σ H Q I (k σ H Q w)⟩
theorem PA_imp {X : Cx} {e : List Expr} {t t' : TA} (h : PA X e t) (k : ∀ σ H Q, t' σ H Q → t σ H Q) : PA X e t' := ⟨fun pos pins s σ H Q I w => h.run pos pins s σ H Q I (k σ H Q w)⟩
theorem PSs_imp {X : Cx} {e : List Stmt} {t t' : TS} (h : PSs X e t) (k : ∀ E σ H, t' E σ H → t E σ H) : PSs X e t' := ⟨fun pins s σ H Q I w => h.run pins s σ H Q I (k Q σ H w)⟩

/-! ### combinators of the mirrors -/
def b2 {α β γ : Type} (f : α → β → Option γ) (m : Option α) (n : Option β) : Option γ := m.bind fun a => n.bind fun b => f a b
def lD (m : Option (List D)) : Option D := m.map PyData.list
def bD (m : Option Bool) : Option D := m.map PyData.bool
def asB : D → Option Bool
  | .bool b => some b
  | _ => none
def listD : D → Option (List D)
  | .list ds => some ds
  | _ => none
theorem b2_ss {α β γ : Type} (f : α → β → Option γ) (a : α) (b : β) : b2 f (some a) (some b) = f a b := rfl
theorem lD_s (a : List D) : lD (some a) = some (.list a) := rfl
theorem bD_s (a : Bool) : bD (some a) = some (.bool a) := rfl

section
variable {X : Cx} {H0 G0 : Hp} {δ : En} {e a b : Expr} {pos : Pos}
theorem x_imp {α β : Type} {R : Rel α} {R' : Rel β} {m : Option α} {n : Option β} (h : PE X e (tR R X.K H0 G0 δ m)) (g : ∀ y, n = some y → ∃ x, m = some x ∧ ∀ H G v H' G', Ex G H → Grow H G H' G' → R H H' G' v x → ∃ G'', Grow H G H' G'' ∧ R' H H' G'' v y) : PE X e (tR R' X.K H0 G0 δ n) :=
  PE_imp h fun σ H Q ⟨G, s, y, ey, q⟩ => by
    obtain ⟨x, ex, k⟩ := g y ey
    refine ⟨G, s, x, ex, fun v H' G' w r => ?_⟩
    obtain ⟨G'', w', r'⟩ := k H G v H' G' s.gh w r
    exact q v H' G'' w' r'
theorem x_FV {m : Option D} (h : PE X e (tR (rF X.K) X.K H0 G0 δ m)) : PE X e (tR (rV X.K) X.K H0 G0 δ m) :=
  x_imp h fun y ey => ⟨y, ey, fun _ _ _ _ G' _ w r => ⟨G', w, .inl r⟩⟩
theorem x_OF {m : Option (List D)} (h : PE X e (tR (rO X.K) X.K H0 G0 δ m)) : PE X e (tR (rF X.K) X.K H0 G0 δ (lD m)) :=
  x_imp h fun y ey => by
    cases m with
    | none => cases ey
    | some ds =>
      cases ey
      refine ⟨ds, rfl, fun H G v H' G' e0 w ⟨p, vs, ev, h1, h2, h3, h4⟩ => ?_⟩
      subst ev
      refine ⟨upd G' p (.lst vs), ⟨fun a u ea => ?_, w.g.trans (Ex.new h2), w.h, fun a u ea n => ?_⟩, .lst (.inl (.inl upd_same)) (h4.to (Ex.new h2))⟩
      · by_cases hp : a = p
        · subst hp; rw [upd_same] at ea; rw [h3]; exact ea
        · rw [upd_ne hp] at ea; exact w.gh a u ea
      · rw [upd_ne (ne_of_none ea h1)]
        exact w.nw a u ea n
theorem x_OV {m : Option (List D)} (h : PE X e (tR (rO X.K) X.K H0 G0 δ m)) : PE X e (tR (rV X.K) X.K H0 G0 δ (lD m)) := x_FV (x_OF h)
/-! ### names, constants -/
theorem x_fr {i : Nat} {d : D} (hn : PE X e (tVar i)) (h : nth δ i = .fr d) : PE X e (tR (rF X.K) X.K H0 G0 δ (some d)) :=
  PE_imp hn fun σ H Q ⟨G, s, y, ey, q⟩ => by
    cases ey
    have o := s.ok i
    rw [h] at o
    obtain ⟨x, ex, dx⟩ := o
    exact ⟨x, ex, q x H G (.refl s.gh) dx⟩
theorem x_vw {i : Nat} {d : D} (hn : PE X e (tVar i)) (h : nth δ i = .vw d) : PE X e (tR (rV X.K) X.K H0 G0 δ (some d)) :=
  PE_imp hn fun σ H Q ⟨G, s, y, ey, q⟩ => by
    cases ey
    have o := s.ok i
    rw [h] at o
    obtain ⟨x, ex, dx⟩ := o
    exact ⟨x, ex, q x H G (.refl s.gh) (dx.to s.gr.h s.gr.g)⟩
theorem x_ow {i : Nat} {ds : List D} (hn : PE X e (tVar i)) (h : nth δ i = .ow ds) : PE X e (tR (rV X.K) X.K H0 G0 δ (some (.list ds))) :=
  PE_imp hn fun σ H Q ⟨G, s, y, ey, q⟩ => by
    cases ey
    have o := s.ok i
    rw [h] at o
    obtain ⟨p, vs, ep, h1, h2, h3, h4⟩ := o
    exact ⟨.ref p, ep, q _ H G (.refl s.gh) (.inr ⟨p, vs, ds, rfl, rfl, .inl (.inl h3), h4⟩)⟩
theorem x_c {v : V} {d : D} (hn : PE X e (tC v)) (h : ∀ G, Dp X.K G v d) : PE X e (tR (rF X.K) X.K H0 G0 δ (some d)) :=
  PE_imp hn fun σ H Q ⟨G, s, y, ey, q⟩ => by
    cases ey
    exact q v H G (.refl s.gh) (h G)
theorem x_int {i : Int} {j : Nat} : PE X (.Constant (.int i) j pos) (tR (rF X.K) X.K H0 G0 δ (some (.int i))) := x_c pe_int fun _ => .int i
theorem x_str {x : Str} {j : Nat} : PE X (.Constant (.str x) j pos) (tR (rF X.K) X.K H0 G0 δ (some (.str x))) := x_c pe_str fun _ => .str x
theorem x_bl {x : Bool} {j : Nat} : PE X (.Constant (.bool x) j pos) (tR (rF X.K) X.K H0 G0 δ (some (.bool x))) := x_c pe_bl fun _ => .bl x
theorem x_non {j : Nat} : PE X (.Constant .none j pos) (tR (rF X.K) X.K H0 G0 δ (some .none)) := x_c pe_non fun _ => .non
/-! ### operators -/
def Sm2 (K : PySem.W.Frag) (r : R2) (f : D → D → Option D) : Prop := ∀ x y a b c (H G : Hp) (Q : VK), Ex G H → Vw K H G x a → Vw K H G y b → f a b = some c → (∀ v H' G', Grow H G H' G' → Dp K G' v c → Q v H') → r x y H Q
theorem x_bin0 {r : R2} {f : D → D → Option D} (sm : Sm2 X.K r f) {m1 m2 : Option D} {σ : L2.St} {H : Hp} {Q : VK} (h : tR (rF X.K) X.K H0 G0 δ (b2 f m1 m2) σ H Q) :
    tOp r (tR (rV X.K) X.K H0 G0 δ m1) (tR (rV X.K) X.K H0 G0 δ m2) σ H Q := by
  obtain ⟨G, s, c, ec, q⟩ := h
  cases m1 with
  | none => cases ec
  | some a =>
    cases m2 with
    | none => cases ec
    | some b =>
      refine ⟨G, s, a, rfl, fun x H1 G1 w1 r1 => ?_⟩
      refine ⟨G1, s.grow w1, b, rfl, fun y H2 G2 w2 r2 => ?_⟩
      exact sm x y a b c H2 G2 Q w2.gh (r1.to w2.h w2.g) r2 ec fun v H' G' w3 r3 => q v H' G' ((w1.trans w2).trans w3) r3
theorem x_bin {op : Operator} {r : R2} {f : D → D → Option D} (ho : OpR X (binaryOp op) r) (sm : Sm2 X.K r f) {m1 m2 : Option D} (ha : PE X a (tR (rV X.K) X.K H0 G0 δ m1)) (hb : PE X b (tR (rV X.K) X.K H0 G0 δ m2)) :
    PE X (.BinOp a op b pos) (tR (rF X.K) X.K H0 G0 δ (b2 f m1 m2)) := PE_imp (pe_op ho ha hb) fun _ _ _ h => x_bin0 sm h
/-- comparisons -/
def Sm2B (K : PySem.W.Frag) (r : R2) (f : D → D → Option Bool) : Prop := ∀ x y a b c (H G : Hp) (Q : VK), Ex G H → Vw K H G x a → Vw K H G y b → f a b = some c → (∀ H' G', Grow H G H' G' → Q (.bl c) H') → r x y H Q
theorem x_cmp {op : CmpOp} {r : R2} {f : D → D → Option Bool} (ho : OpR X (compareOp op) r) (sm : Sm2B X.K r f) (hm : behindInMarks op b = false) {m1 m2 : Option D} (ha : PE X a (tR (rV X.K) X.K H0 G0 δ m1)) (hb : PE X b (tR (rV X.K) X.K H0 G0 δ m2)) :
    PE X (.Compare a [op] [b] pos) (tR (rF X.K) X.K H0 G0 δ (bD (b2 f m1 m2))) := PE_imp (pe_cmpR ho ha hb hm) fun σ H Q h => by
  obtain ⟨G, s, c, ec, q⟩ := h
  cases m1 with
  | none => cases ec
  | some a =>
    cases m2 with
    | none => cases ec
    | some b =>
      cases ef : f a b with
      | none => rw [b2_ss, ef] at ec; cases ec
      | some k =>
        rw [b2_ss, ef] at ec
        cases ec
        refine ⟨G, s, a, rfl, fun x H1 G1 w1 r1 => ?_⟩
        refine ⟨G1, s.grow w1, b, rfl, fun y H2 G2 w2 r2 => ?_⟩
        exact sm x y a b k H2 G2 Q w2.gh (r1.to w2.h w2.g) r2 ef fun H' G' w3 => q _ H' G' ((w1.trans w2).trans w3) (.bl k)
theorem x_cmpT {op : CmpOp} {r : R2} {f : D → D → Option Bool} (ho : OpR X (compareOp op) r) (sm : Sm2B X.K r f) (hm : behindInMarks op b = false) {m1 m2 : Option D} (ha : PE X a (tR (rV X.K) X.K H0 G0 δ m1)) (hb : PE X b (tR (rV X.K) X.K H0 G0 δ m2)) :
    PT X (.Compare a [op] [b] pos) (tT X.K H0 G0 δ (b2 f m1 m2)) := PT_imp (pt_cmpR ho ha hb hm) fun σ H Q h => by
  obtain ⟨G, s, c, ec, q⟩ := h
  cases m1 with
  | none => cases ec
  | some a =>
    cases m2 with
    | none => cases ec
    | some b =>
      refine ⟨G, s, a, rfl, fun x H1 G1 w1 r1 => ?_⟩
      refine ⟨G1, s.grow w1, b, rfl, fun y H2 G2 w2 r2 => ?_⟩
      exact sm x y a b c H2 G2 _ w2.gh (r1.to w2.h w2.g) r2 ec fun H' G' w3 => ⟨c, rfl, q H' G' ((w1.trans w2).trans w3)⟩
/-! ### tests -/
def andT (m n : Option Bool) : Option Bool := m.bind fun b => if b then n else some false
def orT (m n : Option Bool) : Option Bool := m.bind fun b => if b then some true else n
def notT (m : Option Bool) : Option Bool := m.map fun b => !b
theorem y_val {m : Option D} (h : PE X e (tR (rV X.K) X.K H0 G0 δ m)) (he : ∀ whole, isTrue e X.env whole = (do let v ← whole; standAt e.pos; holding [v] (truthy v)) := by intro _; rfl) : PT X e (tT X.K H0 G0 δ (m.bind asB)) :=
  PT_imp (pt_val h he) fun σ H Q ⟨G, s, c, ec, q⟩ => by
    cases m with
    | none => cases ec
    | some d =>
      cases d with
      | bool k =>
        cases ec
        exact ⟨G, s, .bool c, rfl, fun v H' G' w r => ⟨c, r.bool, q H' G' w⟩⟩
      | _ => cases ec
theorem y_and0 {m n : Option Bool} {σ : L2.St} {H : Hp} {Q : Bool → Hp → Prop} (h : tT X.K H0 G0 δ (andT m n) σ H Q) : tAnd (tT X.K H0 G0 δ m) (tT X.K H0 G0 δ n) σ H Q := by
  obtain ⟨G, s, c, ec, q⟩ := h
  cases m with
  | none => cases ec
  | some k =>
    refine ⟨G, s, k, rfl, fun H' G' w => ?_⟩
    cases k with
    | true => exact ⟨G', s.grow w, c, ec, fun H2 G2 w2 => q H2 G2 (w.trans w2)⟩
    | false =>
      cases ec
      exact q H' G' w
theorem y_or0 {m n : Option Bool} {σ : L2.St} {H : Hp} {Q : Bool → Hp → Prop} (h : tT X.K H0 G0 δ (orT m n) σ H Q) : tOr (tT X.K H0 G0 δ m) (tT X.K H0 G0 δ n) σ H Q := by
  obtain ⟨G, s, c, ec, q⟩ := h
  cases m with
  | none => cases ec
  | some k =>
    refine ⟨G, s, k, rfl, fun H' G' w => ?_⟩
    cases k with
    | false => exact ⟨G', s.grow w, c, ec, fun H2 G2 w2 => q H2 G2 (w.trans w2)⟩
    | true =>
      cases ec
      exact q H' G' w
theorem PW_imp {t t' : TT} (h : PW X e t) (k : ∀ σ H Q, t' σ H Q → t σ H Q) : PW X e t' := ⟨fun wh pins s σ H Q I w => h.run wh pins s σ H Q I (k σ H Q w)⟩
variable {rest : List Expr}
theorem w_and1 {m : Option Bool} (h : PT X a (tT X.K H0 G0 δ m)) : PW X (.BoolOp .And [a] pos) (tT X.K H0 G0 δ m) := pw_and1 h
theorem w_or1 {m : Option Bool} (h : PT X a (tT X.K H0 G0 δ m)) : PW X (.BoolOp .Or [a] pos) (tT X.K H0 G0 δ m) := pw_or1 h
theorem w_and {m n : Option Bool} (h : PT X a (tT X.K H0 G0 δ m)) (k : PW X (.BoolOp .And (b :: rest) pos) (tT X.K H0 G0 δ n)) : PW X (.BoolOp .And (a :: b :: rest) pos) (tT X.K H0 G0 δ (andT m n)) := PW_imp (pw_and h k) fun _ _ _ q => y_and0 q
theorem w_or {m n : Option Bool} (h : PT X a (tT X.K H0 G0 δ m)) (k : PW X (.BoolOp .Or (b :: rest) pos) (tT X.K H0 G0 δ n)) : PW X (.BoolOp .Or (a :: b :: rest) pos) (tT X.K H0 G0 δ (orT m n)) := PW_imp (pw_or h k) fun _ _ _ q => y_or0 q
theorem y_pw {m : Option Bool} (h : PW X e (tT X.K H0 G0 δ m)) : PT X e (tT X.K H0 G0 δ m) := h.pt
theorem y_not {m : Option Bool} (h : PT X a (tT X.K H0 G0 δ m)) : PT X (.UnaryOp .Not a pos) (tT X.K H0 G0 δ (notT m)) :=
  PT_imp (pt_not h) fun σ H Q ⟨G, s, c, ec, q⟩ => by
    cases m with
    | none => cases ec
    | some k =>
      cases ec
      exact ⟨G, s, k, rfl, q⟩
/-- and, or, not as values -/
def andV (m n : Option D) : Option D := m.bind fun d => (asB d).bind fun b => if b then n else some (.bool false)
def orV (m n : Option D) : Option D := m.bind fun d => (asB d).bind fun b => if b then some (.bool true) else n
def notV (m : Option D) : Option D := m.bind fun d => (asB d).bind fun b => some (.bool !b)
theorem x_one {op : BoolOp} {m : Option D} (h : PE X a (tR (rF X.K) X.K H0 G0 δ m)) : PE X (.BoolOp op [a] pos) (tR (rF X.K) X.K H0 G0 δ m) := pe_one h
theorem x_and {m n : Option D} (h : PE X a (tR (rV X.K) X.K H0 G0 δ m)) (k : PE X (.BoolOp .And (b :: rest) pos) (tR (rF X.K) X.K H0 G0 δ n)) : PE X (.BoolOp .And (a :: b :: rest) pos) (tR (rF X.K) X.K H0 G0 δ (andV m n)) :=
  PE_imp (pe_and h k) fun σ H Q ⟨G, s, c, ec, q⟩ => by
    cases m with
    | none => cases ec
    | some d =>
      cases d with
      | bool l =>
        refine ⟨G, s, .bool l, rfl, fun v H' G' w r => ⟨l, r.bool, ?_⟩⟩
        cases l with
        | true => exact ⟨G', s.grow w, c, ec, fun v2 H2 G2 w2 r2 => q v2 H2 G2 (w.trans w2) r2⟩
        | false =>
          cases ec
          exact q _ H' G' w (.bl false)
      | _ => cases ec
theorem x_or {m n : Option D} (h : PE X a (tR (rV X.K) X.K H0 G0 δ m)) (k : PE X (.BoolOp .Or (b :: rest) pos) (tR (rF X.K) X.K H0 G0 δ n)) : PE X (.BoolOp .Or (a :: b :: rest) pos) (tR (rF X.K) X.K H0 G0 δ (orV m n)) :=
  PE_imp (pe_or h k) fun σ H Q ⟨G, s, c, ec, q⟩ => by
    cases m with
    | none => cases ec
    | some d =>
      cases d with
      | bool l =>
        refine ⟨G, s, .bool l, rfl, fun v H' G' w r => ⟨l, r.bool, ?_⟩⟩
        cases l with
        | false => exact ⟨G', s.grow w, c, ec, fun v2 H2 G2 w2 r2 => q v2 H2 G2 (w.trans w2) r2⟩
        | true =>
          cases ec
          exact q _ H' G' w (.bl true)
      | _ => cases ec
theorem x_not {m : Option D} (h : PE X a (tR (rV X.K) X.K H0 G0 δ m)) : PE X (.UnaryOp .Not a pos) (tR (rF X.K) X.K H0 G0 δ (notV m)) :=
  PE_imp (pe_not h) fun σ H Q ⟨G, s, c, ec, q⟩ => by
    cases m with
    | none => cases ec
    | some d =>
      cases d with
      | bool l =>
        cases ec
        exact ⟨G, s, .bool l, rfl, fun v H' G' w r => ⟨l, r.bool, q _ H' G' w (.bl _)⟩⟩
      | _ => cases ec
def negD : D → Option D
  | .int i => some (.int (-i))
  | _ => none
theorem x_neg {m : Option D} (h : PE X a (tR (rV X.K) X.K H0 G0 δ m)) : PE X (.UnaryOp .USub a pos) (tR (rF X.K) X.K H0 G0 δ (m.bind negD)) :=
  PE_imp (pe_un un_neg h) fun σ H Q ⟨G, s, c, ec, q⟩ => by
    cases m with
    | none => cases ec
    | some d =>
      cases d with
      | int i =>
        cases ec
        exact ⟨G, s, .int i, rfl, fun v H' G' w r => ⟨i, r.int, q _ H' G' w (.int _)⟩⟩
      | _ => cases ec
end

/-! ### the operators' meanings -/
abbrev LN : Nat := 16777216
theorem ln_line {n : Nat} (h : n ≤ LN) : n ≤ sizeLine := by rw [sizeLine_eq]; exact h
theorem ln_lt {n : Nat} (h : n < LN) : n < sizeLine := by rw [sizeLine_eq]; exact h
def grd {α : Type} (c : Bool) (m : Option α) : Option α := if c then m else none
theorem grd_some {α : Type} {c : Bool} {m : Option α} {x : α} (h : grd c m = some x) : c = true ∧ m = some x := by
  unfold grd at h
  cases c with
  | true => exact ⟨rfl, h⟩
  | false => cases h
theorem grd_t {α : Type} {c : Bool} {m : Option α} (h : c = true) : grd c m = m := by rw [h]; rfl
section
variable {K : PySem.W.Frag} {X : Cx}
/-- a list + a list, where they are read -/
def rCatS (K : PySem.W.Frag) : R2 := fun x y H Q => ∃ p q as bs, x = .ref p ∧ y = .ref q ∧ SqL K H p as ∧ SqL K H q bs ∧ as.length + bs.length ≤ sizeLine ∧ ∀ r, H r = none → Q (.ref r) (upd H r (.lst (as ++ bs)))
theorem op_catS : OpR X (binaryOp .Add) (rCatS X.K) := by
  intro pins s σ H x y v u Q I rx ry ⟨p, q, as, bs, ex, ey, hp, hq, hz, go⟩
  subst ex ey
  cases rx
  cases ry
  obtain ⟨us, va, ⟨⟨_, _, _, sa⟩, na, oa, ca, da, ta⟩, _⟩ := I.list hp
  obtain ⟨ws, vb, ⟨⟨_, _, _, sb⟩, nb, ob, cb, db, tb⟩, _⟩ := I.list hq
  simp only at ca da ta cb db tb
  subst ca da ta cb db tb
  have la := va.length
  have lb := vb.length
  have join : us.toArray ++ ws.toArray = (us ++ ws).toArray := by rw [List.append_toArray]
  refine concat_meets ⟨_, oa, rfl⟩ ⟨_, ob, rfl⟩ noFill_list_add seq_list_add PySem.F.slot_list_add PySem.F.entry_list_add (PySem.F.args_list_add_2 _ _)
    (list_addW p q us.toArray ws.toArray na nb none none sa sb (show us.length + ws.length ≤ sizeLine by omega)) ⟨oa, ob, ?_⟩
  rw [join]
  exact ⟨.ref _, _, I.lnew (t' := s.toks) (va.append vb) (by rw [List.length_append]; omega), rfl, go _ I.fresh⟩
end
end Bd
/-! Bd3: what the operators and the built-ins give. -/
namespace Bd
open PySem PySem.Spec PyProof.Rows L2 Evl
section
variable {K : PySem.W.Frag} {X : Cx}
/-! ### arithmetic -/
theorem of_dec {p : Prop} {i : Decidable p} (h : @decide p i = true) : p := of_decide_eq_true h

def addD : D → D → Option D
  | .int i, .int j => some (.int (i + j))
  | .str x, .str y => grd (decide (x.length + y.length ≤ LN)) (some (.str (x ++ y)))
  | .list a, .list b => grd (decide (a.length + b.length ≤ LN)) (some (.list (a ++ b)))
  | .tuple a, .tuple b => grd (decide (a.length + b.length ≤ LN)) (some (.tuple (a ++ b)))
  | _, _ => none
def rAddS : R2 := fun x y H Q => ∃ i j, x = .str i ∧ y = .str j ∧ i.length + j.length ≤ sizeLine ∧ Q (.str (i ++ j)) H
theorem op_addD : OpR X (binaryOp .Add) (fun x y H Q => (rI0 fun i j => .int (i + j)) x y H Q ∨ (rAddS x y H Q ∨ (rCatS X.K x y H Q ∨ rCatA X.K x y H Q))) :=
  op_add.or (OpR.or (r := rAddS) op_add_str (op_catS.or op_catA))
theorem sm_add : Sm2 K (fun x y H Q => (rI0 fun i j => .int (i + j)) x y H Q ∨ (rAddS x y H Q ∨ (rCatS K x y H Q ∨ rCatA K x y H Q))) addD := by
  intro x y a b c H G Q eg hx hy ef q
  cases a with
  | int i =>
    cases b with
    | int j =>
      cases ef
      cases hx.int; cases hy.int
      exact .inl ⟨i, j, rfl, rfl, q _ H G (.refl eg) (.int _)⟩
    | _ => cases ef
  | str i =>
    cases b with
    | str j =>
      obtain ⟨h1, h2⟩ := grd_some ef
      cases h2
      cases hx.str; cases hy.str
      exact .inr (.inl ⟨i, j, rfl, rfl, ln_line (of_decide_eq_true h1), q _ H G (.refl eg) (.str _)⟩)
    | _ => cases ef
  | list as =>
    cases b with
    | list bs =>
      obtain ⟨h1, h2⟩ := grd_some ef
      cases h2
      obtain ⟨p, vs, rfl, sp, ap⟩ := hx.list eg
      obtain ⟨r, ws, rfl, sr, ar⟩ := hy.list eg
      refine .inr (.inr (.inl ⟨p, r, vs, ws, rfl, rfl, sp, sr, ?_, fun l hl => ?_⟩))
      · rw [ap.length, ar.length]; exact ln_line (of_decide_eq_true h1)
      · have en : Ex G (upd G l (.lst (vs ++ ws))) := Ex.new (eg.none hl)
        exact q _ _ _ (Grow.newF eg hl) (.lst (.inl (.inl upd_same)) ((ap.to en).append (ar.to en)))
    | _ => cases ef
  | tuple as =>
    cases b with
    | tuple bs =>
      obtain ⟨h1, h2⟩ := grd_some ef
      cases h2
      obtain ⟨p, vs, rfl, sp, ap⟩ := hx.tuple
      obtain ⟨r, ws, rfl, sr, ar⟩ := hy.tuple
      refine .inr (.inr (.inr ⟨p, r, vs, ws, rfl, rfl, ex_t eg sp, ex_t eg sr, ?_, fun e => ?_, fun _ e => ?_, fun _ _ l hl => ?_⟩))
      · rw [ap.length, ar.length]; exact ln_line (of_decide_eq_true h1)
      · subst e
        cases ap
        exact q _ H G (.refl eg) (.tup sr ar)
      · subst e
        cases ar
        exact q _ H G (.refl eg) (by rw [List.append_nil]; exact .tup sp ap)
      · have en : Ex G (upd G l (.tup (vs ++ ws))) := Ex.new (eg.none hl)
        exact q _ _ _ (Grow.newF eg hl) (.tup (.inl (.inl upd_same)) ((ap.to en).append (ar.to en)))
    | _ => cases ef
  | _ => cases ef
def subD : D → D → Option D
  | .int i, .int j => some (.int (i - j))
  | _, _ => none
def fdivD : D → D → Option D
  | .int i, .int j => grd (decide (0 < j ∧ j < 1073741824)) (some (.int (i / j)))
  | _, _ => none
def modD : D → D → Option D
  | .int i, .int j => grd (decide (0 < j)) (some (.int (i % j)))
  | _, _ => none
def powD : D → D → Option D
  | .int i, .int j => grd (decide (0 ≤ j ∧ j ≤ 1000000 ∧ i.natAbs < 2 ^ 64)) (some (.int (i ^ j.toNat)))
  | _, _ => none
theorem sm_I {C : Int → Int → Prop} {g : Int → Int → Int} {f : D → D → Option D} (h : ∀ a b c, f a b = some c → ∃ i j, a = .int i ∧ b = .int j ∧ C i j ∧ c = .int (g i j)) : Sm2 K (rI C fun i j => .int (g i j)) f := by
  intro x y a b c H G Q eg hx hy ef q
  obtain ⟨i, j, rfl, rfl, hc, rfl⟩ := h a b c ef
  cases hx.int; cases hy.int
  exact ⟨i, j, rfl, rfl, hc, q _ H G (.refl eg) (.int _)⟩
theorem sm_sub : Sm2 K (rI0 fun i j => .int (i - j)) subD := by
  intro x y a b c H G Q eg hx hy ef q
  cases a with
  | int i =>
    cases b with
    | int j =>
      cases ef
      cases hx.int; cases hy.int
      exact ⟨i, j, rfl, rfl, q _ H G (.refl eg) (.int _)⟩
    | _ => cases ef
  | _ => cases ef
theorem sm_fdiv : Sm2 K (rI CDiv fun i j => .int (i / j)) fdivD := sm_I fun a b c ef => by
  cases a with
  | int i =>
    cases b with
    | int j =>
      obtain ⟨h1, h2⟩ := grd_some ef
      cases h2
      exact ⟨i, j, rfl, rfl, of_dec h1, rfl⟩
    | _ => cases ef
  | _ => cases ef
theorem sm_mod : Sm2 K (rI (fun _ j => 0 < j) fun i j => .int (i % j)) modD := sm_I fun a b c ef => by
  cases a with
  | int i =>
    cases b with
    | int j =>
      obtain ⟨h1, h2⟩ := grd_some ef
      cases h2
      exact ⟨i, j, rfl, rfl, of_dec h1, rfl⟩
    | _ => cases ef
  | _ => cases ef
theorem sm_pow : Sm2 K (rI CPow fun i j => .int (i ^ j.toNat)) powD := sm_I fun a b c ef => by
  cases a with
  | int i =>
    cases b with
    | int j =>
      obtain ⟨h1, h2⟩ := grd_some ef
      cases h2
      exact ⟨i, j, rfl, rfl, of_dec h1, rfl⟩
    | _ => cases ef
  | _ => cases ef
/-- a short text some times -/
def repS (x : Str) (n : Int) : Str := Txt.mul x n
def mulD : D → D → Option D
  | .int i, .int j => grd (decide ((-(2 ^ 64) < i ∧ i < 2 ^ 64) ∨ (-(2 ^ 64) < j ∧ j < 2 ^ 64))) (some (.int (i * j)))
  | .str x, .int j => grd (decide (x.length ≤ 1000 ∧ 0 ≤ j ∧ j ≤ 1000)) (some (.str (repS x j)))
  | _, _ => none
def rMulS : R2 := fun x y H Q => ∃ i j, x = .str i ∧ y = .int j ∧ (i.length ≤ 1000 ∧ 0 ≤ j ∧ j ≤ 1000) ∧ Q (.str (repS i j)) H
theorem mulok {x : Str} {n : Int} (h : x.length ≤ 1000 ∧ 0 ≤ n ∧ n ≤ 1000) : MulOk x n := by
  obtain ⟨h1, h2, h3⟩ := h
  refine ⟨?_, fun hn _ => ?_, fun hn _ => ?_⟩
  · rw [decide_eq_false (by omega), decide_eq_false (by omega)]; rfl
  · have e : (1000 : Int) ≤ (2 ^ 63 - 1) / n := by
      rw [Int.le_ediv_iff_mul_le (by omega)]
      omega
    omega
  · have e : x.length * n.toNat ≤ 1000 * 1000 := Nat.mul_le_mul h1 (by omega)
    unfold Builtin.Str.tooLong
    first
      | (rw [decide_eq_false]; rw [sizeLine_eq]; omega)
      | (simp; rw [sizeLine_eq]; omega)
      | (simp [sizeLine_eq]; omega)
theorem op_mulS : OpR X (binaryOp .Mult) rMulS := by
  intro pins s σ H x y v u Q I rx ry h
  obtain ⟨i, j, rfl, rfl, hk, q⟩ := h
  obtain ⟨t, rfl⟩ := rx
  obtain ⟨t', rfl⟩ := ry
  exact PySem.SB.mul (mulok hk) fun t' k => ⟨.str _, H, I.tok k, ⟨_, rfl⟩, q⟩
theorem op_mulD : OpR X (binaryOp .Mult) (fun x y H Q => (rI CMul fun i j => .int (i * j)) x y H Q ∨ rMulS x y H Q) := op_mul.or op_mulS
theorem sm_mul : Sm2 K (fun x y H Q => (rI CMul fun i j => .int (i * j)) x y H Q ∨ rMulS x y H Q) mulD := by
  intro x y a b c H G Q eg hx hy ef q
  cases a with
  | int i =>
    cases b with
    | int j =>
      obtain ⟨h1, h2⟩ := grd_some ef
      cases h2
      cases hx.int; cases hy.int
      exact .inl ⟨i, j, rfl, rfl, of_dec h1, q _ H G (.refl eg) (.int _)⟩
    | _ => cases ef
  | str i =>
    cases b with
    | int j =>
      obtain ⟨h1, h2⟩ := grd_some ef
      cases h2
      cases hx.str; cases hy.int
      exact .inr ⟨i, j, rfl, rfl, of_decide_eq_true h1, q _ H G (.refl eg) (.str _)⟩
    | _ => cases ef
  | _ => cases ef
/-! ### comparisons -/
def ordD (p : Int → Int → Bool) : D → D → Option Bool
  | .int i, .int j => some (p i j)
  | _, _ => none
theorem sm_ord {p : Int → Int → Bool} : Sm2B K (rI0 fun i j => .bl (p i j)) (ordD p) := by
  intro x y a b c H G Q eg hx hy ef q
  cases a with
  | int i =>
    cases b with
    | int j =>
      cases ef
      cases hx.int; cases hy.int
      exact ⟨i, j, rfl, rfl, q H G (.refl eg)⟩
    | _ => cases ef
  | _ => cases ef
abbrev ltI (i j : Int) : Bool := decide (i < j)
abbrev leI (i j : Int) : Bool := decide (i ≤ j)
abbrev gtI (i j : Int) : Bool := decide (j < i)
abbrev geI (i j : Int) : Bool := decide (j ≤ i)
/-- == : numbers, texts, truths at once; else as data -/
def eqD : D → D → Option Bool
  | .int i, .int j => some (i == j)
  | .str x, .str y => some (decide (x = y))
  | .bool x, .bool y => some (x == y)
  | .none, .none => some true
  | a, b => grd (SeqAt.shaped a && SeqAt.shaped b) (some (PyData.eqv a b))
def neD (a b : D) : Option Bool := (eqD a b).map fun k => !k
theorem op_eqA (hu : X.A.units + 64 < cLine) : OpR X (compareOp .Eq) (fun x y H Q => rEq x y H Q ∨ rEqD X.K x y H Q) := op_eq.or (op_eqD hu)
theorem op_neA (hu : X.A.units + 64 < cLine) : OpR X (compareOp .NotEq) (fun x y H Q => rNe x y H Q ∨ rNeD X.K x y H Q) := op_ne.or (op_neD hu)
theorem eqD_cases {a b : D} {c : Bool} (h : eqD a b = some c) {x y : V} {H G : Hp} (eg : Ex G H) (hx : Vw K H G x a) (hy : Vw K H G y b) :
    (scal x y = true ∧ c = decide (x = y)) ∨ (Dp K H x a ∧ Dp K H y b ∧ SeqAt.shaped a = true ∧ SeqAt.shaped b = true ∧ c = PyData.eqv a b) := by
  have other : grd (SeqAt.shaped a && SeqAt.shaped b) (some (PyData.eqv a b)) = some c → (Dp K H x a ∧ Dp K H y b ∧ SeqAt.shaped a = true ∧ SeqAt.shaped b = true ∧ c = PyData.eqv a b) := fun e => by
    obtain ⟨h1, h2⟩ := grd_some e
    obtain ⟨h3, h4⟩ := Bool.and_eq_true_iff.mp h1
    cases h2
    exact ⟨hx.dp eg, hy.dp eg, h3, h4, rfl⟩
  cases a with
  | int i =>
    cases b with
    | int j =>
      cases hx.int; cases hy.int
      have e : (i == j) = c := Option.some.inj h
      exact .inl ⟨rfl, by rw [dec_int]; exact e.symm⟩
    | _ => exact .inr (other h)
  | str i =>
    cases b with
    | str j =>
      cases hx.str; cases hy.str
      have e : decide (i = j) = c := Option.some.inj h
      refine .inl ⟨rfl, ?_⟩
      rw [← e]
      by_cases hij : i = j
      · subst hij; simp
      · simp [hij]
    | _ => exact .inr (other h)
  | bool i =>
    cases b with
    | bool j =>
      cases hx.bool; cases hy.bool
      have e : (i == j) = c := Option.some.inj h
      exact .inl ⟨rfl, by rw [dec_bl]; exact e.symm⟩
    | _ => exact .inr (other h)
  | none =>
    cases b with
    | none =>
      cases hx.none; cases hy.none
      have e : true = c := Option.some.inj h
      exact .inl ⟨rfl, e.symm⟩
    | _ => exact .inr (other h)
  | list as => cases b <;> exact .inr (other h)
  | tuple as => cases b <;> exact .inr (other h)
  | dict as => cases b <;> exact .inr (other h)
theorem sm_eq : Sm2B K (fun x y H Q => rEq x y H Q ∨ rEqD K x y H Q) eqD := by
  intro x y a b c H G Q eg hx hy ef q
  rcases eqD_cases ef eg hx hy with ⟨h1, h2⟩ | ⟨h1, h2, h3, h4, h5⟩
  · exact .inl ⟨h1, by rw [← h2]; exact q H G (.refl eg)⟩
  · exact .inr ⟨a, b, h1, h2, h3, h4, by rw [← h5]; exact q H G (.refl eg)⟩
theorem sm_ne : Sm2B K (fun x y H Q => rNe x y H Q ∨ rNeD K x y H Q) neD := by
  intro x y a b c H G Q eg hx hy ef q
  obtain ⟨k, ek, rfl⟩ : ∃ k, eqD a b = some k ∧ c = !k := by
    unfold neD at ef
    cases h : eqD a b with
    | none => rw [h] at ef; cases ef
    | some k => rw [h] at ef; cases ef; exact ⟨k, rfl, rfl⟩
  rcases eqD_cases ek eg hx hy with ⟨h1, h2⟩ | ⟨h1, h2, h3, h4, h5⟩
  · exact .inl ⟨h1, by rw [← h2]; exact q H G (.refl eg)⟩
  · exact .inr ⟨a, b, h1, h2, h3, h4, by rw [← h5]; exact q H G (.refl eg)⟩
def nonD : D → Bool
  | .none => true
  | _ => false
def isN : D → D → Option Bool
  | a, .none => some (nonD a)
  | _, _ => none
def notN (a b : D) : Option Bool := (isN a b).map fun k => !k
theorem vw_none {v : V} {d : D} {H G : Hp} (h : Vw K H G v d) : decide (v = .non) = nonD d := by
  rcases h with h | ⟨p, vs, ds', rfl, rfl, h1, h2⟩
  · cases h <;> rfl
  · rfl
theorem sm_isN : Sm2B K (fun x y H Q => y = .non ∧ Q (.bl (decide (x = .non))) H) isN := by
  intro x y a b c H G Q eg hx hy ef q
  cases b with
  | none =>
    have e : nonD a = c := Option.some.inj ef
    exact ⟨hy.none, by rw [vw_none hx, e]; exact q H G (.refl eg)⟩
  | _ => cases ef
theorem sm_notN : Sm2B K (fun x y H Q => y = .non ∧ Q (.bl (!decide (x = .non))) H) notN := by
  intro x y a b c H G Q eg hx hy ef q
  cases b with
  | none =>
    have e : (!nonD a) = c := Option.some.inj ef
    exact ⟨hy.none, by rw [vw_none hx, e]; exact q H G (.refl eg)⟩
  | _ => cases ef
def flatD : D → Bool
  | .none | .bool _ | .int _ | .str _ => true
  | _ => false
def memD (x : D) (ds : List D) : Option Bool := grd (flatD x && ds.all flatD) (some (ds.any fun y => PyData.eqv y x))
/-- a text of one sign -/
def oneS (x : Str) : Option Nat := match x.cps.toList with
  | [c] => some c
  | _ => none
theorem oneS_is {x : Str} {c : Nat} (h : oneS x = some c) : x = ⟨#[c]⟩ := by
  obtain ⟨a⟩ := x
  unfold oneS at h
  split at h
  · rename_i k e
    cases h
    have e' : a.toList = [c] := e
    rw [← Array.toArray_toList (xs := a), e']
  · cases h
def inD : D → D → Option Bool
  | x, .list ds => memD x ds
  | x, .tuple ds => memD x ds
  | .str x, .str z => (oneS x).map fun c => decide (c ∈ z.cps.toList)
  | _, _ => none
def ninD (a b : D) : Option Bool := (inD a b).map fun k => !k
theorem flat_V {v : V} {d : D} {G : Hp} (h : Dp K G v d) (f : flatD d = true) : flatV v = true := by
  cases h <;> first | rfl | (cases f)
theorem eqv_V {v u : V} {d e : D} {G : Hp} (h : Dp K G v d) (g : Dp K G u e) (f : flatD d = true) (f' : flatD e = true) : eqV v u = PyData.eqv d e := by
  cases h <;> first | (cases f; done) | skip
  all_goals (cases g <;> first | (cases f'; done) | skip)
  all_goals first | rfl | (simp [eqV, PyData.eqv])
theorem flat_all {G : Hp} : ∀ {vs : List V} {ds : List D}, DpAll K G vs ds → ds.all flatD = true → vs.all flatV = true
  | _, _, .nil, _ => rfl
  | _, _, .cons a b, h => by
    rw [List.all_cons, Bool.and_eq_true_iff] at h ⊢
    exact ⟨flat_V a h.1, flat_all b h.2⟩
theorem any_V {x : V} {e : D} {G : Hp} (hx : Dp K G x e) (fx : flatD e = true) : ∀ {vs : List V} {ds : List D}, DpAll K G vs ds → ds.all flatD = true → inV x vs = ds.any fun y => PyData.eqv y e
  | _, _, .nil, _ => rfl
  | _, _, .cons a b, h => by
    rw [List.all_cons, Bool.and_eq_true_iff] at h
    unfold inV
    rw [List.any_cons, List.any_cons, eqv_V a hx h.1 fx]
    exact congrArg _ (any_V hx fx b h.2)
theorem flat_Dp {v : V} {d : D} {H G : Hp} (h : Vw K H G v d) (f : flatD d = true) : Dp K G v d := by
  rcases h with h | ⟨p, vs, ds', rfl, rfl, h1, h2⟩
  · exact h
  · cases f
def rInX (K : PySem.W.Frag) (neg : Bool) : R2 := fun x y H Q => rIn K neg x y H Q ∨ ∃ (c : Nat) (z : Str), x = .str ⟨#[c]⟩ ∧ y = .str z ∧ Q (.bl (if neg then !decide (c ∈ z.cps.toList) else decide (c ∈ z.cps.toList))) H
theorem op_inX : OpR X (compareOp .In) (rInX X.K false) := OpR.or op_in_seq op_in_sign
theorem op_ninX : OpR X (compareOp .NotIn) (rInX X.K true) := OpR.or op_notIn_seq op_notIn_sign
theorem sm_in0 {neg : Bool} {x y : V} {a b : D} {c : Bool} {H G : Hp} {Q : VK} (eg : Ex G H) (hx : Vw K H G x a) (hy : Vw K H G y b) (ef : inD a b = some c) (q : ∀ H' G', Grow H G H' G' → Q (.bl (if neg then !c else c)) H') : rInX K neg x y H Q := by
  have go : ∀ (p : Addr) (vs : List V) (ds : List D), y = .ref p → (SqL K H p vs ∨ SqT K H p vs) → DpAll K G vs ds → memD a ds = some c → rInX K neg x y H Q := fun p vs ds ey hs ha e => by
    obtain ⟨h1, h2⟩ := grd_some e
    obtain ⟨h3, h4⟩ := Bool.and_eq_true_iff.mp h1
    have e2 : _ = c := Option.some.inj h2
    have dx := flat_Dp hx h3
    refine .inl ⟨p, vs, ey, hs, flat_V dx h3, flat_all ha h4, ?_⟩
    rw [any_V dx h3 ha h4, e2]
    exact q H G (.refl eg)
  cases b with
  | list ds =>
    obtain ⟨p, vs, rfl, sp, ap⟩ := hy.list eg
    exact go p vs ds rfl (.inl sp) ap (by cases a <;> exact ef)
  | tuple ds =>
    obtain ⟨p, vs, rfl, sp, ap⟩ := hy.tuple
    exact go p vs ds rfl (.inr (ex_t eg sp)) ap (by cases a <;> exact ef)
  | str z =>
    cases a with
    | str y =>
      cases ho : oneS y with
      | none =>
        have ef' : (oneS y).map (fun c => decide (c ∈ z.cps.toList)) = some c := ef
        rw [ho] at ef'; cases ef'
      | some k =>
        have ef' : (oneS y).map (fun c => decide (c ∈ z.cps.toList)) = some c := ef
        rw [ho] at ef'
        have e2 : decide (k ∈ z.cps.toList) = c := Option.some.inj ef'
        cases hx.str; cases hy.str
        refine .inr ⟨k, z, by rw [oneS_is ho], rfl, ?_⟩
        rw [e2]
        exact q H G (.refl eg)
    | _ => cases ef
  | _ => cases a <;> cases ef
theorem sm_in : Sm2B K (rInX K false) inD := fun x y a b c H G Q eg hx hy ef q => sm_in0 eg hx hy ef fun H' G' w => q H' G' w
theorem sm_nin : Sm2B K (rInX K true) ninD := by
  intro x y a b c H G Q eg hx hy ef q
  unfold ninD at ef
  cases h : inD a b with
  | none => rw [h] at ef; cases ef
  | some k => rw [h] at ef; cases ef; exact sm_in0 eg hx hy h fun H' G' w => q H' G' w
/-! ### places -/
def idxD : D → D → Option D
  | .list ds, .int i => atI ds i
  | .tuple ds, .int i => atI ds i
  | .str z, .int i => grd (decide (z.length ≤ LN)) ((atI z.cps.toList i).map fun c => .str ⟨#[c]⟩)
  | _, _ => none
theorem at_V {G : Hp} {vs : List V} {ds : List D} {i : Int} {d : D} (h : DpAll K G vs ds) (e : atI ds i = some d) : ∃ v, atI vs i = some v ∧ Dp K G v d := by
  unfold atI at e ⊢
  rw [h.length]
  cases hj : ixN ds.length i with
  | none => rw [hj] at e; cases e
  | some j =>
    rw [hj] at e
    obtain ⟨v, h1, h2⟩ := h.get (i := j) (d := d) e
    exact ⟨v, h1, h2⟩
theorem sm_ix : Sm2 K (rIx K) idxD := by
  intro x y a b c H G Q eg hx hy ef q
  cases b with
  | int i =>
    cases hy.int
    cases a with
    | list ds =>
      obtain ⟨p, vs, rfl, sp, ap⟩ := hx.list eg
      obtain ⟨v, h1, h2⟩ := at_V ap ef
      exact .inl ⟨p, vs, i, v, rfl, rfl, sp, h1, q v H G (.refl eg) h2⟩
    | tuple ds =>
      obtain ⟨p, vs, rfl, sp, ap⟩ := hx.tuple
      obtain ⟨v, h1, h2⟩ := at_V ap ef
      exact .inr (.inl ⟨p, vs, i, v, rfl, rfl, ex_t eg sp, h1, q v H G (.refl eg) h2⟩)
    | str z =>
      cases hx.str
      obtain ⟨h1, h2⟩ := grd_some ef
      cases hz : atI z.cps.toList i with
      | none => rw [hz] at h2; cases h2
      | some k =>
        rw [hz] at h2
        cases h2
        exact .inr (.inr ⟨z, i, k, rfl, rfl, ln_line (of_decide_eq_true h1), hz, q _ H G (.refl eg) (.str _)⟩)
    | _ => cases ef
  | _ => cases a <;> cases ef
section
variable {H0 G0 : Hp} {δ : En} {e a b : Expr} {pos : Pos}
theorem x_ix {m n : Option D} (ha : PE X a (tR (rV X.K) X.K H0 G0 δ m)) (hb : PE X b (tR (rV X.K) X.K H0 G0 δ n)) (hs : PlainIx b := by exact fun _ _ => rfl) : PE X (.Subscript a b pos) (tR (rF X.K) X.K H0 G0 δ (b2 idxD m n)) :=
  PE_imp (pe_ix ix_seq ha hb hs) fun _ _ _ h => x_bin0 sm_ix h
end
/-! ### cuts -/
def cutL {α : Type} (xs : List α) (lo hi : Option Int) : List α := (xs.drop (HT.sIx xs.length 0 lo)).take (HT.sIx xs.length xs.length hi - HT.sIx xs.length 0 lo)
def cutD (d : D) (lo hi : Option Int) : Option D :=
  match d with
  | .list ds => some (.list (cutL ds lo hi))
  | .tuple ds => some (.tuple (cutL ds lo hi))
  | _ => none
def asI : D → Option Int
  | .int i => some i
  | _ => none
theorem cut_V {G : Hp} {vs : List V} {ds : List D} {lo hi : Option Int} (h : DpAll K G vs ds) : DpAll K G (cutV vs lo hi) (cutL ds lo hi) := by
  unfold cutV cutL
  rw [h.length]
  exact (h.drop _).take _
theorem cutL_whole {α : Type} {xs : List α} {lo hi : Option Int} (h : HT.sIx xs.length 0 lo = 0 ∧ HT.sIx xs.length xs.length hi = xs.length) : cutL xs lo hi = xs := by
  unfold cutL
  rw [h.1, h.2]
  simp
section
variable {H0 G0 : Hp} {δ : En} {e a b : Expr} {pos p2 : Pos}
def tP (K : PySem.W.Frag) (H0 G0 : Hp) (δ : En) (m : Option (Option Int)) : TO := fun σ H Q => ∃ G, S8 K H0 G0 δ σ H G ∧ ∃ o, m = some o ∧ ∀ H' G', Grow H G H' G' → Q o H'
theorem PO_imp {o : Option Expr} {t t' : TO} (h : PO X o t) (k : ∀ σ H Q, t' σ H Q → t σ H Q) : PO X o t' := ⟨fun pins s σ H Q I w => h.run pins s σ H Q I (k σ H Q w)⟩
theorem p_none : PO X none (tP X.K H0 G0 δ (some none)) := PO_imp po_none fun σ H Q ⟨G, s, o, eo, q⟩ => by
  cases eo
  exact q H G (.refl s.gh)
theorem p_some {m : Option D} (h : PE X e (tR (rV X.K) X.K H0 G0 δ m)) : PO X (some e) (tP X.K H0 G0 δ ((m.bind asI).map some)) := PO_imp (po_some h) fun σ H Q ⟨G, s, o, eo, q⟩ => by
  cases m with
  | none => cases eo
  | some d =>
    cases d with
    | int i =>
      cases eo
      exact ⟨G, s, .int i, rfl, fun v H' G' w r => ⟨i, r.int, q H' G' w⟩⟩
    | _ => cases eo
def slcD (m : Option D) (lo hi : Option (Option Int)) : Option D := m.bind fun d => lo.bind fun l => hi.bind fun h => cutD d l h
theorem x_slc {m : Option D} {lo hi : Option Expr} {ml mh : Option (Option Int)} (h : PE X e (tR (rV X.K) X.K H0 G0 δ m)) (hl : PO X lo (tP X.K H0 G0 δ ml)) (hh : PO X hi (tP X.K H0 G0 δ mh)) :
    PE X (.Subscript e (.Slice lo hi none p2) pos) (tR (rF X.K) X.K H0 G0 δ (slcD m ml mh)) :=
  PE_imp (pe_slice (sl_list.or sl_tupA) h hl hh) fun σ H Q ⟨G, s, c, ec, q⟩ => by
    cases m with
    | none => cases ec
    | some d =>
      cases ml with
      | none => cases ec
      | some l =>
        cases mh with
        | none => cases ec
        | some u =>
          refine ⟨G, s, d, rfl, fun x H1 G1 w1 r1 => ?_⟩
          refine ⟨G1, s.grow w1, l, rfl, fun H2 G2 w2 => ?_⟩
          refine ⟨G2, (s.grow w1).grow w2, u, rfl, fun H3 G3 w3 => ?_⟩
          have w := (w1.trans w2).trans w3
          have r := r1.to (w2.trans w3).h (w2.trans w3).g
          cases d with
          | list ds =>
            cases ec
            obtain ⟨p, vs, rfl, sp, ap⟩ := r.list w.gh
            refine .inl ⟨p, vs, rfl, sp, fun n hn => ?_⟩
            have en : Ex G3 (upd G3 n (.lst (cutV vs l u))) := Ex.new (w.gh.none hn)
            exact q _ _ _ (w.trans (Grow.newF w.gh hn)) (.lst (.inl (.inl upd_same)) ((cut_V ap).to en))
          | tuple ds =>
            cases ec
            obtain ⟨p, vs, rfl, sp, ap⟩ := r.tuple
            refine .inr ⟨p, vs, rfl, ex_t w.gh sp, fun hw => ?_, fun _ n hn => ?_⟩
            · refine q _ H3 G3 w ?_
              rw [ap.length] at hw
              rw [cutL_whole hw]
              exact .tup sp ap
            · have en : Ex G3 (upd G3 n (.tup (cutV vs l u))) := Ex.new (w.gh.none hn)
              exact q _ _ _ (w.trans (Grow.newF w.gh hn)) (.tup (.inl (.inl upd_same)) ((cut_V ap).to en))
          | _ => cases ec
end
/-! ### arguments, displays -/
def ArgsOk (K : PySem.W.Frag) (H G : Hp) : List Bool → List V → List D → Prop
  | [], [], [] => True
  | b :: bs, v :: vs, d :: ds => (match b with | true => Dp K G v d | false => Vw K H G v d) ∧ ArgsOk K H G bs vs ds
  | _, _, _ => False
def tAr (K : PySem.W.Frag) (H0 G0 : Hp) (δ : En) (bs : List Bool) (m : Option (List D)) : TA := fun σ H Q => ∃ G, S8 K H0 G0 δ σ H G ∧ ∃ ds, m = some ds ∧ ∀ vs H' G', Grow H G H' G' → ArgsOk K H' G' bs vs ds → Q vs H'
def consO (m : Option D) (ms : Option (List D)) : Option (List D) := m.bind fun d => ms.bind fun ds => some (d :: ds)
section
variable {H0 G0 : Hp} {δ : En} {e a b : Expr} {es : List Expr} {bs : List Bool} {pos p2 : Pos} {m : Option D} {ms : Option (List D)}
theorem a_nil : PA X [] (tAr X.K H0 G0 δ [] (some [])) := PA_imp pa_nil fun σ H Q ⟨G, s, ds, ed, q⟩ => by
  cases ed
  exact q [] H G (.refl s.gh) trivial
theorem argsTo {K : PySem.W.Frag} {H G H' G' : Hp} (e : Ex H H') (g : Ex G G') : ∀ {bs : List Bool} {vs : List V} {ds : List D}, ArgsOk K H G bs vs ds → ArgsOk K H' G' bs vs ds
  | [], [], [], _ => trivial
  | true :: bs, v :: vs, d :: ds, h => ⟨h.1.to g, argsTo e g h.2⟩
  | false :: bs, v :: vs, d :: ds, h => ⟨h.1.to e g, argsTo e g h.2⟩
  | [], [], _ :: _, h => h.elim
  | [], _ :: _, _, h => h.elim
  | _ :: _, [], _, h => h.elim
  | _ :: _, _ :: _, [], h => h.elim
theorem a_F (h : PE X e (tR (rF X.K) X.K H0 G0 δ m)) (hr : PA X es (tAr X.K H0 G0 δ bs ms)) (hs : starEach (e :: es) X.env = (false, eval e X.env) :: starEach es X.env := by rfl) : PA X (e :: es) (tAr X.K H0 G0 δ (true :: bs) (consO m ms)) :=
  PA_imp (pa_cons h hr hs) fun σ H Q ⟨G, s, ds, ed, q⟩ => by
    cases m with
    | none => cases ed
    | some d =>
      cases ms with
      | none => cases ed
      | some r =>
        cases ed
        refine ⟨G, s, d, rfl, fun x H1 G1 w1 r1 => ?_⟩
        exact ⟨G1, s.grow w1, r, rfl, fun vs H2 G2 w2 r2 => q (x :: vs) H2 G2 (w1.trans w2) ⟨r1.to w2.g, r2⟩⟩
theorem a_V (h : PE X e (tR (rV X.K) X.K H0 G0 δ m)) (hr : PA X es (tAr X.K H0 G0 δ bs ms)) (hs : starEach (e :: es) X.env = (false, eval e X.env) :: starEach es X.env := by rfl) : PA X (e :: es) (tAr X.K H0 G0 δ (false :: bs) (consO m ms)) :=
  PA_imp (pa_cons h hr hs) fun σ H Q ⟨G, s, ds, ed, q⟩ => by
    cases m with
    | none => cases ed
    | some d =>
      cases ms with
      | none => cases ed
      | some r =>
        cases ed
        refine ⟨G, s, d, rfl, fun x H1 G1 w1 r1 => ?_⟩
        exact ⟨G1, s.grow w1, r, rfl, fun vs H2 G2 w2 r2 => q (x :: vs) H2 G2 (w1.trans w2) ⟨r1.to w2.h w2.g, r2⟩⟩
theorem argsAll {K : PySem.W.Frag} {H G : Hp} : ∀ {bs : List Bool} {vs : List V} {ds : List D}, bs.all id = true → ArgsOk K H G bs vs ds → DpAll K G vs ds ∧ vs.length = bs.length
  | [], [], [], _, _ => ⟨.nil, rfl⟩
  | true :: bs, v :: vs, d :: ds, hb, h => by
    obtain ⟨h1, h2⟩ := argsAll (bs := bs) (by simpa using hb) h.2
    exact ⟨.cons h.1 h1, by rw [List.length_cons, List.length_cons, h2]⟩
  | false :: bs, _, _, hb, _ => by simp at hb
  | [], [], _ :: _, _, h => h.elim
  | [], _ :: _, _, _, h => h.elim
  | true :: _, [], _, _, h => h.elim
  | true :: _, _ :: _, [], _, h => h.elim
theorem x_tup {k : Nat} (h : PA X es (tAr X.K H0 G0 δ bs ms)) (hb : bs.all id = true := by rfl) (hl : bs.length ≤ 1000 := by decide) : PE X (.Tuple es k pos) (tR (rF X.K) X.K H0 G0 δ (ms.map PyData.tuple)) :=
  PE_imp (pe_tup h) fun σ H Q ⟨G, s, c, ec, q⟩ => by
    cases ms with
    | none => cases ec
    | some ds =>
      cases ec
      refine ⟨G, s, ds, rfl, fun vs H1 G1 w r => ?_⟩
      obtain ⟨ha, hn⟩ := argsAll hb r
      refine ⟨ln_line (by rw [hn]; exact Nat.le_trans hl (by decide)), fun p hp => ?_⟩
      exact q _ _ _ (w.trans (Grow.newF w.gh hp)) (.tup (.inl (.inl upd_same)) (ha.to (Ex.new (w.gh.none hp))))
theorem x_lst (h : PA X es (tAr X.K H0 G0 δ bs ms)) (hb : bs.all id = true := by rfl) (hl : bs.length ≤ 1000 := by decide) : PE X (.List es pos) (tR (rO X.K) X.K H0 G0 δ ms) :=
  PE_imp (pe_lst h) fun σ H Q ⟨G, s, c, ec, q⟩ => by
    subst ec
    refine ⟨G, s, c, rfl, fun vs H1 G1 w r => ?_⟩
    obtain ⟨ha, hn⟩ := argsAll hb r
    refine ⟨ln_line (by rw [hn]; exact Nat.le_trans hl (by decide)), fun p hp => ?_⟩
    exact q _ _ _ (w.trans (Grow.newO w.gh hp)) ⟨p, vs, rfl, w.h.none hp, w.gh.none hp, upd_same, ha⟩
end
/-! ### calls of built-ins -/
def Sm1 (K : PySem.W.Frag) (r : List V → Hp → VK → Prop) (f : D → Option D) : Prop := ∀ x a c (H G : Hp) (Q : VK), Ex G H → Vw K H G x a → f a = some c → (∀ v H' G', Grow H G H' G' → Dp K G' v c → Q v H') → r [x] H Q
section
variable {H0 G0 : Hp} {δ : En} {e a b : Expr} {x id T : String} {pos p2 : Pos} {m : Option D} {r : List V → Hp → VK → Prop} {f : D → Option D}
theorem x_cb0 (sm : Sm1 X.K r f) {σ : L2.St} {H : Hp} {Q : VK} (h : tR (rF X.K) X.K H0 G0 δ (m.bind f) σ H Q) : tCB r (tCons (tR (rV X.K) X.K H0 G0 δ m) tNil) σ H Q := by
  obtain ⟨G, s, c, ec, q⟩ := h
  cases m with
  | none => cases ec
  | some d =>
    refine ⟨G, s, d, rfl, fun v H1 G1 w r1 => ?_⟩
    exact sm v d c H1 G1 Q w.gh r1 ec fun u H' G' w2 r2 => q u H' G' (w.trans w2) r2
theorem x_callB {y : Str} (hc : CallR X (.builtin id) r) (sm : Sm1 X.K r f) (hg : Gl X y) (hm : X.mg y = none) (hv : bootBuiltins y = some (.builtin id)) (h : PE X e (tR (rV X.K) X.K H0 G0 δ m)) (hn : y ≠ "__name__" := by decide) (hdb : (y == ("__debug__" : Str)) = false := by decide)
    (he : starEach (e :: []) X.env = (false, eval e X.env) :: starEach [] X.env := by rfl) (hpl : (backTo pos (starEach [] X.env)).any (·.1) = false := by rfl) :
    PE X (.Call (.Name y p2) [e] [] pos) (tR (rF X.K) X.K H0 G0 δ (m.bind f)) :=
  PE_imp (pe_callB hc hg hm hv (pa_cons h pa_nil (hs := he)) hn hdb he hpl) fun _ _ _ q => x_cb0 sm q
theorem x_callTy {y : Str} (hc : CallR X (.type T) r) (sm : Sm1 X.K r f) (hg : Gl X y) (hm : X.mg y = none) (hv : bootBuiltins y = some (.type T)) (h : PE X e (tR (rV X.K) X.K H0 G0 δ m)) (hn : y ≠ "__name__" := by decide) (hdb : (y == ("__debug__" : Str)) = false := by decide)
    (he : starEach (e :: []) X.env = (false, eval e X.env) :: starEach [] X.env := by rfl) (hpl : (backTo pos (starEach [] X.env)).any (·.1) = false := by rfl) :
    PE X (.Call (.Name y p2) [e] [] pos) (tR (rF X.K) X.K H0 G0 δ (m.bind f)) :=
  PE_imp (pe_callTy hc hg hm hv (pa_cons h pa_nil (hs := he)) hn hdb he hpl) fun _ _ _ q => x_cb0 sm q
end
end
end Bd
/-! Bd4: built-ins, what is walked, comprehensions, calls of own defs. -/
namespace Bd
open PySem PySem.Spec PyProof.Rows L2 Evl
section
variable {K : PySem.W.Frag} {X : Cx}
/-! ### len, all, any, sum, int, tuple, list -/
def lenD : D → Option D
  | .list ds => some (.int ds.length)
  | .tuple ds => some (.int ds.length)
  | .str z => grd (decide (z.length ≤ LN)) (some (.int z.length))
  | _ => none
def rLenQ (K : PySem.W.Frag) : List V → Hp → VK → Prop := fun xs H Q => ∃ p ys, xs = [.ref p] ∧ (SqL K H p ys ∨ SqT K H p ys) ∧ Q (.int ys.length) H
def rLenS : List V → Hp → VK → Prop := fun xs H Q => ∃ z, xs = [.str z] ∧ z.length ≤ sizeLine ∧ Q (.int z.length) H
theorem call_lenX : CallR X (.builtin "len") (fun xs H Q => rLenQ X.K xs H Q ∨ rLenS xs H Q) := CallR.or (r := rLenQ X.K) (r' := rLenS) call_len_seq call_len_str
theorem sm_len : Sm1 K (fun xs H Q => rLenQ K xs H Q ∨ rLenS xs H Q) lenD := by
  intro x a c H G Q eg hx ef q
  cases a with
  | list ds =>
    cases ef
    obtain ⟨p, vs, rfl, sp, ap⟩ := hx.list eg
    exact .inl ⟨p, vs, rfl, .inl sp, by rw [ap.length]; exact q _ H G (.refl eg) (.int _)⟩
  | tuple ds =>
    cases ef
    obtain ⟨p, vs, rfl, sp, ap⟩ := hx.tuple
    exact .inl ⟨p, vs, rfl, .inr (ex_t eg sp), by rw [ap.length]; exact q _ H G (.refl eg) (.int _)⟩
  | str z =>
    obtain ⟨h1, h2⟩ := grd_some ef
    cases h2
    cases hx.str
    exact .inr ⟨z, rfl, ln_line (of_dec h1), q _ H G (.refl eg) (.int _)⟩
  | _ => cases ef
def allB : List D → Option (List Bool)
  | [] => some []
  | .bool b :: r => (allB r).map (b :: ·)
  | _ => none
def allI : List D → Option (List Int)
  | [] => some []
  | .int b :: r => (allI r).map (b :: ·)
  | _ => none
theorem allB_is : ∀ {ds : List D} {bs : List Bool}, allB ds = some bs → ds = bs.map PyData.bool
  | [], _, h => by cases h; rfl
  | .bool b :: r, bs, h => by
    cases e : allB r with
    | none => rw [allB, e] at h; cases h
    | some cs => rw [allB, e] at h; cases h; rw [allB_is e]; rfl
  | .none :: _, _, h => by cases h
  | .int _ :: _, _, h => by cases h
  | .str _ :: _, _, h => by cases h
  | .list _ :: _, _, h => by cases h
  | .tuple _ :: _, _, h => by cases h
  | .dict _ :: _, _, h => by cases h
theorem allI_is : ∀ {ds : List D} {bs : List Int}, allI ds = some bs → ds = bs.map PyData.int
  | [], _, h => by cases h; rfl
  | .int b :: r, bs, h => by
    cases e : allI r with
    | none => rw [allI, e] at h; cases h
    | some cs => rw [allI, e] at h; cases h; rw [allI_is e]; rfl
  | .none :: _, _, h => by cases h
  | .bool _ :: _, _, h => by cases h
  | .str _ :: _, _, h => by cases h
  | .list _ :: _, _, h => by cases h
  | .tuple _ :: _, _, h => by cases h
  | .dict _ :: _, _, h => by cases h
theorem allB_of : ∀ bs : List Bool, allB (bs.map PyData.bool) = some bs
  | [] => rfl
  | b :: r => by rw [List.map_cons, allB, allB_of r]; rfl
theorem allI_of : ∀ bs : List Int, allI (bs.map PyData.int) = some bs
  | [] => rfl
  | b :: r => by rw [List.map_cons, allI, allI_of r]; rfl
def allD : D → Option D
  | .list ds => (allB ds).map fun bs => .bool (bs.all id)
  | _ => none
def anyD : D → Option D
  | .list ds => (allB ds).map fun bs => .bool (bs.any id)
  | _ => none
def sumD : D → Option D
  | .list ds => (allI ds).map fun ns => .int ns.sum
  | _ => none
theorem sm_all : Sm1 K (rAll K) allD := by
  intro x a c H G Q eg hx ef q
  cases a with
  | list ds =>
    cases e : allB ds with
    | none => rw [allD, e] at ef; cases ef
    | some bs =>
      rw [allD, e] at ef; cases ef
      obtain ⟨p, vs, rfl, sp, ap⟩ := hx.list eg
      rw [allB_is e] at ap
      exact ⟨p, bs, rfl, by rw [← ap.bls]; exact sp, q _ H G (.refl eg) (.bl _)⟩
  | _ => cases ef
theorem sm_any : Sm1 K (rAny K) anyD := by
  intro x a c H G Q eg hx ef q
  cases a with
  | list ds =>
    cases e : allB ds with
    | none => rw [anyD, e] at ef; cases ef
    | some bs =>
      rw [anyD, e] at ef; cases ef
      obtain ⟨p, vs, rfl, sp, ap⟩ := hx.list eg
      rw [allB_is e] at ap
      exact ⟨p, bs, rfl, by rw [← ap.bls]; exact sp, q _ H G (.refl eg) (.bl _)⟩
  | _ => cases ef
theorem sm_sum : Sm1 K (rSum K) sumD := by
  intro x a c H G Q eg hx ef q
  cases a with
  | list ds =>
    cases e : allI ds with
    | none => rw [sumD, e] at ef; cases ef
    | some bs =>
      rw [sumD, e] at ef; cases ef
      obtain ⟨p, vs, rfl, sp, ap⟩ := hx.list eg
      rw [allI_is e] at ap
      exact ⟨p, bs, rfl, by rw [← ap.ints]; exact sp, q _ H G (.refl eg) (.int _)⟩
  | _ => cases ef
def intD : D → Option D
  | .int i => some (.int i)
  | .bool b => some (.int (if b then 1 else 0))
  | _ => none
def rInt1 : List V → Hp → VK → Prop := fun xs H Q => (∃ i, xs = [.int i] ∧ Q (.int i) H) ∨ ∃ k, xs = [.bl k] ∧ Q (.int (if k then 1 else 0)) H
theorem call_intX : CallR X (.type "int") rInt1 := call_int1
theorem sm_int : Sm1 K rInt1 intD := by
  intro x a c H G Q eg hx ef q
  cases a with
  | int i => cases ef; cases hx.int; exact .inl ⟨i, rfl, q _ H G (.refl eg) (.int _)⟩
  | bool i => cases ef; cases hx.bool; exact .inr ⟨i, rfl, q _ H G (.refl eg) (.int _)⟩
  | _ => cases ef
def tupD : D → Option D
  | .list ds => some (.tuple ds)
  | .tuple ds => some (.tuple ds)
  | _ => none
def rTupOf (K : PySem.W.Frag) : List V → Hp → VK → Prop := fun xs H Q => ∃ p ys, xs = [.ref p] ∧ ((SqL K H p ys ∧ ∀ l, H l = none → Q (.ref l) (upd H l (.tup ys))) ∨ (SqT K H p ys ∧ Q (.ref p) H))
theorem call_tupX : CallR X (.type "tuple") (rTupOf X.K) := call_tuple_of
theorem sm_tup : Sm1 K (rTupOf K) tupD := by
  intro x a c H G Q eg hx ef q
  cases a with
  | list ds =>
    cases ef
    obtain ⟨p, vs, rfl, sp, ap⟩ := hx.list eg
    exact ⟨p, vs, rfl, .inl ⟨sp, fun l hl => q _ _ _ (Grow.newF eg hl) (.tup (.inl (.inl upd_same)) (ap.to (Ex.new (eg.none hl))))⟩⟩
  | tuple ds =>
    cases ef
    obtain ⟨p, vs, rfl, sp, ap⟩ := hx.tuple
    exact ⟨p, vs, rfl, .inr ⟨ex_t eg sp, q _ H G (.refl eg) (.tup sp ap)⟩⟩
  | _ => cases ef
def seqD : D → Option (List D)
  | .list ds => some ds
  | .tuple ds => some ds
  | _ => none
section
variable {H0 G0 : Hp} {δ : En} {e a b : Expr} {pos p2 : Pos} {m : Option D}
/-- list(x): a new list -/
theorem x_list (hg : Gl X "list") (hm : X.mg "list" = none) (h : PE X e (tR (rV X.K) X.K H0 G0 δ m))
    (he : starEach (e :: []) X.env = (false, eval e X.env) :: starEach [] X.env := by rfl) (hpl : (backTo pos (starEach [] X.env)).any (·.1) = false := by rfl) :
    PE X (.Call (.Name "list" p2) [e] [] pos) (tR (rO X.K) X.K H0 G0 δ (m.bind seqD)) :=
  PE_imp (pe_callTy call_list_of hg hm (by decide +kernel) (pa_cons h pa_nil (hs := he)) (by decide) (by decide) he hpl) fun σ H Q ⟨G, s, c, ec, q⟩ => by
    cases m with
    | none => cases ec
    | some d =>
      refine ⟨G, s, d, rfl, fun v H1 G1 w r1 => ?_⟩
      cases d with
      | list ds =>
        cases ec
        obtain ⟨p, vs, rfl, sp, ap⟩ := r1.list w.gh
        exact ⟨p, vs, rfl, .inl sp, fun l hl => q _ _ _ (w.trans (Grow.newO w.gh hl)) ⟨l, vs, rfl, w.h.none hl, w.gh.none hl, upd_same, ap⟩⟩
      | tuple ds =>
        cases ec
        obtain ⟨p, vs, rfl, sp, ap⟩ := r1.tuple
        exact ⟨p, vs, rfl, .inr (ex_t w.gh sp), fun l hl => q _ _ _ (w.trans (Grow.newO w.gh hl)) ⟨l, vs, rfl, w.h.none hl, w.gh.none hl, upd_same, ap⟩⟩
      | _ => cases ec
/-! ### isinstance -/
def isInt : D → Bool | .int _ | .bool _ => true | _ => false
def isStr : D → Bool | .str _ => true | _ => false
def isBool : D → Bool | .bool _ => true | _ => false
def isTup : D → Bool | .tuple _ => true | _ => false
def isLst : D → Bool | .list _ => true | _ => false
def tyN : D → String
  | .none => "NoneType" | .bool _ => "bool" | .int _ => "int" | .str _ => "str" | .list _ => "list" | .tuple _ => "tuple" | .dict _ => "dict"
theorem tyX_of {v : V} {d : D} {H G : Hp} (h : Vw K H G v d) (eg : Ex G H) : TyX K H v (.type (tyN d)) := by
  have lst : ∀ (p : Addr) (vs : List V), SqL K H p vs → TyX K H (.ref p) (.type "list") := fun p vs s => by
    rcases s with (s | ⟨o, s⟩) | ⟨o, its, n, h1, h2, _⟩
    · exact .base (.lst s)
    · exact .base (.frz s)
    · exact .kList h1 h2
  cases d with
  | none => cases h.none; exact .base .non
  | bool b => cases h.bool; exact .base (.bl b)
  | int b => cases h.int; exact .base (.int b)
  | str b => cases h.str; exact .base (.str b)
  | list ds =>
    obtain ⟨p, vs, rfl, sp, ap⟩ := h.list eg
    exact lst p vs sp
  | tuple ds =>
    obtain ⟨p, vs, rfl, sp, ap⟩ := h.tuple
    rcases ex_t eg sp with (s | ⟨o, s⟩) | ⟨o, its, n, h1, h2, _⟩
    · exact .base (.tup s)
    · exact .fTuple s
    · exact .kTuple h1 h2
  | dict _ =>
    rcases h with h | ⟨p, vs, ds', rfl, e2, h1, h2⟩
    · cases h
    · cases e2
def IsOf (T : String) (f : D → Bool) : Prop := ∀ d, kitB (tyN d) T = some (f d)
theorem of_int : IsOf "int" isInt := fun d => match d with
  | .none => (by decide +kernel : kitB "NoneType" "int" = some false)
  | .bool _ => (by decide +kernel : kitB "bool" "int" = some true)
  | .int _ => (by decide +kernel : kitB "int" "int" = some true)
  | .str _ => (by decide +kernel : kitB "str" "int" = some false)
  | .list _ => (by decide +kernel : kitB "list" "int" = some false)
  | .tuple _ => (by decide +kernel : kitB "tuple" "int" = some false)
  | .dict _ => (by decide +kernel : kitB "dict" "int" = some false)
theorem of_str : IsOf "str" isStr := fun d => match d with
  | .none => (by decide +kernel : kitB "NoneType" "str" = some false)
  | .bool _ => (by decide +kernel : kitB "bool" "str" = some false)
  | .int _ => (by decide +kernel : kitB "int" "str" = some false)
  | .str _ => (by decide +kernel : kitB "str" "str" = some true)
  | .list _ => (by decide +kernel : kitB "list" "str" = some false)
  | .tuple _ => (by decide +kernel : kitB "tuple" "str" = some false)
  | .dict _ => (by decide +kernel : kitB "dict" "str" = some false)
theorem of_bool : IsOf "bool" isBool := fun d => match d with
  | .none => (by decide +kernel : kitB "NoneType" "bool" = some false)
  | .bool _ => (by decide +kernel : kitB "bool" "bool" = some true)
  | .int _ => (by decide +kernel : kitB "int" "bool" = some false)
  | .str _ => (by decide +kernel : kitB "str" "bool" = some false)
  | .list _ => (by decide +kernel : kitB "list" "bool" = some false)
  | .tuple _ => (by decide +kernel : kitB "tuple" "bool" = some false)
  | .dict _ => (by decide +kernel : kitB "dict" "bool" = some false)
theorem of_tup : IsOf "tuple" isTup := fun d => match d with
  | .none => (by decide +kernel : kitB "NoneType" "tuple" = some false)
  | .bool _ => (by decide +kernel : kitB "bool" "tuple" = some false)
  | .int _ => (by decide +kernel : kitB "int" "tuple" = some false)
  | .str _ => (by decide +kernel : kitB "str" "tuple" = some false)
  | .list _ => (by decide +kernel : kitB "list" "tuple" = some false)
  | .tuple _ => (by decide +kernel : kitB "tuple" "tuple" = some true)
  | .dict _ => (by decide +kernel : kitB "dict" "tuple" = some false)
theorem of_lst : IsOf "list" isLst := fun d => match d with
  | .none => (by decide +kernel : kitB "NoneType" "list" = some false)
  | .bool _ => (by decide +kernel : kitB "bool" "list" = some false)
  | .int _ => (by decide +kernel : kitB "int" "list" = some false)
  | .str _ => (by decide +kernel : kitB "str" "list" = some false)
  | .list _ => (by decide +kernel : kitB "list" "list" = some true)
  | .tuple _ => (by decide +kernel : kitB "tuple" "list" = some false)
  | .dict _ => (by decide +kernel : kitB "dict" "list" = some false)
/-- isinstance(e, T), T a built-in type -/
theorem x_isi {T : Str} {n : String} {f : D → Bool} (hf : IsOf n f) (hg : Gl X "isinstance") (hm : X.mg "isinstance" = none) (hgT : Gl X T) (hmT : X.mg T = none) (hvT : bootBuiltins T = some (.type n)) (h : PE X e (tR (rV X.K) X.K H0 G0 δ m))
    (hnT : T ≠ "__name__" := by decide) (hdT : (T == ("__debug__" : Str)) = false := by decide) {p3 : Pos}
    (he : starEach (e :: [.Name T p3]) X.env = (false, eval e X.env) :: starEach [.Name T p3] X.env := by rfl) (he2 : starEach [.Name T p3] X.env = (false, eval (.Name T p3) X.env) :: starEach [] X.env := by rfl)
    (hpl : (backTo pos (starEach [.Name T p3] X.env)).any (·.1) = false := by rfl) :
    PE X (.Call (.Name "isinstance" p2) [e, .Name T p3] [] pos) (tR (rF X.K) X.K H0 G0 δ (m.map fun d => .bool (f d))) :=
  PE_imp (pe_callB call_isi hg hm (by decide +kernel) (pa_cons h (pa_cons (pe_bltn (v := .ty n) hgT hmT hvT rfl hnT hdT) pa_nil (hs := he2)) (hs := he)) (by decide) (by decide) he hpl) fun σ H Q ⟨G, s, c, ec, q⟩ => by
    cases m with
    | none => cases ec
    | some d =>
      cases ec
      refine ⟨G, s, d, rfl, fun v H1 G1 w r1 => ?_⟩
      exact ⟨v, .ty n, _, _, f d, rfl, .ty n, tyX_of r1 w.gh, kit_ty (hf d), q _ H1 G1 w (.bl _)⟩
theorem y_isi {T : Str} {n : String} {f : D → Bool} (hf : IsOf n f) (hg : Gl X "isinstance") (hm : X.mg "isinstance" = none) (hgT : Gl X T) (hmT : X.mg T = none) (hvT : bootBuiltins T = some (.type n)) (h : PE X e (tR (rV X.K) X.K H0 G0 δ m))
    (hnT : T ≠ "__name__" := by decide) (hdT : (T == ("__debug__" : Str)) = false := by decide) {p3 : Pos}
    (he : starEach (e :: [.Name T p3]) X.env = (false, eval e X.env) :: starEach [.Name T p3] X.env := by rfl) (he2 : starEach [.Name T p3] X.env = (false, eval (.Name T p3) X.env) :: starEach [] X.env := by rfl)
    (hpl : (backTo pos (starEach [.Name T p3] X.env)).any (·.1) = false := by rfl) :
    PT X (.Call (.Name "isinstance" p2) [e, .Name T p3] [] pos) (tT X.K H0 G0 δ (m.map f)) := by
  have z := y_val (x_FV (x_isi (p2 := p2) (pos := pos) hf hg hm hgT hmT hvT h hnT hdT he he2 hpl)) (by intro _; rfl)
  have ez : (m.map fun d => PyData.bool (f d)).bind asB = m.map f := by cases m <;> rfl
  rw [ez] at z
  exact z
end
end

/-! ### what is walked -/
/-- from Hb and Gb on, J gives the items ds, each told by ρ -/
def SrcOk {ι : Type} (ρ : ι → V → Hp → Prop) (Hb Gb : Hp) (J : It) (ds : List ι) : Prop := ∀ H G, Ex Gb G → Ex G H → Ex Hb H → ∀ i,
  (∀ d, ds[i]? = some d → J.go i H ∧ ∀ x H', J.yld i H x H' → ∃ G', Grow H G H' G' ∧ ρ d x G') ∧ (ds.length ≤ i → J.stop i H)
abbrev ρ1 (K : PySem.W.Frag) : D → V → Hp → Prop := fun d x G => Dp K G x d
abbrev ρ2 (K : PySem.W.Frag) : D × D → V → Hp → Prop := fun p x G => ∃ T a b, x = .ref T ∧ SqT K G T [a, b] ∧ Dp K G a p.1 ∧ Dp K G b p.2
def bsel (lo : Bool) (a b : Hp) : Hp := match lo with
  | true => a
  | false => b
/-- lo: the walk's base is the def's entry (a loop's body may change what it owns); else the moment itself (a comprehension) -/
def tI {ι : Type} (lo : Bool) (ρ : ι → V → Hp → Prop) (K : PySem.W.Frag) (H0 G0 : Hp) (δ : En) (m : Option (List ι)) : TI := fun σ H R => ∃ G, S8 K H0 G0 δ σ H G ∧ ∃ ds, m = some ds ∧ ∀ J H' G', Grow H G H' G' → SrcOk ρ (bsel lo H0 H') G' J ds → R J H'
/-- a value for such a walk -/
abbrev rW (lo : Bool) (K : PySem.W.Frag) (H0 : Hp) : Rel D := fun _ H' G' v d => Vw K (bsel lo H0 H') G' v d
def itD : D → Option (List D)
  | .list ds => some ds
  | .tuple ds => some ds
  | .str z => some (z.cps.toList.map fun c => .str ⟨#[c]⟩)
  | _ => none
def enL (i : Nat) : List D → List (D × D)
  | [] => []
  | d :: r => (.int i, d) :: enL (i + 1) r
theorem enL_get : ∀ (ds : List D) (k i : Nat), (enL k ds)[i]? = ds[i]?.map fun d => (.int ((k + i : Nat) : Int), d)
  | [], _, _ => by simp [enL]
  | d :: r, k, 0 => by simp [enL]
  | d :: r, k, i + 1 => by
    rw [enL, List.getElem?_cons_succ, List.getElem?_cons_succ, enL_get r (k + 1) i]
    have e : k + 1 + i = k + (i + 1) := by omega
    rw [e]
theorem enL_length : ∀ (ds : List D) (k : Nat), (enL k ds).length = ds.length
  | [], _ => rfl
  | d :: r, k => by rw [enL, List.length_cons, List.length_cons, enL_length r]
def rngL (lo : Int) (n : Nat) : List D := (List.range n).map fun (i : Nat) => .int (lo + (i : Int))
section
variable {X : Cx} {H0 G0 : Hp} {δ : En} {e a b tg : Expr} {pos p2 : Pos} {m : Option D} {K : PySem.W.Frag}
theorem x_FW {lo : Bool} (h : PE X e (tR (rF X.K) X.K H0 G0 δ m)) : PE X e (tR (rW lo X.K H0) X.K H0 G0 δ m) :=
  x_imp h fun y ey => ⟨y, ey, fun _ _ _ _ G' _ w r => ⟨G', w, .inl r⟩⟩
theorem x_VW (h : PE X e (tR (rV X.K) X.K H0 G0 δ m)) : PE X e (tR (rW false X.K H0) X.K H0 G0 δ m) := h
theorem x_vwW {i : Nat} {d : D} (hn : PE X e (tVar i)) (h : nth δ i = .vw d) : PE X e (tR (rW true X.K H0) X.K H0 G0 δ (some d)) :=
  PE_imp hn fun σ H Q ⟨G, s, y, ey, q⟩ => by
    cases ey
    have o := s.ok i
    rw [h] at o
    obtain ⟨x, ex, dx⟩ := o
    exact ⟨x, ex, q x H G (.refl s.gh) (dx.to (Ex.refl H0) s.gr.g)⟩
theorem PI_imp {l : Expr} {t t' : TI} (h : PI X tg l t) (k : ∀ σ H R, t' σ H R → t σ H R) : PI X tg l t' := ⟨fun pins s σ H Q I w => h.run pins s σ H Q I (k σ H Q w)⟩
theorem src_list {Hb Gb : Hp} {p : Addr} {vs : List V} {ds : List D} (sp : ∀ H G, Ex Gb G → Ex G H → Ex Hb H → SqL K H p vs) (ap : DpAll K Gb vs ds) : SrcOk (ρ1 K) Hb Gb (Itl K p) ds := fun H G eg gh eh i => by
  have s := sp H G eg gh eh
  refine ⟨fun d ed => ?_, fun hl => ⟨vs, s, by rw [ap.length]; exact hl⟩⟩
  obtain ⟨v, h1, h2⟩ := ap.get ed
  refine ⟨⟨vs, v, s, h1⟩, fun x H' ⟨e1, e2⟩ => ⟨G, ?_, ?_⟩⟩
  · subst e1; exact .refl gh
  · have e3 := e2 vs s
    rw [h1] at e3
    cases e3
    exact h2.to eg
theorem src_tup {Hb Gb : Hp} {p : Addr} {vs : List V} {ds : List D} (sp : SqT K Gb p vs) (ap : DpAll K Gb vs ds) : SrcOk (ρ1 K) Hb Gb (Itt K p) ds := fun H G eg gh eh i => by
  have s : SqT K H p vs := ex_t gh (ex_t eg sp)
  refine ⟨fun d ed => ?_, fun hl => ⟨vs, s, by rw [ap.length]; exact hl⟩⟩
  obtain ⟨v, h1, h2⟩ := ap.get ed
  refine ⟨⟨vs, v, s, h1⟩, fun x H' ⟨e1, e2⟩ => ⟨G, ?_, ?_⟩⟩
  · subst e1; exact .refl gh
  · have e3 := e2 vs s
    rw [h1] at e3
    cases e3
    exact h2.to eg
theorem src_str {Hb Gb : Hp} {z : Str} : SrcOk (ρ1 K) Hb Gb (Its z) (z.cps.toList.map fun c => .str ⟨#[c]⟩) := fun H G eg gh eh i => by
  refine ⟨fun d ed => ?_, fun hl => by
    rw [List.length_map] at hl
    exact hl⟩
  rw [List.getElem?_map] at ed
  cases hc : z.cps.toList[i]? with
  | none => rw [hc] at ed; cases ed
  | some c =>
    rw [hc] at ed
    cases ed
    have hc' : z.cps[i]? = some c := by rw [← Array.getElem?_toList]; exact hc
    refine ⟨?_, fun x H' ⟨e1, k, e2, e3⟩ => ⟨G, ?_, ?_⟩⟩
    · show i < z.cps.size
      exact (Array.getElem?_eq_some_iff.mp hc').1
    · subst e1; exact .refl gh
    · rw [hc'] at e2
      cases e2
      subst e3
      exact .str _
theorem i_any {lo : Bool} (h : PE X e (tR (rW lo X.K H0) X.K H0 G0 δ m)) : PI X tg e (tI lo (ρ1 X.K) X.K H0 G0 δ (m.bind itD)) := by
  have no : m.bind itD = none → PI X tg e (tI lo (ρ1 X.K) X.K H0 G0 δ (m.bind itD)) := fun z => PI_imp (pi_list h) fun σ H R ⟨G, s, ds, ed, q⟩ => by rw [z] at ed; cases ed
  have eb : ∀ {σ : L2.St} {H G H' G' : Hp}, S8 X.K H0 G0 δ σ H G → Grow H G H' G' → Ex (bsel lo H0 H') H' := fun s w => by
    cases lo with
    | true => exact s.gr.h.trans w.h
    | false => exact Ex.refl _
  cases m with
  | none => exact no rfl
  | some d =>
    cases d with
    | list es =>
      exact PI_imp (pi_list h) fun σ H R ⟨G, s, ds, ed, q⟩ => by
        cases ed
        refine ⟨G, s, .list es, rfl, fun v H' G' w r => ?_⟩
        rcases r with r | ⟨p, vs, es', rfl, e2, r1, r2⟩
        · cases r with
          | lst hs ha => exact ⟨_, rfl, ⟨_, ex_l w.gh hs⟩, q _ H' G' w (src_list (fun H G eg gh _ => ex_l gh (ex_l eg hs)) ha)⟩
        · cases e2
          exact ⟨p, rfl, ⟨vs, ex_l (eb s w) r1⟩, q _ H' G' w (src_list (fun H G _ _ eh => ex_l eh r1) r2)⟩
    | tuple es =>
      exact PI_imp (pi_tup h) fun σ H R ⟨G, s, ds, ed, q⟩ => by
        cases ed
        refine ⟨G, s, .tuple es, rfl, fun v H' G' w r => ?_⟩
        obtain ⟨p, vs, rfl, sp, ap⟩ := r.tuple
        exact ⟨p, rfl, ⟨vs, ex_t w.gh sp⟩, q _ H' G' w (src_tup sp ap)⟩
    | str z =>
      exact PI_imp (pi_str h) fun σ H R ⟨G, s, ds, ed, q⟩ => by
        cases ed
        refine ⟨G, s, .str z, rfl, fun v H' G' w r => ?_⟩
        cases r.str
        exact ⟨z, rfl, q _ H' G' w src_str⟩
    | _ => exact no rfl
/-- range(n), range(a, b) -/
def rng1 (d : D) : Option (List D) := match d with
  | .int n => grd (decide (-(2 ^ 62) ≤ n ∧ n < 2 ^ 62)) (some (rngL 0 n.toNat))
  | _ => none
def rng2 (c d : D) : Option (List D) := match c, d with
  | .int l, .int n => grd (decide (-(2 ^ 62) ≤ l ∧ l < 2 ^ 62 ∧ -(2 ^ 62) ≤ n ∧ n < 2 ^ 62)) (some (rngL l (n - l).toNat))
  | _, _ => none
theorem src_rng {Hb Gb : Hp} {lo : Int} {n : Nat} : SrcOk (ρ1 K) Hb Gb (Itr lo n) (rngL lo n) := fun H G eg gh eh i => by
  refine ⟨fun d ed => ?_, fun hl => by
    unfold rngL at hl
    rw [List.length_map, List.length_range] at hl
    exact hl⟩
  unfold rngL at ed
  rw [List.getElem?_map] at ed
  by_cases hi : i < n
  · rw [List.getElem?_range hi] at ed
    cases ed
    refine ⟨hi, fun x H' ⟨e1, e2⟩ => ⟨G, ?_, ?_⟩⟩
    · subst e1; exact .refl gh
    · subst e2; exact .int _
  · rw [List.getElem?_eq_none (by rw [List.length_range]; omega)] at ed
    cases ed
theorem i_rng1 {lo : Bool} (hg : Gl X "range") (hm : X.mg "range" = none) (h : PE X e (tR (rV X.K) X.K H0 G0 δ m)) (hs : starEach [e] X.env = [(false, eval e X.env)] := by rfl) :
    PI X tg (.Call (.Name "range" p2) [e] [] pos) (tI lo (ρ1 X.K) X.K H0 G0 δ (m.bind rng1)) :=
  PI_imp (pi_range1 hg hm (pa_cons h pa_nil (hs := hs)) hs) fun σ H R ⟨G, s, ds, ed, q⟩ => by
    cases m with
    | none => cases ed
    | some d =>
      cases d with
      | int n =>
        obtain ⟨h1, h2⟩ := grd_some (show grd (decide (-(2 ^ 62) ≤ n ∧ n < 2 ^ 62)) (some (rngL 0 n.toNat)) = some ds from ed)
        cases h2
        refine ⟨G, s, .int n, rfl, fun v H' G' w r => ⟨n, by rw [r.int], (of_dec h1).1, (of_dec h1).2, q _ H' G' w src_rng⟩⟩
      | _ => cases ed
theorem i_rng2 {lo : Bool} {e' : Expr} {m' : Option D} (hg : Gl X "range") (hm : X.mg "range" = none) (h : PE X e (tR (rV X.K) X.K H0 G0 δ m)) (h' : PE X e' (tR (rV X.K) X.K H0 G0 δ m')) (hs : starEach [e, e'] X.env = [(false, eval e X.env), (false, eval e' X.env)] := by rfl) (hs2 : starEach [e'] X.env = [(false, eval e' X.env)] := by rfl) :
    PI X tg (.Call (.Name "range" p2) [e, e'] [] pos) (tI lo (ρ1 X.K) X.K H0 G0 δ (b2 rng2 m m')) :=
  PI_imp (pi_range2 hg hm (pa_cons h (pa_cons h' pa_nil (hs := hs2)) (hs := by rw [hs, hs2])) hs hs2) fun σ H R ⟨G, s, ds, ed, q⟩ => by
    cases m with
    | none => cases ed
    | some c =>
      cases m' with
      | none => cases ed
      | some d =>
        cases c with
        | int l =>
          cases d with
          | int n =>
            obtain ⟨h1, h2⟩ := grd_some (show grd (decide (-(2 ^ 62) ≤ l ∧ l < 2 ^ 62 ∧ -(2 ^ 62) ≤ n ∧ n < 2 ^ 62)) (some (rngL l (n - l).toNat)) = some ds from ed)
            cases h2
            refine ⟨G, s, .int l, rfl, fun v H' G' w r => ?_⟩
            refine ⟨G', s.grow w, .int n, rfl, fun v2 H2 G2 w2 r2 => ?_⟩
            exact ⟨l, n, by rw [r.int, r2.int], of_dec h1, q _ H2 G2 (w.trans w2) src_rng⟩
          | _ => cases ed
        | _ => cases ed
/-- enumerate(e) of a list; zip(a, b) of two lists -/
theorem i_enum {lo : Bool} {elts : List Expr} {kk : Nat} {tpos : Pos} (hg : Gl X "enumerate") (hm : X.mg "enumerate" = none) (h : PE X e (tR (rW lo X.K H0) X.K H0 G0 δ m)) (hs : starEach [e] X.env = [(false, eval e X.env)] := by rfl) :
    PI X (.Tuple elts kk tpos) (.Call (.Name "enumerate" p2) [e] [] pos) (tI lo (ρ2 X.K) X.K H0 G0 δ ((m.bind listD).map (enL 0))) :=
  PI_imp (pi_enum hg hm (pa_cons h pa_nil (hs := hs)) hs) fun σ H R ⟨G, s, ds, ed, q⟩ => by
    cases m with
    | none => cases ed
    | some d =>
      cases d with
      | list es =>
        cases ed
        refine ⟨G, s, _, rfl, fun v H' G' w r => ?_⟩
        have eb : Ex (bsel lo H0 H') H' := by
          cases lo with
          | true => exact s.gr.h.trans w.h
          | false => exact Ex.refl _
        have go : ∀ (p : Addr) (vs : List V), (∀ H G, Ex G' G → Ex G H → Ex (bsel lo H0 H') H → SqL X.K H p vs) → DpAll X.K G' vs es → SrcOk (ρ2 X.K) (bsel lo H0 H') G' (Ite X.K p) (enL 0 es) := fun p vs sp ap H G eg gh eh i => by
          have s := sp H G eg gh eh
          refine ⟨fun d ed => ?_, fun hl => ⟨vs, s, by rw [ap.length, ← enL_length es 0]; exact hl⟩⟩
          rw [enL_get] at ed
          cases hd : es[i]? with
          | none => rw [hd] at ed; cases ed
          | some d0 =>
            rw [hd] at ed
            cases ed
            obtain ⟨v, h1, h2⟩ := ap.get hd
            refine ⟨⟨vs, v, s, h1⟩, fun x H2 ⟨T, y, e1, e2, e3, e4⟩ => ?_⟩
            have e5 := e4 vs s
            rw [h1] at e5
            cases e5
            subst e3
            have en : Ex G (upd G T (.tup [.int (i : Nat), v])) := Ex.new (gh.none e2)
            refine ⟨upd G T (.tup [.int (i : Nat), v]), Grow.newF gh e2, T, _, _, e1, .inl (.inl upd_same), ?_, (h2.to eg).to en⟩
            rw [Nat.zero_add]
            exact .int _
        rcases r with r | ⟨p, vs, es', rfl, e2, r1, r2⟩
        · cases r with
          | lst hs ha => exact ⟨_, _, rfl, ex_l w.gh hs, q _ H' G' w (go _ _ (fun H G eg gh _ => ex_l gh (ex_l eg hs)) ha)⟩
        · cases e2
          exact ⟨p, vs, rfl, ex_l eb r1, q _ H' G' w (go _ _ (fun H G _ _ eh => ex_l eh r1) r2)⟩
      | _ => cases ed
theorem i_zip {e' : Expr} {m' : Option D} {elts : List Expr} {kk : Nat} {tpos : Pos} (hg : Gl X "zip") (hm : X.mg "zip" = none) (h : PE X e (tR (rV X.K) X.K H0 G0 δ m)) (h' : PE X e' (tR (rV X.K) X.K H0 G0 δ m'))
    (hs : starEach [e, e'] X.env = (false, eval e X.env) :: starEach [e'] X.env := by rfl) (hs2 : starEach [e'] X.env = (false, eval e' X.env) :: starEach [] X.env := by rfl) (hpl : (backTo pos (starEach [e'] X.env)).any (·.1) = false := by rfl) :
    PI X (.Tuple elts kk tpos) (.Call (.Name "zip" p2) [e, e'] [] pos) (tI false (ρ2 X.K) X.K H0 G0 δ (b2 (fun c d => some (List.zip c d)) (m.bind listD) (m'.bind listD))) :=
  PI_imp (pi_zip hg hm (pa_cons h (pa_cons h' pa_nil (hs := hs2)) (hs := hs)) hs hpl) fun σ H R ⟨G, s, ds, ed, q⟩ => by
    cases m with
    | none => cases ed
    | some c =>
      cases c with
      | list cs =>
        cases m' with
        | none => cases ed
        | some d =>
          cases d with
          | list es =>
            cases ed
            refine ⟨G, s, _, rfl, fun v H' G' w r => ?_⟩
            refine ⟨G', s.grow w, _, rfl, fun v2 H2 G2 w2 r2 => ?_⟩
            have r' := r.to w2.h w2.g
            obtain ⟨p, vs, rfl, sp, ap⟩ := r'.list w2.gh
            obtain ⟨p2, vs2, rfl, sp2, ap2⟩ := r2.list w2.gh
            refine ⟨p, p2, vs, vs2, rfl, sp, sp2, q _ H2 G2 (w.trans w2) fun H3 G3 eg gh eh i => ?_⟩
            have s1 : SqL X.K H3 p vs := ex_l eh sp
            have s2 : SqL X.K H3 p2 vs2 := ex_l eh sp2
            refine ⟨fun dd ed => ?_, fun hl => ⟨vs, vs2, s1, s2, ?_⟩⟩
            · rw [List.getElem?_zip_eq_some] at ed
              obtain ⟨e1, e2⟩ := ed
              obtain ⟨v, h1, h2⟩ := ap.get e1
              obtain ⟨v', h1', h2'⟩ := ap2.get e2
              refine ⟨⟨vs, vs2, v, v', s1, s2, h1, h1'⟩, fun x H4 ⟨T, y, y', f1, f2, f3, f4, f5⟩ => ?_⟩
              have e5 := f4 vs s1
              rw [h1] at e5
              cases e5
              have e6 := f5 vs2 s2
              rw [h1'] at e6
              cases e6
              subst f3
              have en : Ex G3 (upd G3 T (.tup [v, v'])) := Ex.new (gh.none f2)
              exact ⟨_, Grow.newF gh f2, T, _, _, f1, .inl (.inl upd_same), (h2.to eg).to en, (h2'.to eg).to en⟩
            · rw [List.length_zip] at hl
              rw [ap.length, ap2.length]
              omega
          | _ => cases ed
      | _ => cases m' <;> cases ed
end

/-! ### comprehensions -/
def lcM {ι : Type} (c : ι → Option Bool) (f : ι → Option D) : List ι → Option (List D)
  | [] => some []
  | d :: r => (c d).bind fun b => if b then (f d).bind fun y => (lcM c f r).map (y :: ·) else lcM c f r
def lcG {ι : Type} (m : Option (List ι)) (c : ι → Option Bool) (f : ι → Option D) : Option (List D) := m.bind fun ds => grd (decide (ds.length ≤ LN)) (lcM c f ds)
theorem lcM_len {ι : Type} {c : ι → Option Bool} {f : ι → Option D} : ∀ {ds : List ι} {es : List D}, lcM c f ds = some es → es.length ≤ ds.length
  | [], es, h => by cases h; exact Nat.le_refl _
  | d :: r, es, h => by
    unfold lcM at h
    cases hc : c d with
    | none => rw [hc] at h; cases h
    | some b =>
      rw [hc] at h
      cases b with
      | false =>
        have := lcM_len (ds := r) (es := es) h
        rw [List.length_cons]
        omega
      | true =>
        have h : (f d).bind (fun y => (lcM c f r).map (y :: ·)) = some es := h
        cases hf : f d with
        | none => rw [hf] at h; cases h
        | some y =>
          rw [hf] at h
          have h : (lcM c f r).map (y :: ·) = some es := h
          cases hr : lcM c f r with
          | none => rw [hr] at h; cases h
          | some ys =>
            rw [hr] at h
            cases h
            have := lcM_len hr
            rw [List.length_cons, List.length_cons]
            omega
section
variable {X : Cx} {H0 G0 : Hp} {δ : En} {e a b tg : Expr} {pos p2 : Pos} {K : PySem.W.Frag}
theorem wipe_set {σ : L2.St} {j : Nat} {x : Option V} : wipe ((wipe σ [j]).set j x) [j] = wipe σ [j] := by
  show ((σ.set j none).set j x).set j none = σ.set j none
  rw [List.set_set, List.set_set]
theorem wipe_set2 {σ : L2.St} {i j : Nat} {x y : Option V} : wipe (((wipe σ [i, j]).set i x).set j y) [i, j] = wipe σ [i, j] := by
  show ((((((σ.set j none).set i none).set i x).set j y).set j none).set i none) = (σ.set j none).set i none
  apply List.ext_getElem?
  intro n
  by_cases h1 : n = i
  · subst h1
    simp [List.getElem?_set]
  · by_cases h2 : n = j
    · subst h2
      simp [List.getElem?_set, h1, Ne.symm h1]
    · simp [List.getElem?_set, h1, h2, Ne.symm h1, Ne.symm h2]
/-- the heart of a comprehension: items by SrcOk, the target's store told by gT -/
theorem lc_go {ι : Type} {ρ : ι → V → Hp → Prop} {g : TG} {tt : TT} {te : TE} {vs : List Nat} {σ : L2.St} {H1 G1 : Hp} {Dl : Addr} {Q : VK} {J : It} {ds : List ι} {es : List D} {c : ι → Option Bool} {f : ι → Option D} {δx : ι → En}
    (hl : ds.length ≤ LN) (src : SrcOk ρ H1 G1 J ds) (e1 : Ex G1 H1) (hes : lcM c f ds = some es) (hD : H1 Dl = none)
    (gT : ∀ d x H G (R : L2.St → Hp → Prop), Grow H1 G1 H G → ρ d x G → (∀ σ2, wipe σ2 vs = wipe σ vs → S8 K H0 G0 (δx d) σ2 H G → R σ2 H) → g x (wipe σ vs) H R)
    (tT' : ∀ d σ2 H (R : Bool → Hp → Prop), tT K H0 G0 (δx d) (c d) σ2 H R → tt σ2 H R) (tE : ∀ d σ2 H (R : VK), tR (rF K) K H0 G0 (δx d) (f d) σ2 H R → te σ2 H R)
    (q : ∀ H' G', Grow H1 G1 H' G' → (∃ ys, H' Dl = some (.lst ys) ∧ G' Dl = none ∧ DpAll K G' ys es) → Q (.ref Dl) H') :
    ∃ W : Nat → Nat → Hp → Prop, (∃ m, W 0 m (upd H1 Dl (.lst []))) ∧ ∀ i m H, W i m H →
      (J.stop i H ∧ Q (.ref Dl) H) ∨ (J.go i H ∧ ∃ Nx : Hp → Prop, (∀ H', Nx H' → ∃ m', m' < m ∧ W (i + 1) m' H') ∧ ∀ x H', J.yld i H x H' → g x (wipe σ vs) H' fun σ2 H2 => wipe σ2 vs = wipe σ vs ∧ tt σ2 H2 fun b H3 =>
        if b = true then te σ2 H3 fun y H4 => ∃ acc, H4 Dl = some (.lst acc) ∧ acc.length < sizeLine ∧ Nx (upd H4 Dl (.lst (acc ++ [y]))) else Nx H3) := by
  let P : Nat → Hp → Prop := fun i H => i ≤ ds.length ∧ ∃ G ys es1 es2, Grow H1 G1 H G ∧ H Dl = some (.lst ys) ∧ G Dl = none ∧ DpAll K G ys es1 ∧ es1.length ≤ i ∧ lcM c f (ds.drop i) = some es2 ∧ es = es1 ++ es2
  refine ⟨fun i m H => m = ds.length - i ∧ P i H, ⟨_, rfl, Nat.zero_le _, G1, [], [], es, Grow.newO e1 hD, upd_same, e1.none hD, .nil, Nat.le_refl _, hes, rfl⟩, ?_⟩
  rintro i m H ⟨rfl, hi, G, ys, es1, es2, w, hDl, gDl, ha, hn, hr, rfl⟩
  obtain ⟨s1, s2⟩ := src H G w.g w.gh w.h i
  by_cases hlt : i < ds.length
  · have hd : ds[i]? = some ds[i] := List.getElem?_eq_getElem hlt
    have hdrop : ds.drop i = ds[i] :: ds.drop (i + 1) := List.drop_eq_getElem_cons hlt
    obtain ⟨go, yl⟩ := s1 _ hd
    refine .inr ⟨go, P (i + 1), fun H' p => ⟨ds.length - (i + 1), by omega, rfl, p⟩, fun x H' hy => ?_⟩
    obtain ⟨G', w', hρ⟩ := yl x H' hy
    have ww := w.trans w'
    have hDl' : H' Dl = some (.lst ys) := w'.h _ _ hDl
    have gDl' : G' Dl = none := w'.nw _ _ hDl gDl
    refine gT ds[i] x H' G' _ ww hρ fun σ2 hw S => ⟨hw, ?_⟩
    rw [hdrop] at hr
    unfold lcM at hr
    cases hc : c ds[i] with
    | none => rw [hc] at hr; cases hr
    | some b =>
      rw [hc] at hr
      refine tT' ds[i] σ2 H' _ ⟨G', S, b, hc, fun H3 G3 w3 => ?_⟩
      have hDl3 : H3 Dl = some (.lst ys) := w3.h _ _ hDl'
      have gDl3 : G3 Dl = none := w3.nw _ _ hDl' gDl'
      cases b with
      | false =>
        show P (i + 1) H3
        exact ⟨hlt, G3, ys, es1, es2, ww.trans w3, hDl3, gDl3, (ha.to w'.g).to w3.g, by omega, hr, rfl⟩
      | true =>
        have hr : (f ds[i]).bind (fun y => (lcM c f (ds.drop (i + 1))).map (y :: ·)) = some es2 := hr
        cases hf : f ds[i] with
        | none => rw [hf] at hr; cases hr
        | some y =>
          rw [hf] at hr
          have hr : (lcM c f (ds.drop (i + 1))).map (y :: ·) = some es2 := hr
          cases hq : lcM c f (ds.drop (i + 1)) with
          | none => rw [hq] at hr; cases hr
          | some es3 =>
            rw [hq] at hr
            cases hr
            refine tE ds[i] σ2 H3 _ ⟨G3, S.grow w3, y, hf, fun v H4 G4 w4 r4 => ?_⟩
            have hDl4 : H4 Dl = some (.lst ys) := w4.h _ _ hDl3
            have gDl4 : G4 Dl = none := w4.nw _ _ hDl3 gDl3
            have wz := (ww.trans w3).trans w4
            refine ⟨ys, hDl4, ln_lt ?_, hlt, G4, ys ++ [v], es1 ++ [y], es3, ⟨wz.gh.mut gDl4, wz.g, wz.h.mut hD, wz.nw⟩, upd_same, gDl4, ((((ha.to w'.g).to w3.g).to w4.g)).append (.cons r4 .nil), ?_, hq, by simp⟩
            · rw [ha.length]
              exact Nat.lt_of_lt_of_le (Nat.lt_of_le_of_lt hn hlt) hl
            · rw [List.length_append]
              simp
              omega
  · have ei : i = ds.length := by omega
    subst ei
    refine .inl ⟨s2 (Nat.le_refl _), ?_⟩
    rw [List.drop_length] at hr
    cases hr
    rw [List.append_nil] at q
    exact q H G w ⟨ys, hDl, gDl, ha⟩
end
end Bd
/-! Bd5: comprehensions, calls, statements, defs. -/
namespace Bd
open PySem PySem.Spec PyProof.Rows L2 Evl
section
variable {X : Cx} {H0 G0 : Hp} {δ : En} {e a b tg : Expr} {pos p2 : Pos} {K : PySem.W.Frag}
abbrev wp1 (δ : En) (j : Nat) : En := put δ j .no
abbrev wp2 (δ : En) (i j : Nat) : En := put (put δ j .no) i .no
/-- a comprehension's tests -/
def tYesT (K : PySem.W.Frag) (H0 G0 : Hp) (δ : En) : TT := tT K H0 G0 δ (some true)
theorem c_yes : PTs X [] (tT X.K H0 G0 δ (some true)) := ⟨fun pins s σ H Q I w => by
  obtain ⟨G, S, b, eb, q⟩ := w
  cases eb
  exact pts_nil.run pins s σ H Q I (q H G (.refl S.gh))⟩
theorem c_one {c : Expr} {m : Option Bool} (h : PT X c (tT X.K H0 G0 δ m)) : PTs X [c] (tT X.K H0 G0 δ m) := pts_one h
/-- the reading of a comprehension whose block's readings hang on the item -/
def tAll {ι α : Type} {R : Rel α} (K : PySem.W.Frag) (H0 G0 : Hp) (δx : ι → En) (f : ι → Option α) : TE := fun σ H Q => ∃ d, tR R K H0 G0 (δx d) (f d) σ H Q
theorem PE_ex {ι : Type} {t : ι → TE} (h : ∀ d, PE X e (t d)) : PE X e (fun σ H Q => ∃ d, t d σ H Q) := ⟨fun pins s σ H Q I ⟨d, w⟩ => (h d).run pins s σ H Q I w⟩
theorem PTs_ex {ι : Type} {es : List Expr} {t : ι → TT} (h : ∀ d, PTs X es (t d)) : PTs X es (fun σ H Q => ∃ d, t d σ H Q) := ⟨fun pins s σ H Q I ⟨d, w⟩ => (h d).run pins s σ H Q I w⟩
section
variable {elt iter : Expr} {ifs : List Expr} {scope : Scope}
theorem lc_read1 {j : Nat} {ms : Option (List D)} {c : D → Option Bool} {f : D → Option D} {σ : L2.St} {H : Hp} {Q : VK} {K : PySem.W.Frag}
    (hj : j < δ.length) (h : tR (rO K) K H0 G0 δ (lcG ms c f) σ H Q) :
    tLc (tI false (ρ1 K) K H0 G0 δ ms) (gName j) (fun σ H Q => ∃ d, tT K H0 G0 (put (wp1 δ j) j (.fr d)) (c d) σ H Q) (fun σ H Q => ∃ d, tR (rF K) K H0 G0 (put (wp1 δ j) j (.fr d)) (f d) σ H Q) [j] σ H Q := by
  obtain ⟨G, s, es, ees, q⟩ := h
  cases ms with
  | none => cases ees
  | some ds =>
    obtain ⟨h1, h2⟩ := grd_some (show grd (decide (ds.length ≤ LN)) (lcM c f ds) = some es from ees)
    refine ⟨G, s, ds, rfl, fun J H' G' w src0 Dl hD => ?_⟩
    have src : SrcOk _ H' G' J ds := src0
    refine lc_go (K := K) (H0 := H0) (G0 := G0) (δx := fun d => put (wp1 δ j) j (.fr d)) (c := c) (f := f) (g := gName j) (tt := fun σ H Q => ∃ d, tT K H0 G0 (put (wp1 δ j) j (.fr d)) (c d) σ H Q) (te := fun σ H Q => ∃ d, tR (rF K) K H0 G0 (put (wp1 δ j) j (.fr d)) (f d) σ H Q) (vs := [j]) (σ := σ) (Q := Q) (of_dec h1) src w.gh h2 hD (fun d x H2 G2 R w2 hx k => ?_) (fun d σ2 H2 R t => ⟨d, t⟩) (fun d σ2 H2 R t => ⟨d, t⟩) fun H2 G2 w2 ⟨ys, y1, y2, y3⟩ => ?_
    · show R ((wipe σ [j]).set j (some x)) H2
      refine k _ wipe_set ?_
      have S : S8 K H0 G0 (wp1 δ j) (wipe σ [j]) H2 G2 := ((s.grow w).grow w2).wipe1
      exact S.setF (by rw [put_length]; exact hj) hx
    · exact q _ H2 G2 (w.trans w2) ⟨Dl, ys, rfl, w.h.none hD, y2, y1, y3⟩
theorem lc_read2 {i j : Nat} {ms : Option (List (D × D))} {c : D × D → Option Bool} {f : D × D → Option D} {σ : L2.St} {H : Hp} {Q : VK} {K : PySem.W.Frag}
    (hi : i < δ.length) (hj : j < δ.length) (h : tR (rO K) K H0 G0 δ (lcG ms c f) σ H Q) :
    tLc (tI false (ρ2 K) K H0 G0 δ ms) (gTup K 2 (gCons (gName i) (gCons (gName j) gNil))) (fun σ H Q => ∃ d : D × D, tT K H0 G0 (put (put (wp2 δ i j) i (.fr d.1)) j (.fr d.2)) (c d) σ H Q) (fun σ H Q => ∃ d : D × D, tR (rF K) K H0 G0 (put (put (wp2 δ i j) i (.fr d.1)) j (.fr d.2)) (f d) σ H Q) [i, j] σ H Q := by
  obtain ⟨G, s, es, ees, q⟩ := h
  cases ms with
  | none => cases ees
  | some ds =>
    obtain ⟨h1, h2⟩ := grd_some (show grd (decide (ds.length ≤ LN)) (lcM c f ds) = some es from ees)
    refine ⟨G, s, ds, rfl, fun J H' G' w src0 Dl hD => ?_⟩
    have src : SrcOk _ H' G' J ds := src0
    refine lc_go (K := K) (H0 := H0) (G0 := G0) (δx := fun d : D × D => put (put (wp2 δ i j) i (.fr d.1)) j (.fr d.2)) (c := c) (f := f) (g := gTup K 2 (gCons (gName i) (gCons (gName j) gNil))) (tt := fun σ H Q => ∃ d : D × D, tT K H0 G0 (put (put (wp2 δ i j) i (.fr d.1)) j (.fr d.2)) (c d) σ H Q) (te := fun σ H Q => ∃ d : D × D, tR (rF K) K H0 G0 (put (put (wp2 δ i j) i (.fr d.1)) j (.fr d.2)) (f d) σ H Q) (vs := [i, j]) (σ := σ) (Q := Q) (of_dec h1) src w.gh h2 hD (fun d x H2 G2 R w2 hx k => ?_) (fun d σ2 H2 R t => ⟨d, t⟩) (fun d σ2 H2 R t => ⟨d, t⟩) fun H2 G2 w2 ⟨ys, y1, y2, y3⟩ => ?_
    · obtain ⟨T, va, vb, ex, hT, ha, hb⟩ := hx
      refine ⟨T, [va, vb], ex, ex_t w2.gh hT, rfl, va, [vb], rfl, vb, [], rfl, rfl, ?_⟩
      refine k _ wipe_set2 ?_
      have S : S8 K H0 G0 (wp2 δ i j) (wipe σ [i, j]) H2 G2 := (((s.grow w).grow w2).wipe1).wipe1
      exact (S.setF (by rw [put_length, put_length]; exact hi) ha).setF (by rw [put_length, put_length, put_length]; exact hj) hb
    · exact q _ H2 G2 (w.trans w2) ⟨Dl, ys, rfl, w.h.none hD, y2, y1, y3⟩
theorem x_lc1 {j : Nat} {xn : Str} {px : Pos} {ms : Option (List D)} {c : D → Option Bool} {f : D → Option D} (hc : X.calm = true) (hN : X.N.Nodup) (hj : j < δ.length) (hi : PI X (.Name xn px) iter (tI false (ρ1 X.K) X.K H0 G0 δ ms)) (ok : BlkOk X.N X.env.scope scope [(xn, j)])
    (hg : ∀ (s : Shared) (H : Hp) (C : Addr) (cl : List (Str × Addr)) (fp : List Addr), PG (X.blk s H scope (compEnvC scope cl C X.env) fp) (.Name xn px) (gName j))
    (ht : ∀ (s : Shared) (H : Hp) (C : Addr) (cl : List (Str × Addr)) (fp : List Addr) (d : D), PTs (X.blk s H scope (compEnvC scope cl C X.env) fp) ifs (tT X.K H0 G0 (put (wp1 δ j) j (.fr d)) (c d)))
    (he : ∀ (s : Shared) (H : Hp) (C : Addr) (cl : List (Str × Addr)) (fp : List Addr) (d : D), PE (X.blk s H scope (compEnvC scope cl C X.env) fp) elt (tR (rF X.K) X.K H0 G0 (put (wp1 δ j) j (.fr d)) (f d)))
    (hs : ∀ x, foldedSetIterable iter X.env x = pure x := by intro _; rfl) :
    PE X (.ListComp elt [⟨.Name xn px, iter, ifs, 0⟩] scope pos) (tR (rO X.K) X.K H0 G0 δ (lcG ms c f)) :=
  PE_imp (pe_lc (own := [(xn, j)]) (g := gName j) hc hN hi ok hg (fun s H C cl fp => PTs_ex fun d => ht s H C cl fp d) (fun s H C cl fp => PE_ex fun d => he s H C cl fp d) hs) fun _ _ _ h => lc_read1 hj h
theorem x_lc2 {i j : Nat} {xn yn : Str} {px py pt : Pos} {kk : Nat} {ms : Option (List (D × D))} {c : D × D → Option Bool} {f : D × D → Option D} (hc : X.calm = true) (hN : X.N.Nodup) (hi' : i < δ.length) (hj : j < δ.length) (hi : PI X (.Tuple [.Name xn px, .Name yn py] kk pt) iter (tI false (ρ2 X.K) X.K H0 G0 δ ms)) (ok : BlkOk X.N X.env.scope scope [(xn, i), (yn, j)])
    (hg : ∀ (s : Shared) (H : Hp) (C : Addr) (cl : List (Str × Addr)) (fp : List Addr), PG (X.blk s H scope (compEnvC scope cl C X.env) fp) (.Tuple [.Name xn px, .Name yn py] kk pt) (gTup X.K 2 (gCons (gName i) (gCons (gName j) gNil))))
    (ht : ∀ (s : Shared) (H : Hp) (C : Addr) (cl : List (Str × Addr)) (fp : List Addr) (d : D × D), PTs (X.blk s H scope (compEnvC scope cl C X.env) fp) ifs (tT X.K H0 G0 (put (put (wp2 δ i j) i (.fr d.1)) j (.fr d.2)) (c d)))
    (he : ∀ (s : Shared) (H : Hp) (C : Addr) (cl : List (Str × Addr)) (fp : List Addr) (d : D × D), PE (X.blk s H scope (compEnvC scope cl C X.env) fp) elt (tR (rF X.K) X.K H0 G0 (put (put (wp2 δ i j) i (.fr d.1)) j (.fr d.2)) (f d)))
    (hs : ∀ x, foldedSetIterable iter X.env x = pure x := by intro _; rfl) :
    PE X (.ListComp elt [⟨.Tuple [.Name xn px, .Name yn py] kk pt, iter, ifs, 0⟩] scope pos) (tR (rO X.K) X.K H0 G0 δ (lcG ms c f)) :=
  PE_imp (pe_lc (own := [(xn, i), (yn, j)]) (g := gTup X.K 2 (gCons (gName i) (gCons (gName j) gNil))) hc hN hi ok hg (fun s H C cl fp => PTs_ex fun d => ht s H C cl fp d) (fun s H C cl fp => PE_ex fun d => he s H C cl fp d) hs) fun _ _ _ h => lc_read2 hi' hj h
end
/-! ### calls of own defs -/
def spR {α : Type} (R : Rel α) (K : PySem.W.Frag) (bs : List Bool) (mf : Nat → List D → Option α) : Sp := fun vs H Q _ => ∃ G ds d n, Ex G H ∧ ArgsOk K H G bs vs ds ∧ mf n ds = some d ∧ ∀ v H' G', Grow H G H' G' → R H H' G' v d → Q v H'
theorem args_len {K : PySem.W.Frag} {H G : Hp} : ∀ {bs : List Bool} {vs : List V} {ds : List D}, ArgsOk K H G bs vs ds → vs.length = bs.length ∧ ds.length = bs.length
  | [], [], [], _ => ⟨rfl, rfl⟩
  | b :: bs, v :: vs, d :: ds, h => by
    obtain ⟨h1, h2⟩ := args_len (bs := bs) h.2
    exact ⟨by rw [List.length_cons, List.length_cons, h1], by rw [List.length_cons, List.length_cons, h2]⟩
  | [], [], _ :: _, h => h.elim
  | [], _ :: _, _, h => h.elim
  | _ :: _, [], _, h => h.elim
  | _ :: _, _ :: _, [], h => h.elim
/-- a def of the text that keeps its promise, as its callers see it -/
structure Cal (P : Program) (w : World) (K : PySem.W.Frag) (mg : Str → Option Value) (base : Heap) (x : Str) (ps : List Str) (k : Nat) (sp : Sp) : Prop where
  ex : ∃ f fd, FnOk P w K mg base CX0 k f fd ps sp ∧ mg x = some (.ref f) ∧ PySem.W.keepIn K (.ref f) = true ∧ Binds K fd ps []
theorem x_call {α : Type} {R : Rel α} {k : Nat} {x : Str} {ps : List Str} {bs : List Bool} {mf : Nat → List D → Option α} {es : List Expr} {ms : Option (List D)} (C : Cal X.prog X.w X.K X.mg X.base x ps k (spR R X.K bs mf)) (n : Nat) (hr : Room k X.A) (hg : Gl X x)
    (ww : ∀ H1 H2 H3 G2 v c, Ex H1 H2 → R H2 H3 G2 v c → R H1 H3 G2 v c) (ha : PA X (e :: es) (tAr X.K H0 G0 δ bs ms)) (hd : (x == ("__debug__" : Str)) = false := by decide)
    (he : starEach (e :: es) X.env = (false, eval e X.env) :: starEach es X.env := by rfl) (hpl : (backTo pos (starEach es X.env)).any (·.1) = false := by rfl) :
    PE X (.Call (.Name x p2) (e :: es) [] pos) (tR R X.K H0 G0 δ (ms.bind (mf n))) := by
  obtain ⟨f, fd, F, hm, hk, hb⟩ := C.ex
  exact PE_imp (pe_call (E := E0) F hr hg hm hk hb .nil pass0 ha hd he hpl) fun σ H Q ⟨G, s, c, ec, q⟩ => by
    cases ms with
    | none => cases ec
    | some ds =>
      refine ⟨G, s, ds, rfl, fun vs H1 G1 w r => ?_⟩
      show spR R X.K bs mf (vs ++ []) H1 Q E0
      rw [show vs ++ [] = vs from List.append_nil vs]
      exact ⟨G1, ds, c, n, w.gh, r, ec, fun v H2 G2 w2 r2 => q v H2 G2 (w.trans w2) (ww _ _ _ _ _ _ w.h r2)⟩
theorem ww_F : ∀ (H1 H2 H3 G2 : Hp) v c, Ex H1 H2 → rF K H2 H3 G2 v c → rF K H1 H3 G2 v c := fun _ _ _ _ _ _ _ h => h
theorem ww_O : ∀ (H1 H2 H3 G2 : Hp) v c, Ex H1 H2 → rO K H2 H3 G2 v c → rO K H1 H3 G2 v c := fun _ _ _ _ _ _ e ⟨p, vs, h1, h2, h3⟩ => ⟨p, vs, h1, e.none h2, h3⟩
end

/-! ### statements -/
def bnd {α β : Type} (m : Option α) (k : α → Option β) : Option β := m.bind k
inductive Fl (S α : Type) where
  | nx (s : S) | rt (d : α)
abbrev Zt (T : Type) := Hp → Hp → Hp → T → Ends → Prop
def tS {T : Type} (Z : Zt T) (K : PySem.W.Frag) (H0 G0 : Hp) (δ : En) (m : Option T) : TS := fun E σ H => ∃ G, S8 K H0 G0 δ σ H G ∧ ∃ t, m = some t ∧ Z H0 G0 G t E
def zQ {α : Type} (R : Rel α) : Zt α := fun H0 G0 _ d E => ∀ v H' G', Grow H0 G0 H' G' → R H0 H' G' v d → E.rt v H'
def zN {S : Type} (K : PySem.W.Frag) (enc : S → En) : Zt S := fun H0 G0 G s E => ∀ σ' H' G', Ex G G' → S8 K H0 G0 (enc s) σ' H' G' → E.nx σ' H'
def zM {S α : Type} (R : Rel α) (K : PySem.W.Frag) (enc : S → En) : Zt (Fl S α) := fun H0 G0 G f E => match f with
  | .nx s => zN K enc H0 G0 G s E
  | .rt d => zQ R H0 G0 G d E
/-- an outcome that holds from a moment on holds from a later one on -/
class ZC {T : Type} (Z : Zt T) : Prop where
  mono : ∀ {H0 G0 G G' : Hp} {t : T} {E : Ends}, Ex G G' → Z H0 G0 G t E → Z H0 G0 G' t E
instance {α : Type} (R : Rel α) : ZC (zQ R) := ⟨fun _ q => q⟩
instance {S : Type} (K : PySem.W.Frag) (enc : S → En) : ZC (zN K enc) := ⟨fun e q σ' H' G' e' s => q σ' H' G' (e.trans e') s⟩
instance {S α : Type} (R : Rel α) (K : PySem.W.Frag) (enc : S → En) : ZC (zM R K enc) := ⟨fun {H0 G0 G G' t E} e q => by
  cases t with
  | nx s => exact fun σ' H' G2 e' S => q σ' H' G2 (e.trans e') S
  | rt d => exact q⟩
theorem zcQ {α : Type} {R : Rel α} : ZC (zQ R) := inferInstance
theorem zcN {S : Type} {K : PySem.W.Frag} {enc : S → En} : ZC (zN K enc) := inferInstance
theorem zcM {S α : Type} {R : Rel α} {K : PySem.W.Frag} {enc : S → En} : ZC (zM R K enc) := inferInstance
section
variable {X : Cx} {H0 G0 : Hp} {δ : En} {e a b tg : Expr} {pos p2 px : Pos} {rest : List Stmt} {T : Type} {Z : Zt T}
/-! ends of blocks -/
theorem s_nilN {S : Type} {enc : S → En} {s : S} (mask : List Bool) (h : fg mask δ = enc s) : PSs X [] (tS (zN X.K enc) X.K H0 G0 δ (some s)) :=
  PSs_imp pss_nil fun E σ H ⟨G, S, t, et, q⟩ => by
    cases et
    exact q σ H G (Ex.refl G) (h ▸ S.fg mask)
theorem s_nilM {S α : Type} {R : Rel α} {enc : S → En} {s : S} (mask : List Bool) (h : fg mask δ = enc s) : PSs X [] (tS (zM R X.K enc) X.K H0 G0 δ (some (.nx s))) :=
  PSs_imp pss_nil fun E σ H ⟨G, S, t, et, q⟩ => by
    cases et
    exact q σ H G (Ex.refl G) (h ▸ S.fg mask)
theorem s_retQ {α : Type} {R : Rel α} {m : Option α} (ww : ∀ H1 H2 H3 G2 v c, Ex H1 H2 → R H2 H3 G2 v c → R H1 H3 G2 v c) (h : PE X e (tR R X.K H0 G0 δ m)) : PSs X (.Return (some e) pos :: rest) (tS (zQ R) X.K H0 G0 δ m) :=
  PSs_imp (pss_cons (ps_ret h) (pss_never (sts := rest))) fun E σ H ⟨G, S, t, et, q⟩ =>
    ⟨G, S, t, et, fun v H' G' w r => q v H' G' (S.gr.trans w) (ww _ _ _ _ _ _ S.gr.h r)⟩
theorem s_retM {S α : Type} {R : Rel α} {enc : S → En} {m : Option α} (ww : ∀ H1 H2 H3 G2 v c, Ex H1 H2 → R H2 H3 G2 v c → R H1 H3 G2 v c) (h : PE X e (tR R X.K H0 G0 δ m)) : PSs X (.Return (some e) pos :: rest) (tS (zM (S := S) R X.K enc) X.K H0 G0 δ (m.map .rt)) :=
  PSs_imp (pss_cons (ps_ret h) (pss_never (sts := rest))) fun E σ H ⟨G, S, t, et, q⟩ => by
    cases m with
    | none => cases et
    | some d =>
      cases et
      exact ⟨G, S, d, rfl, fun v H' G' w r => q v H' G' (S.gr.trans w) (ww _ _ _ _ _ _ S.gr.h r)⟩
/-- an own list is handed back -/
theorem s_retO {i : Nat} {ds : List D} (hn : PE X e (tVar i)) (h : nth δ i = .ow ds) : PSs X (.Return (some e) pos :: rest) (tS (zQ (rO X.K)) X.K H0 G0 δ (some ds)) :=
  PSs_imp (pss_cons (ps_ret hn) (pss_never (sts := rest))) fun E σ H ⟨G, S, t, et, q⟩ => by
    cases et
    have o := S.ok i
    rw [h] at o
    obtain ⟨p, vs, hp, h1, h2, h3, h4⟩ := o
    exact ⟨.ref p, hp, q _ H G S.gr ⟨p, vs, rfl, h1, h2, h3, h4⟩⟩
theorem s_never {st : Stmt} : PSs X (st :: rest) (tS Z X.K H0 G0 δ none) := PSs_imp (pss_cons ps_never (pss_never (sts := rest))) fun E σ H ⟨G, S, t, et, q⟩ => by cases et
theorem s_frz {i : Nat} {ds : List D} {sts : List Stmt} {m : Option T} (zc : ZC Z) (h : nth δ i = .ow ds) (k : PSs X sts (tS Z X.K H0 G0 (put δ i (.fr (.list ds))) m)) : PSs X sts (tS Z X.K H0 G0 δ m) :=
  PSs_imp k fun E σ H ⟨G, S, t, et, q⟩ => by
    obtain ⟨G', eg, S'⟩ := S.freeze h
    exact ⟨G', S', t, et, zc.mono eg q⟩
/-! name = value -/
structure Nm (X : Cx) (x : Str) (i : Nat) : Prop where
  nd : X.N.Nodup
  ix : X.N[i]? = some x
  lc : Loc X.env.scope x
  fn : X.fn x = true ∨ X.env.scope.names.lookup x = some .local
theorem s_set {x : Str} {i : Nat} {m : Option D} {k : D → Option T} (zc : ZC Z) (N : Nm X x i) (hi : i < δ.length) (h : PE X e (tR (rF X.K) X.K H0 G0 δ m)) (hr : ∀ d, PSs X rest (tS Z X.K H0 G0 (put δ i (.fr d)) (k d)))
    (hs : swapsWith e (some (.Name x px)) pos.line X.env = pure false) : PSs X (.Assign [.Name x px] e pos :: rest) (tS Z X.K H0 G0 δ (bnd m k)) := by
  cases m with
  | none => exact PSs_imp (pss_cons ps_never (pss_never (sts := rest))) fun E σ H ⟨G, S, t, et, q⟩ => by cases et
  | some d =>
    exact PSs_imp (pss_cons (ps_set N.nd N.ix N.lc h hs N.fn) (hr d)) fun E σ H ⟨G, S, t, et, q⟩ =>
      ⟨G, S, d, rfl, fun v H' G' w r => ⟨G', (S.grow w).setF hi r, t, et, zc.mono w.g q⟩⟩
theorem s_setO {x : Str} {i : Nat} {m : Option (List D)} {k : List D → Option T} (zc : ZC Z) (N : Nm X x i) (hi : i < δ.length) (h : PE X e (tR (rO X.K) X.K H0 G0 δ m)) (hr : ∀ d, PSs X rest (tS Z X.K H0 G0 (put δ i (.ow d)) (k d)))
    (hs : swapsWith e (some (.Name x px)) pos.line X.env = pure false) : PSs X (.Assign [.Name x px] e pos :: rest) (tS Z X.K H0 G0 δ (bnd m k)) := by
  cases m with
  | none => exact PSs_imp (pss_cons ps_never (pss_never (sts := rest))) fun E σ H ⟨G, S, t, et, q⟩ => by cases et
  | some d =>
    exact PSs_imp (pss_cons (ps_set N.nd N.ix N.lc h hs N.fn) (hr d)) fun E σ H ⟨G, S, t, et, q⟩ =>
      ⟨G, S, d, rfl, fun v H' G' w ⟨p, vs, ev, h1, h2, h3, h4⟩ => by
        subst ev
        exact ⟨G', S.setO w hi h1 h2 h3 h4, t, et, zc.mono w.g q⟩⟩
/-- name = [..] in the swapped form -/
theorem s_lcF {x : Str} {i : Nat} {m : Option (List D)} {k : D → Option T} {te : TE} (zc : ZC Z) (hi : i < δ.length) (h : PS X (.Assign [.Name x px] e pos) (tAsg te (gName i))) (ht : ∀ σ H Q, tR (rO X.K) X.K H0 G0 δ m σ H Q → te σ H Q) (hr : ∀ d, PSs X rest (tS Z X.K H0 G0 (put δ i (.fr d)) (k d))) :
    PSs X (.Assign [.Name x px] e pos :: rest) (tS Z X.K H0 G0 δ (bnd (lD m) k)) := by
  cases m with
  | none => exact PSs_imp (pss_cons ps_never (pss_never (sts := rest))) fun E σ H ⟨G, S, t, et, q⟩ => by cases et
  | some d =>
    exact PSs_imp (pss_cons h (hr (.list d))) fun E σ H ⟨G, S, t, et, q⟩ => by
      refine ht σ H _ ⟨G, S, d, rfl, fun v H' G' w ⟨p, vs, ev, h1, h2, h3, h4⟩ => ?_⟩
      subst ev
      have w' : Grow H G H' (upd G' p (.lst vs)) := ⟨fun a u ea => by
        by_cases hp : a = p
        · subst hp; rw [upd_same] at ea; rw [h3]; exact ea
        · rw [upd_ne hp] at ea; exact w.gh a u ea, w.g.trans (Ex.new h2), w.h, fun a u ea n => by
        rw [upd_ne (ne_of_none ea h1)]
        exact w.nw a u ea n⟩
      exact ⟨_, (S.grow w').setF hi (.lst (.inl (.inl upd_same)) (h4.to (Ex.new h2))), t, et, zc.mono w'.g q⟩
theorem s_lcO {x : Str} {i : Nat} {m : Option (List D)} {k : List D → Option T} {te : TE} (zc : ZC Z) (hi : i < δ.length) (h : PS X (.Assign [.Name x px] e pos) (tAsg te (gName i))) (ht : ∀ σ H Q, tR (rO X.K) X.K H0 G0 δ m σ H Q → te σ H Q) (hr : ∀ d, PSs X rest (tS Z X.K H0 G0 (put δ i (.ow d)) (k d))) :
    PSs X (.Assign [.Name x px] e pos :: rest) (tS Z X.K H0 G0 δ (bnd m k)) := by
  cases m with
  | none => exact PSs_imp (pss_cons ps_never (pss_never (sts := rest))) fun E σ H ⟨G, S, t, et, q⟩ => by cases et
  | some d =>
    exact PSs_imp (pss_cons h (hr d)) fun E σ H ⟨G, S, t, et, q⟩ => by
      refine ht σ H _ ⟨G, S, d, rfl, fun v H' G' w ⟨p, vs, ev, h1, h2, h3, h4⟩ => ?_⟩
      subst ev
      exact ⟨G', S.setO w hi h1 h2 h3 h4, t, et, zc.mono w.g q⟩
section
variable {elt iter : Expr} {ifs : List Expr} {scope : Scope} {spos py pt : Pos}
theorem q_lc1 {y : Str} {i j : Nat} {xn : Str} {ms : Option (List D)} {c : D → Option Bool} {f : D → Option D} (hc : X.calm = true) (hN : X.N.Nodup) (hy : X.N[i]? = some y) (hyl : X.env.scope.names.lookup y = some .local)
    (hsw : swapsWith (.ListComp elt [⟨.Name xn px, iter, ifs, 0⟩] scope pos) (some (.Name y py)) spos.line X.env = pure true) (hi : PI X (.Name xn px) iter (tI false (ρ1 X.K) X.K H0 G0 δ ms)) (ok : BlkOk X.N X.env.scope scope [(xn, j)])
    (hg : ∀ (s : Shared) (H : Hp) (C : Addr) (cl : List (Str × Addr)) (fp : List Addr), PG (X.blk s H scope (compEnvC scope cl C X.env) fp) (.Name xn px) (gName j))
    (ht : ∀ (s : Shared) (H : Hp) (C : Addr) (cl : List (Str × Addr)) (fp : List Addr) (d : D), PTs (X.blk s H scope (compEnvC scope cl C X.env) fp) ifs (tT X.K H0 G0 (put (wp1 δ j) j (.fr d)) (c d)))
    (he : ∀ (s : Shared) (H : Hp) (C : Addr) (cl : List (Str × Addr)) (fp : List Addr) (d : D), PE (X.blk s H scope (compEnvC scope cl C X.env) fp) elt (tR (rF X.K) X.K H0 G0 (put (wp1 δ j) j (.fr d)) (f d)))
    (hs : ∀ x, foldedSetIterable iter X.env x = pure x) :
    PS X (.Assign [.Name y py] (.ListComp elt [⟨.Name xn px, iter, ifs, 0⟩] scope pos) spos) (tAsg (tLc (tI false (ρ1 X.K) X.K H0 G0 δ ms) (gName j) (fun σ H Q => ∃ d, tT X.K H0 G0 (put (wp1 δ j) j (.fr d)) (c d) σ H Q) (fun σ H Q => ∃ d, tR (rF X.K) X.K H0 G0 (put (wp1 δ j) j (.fr d)) (f d) σ H Q) [j]) (gName i)) :=
  ps_setLc (i := i) (own := [(xn, j)]) (g := gName j) hc hN hy hyl hsw hi ok hg (fun s H C cl fp => PTs_ex fun d => ht s H C cl fp d) (fun s H C cl fp => PE_ex fun d => he s H C cl fp d) hs
theorem q_lc2 {y : Str} {l i j : Nat} {xn yn : Str} {ms : Option (List (D × D))} {kk : Nat} {pn : Pos} {c : D × D → Option Bool} {f : D × D → Option D} (hc : X.calm = true) (hN : X.N.Nodup) (hy : X.N[l]? = some y) (hyl : X.env.scope.names.lookup y = some .local)
    (hsw : swapsWith (.ListComp elt [⟨.Tuple [.Name xn px, .Name yn pn] kk pt, iter, ifs, 0⟩] scope pos) (some (.Name y py)) spos.line X.env = pure true) (hi : PI X (.Tuple [.Name xn px, .Name yn pn] kk pt) iter (tI false (ρ2 X.K) X.K H0 G0 δ ms)) (ok : BlkOk X.N X.env.scope scope [(xn, i), (yn, j)])
    (hg : ∀ (s : Shared) (H : Hp) (C : Addr) (cl : List (Str × Addr)) (fp : List Addr), PG (X.blk s H scope (compEnvC scope cl C X.env) fp) (.Tuple [.Name xn px, .Name yn pn] kk pt) (gTup X.K 2 (gCons (gName i) (gCons (gName j) gNil))))
    (ht : ∀ (s : Shared) (H : Hp) (C : Addr) (cl : List (Str × Addr)) (fp : List Addr) (d : D × D), PTs (X.blk s H scope (compEnvC scope cl C X.env) fp) ifs (tT X.K H0 G0 (put (put (wp2 δ i j) i (.fr d.1)) j (.fr d.2)) (c d)))
    (he : ∀ (s : Shared) (H : Hp) (C : Addr) (cl : List (Str × Addr)) (fp : List Addr) (d : D × D), PE (X.blk s H scope (compEnvC scope cl C X.env) fp) elt (tR (rF X.K) X.K H0 G0 (put (put (wp2 δ i j) i (.fr d.1)) j (.fr d.2)) (f d)))
    (hs : ∀ x, foldedSetIterable iter X.env x = pure x) :
    PS X (.Assign [.Name y py] (.ListComp elt [⟨.Tuple [.Name xn px, .Name yn pn] kk pt, iter, ifs, 0⟩] scope pos) spos) (tAsg (tLc (tI false (ρ2 X.K) X.K H0 G0 δ ms) (gTup X.K 2 (gCons (gName i) (gCons (gName j) gNil))) (fun σ H Q => ∃ d : D × D, tT X.K H0 G0 (put (put (wp2 δ i j) i (.fr d.1)) j (.fr d.2)) (c d) σ H Q) (fun σ H Q => ∃ d : D × D, tR (rF X.K) X.K H0 G0 (put (put (wp2 δ i j) i (.fr d.1)) j (.fr d.2)) (f d) σ H Q) [i, j]) (gName l)) :=
  ps_setLc (i := l) (own := [(xn, i), (yn, j)]) (g := gTup X.K 2 (gCons (gName i) (gCons (gName j) gNil))) hc hN hy hyl hsw hi ok hg (fun s H C cl fp => PTs_ex fun d => ht s H C cl fp d) (fun s H C cl fp => PE_ex fun d => he s H C cl fp d) hs
end
section
variable {elt iter : Expr} {ifs : List Expr} {scope : Scope} {spos py pt : Pos}
theorem s_lc1F {y : Str} {i j : Nat} {xn : Str} {ms : Option (List D)} {c : D → Option Bool} {f : D → Option D} {k : D → Option T} (zc : ZC Z) (hi' : i < δ.length) (hj : j < δ.length) (hc : X.calm = true) (hN : X.N.Nodup) (hy : X.N[i]? = some y) (hyl : X.env.scope.names.lookup y = some .local)
    (hsw : swapsWith (.ListComp elt [⟨.Name xn px, iter, ifs, 0⟩] scope pos) (some (.Name y py)) spos.line X.env = pure true) (hi : PI X (.Name xn px) iter (tI false (ρ1 X.K) X.K H0 G0 δ ms)) (ok : BlkOk X.N X.env.scope scope [(xn, j)])
    (hg : ∀ (s : Shared) (H : Hp) (C : Addr) (cl : List (Str × Addr)) (fp : List Addr), PG (X.blk s H scope (compEnvC scope cl C X.env) fp) (.Name xn px) (gName j))
    (ht : ∀ (s : Shared) (H : Hp) (C : Addr) (cl : List (Str × Addr)) (fp : List Addr) (d : D), PTs (X.blk s H scope (compEnvC scope cl C X.env) fp) ifs (tT X.K H0 G0 (put (wp1 δ j) j (.fr d)) (c d)))
    (he : ∀ (s : Shared) (H : Hp) (C : Addr) (cl : List (Str × Addr)) (fp : List Addr) (d : D), PE (X.blk s H scope (compEnvC scope cl C X.env) fp) elt (tR (rF X.K) X.K H0 G0 (put (wp1 δ j) j (.fr d)) (f d)))
    (hs : ∀ x, foldedSetIterable iter X.env x = pure x) (hr : ∀ d, PSs X rest (tS Z X.K H0 G0 (put δ i (.fr d)) (k d))) :
    PSs X (.Assign [.Name y py] (.ListComp elt [⟨.Name xn px, iter, ifs, 0⟩] scope pos) spos :: rest) (tS Z X.K H0 G0 δ (bnd (lD (lcG ms c f)) k)) :=
  s_lcF zc hi' (q_lc1 hc hN hy hyl hsw hi ok hg ht he hs) (fun _ _ _ h => lc_read1 hj h) hr
theorem s_lc2F {y : Str} {l i j : Nat} {xn yn : Str} {ms : Option (List (D × D))} {kk : Nat} {pn : Pos} {c : D × D → Option Bool} {f : D × D → Option D} {k : D → Option T} (zc : ZC Z) (hl : l < δ.length) (hi' : i < δ.length) (hj : j < δ.length) (hc : X.calm = true) (hN : X.N.Nodup) (hy : X.N[l]? = some y) (hyl : X.env.scope.names.lookup y = some .local)
    (hsw : swapsWith (.ListComp elt [⟨.Tuple [.Name xn px, .Name yn pn] kk pt, iter, ifs, 0⟩] scope pos) (some (.Name y py)) spos.line X.env = pure true) (hi : PI X (.Tuple [.Name xn px, .Name yn pn] kk pt) iter (tI false (ρ2 X.K) X.K H0 G0 δ ms)) (ok : BlkOk X.N X.env.scope scope [(xn, i), (yn, j)])
    (hg : ∀ (s : Shared) (H : Hp) (C : Addr) (cl : List (Str × Addr)) (fp : List Addr), PG (X.blk s H scope (compEnvC scope cl C X.env) fp) (.Tuple [.Name xn px, .Name yn pn] kk pt) (gTup X.K 2 (gCons (gName i) (gCons (gName j) gNil))))
    (ht : ∀ (s : Shared) (H : Hp) (C : Addr) (cl : List (Str × Addr)) (fp : List Addr) (d : D × D), PTs (X.blk s H scope (compEnvC scope cl C X.env) fp) ifs (tT X.K H0 G0 (put (put (wp2 δ i j) i (.fr d.1)) j (.fr d.2)) (c d)))
    (he : ∀ (s : Shared) (H : Hp) (C : Addr) (cl : List (Str × Addr)) (fp : List Addr) (d : D × D), PE (X.blk s H scope (compEnvC scope cl C X.env) fp) elt (tR (rF X.K) X.K H0 G0 (put (put (wp2 δ i j) i (.fr d.1)) j (.fr d.2)) (f d)))
    (hs : ∀ x, foldedSetIterable iter X.env x = pure x) (hr : ∀ d, PSs X rest (tS Z X.K H0 G0 (put δ l (.fr d)) (k d))) :
    PSs X (.Assign [.Name y py] (.ListComp elt [⟨.Tuple [.Name xn px, .Name yn pn] kk pt, iter, ifs, 0⟩] scope pos) spos :: rest) (tS Z X.K H0 G0 δ (bnd (lD (lcG ms c f)) k)) :=
  s_lcF zc hl (q_lc2 hc hN hy hyl hsw hi ok hg ht he hs) (fun _ _ _ h => lc_read2 hi' hj h) hr
theorem s_lc1O {y : Str} {i j : Nat} {xn : Str} {ms : Option (List D)} {c : D → Option Bool} {f : D → Option D} {k : List D → Option T} (zc : ZC Z) (hi' : i < δ.length) (hj : j < δ.length) (hc : X.calm = true) (hN : X.N.Nodup) (hy : X.N[i]? = some y) (hyl : X.env.scope.names.lookup y = some .local)
    (hsw : swapsWith (.ListComp elt [⟨.Name xn px, iter, ifs, 0⟩] scope pos) (some (.Name y py)) spos.line X.env = pure true) (hi : PI X (.Name xn px) iter (tI false (ρ1 X.K) X.K H0 G0 δ ms)) (ok : BlkOk X.N X.env.scope scope [(xn, j)])
    (hg : ∀ (s : Shared) (H : Hp) (C : Addr) (cl : List (Str × Addr)) (fp : List Addr), PG (X.blk s H scope (compEnvC scope cl C X.env) fp) (.Name xn px) (gName j))
    (ht : ∀ (s : Shared) (H : Hp) (C : Addr) (cl : List (Str × Addr)) (fp : List Addr) (d : D), PTs (X.blk s H scope (compEnvC scope cl C X.env) fp) ifs (tT X.K H0 G0 (put (wp1 δ j) j (.fr d)) (c d)))
    (he : ∀ (s : Shared) (H : Hp) (C : Addr) (cl : List (Str × Addr)) (fp : List Addr) (d : D), PE (X.blk s H scope (compEnvC scope cl C X.env) fp) elt (tR (rF X.K) X.K H0 G0 (put (wp1 δ j) j (.fr d)) (f d)))
    (hs : ∀ x, foldedSetIterable iter X.env x = pure x) (hr : ∀ d, PSs X rest (tS Z X.K H0 G0 (put δ i (.ow d)) (k d))) :
    PSs X (.Assign [.Name y py] (.ListComp elt [⟨.Name xn px, iter, ifs, 0⟩] scope pos) spos :: rest) (tS Z X.K H0 G0 δ (bnd (lcG ms c f) k)) :=
  s_lcO zc hi' (q_lc1 hc hN hy hyl hsw hi ok hg ht he hs) (fun _ _ _ h => lc_read1 hj h) hr
theorem s_lc2O {y : Str} {l i j : Nat} {xn yn : Str} {ms : Option (List (D × D))} {kk : Nat} {pn : Pos} {c : D × D → Option Bool} {f : D × D → Option D} {k : List D → Option T} (zc : ZC Z) (hl : l < δ.length) (hi' : i < δ.length) (hj : j < δ.length) (hc : X.calm = true) (hN : X.N.Nodup) (hy : X.N[l]? = some y) (hyl : X.env.scope.names.lookup y = some .local)
    (hsw : swapsWith (.ListComp elt [⟨.Tuple [.Name xn px, .Name yn pn] kk pt, iter, ifs, 0⟩] scope pos) (some (.Name y py)) spos.line X.env = pure true) (hi : PI X (.Tuple [.Name xn px, .Name yn pn] kk pt) iter (tI false (ρ2 X.K) X.K H0 G0 δ ms)) (ok : BlkOk X.N X.env.scope scope [(xn, i), (yn, j)])
    (hg : ∀ (s : Shared) (H : Hp) (C : Addr) (cl : List (Str × Addr)) (fp : List Addr), PG (X.blk s H scope (compEnvC scope cl C X.env) fp) (.Tuple [.Name xn px, .Name yn pn] kk pt) (gTup X.K 2 (gCons (gName i) (gCons (gName j) gNil))))
    (ht : ∀ (s : Shared) (H : Hp) (C : Addr) (cl : List (Str × Addr)) (fp : List Addr) (d : D × D), PTs (X.blk s H scope (compEnvC scope cl C X.env) fp) ifs (tT X.K H0 G0 (put (put (wp2 δ i j) i (.fr d.1)) j (.fr d.2)) (c d)))
    (he : ∀ (s : Shared) (H : Hp) (C : Addr) (cl : List (Str × Addr)) (fp : List Addr) (d : D × D), PE (X.blk s H scope (compEnvC scope cl C X.env) fp) elt (tR (rF X.K) X.K H0 G0 (put (put (wp2 δ i j) i (.fr d.1)) j (.fr d.2)) (f d)))
    (hs : ∀ x, foldedSetIterable iter X.env x = pure x) (hr : ∀ d, PSs X rest (tS Z X.K H0 G0 (put δ l (.ow d)) (k d))) :
    PSs X (.Assign [.Name y py] (.ListComp elt [⟨.Tuple [.Name xn px, .Name yn pn] kk pt, iter, ifs, 0⟩] scope pos) spos :: rest) (tS Z X.K H0 G0 δ (bnd (lcG ms c f) k)) :=
  s_lcO zc hl (q_lc2 hc hN hy hyl hsw hi ok hg ht he hs) (fun _ _ _ h => lc_read2 hi' hj h) hr
end
theorem s_drop {m : Option D} {k : Option T} (zc : ZC Z) (h : PE X e (tR (rF X.K) X.K H0 G0 δ m)) (hr : PSs X rest (tS Z X.K H0 G0 δ k)) (hs : swapsWith e none pos.line X.env = pure false) : PSs X (.Expr e pos :: rest) (tS Z X.K H0 G0 δ (bnd m fun _ => k)) := by
  cases m with
  | none => exact PSs_imp (pss_cons ps_never (pss_never (sts := rest))) fun E σ H ⟨G, S, t, et, q⟩ => by cases et
  | some d =>
    exact PSs_imp (pss_cons (ps_expr h hs) hr) fun E σ H ⟨G, S, t, et, q⟩ => ⟨G, S, d, rfl, fun v H' G' w r => ⟨G', S.grow w, t, et, zc.mono w.g q⟩⟩
/-! own lists changed -/
def appM (ds : List D) (d : D) : Option (List D) := grd (decide (ds.length < LN)) (some (ds ++ [d]))
theorem s_app {o : Expr} {i : Nat} {ds : List D} {m : Option D} {k : List D → Option T} {pa : Pos} (zc : ZC Z) (hn : PE X o (tVar i)) (hd : nth δ i = .ow ds) (h : PE X e (tR (rF X.K) X.K H0 G0 δ m)) (hr : ∀ d, PSs X rest (tS Z X.K H0 G0 (put δ i (.ow d)) (k d)))
    (bm : PE X (.Call (.Attribute o "append" pa) [e] [] p2) (tBM X.K "list" rAppend (tVar i) (tCons (tR (rF X.K) X.K H0 G0 δ m) tNil)) )
    (hs : swapsWith (.Call (.Attribute o "append" pa) [e] [] p2) none pos.line X.env = pure false) :
    PSs X (.Expr (.Call (.Attribute o "append" pa) [e] [] p2) pos :: rest) (tS Z X.K H0 G0 δ (bnd (m.bind (appM ds)) k)) := by
  have nv : ∀ {mm : Option T}, mm = none → PSs X (.Expr (.Call (.Attribute o "append" pa) [e] [] p2) pos :: rest) (tS Z X.K H0 G0 δ mm) := fun z =>
    PSs_imp (pss_cons ps_never (pss_never (sts := rest))) fun E σ H ⟨G, S, t, et, q⟩ => by rw [z] at et; cases et
  cases m with
  | none => exact nv rfl
  | some d =>
    cases hg : appM ds d with
    | none => exact nv (by rw [show ((some d : Option D).bind (appM ds)) = appM ds d from rfl, hg]; rfl)
    | some ds' =>
      obtain ⟨h1, h2⟩ := grd_some (show grd (decide (ds.length < LN)) (some (ds ++ [d])) = some ds' from hg)
      cases h2
      refine PSs_imp (pss_cons (ps_expr bm hs) (hr (ds ++ [d]))) fun E σ H ⟨G, S, t, et, q⟩ => ?_
      rw [show ((some d : Option D).bind (appM ds)) = appM ds d from rfl, hg] at et
      have o := S.ok i
      rw [hd] at o
      obtain ⟨p, vs, hp, k1, k2, k3, k4⟩ := o
      refine ⟨.ref p, hp, .inl ⟨rfl, vs, .inl (.inl k3)⟩, G, S, d, rfl, fun v H' G' w r => ?_⟩
      have k3' := w.h _ _ k3
      refine ⟨p, vs, v, rfl, rfl, k3', ln_lt (by rw [k4.length]; exact of_dec h1), ?_⟩
      exact ⟨G', (S.grow w).updO hd hp ((k4.to w.g).append (.cons r .nil)), t, et, zc.mono w.g q⟩
def popM (ds : List D) : Option (List D) := match ds with
  | [] => none
  | d :: r => some (d :: r).dropLast
theorem s_pop {o : Expr} {i : Nat} {ds : List D} {k : List D → Option T} {pa : Pos} (zc : ZC Z) (hn : PE X o (tVar i)) (hd : nth δ i = .ow ds) (hr : ∀ d, PSs X rest (tS Z X.K H0 G0 (put δ i (.ow d)) (k d)))
    (bm : PE X (.Call (.Attribute o "pop" pa) [] [] p2) (tBM0 X.K "list" rPop (tVar i))) (hs : swapsWith (.Call (.Attribute o "pop" pa) [] [] p2) none pos.line X.env = pure false) :
    PSs X (.Expr (.Call (.Attribute o "pop" pa) [] [] p2) pos :: rest) (tS Z X.K H0 G0 δ (bnd (popM ds) k)) := by
  cases ds with
  | nil => exact PSs_imp (pss_cons ps_never (pss_never (sts := rest))) fun E σ H ⟨G, S, t, et, q⟩ => by cases et
  | cons d r =>
    refine PSs_imp (pss_cons (ps_expr bm hs) (hr (d :: r).dropLast)) fun E σ H ⟨G, S, t, et, q⟩ => ?_
    have o := S.ok i
    rw [hd] at o
    obtain ⟨p, vs, hp, k1, k2, k3, k4⟩ := o
    have hl : vs.length = r.length + 1 := k4.length
    have hv : vs[vs.length - 1]? = some (vs[vs.length - 1]'(by omega)) := List.getElem?_eq_getElem _
    refine ⟨.ref p, hp, .inl ⟨rfl, vs, .inl (.inl k3)⟩, p, vs, _, rfl, rfl, k3, hv, ?_⟩
    exact ⟨G, S.updO hd hp k4.dropLast, t, et, q⟩
/-- own[i] = value -/
def setM (ds : List D) (ix v : D) : Option (List D) := match ix with
  | .int i => (ixN ds.length i).map fun j => ds.set j v
  | _ => none
theorem s_sub {o : Expr} {i : Nat} {ds : List D} {m n : Option D} {k : List D → Option T} (zc : ZC Z) (hn : PE X o (tVar i)) (hd : nth δ i = .ow ds) (h : PE X e (tR (rF X.K) X.K H0 G0 δ m)) (hx : PE X a (tR (rV X.K) X.K H0 G0 δ n)) (hr : ∀ d, PSs X rest (tS Z X.K H0 G0 (put δ i (.ow d)) (k d)))
    (hs : swapsWithSole [.Subscript o a px] e pos.line X.env = pure false) (hw : swappedStores [.Subscript o a px] e X.env = pure none)
    (h1 : (assignEach [.Subscript o a px] X.env).map (·.2) = [assign (.Subscript o a px) X.env])
    (ha : ∀ v, assign (.Subscript o a px) X.env v = (do
      let ov ← holding [v] (eval o X.env)
      let iv ← holding [v, ov] (eval a X.env)
      standAt px
      holding [v, ov, iv] (setItem ov iv v)
      release [v, ov, iv] [])) :
    PSs X (.Assign [.Subscript o a px] e pos :: rest) (tS Z X.K H0 G0 δ (bnd (b2 (fun v ix => setM ds ix v) m n) k)) := by
  have nv : ∀ {mm : Option T}, mm = none → PSs X (.Assign [.Subscript o a px] e pos :: rest) (tS Z X.K H0 G0 δ mm) := fun z =>
    PSs_imp (pss_cons ps_never (pss_never (sts := rest))) fun E σ H ⟨G, S, t, et, q⟩ => by rw [z] at et; cases et
  cases m with
  | none => exact nv rfl
  | some v =>
    cases n with
    | none => exact nv rfl
    | some ix =>
      cases hg : setM ds ix v with
      | none => exact nv (by rw [b2_ss, hg]; rfl)
      | some ds' =>
        cases ix with
        | int z =>
          have hz : (ixN ds.length z).map (fun j => ds.set j v) = some ds' := hg
          cases hj : ixN ds.length z with
          | none => rw [hj] at hz; cases hz
          | some j =>
            rw [hj] at hz
            cases hz
            refine PSs_imp (pss_cons (ps_asg h (pg_sub hn hx set_list ha) hs hw h1) (hr (ds.set j v))) fun E σ H ⟨G, S, t, et, q⟩ => ?_
            rw [b2_ss, hg] at et
            refine ⟨G, S, v, rfl, fun x H1 G1 w r => ?_⟩
            have S1 := S.grow w
            have o := S1.ok i
            rw [hd] at o
            obtain ⟨p, vs, hp, k1, k2, k3, k4⟩ := o
            refine ⟨.ref p, hp, G1, S1, .int z, rfl, fun y H2 G2 w2 r2 => ?_⟩
            refine ⟨p, vs, z, j, rfl, r2.int, w2.h _ _ k3, by rw [k4.length]; exact hj, ?_⟩
            exact ⟨G2, (S1.grow w2).updO hd hp ((k4.to w2.g).set (r.to w2.g) j), t, et, zc.mono (w.trans w2).g q⟩
        | _ => exact nv (by rw [b2_ss]; rfl)
/-! if -/
def ifM (c : Option Bool) (m n : Option T) : Option T := c.bind fun b => if b then m else n
/-- the first branch hands back -/
theorem s_ifQ {α : Type} {R : Rel α} {c : Expr} {A : List Stmt} {mc : Option Bool} {m n : Option α} (hc : PT X c (tT X.K H0 G0 δ mc)) (ha : PSs X A (tS (zQ R) X.K H0 G0 δ m)) (hr : PSs X rest (tS (zQ R) X.K H0 G0 δ n)) : PSs X (.If c A [] pos :: rest) (tS (zQ R) X.K H0 G0 δ (ifM mc m n)) := by
  cases mc with
  | none => exact PSs_imp (pss_cons ps_never (pss_never (sts := rest))) fun E σ H ⟨G, S, t, et, q⟩ => by cases et
  | some b =>
    refine PSs_imp (pss_cons (ps_if hc ha pss_nil) hr) fun E σ H ⟨G, S, t, et, q⟩ => ⟨G, S, b, rfl, fun H' G' w => ?_⟩
    cases b with
    | true => exact ⟨G', S.grow w, t, et, ZC.mono w.g q⟩
    | false => exact ⟨G', S.grow w, t, et, ZC.mono w.g q⟩
theorem s_ifQM {S α : Type} {R : Rel α} {enc : S → En} {c : Expr} {A : List Stmt} {mc : Option Bool} {m : Option α} {n : Option (Fl S α)} (hc : PT X c (tT X.K H0 G0 δ mc)) (ha : PSs X A (tS (zQ R) X.K H0 G0 δ m)) (hr : PSs X rest (tS (zM R X.K enc) X.K H0 G0 δ n)) : PSs X (.If c A [] pos :: rest) (tS (zM R X.K enc) X.K H0 G0 δ (ifM mc (m.map .rt) n)) := by
  cases mc with
  | none => exact PSs_imp (pss_cons ps_never (pss_never (sts := rest))) fun E σ H ⟨G, S, t, et, q⟩ => by cases et
  | some b =>
    refine PSs_imp (pss_cons (ps_if hc ha pss_nil) hr) fun E σ H ⟨G, S, t, et, q⟩ => ⟨G, S, b, rfl, fun H' G' w => ?_⟩
    cases b with
    | true =>
      cases m with
      | none => cases et
      | some d =>
        cases et
        exact ⟨G', S.grow w, d, rfl, q⟩
    | false => exact ⟨G', S.grow w, t, et, ZC.mono w.g q⟩
/-- both branches hand back -/
theorem s_ifQQ {α : Type} {R : Rel α} {c : Expr} {A B : List Stmt} {mc : Option Bool} {m n : Option α} (hc : PT X c (tT X.K H0 G0 δ mc)) (ha : PSs X A (tS (zQ R) X.K H0 G0 δ m)) (hb : PSs X B (tS (zQ R) X.K H0 G0 δ n)) : PSs X (.If c A B pos :: rest) (tS (zQ R) X.K H0 G0 δ (ifM mc m n)) := by
  cases mc with
  | none => exact PSs_imp (pss_cons ps_never (pss_never (sts := rest))) fun E σ H ⟨G, S, t, et, q⟩ => by cases et
  | some b =>
    refine PSs_imp (pss_cons (ps_if hc ha hb) (pss_never (sts := rest))) fun E σ H ⟨G, S, t, et, q⟩ => ⟨G, S, b, rfl, fun H' G' w => ?_⟩
    cases b with
    | true => exact ⟨G', S.grow w, t, et, ZC.mono w.g q⟩
    | false => exact ⟨G', S.grow w, t, et, ZC.mono w.g q⟩
/-- both branches go on -/
theorem s_ifN {S : Type} {enc : S → En} {c : Expr} {A B : List Stmt} {mc : Option Bool} {m n : Option S} {k : S → Option T} (zc : ZC Z) (hc : PT X c (tT X.K H0 G0 δ mc)) (ha : PSs X A (tS (zN X.K enc) X.K H0 G0 δ m)) (hb : PSs X B (tS (zN X.K enc) X.K H0 G0 δ n)) (hr : ∀ s, PSs X rest (tS Z X.K H0 G0 (enc s) (k s))) :
    PSs X (.If c A B pos :: rest) (tS Z X.K H0 G0 δ (bnd (ifM mc m n) k)) := by
  cases hm : ifM mc m n with
  | none => exact PSs_imp (pss_cons ps_never (pss_never (sts := rest))) fun E σ H ⟨G, S, t, et, q⟩ => by cases et
  | some s =>
    cases mc with
    | none => cases hm
    | some b =>
      refine PSs_imp (pss_cons (ps_if hc ha hb) (hr s)) fun E σ H ⟨G, S, t, et, q⟩ => ⟨G, S, b, rfl, fun H' G' w => ?_⟩
      cases b with
      | true => exact ⟨G', S.grow w, s, hm, fun σ2 H2 G2 e2 S2 => ⟨G2, S2, t, et, zc.mono (w.g.trans e2) q⟩⟩
      | false => exact ⟨G', S.grow w, s, hm, fun σ2 H2 G2 e2 S2 => ⟨G2, S2, t, et, zc.mono (w.g.trans e2) q⟩⟩
/-- some ways hand back, some go on -/
def flQ {S α : Type} (k : S → Option α) : Fl S α → Option α
  | .nx s => k s
  | .rt d => some d
def flM {S S' α : Type} (k : S → Option (Fl S' α)) : Fl S α → Option (Fl S' α)
  | .nx s => k s
  | .rt d => some (.rt d)
theorem s_ifM {S α : Type} {R : Rel α} {enc : S → En} {c : Expr} {A B : List Stmt} {mc : Option Bool} {m n : Option (Fl S α)} {k : S → Option α} (hc : PT X c (tT X.K H0 G0 δ mc)) (ha : PSs X A (tS (zM R X.K enc) X.K H0 G0 δ m)) (hb : PSs X B (tS (zM R X.K enc) X.K H0 G0 δ n)) (hr : ∀ s, PSs X rest (tS (zQ R) X.K H0 G0 (enc s) (k s))) :
    PSs X (.If c A B pos :: rest) (tS (zQ R) X.K H0 G0 δ (bnd (ifM mc m n) (flQ k))) := by
  cases hm : ifM mc m n with
  | none => exact PSs_imp (pss_cons ps_never (pss_never (sts := rest))) fun E σ H ⟨G, S, t, et, q⟩ => by cases et
  | some f =>
    cases mc with
    | none => cases hm
    | some b =>
      cases f with
      | nx s =>
        refine PSs_imp (pss_cons (ps_if hc ha hb) (hr s)) fun E σ H ⟨G, S, t, et, q⟩ => ⟨G, S, b, rfl, fun H' G' w => ?_⟩
        cases b with
        | true => exact ⟨G', S.grow w, _, hm, fun σ2 H2 G2 e2 S2 => ⟨G2, S2, t, et, ZC.mono (w.g.trans e2) q⟩⟩
        | false => exact ⟨G', S.grow w, _, hm, fun σ2 H2 G2 e2 S2 => ⟨G2, S2, t, et, ZC.mono (w.g.trans e2) q⟩⟩
      | rt d =>
        refine PSs_imp (pss_cons (ps_if hc ha hb) (pss_never (sts := rest))) fun E σ H ⟨G, S, t, et, q⟩ => ⟨G, S, b, rfl, fun H' G' w => ?_⟩
        cases et
        cases b with
        | true => exact ⟨G', S.grow w, _, hm, fun v H2 G2 w2 r2 => q v H2 G2 w2 r2⟩
        | false => exact ⟨G', S.grow w, _, hm, fun v H2 G2 w2 r2 => q v H2 G2 w2 r2⟩
theorem s_ifMM {S S' α : Type} {R : Rel α} {enc : S → En} {enc' : S' → En} {c : Expr} {A B : List Stmt} {mc : Option Bool} {m n : Option (Fl S α)} {k : S → Option (Fl S' α)} (hc : PT X c (tT X.K H0 G0 δ mc)) (ha : PSs X A (tS (zM R X.K enc) X.K H0 G0 δ m)) (hb : PSs X B (tS (zM R X.K enc) X.K H0 G0 δ n)) (hr : ∀ s, PSs X rest (tS (zM R X.K enc') X.K H0 G0 (enc s) (k s))) :
    PSs X (.If c A B pos :: rest) (tS (zM R X.K enc') X.K H0 G0 δ (bnd (ifM mc m n) (flM k))) := by
  cases hm : ifM mc m n with
  | none => exact PSs_imp (pss_cons ps_never (pss_never (sts := rest))) fun E σ H ⟨G, S, t, et, q⟩ => by cases et
  | some f =>
    cases mc with
    | none => cases hm
    | some b =>
      cases f with
      | nx s =>
        refine PSs_imp (pss_cons (ps_if hc ha hb) (hr s)) fun E σ H ⟨G, S, t, et, q⟩ => ⟨G, S, b, rfl, fun H' G' w => ?_⟩
        cases b with
        | true => exact ⟨G', S.grow w, _, hm, fun σ2 H2 G2 e2 S2 => ⟨G2, S2, t, et, ZC.mono (w.g.trans e2) q⟩⟩
        | false => exact ⟨G', S.grow w, _, hm, fun σ2 H2 G2 e2 S2 => ⟨G2, S2, t, et, ZC.mono (w.g.trans e2) q⟩⟩
      | rt d =>
        refine PSs_imp (pss_cons (ps_if hc ha hb) (pss_never (sts := rest))) fun E σ H ⟨G, S, t, et, q⟩ => ⟨G, S, b, rfl, fun H' G' w => ?_⟩
        cases et
        cases b with
        | true => exact ⟨G', S.grow w, _, hm, fun v H2 G2 w2 r2 => q v H2 G2 w2 r2⟩
        | false => exact ⟨G', S.grow w, _, hm, fun v H2 G2 w2 r2 => q v H2 G2 w2 r2⟩
end
end Bd
/-! Bd6: loops, defs. -/
namespace Bd
open PySem PySem.Spec PyProof.Rows L2 Evl
def foldO {ι S : Type} (f : ι → S → Option S) : List ι → S → Option S
  | [], s => some s
  | d :: r, s => (f d s).bind fun s' => foldO f r s'
def foldF {ι S α : Type} (f : ι → S → Option (Fl S α)) : List ι → S → Option (Fl S α)
  | [], s => some (.nx s)
  | d :: r, s => (f d s).bind fun o => match o with
    | .nx s' => foldF f r s'
    | .rt a => some (.rt a)
def whileO {S : Type} (c : S → Option Bool) (f : S → Option S) : Nat → S → Option S
  | 0, _ => none
  | n + 1, s => (c s).bind fun b => if b then (f s).bind fun s' => whileO c f n s' else some s
def whileF {S α : Type} (c : S → Option Bool) (f : S → Option (Fl S α)) : Nat → S → Option (Fl S α)
  | 0, _ => none
  | n + 1, s => (c s).bind fun b => if b then (f s).bind fun o => (match o with
    | .nx s' => whileF c f n s'
    | .rt a => some (.rt a)) else some (.nx s)
theorem foldF_O {ι S α : Type} {f : ι → S → Option S} : ∀ (ds : List ι) (s : S), foldF (α := α) (fun d s => (f d s).map .nx) ds s = (foldO f ds s).map .nx
  | [], _ => rfl
  | d :: r, s => by
    unfold foldF foldO
    cases f d s with
    | none => rfl
    | some s' => exact foldF_O r s'
theorem whileF_O {S α : Type} {c : S → Option Bool} {f : S → Option S} : ∀ (n : Nat) (s : S), whileF (α := α) c (fun s => (f s).map .nx) n s = (whileO c f n s).map .nx
  | 0, _ => rfl
  | n + 1, s => by
    unfold whileF whileO
    cases c s with
    | none => rfl
    | some b =>
      cases b with
      | false => rfl
      | true =>
        show ((f s).map Fl.nx).bind _ = ((f s).bind _).map Fl.nx
        cases f s with
        | none => rfl
        | some s' => exact whileF_O n s'
theorem PS_imp {X : Cx} {e : Stmt} {t t' : TS} (h : PS X e t) (k : ∀ E σ H, t' E σ H → t E σ H) : PS X e t' := ⟨fun pins s σ H Q I w => h.run pins s σ H Q I (k Q σ H w)⟩
section
variable {X : Cx} {H0 G0 : Hp} {δ : En} {e a b tg : Expr} {pos p2 px : Pos} {st : Stmt} {rest : List Stmt} {T : Type} {Z : Zt T}
theorem s_seqN {S : Type} {enc : S → En} {m : Option S} {k : S → Option T} (zc : ZC Z) (h : PS X st (tS (zN X.K enc) X.K H0 G0 δ m)) (hr : ∀ s, PSs X rest (tS Z X.K H0 G0 (enc s) (k s))) : PSs X (st :: rest) (tS Z X.K H0 G0 δ (bnd m k)) := by
  cases m with
  | none => exact PSs_imp (pss_cons ps_never (pss_never (sts := rest))) fun E σ H ⟨G, S, t, et, q⟩ => by cases et
  | some s => exact PSs_imp (pss_cons h (hr s)) fun E σ H ⟨G, S, t, et, q⟩ => ⟨G, S, s, rfl, fun σ' H' G' eg S' => ⟨G', S', t, et, zc.mono eg q⟩⟩
theorem s_seqQ {S α : Type} {R : Rel α} {enc : S → En} {m : Option (Fl S α)} {k : S → Option α} (h : PS X st (tS (zM R X.K enc) X.K H0 G0 δ m)) (hr : ∀ s, PSs X rest (tS (zQ R) X.K H0 G0 (enc s) (k s))) : PSs X (st :: rest) (tS (zQ R) X.K H0 G0 δ (bnd m (flQ k))) := by
  cases m with
  | none => exact PSs_imp (pss_cons ps_never (pss_never (sts := rest))) fun E σ H ⟨G, S, t, et, q⟩ => by cases et
  | some f =>
    cases f with
    | nx s => exact PSs_imp (pss_cons h (hr s)) fun E σ H ⟨G, S, t, et, q⟩ => ⟨G, S, .nx s, rfl, fun σ' H' G' eg S' => ⟨G', S', t, et, q⟩⟩
    | rt d =>
      exact PSs_imp (pss_cons h (pss_never (sts := rest))) fun E σ H ⟨G, S, t, et, q⟩ => by
        cases et
        exact ⟨G, S, .rt d, rfl, q⟩
theorem s_seqM {S S' α : Type} {R : Rel α} {enc : S → En} {enc' : S' → En} {m : Option (Fl S α)} {k : S → Option (Fl S' α)} (h : PS X st (tS (zM R X.K enc) X.K H0 G0 δ m)) (hr : ∀ s, PSs X rest (tS (zM R X.K enc') X.K H0 G0 (enc s) (k s))) : PSs X (st :: rest) (tS (zM R X.K enc') X.K H0 G0 δ (bnd m (flM k))) := by
  cases m with
  | none => exact PSs_imp (pss_cons ps_never (pss_never (sts := rest))) fun E σ H ⟨G, S, t, et, q⟩ => by cases et
  | some f =>
    cases f with
    | nx s => exact PSs_imp (pss_cons h (hr s)) fun E σ H ⟨G, S, t, et, q⟩ => ⟨G, S, .nx s, rfl, fun σ' H' G' eg S' => ⟨G', S', t, et, ZC.mono eg q⟩⟩
    | rt d =>
      exact PSs_imp (pss_cons h (pss_never (sts := rest))) fun E σ H ⟨G, S, t, et, q⟩ => by
        cases et
        exact ⟨G, S, .rt d, rfl, q⟩
/-- the heart of a for -/
theorem for_go {ι S α : Type} {ρ : ι → V → Hp → Prop} {K : PySem.W.Frag} {R : Rel α} {g : TG} {enc : S → En} {δx : ι → S → En} {ms : Option (List ι)} {f : ι → S → Option (Fl S α)} {s0 : S} (mask : List Bool)
    (h0 : fg mask δ = enc s0) (gT : ∀ d s x σ H G (Rr : L2.St → Hp → Prop), S8 K H0 G0 (enc s) σ H G → ρ d x G → (∀ σ2, S8 K H0 G0 (δx d s) σ2 H G → Rr σ2 H) → g x σ H Rr)
    (E : Ends) (σ : L2.St) (H : Hp) (h : tS (zM R K enc) K H0 G0 δ (bnd ms fun ds => foldF f ds s0) E σ H) :
    tFor (tI true ρ K H0 G0 δ ms) g (fun E' σ' H' => ∃ d s, tS (zM R K enc) K H0 G0 (δx d s) (f d s) E' σ' H') E σ H := by
  obtain ⟨G, S, fl, efl, q⟩ := h
  cases ms with
  | none => cases efl
  | some ds =>
    have efl : foldF f ds s0 = some fl := efl
    refine ⟨G, S, ds, rfl, fun J H1 G1 w src0 => ?_⟩
    have src : SrcOk ρ H0 G1 J ds := src0
    have q1 := ZC.mono w.g q
    refine ⟨fun i m σ H => m = ds.length - i ∧ i ≤ ds.length ∧ ∃ G s, Ex G1 G ∧ S8 K H0 G0 (enc s) σ H G ∧ foldF f (ds.drop i) s = some fl, ⟨_, rfl, Nat.zero_le _, G1, s0, Ex.refl _, h0 ▸ (S.grow w).fg mask, efl⟩, ?_⟩
    rintro i m σ2 H2 ⟨rfl, hi, G2, s, eg, S2, hf⟩
    obtain ⟨sg, ss⟩ := src H2 G2 eg S2.gh S2.gr.h i
    by_cases hlt : i < ds.length
    · have hd : ds[i]? = some ds[i] := List.getElem?_eq_getElem hlt
      rw [List.drop_eq_getElem_cons hlt] at hf
      obtain ⟨go, yl⟩ := sg _ hd
      refine .inr ⟨go, fun σ' H' => ∃ G s, Ex G1 G ∧ S8 K H0 G0 (enc s) σ' H' G ∧ foldF f (ds.drop (i + 1)) s = some fl, fun σ' H' ⟨G', s', a1, a2, a3⟩ => ⟨ds.length - (i + 1), by omega, rfl, hlt, G', s', a1, a2, a3⟩, fun x H' hy => ?_⟩
      obtain ⟨G', w', hρ⟩ := yl x H' hy
      refine gT ds[i] s x σ2 H' G' _ (S2.grow w') hρ fun σ3 S3 => ?_
      unfold foldF at hf
      cases hb : f ds[i] s with
      | none => rw [hb] at hf; cases hf
      | some o =>
        rw [hb] at hf
        refine ⟨ds[i], s, G', S3, o, hb, ?_⟩
        cases o with
        | nx s' => exact fun σ4 H4 G4 e4 S4 => ⟨G4, s', (eg.trans w'.g).trans e4, S4, hf⟩
        | rt d =>
          have e : fl = .rt d := by
            have hf : some (Fl.rt d) = some fl := hf
            exact (Option.some.inj hf).symm
          subst e
          exact fun v H4 G4 w4 r4 => q1 v H4 G4 w4 r4
    · have ei : i = ds.length := by omega
      subst ei
      rw [List.drop_length] at hf
      have e : fl = .nx s := by
        have hf : some (Fl.nx s) = some fl := hf
        exact (Option.some.inj hf).symm
      subst e
      exact .inl ⟨ss (Nat.le_refl _), q1 σ2 H2 G2 eg S2⟩
theorem PSs_ex {ι κ : Type} {sts : List Stmt} {t : ι → κ → TS} (h : ∀ d s, PSs X sts (t d s)) : PSs X sts (fun E σ H => ∃ d s, t d s E σ H) := ⟨fun pins s σ H Q I ⟨d, s', w⟩ => (h d s').run pins s σ H Q I w⟩
section
variable {iter : Expr} {body : List Stmt}
theorem p_for {S α : Type} {R : Rel α} {x : Str} {i : Nat} {enc : S → En} {ms : Option (List D)} {f : D → S → Option (Fl S α)} {s0 : S} (mask : List Bool) (N : Nm X x i) (hi : ∀ s, i < (enc s).length) (hp : PassesOwn (model X.prog X.w) X.A X.env X.xe) (hc : X.calm = true) (hit : PI X (.Name x px) iter (tI true (ρ1 X.K) X.K H0 G0 δ ms)) (h0 : fg mask δ = enc s0)
    (hb : ∀ d s, PSs X body (tS (zM R X.K enc) X.K H0 G0 (put (enc s) i (.fr d)) (f d s))) (hs : ∀ x, foldedSetIterable iter X.env x = pure x) :
    PS X (.For (.Name x px) iter body [] pos) (tS (zM R X.K enc) X.K H0 G0 δ (bnd ms fun ds => foldF f ds s0)) :=
  PS_imp (ps_for hp hc hit (pg_name N.nd N.ix N.lc N.fn) (PSs_ex hb) hs) fun E σ H h => for_go (ρ := ρ1 X.K) (g := gName i) (δx := fun d s => put (enc s) i (.fr d)) mask h0 (fun d s x σ H G Rr S hx k => k _ (S.setF (hi s) hx)) E σ H h
theorem p_for2 {S α : Type} {R : Rel α} {x y : Str} {i j : Nat} {py pt : Pos} {kk : Nat} {enc : S → En} {ms : Option (List (D × D))} {f : D × D → S → Option (Fl S α)} {s0 : S} (mask : List Bool) (Nx : Nm X x i) (Ny : Nm X y j) (hi : ∀ s, i < (enc s).length) (hj : ∀ s, j < (enc s).length) (hp : PassesOwn (model X.prog X.w) X.A X.env X.xe) (hc : X.calm = true)
    (hit : PI X (.Tuple [.Name x px, .Name y py] kk pt) iter (tI true (ρ2 X.K) X.K H0 G0 δ ms)) (h0 : fg mask δ = enc s0)
    (hb : ∀ (d : D × D) s, PSs X body (tS (zM R X.K enc) X.K H0 G0 (put (put (enc s) i (.fr d.1)) j (.fr d.2)) (f d s))) (hs : ∀ x, foldedSetIterable iter X.env x = pure x)
    (hn : (assignEach [.Name x px, .Name y py] X.env).length = 2) (hst : (assignEach [.Name x px, .Name y py] X.env).findIdx? (·.1) = none)
    (h1 : (assignEach [.Name x px, .Name y py] X.env).map (·.2) = assign (.Name x px) X.env :: (assignEach [.Name y py] X.env).map (·.2)) (h2 : (assignEach [.Name y py] X.env).map (·.2) = assign (.Name y py) X.env :: (assignEach [] X.env).map (·.2)) :
    PS X (.For (.Tuple [.Name x px, .Name y py] kk pt) iter body [] pos) (tS (zM R X.K enc) X.K H0 G0 δ (bnd ms fun ds => foldF f ds s0)) :=
  PS_imp (ps_for hp hc hit (pg_tup hc (pgs_cons (pg_name Nx.nd Nx.ix Nx.lc Nx.fn) (pgs_cons (pg_name Ny.nd Ny.ix Ny.lc Ny.fn) pgs_nil (hs := h2)) (hs := h1)) hn hst) (PSs_ex hb) hs) fun E σ H h => for_go (ρ := ρ2 X.K) (g := gTup X.K 2 (gCons (gName i) (gCons (gName j) gNil))) (δx := fun d s => put (put (enc s) i (.fr d.1)) j (.fr d.2)) mask h0 (fun d s x σ H G Rr S ⟨T, va, vb, ex, hT, ha, hb⟩ k => by
    refine ⟨T, [va, vb], ex, ex_t S.gh hT, rfl, va, [vb], rfl, vb, [], rfl, rfl, ?_⟩
    exact k _ ((S.setF (hi s) ha).setF (by rw [put_length]; exact hj s) hb)) E σ H h
/-- the body goes on at every end -/
theorem toM {S α : Type} {R : Rel α} {enc : S → En} {δ' : En} {sts : List Stmt} {m : Option S} (h : PSs X sts (tS (zN X.K enc) X.K H0 G0 δ' m)) : PSs X sts (tS (zM (α := α) R X.K enc) X.K H0 G0 δ' (m.map .nx)) :=
  PSs_imp h fun E σ H ⟨G, S, t, et, q⟩ => by
    cases m with
    | none => cases et
    | some s =>
      cases et
      exact ⟨G, S, s, rfl, q⟩
theorem toN {S : Type} {R : Rel Empty} {enc : S → En} {m : Option S} {m' : Option (Fl S Empty)} (h : PS X st (tS (zM R X.K enc) X.K H0 G0 δ m')) (e : m' = m.map .nx) : PS X st (tS (zN X.K enc) X.K H0 G0 δ m) :=
  PS_imp h fun E σ H ⟨G, S, t, et, q⟩ => by
    subst et
    exact ⟨G, S, .nx t, e, q⟩
abbrev rE : Rel Empty := fun _ _ _ _ _ => False
theorem p_forN {S : Type} {x : Str} {i : Nat} {enc : S → En} {ms : Option (List D)} {f : D → S → Option S} {s0 : S} (mask : List Bool) (N : Nm X x i) (hi : ∀ s, i < (enc s).length) (hp : PassesOwn (model X.prog X.w) X.A X.env X.xe) (hc : X.calm = true) (hit : PI X (.Name x px) iter (tI true (ρ1 X.K) X.K H0 G0 δ ms)) (h0 : fg mask δ = enc s0)
    (hb : ∀ d s, PSs X body (tS (zN X.K enc) X.K H0 G0 (put (enc s) i (.fr d)) (f d s))) (hs : ∀ x, foldedSetIterable iter X.env x = pure x) :
    PS X (.For (.Name x px) iter body [] pos) (tS (zN X.K enc) X.K H0 G0 δ (bnd ms fun ds => foldO f ds s0)) :=
  toN (R := rE) (p_for mask N hi hp hc hit h0 (fun d s => toM (hb d s)) hs) (by
    cases ms with
    | none => rfl
    | some ds => exact foldF_O ds s0)
theorem p_forN2 {S : Type} {x y : Str} {i j : Nat} {py pt : Pos} {kk : Nat} {enc : S → En} {ms : Option (List (D × D))} {f : D × D → S → Option S} {s0 : S} (mask : List Bool) (Nx : Nm X x i) (Ny : Nm X y j) (hi : ∀ s, i < (enc s).length) (hj : ∀ s, j < (enc s).length) (hp : PassesOwn (model X.prog X.w) X.A X.env X.xe) (hc : X.calm = true)
    (hit : PI X (.Tuple [.Name x px, .Name y py] kk pt) iter (tI true (ρ2 X.K) X.K H0 G0 δ ms)) (h0 : fg mask δ = enc s0)
    (hb : ∀ (d : D × D) s, PSs X body (tS (zN X.K enc) X.K H0 G0 (put (put (enc s) i (.fr d.1)) j (.fr d.2)) (f d s))) (hs : ∀ x, foldedSetIterable iter X.env x = pure x)
    (hn : (assignEach [.Name x px, .Name y py] X.env).length = 2) (hst : (assignEach [.Name x px, .Name y py] X.env).findIdx? (·.1) = none)
    (h1 : (assignEach [.Name x px, .Name y py] X.env).map (·.2) = assign (.Name x px) X.env :: (assignEach [.Name y py] X.env).map (·.2)) (h2 : (assignEach [.Name y py] X.env).map (·.2) = assign (.Name y py) X.env :: (assignEach [] X.env).map (·.2)) :
    PS X (.For (.Tuple [.Name x px, .Name y py] kk pt) iter body [] pos) (tS (zN X.K enc) X.K H0 G0 δ (bnd ms fun ds => foldO f ds s0)) :=
  toN (R := rE) (p_for2 mask Nx Ny hi hj hp hc hit h0 (fun d s => toM (hb d s)) hs hn hst h1 h2) (by
    cases ms with
    | none => rfl
    | some ds => exact foldF_O ds s0)
theorem PT_ex {ι : Type} {c : Expr} {t : ι → TT} (h : ∀ d, PT X c (t d)) : PT X c (fun σ H Q => ∃ d, t d σ H Q) := ⟨fun pins s σ H Q I ⟨d, w⟩ => (h d).run pins s σ H Q I w⟩
theorem PSs_ex1 {ι : Type} {sts : List Stmt} {t : ι → TS} (h : ∀ d, PSs X sts (t d)) : PSs X sts (fun E σ H => ∃ d, t d E σ H) := ⟨fun pins s σ H Q I ⟨d, w⟩ => (h d).run pins s σ H Q I w⟩
theorem p_while {S α : Type} {R : Rel α} {c : Expr} {enc : S → En} {cf : S → Option Bool} {f : S → Option (Fl S α)} {s0 : S} (n : Nat) (mask : List Bool) (hp : PassesOwn (model X.prog X.w) X.A X.env X.xe) (h0 : fg mask δ = enc s0) (ht : ∀ s, PT X c (tT X.K H0 G0 (enc s) (cf s)))
    (hb : ∀ s, PSs X body (tS (zM R X.K enc) X.K H0 G0 (enc s) (f s))) : PS X (.While c body [] pos) (tS (zM R X.K enc) X.K H0 G0 δ (whileF cf f n s0)) :=
  PS_imp (ps_while hp (PT_ex ht) (PSs_ex1 hb)) fun E σ H ⟨G, Sg, fl, efl, q⟩ => by
    refine ⟨fun m σ H => ∃ G1 s, Ex G G1 ∧ S8 X.K H0 G0 (enc s) σ H G1 ∧ whileF cf f m s = some fl, ⟨n, G, s0, Ex.refl _, h0 ▸ Sg.fg mask, efl⟩, ?_⟩
    rintro m σ2 H2 ⟨G2, s, eg, S2, hw⟩
    cases m with
    | zero => cases hw
    | succ m =>
      unfold whileF at hw
      cases hcs : cf s with
      | none => rw [hcs] at hw; cases hw
      | some b =>
        rw [hcs] at hw
        refine ⟨s, G2, S2, b, hcs, fun H3 G3 w3 => ?_⟩
        cases b with
        | false =>
          have e : fl = .nx s := by
            have hw : some (Fl.nx s) = some fl := hw
            exact (Option.some.inj hw).symm
          subst e
          exact q σ2 H3 G3 (eg.trans w3.g) (S2.grow w3)
        | true =>
          rw [if_pos rfl]
          refine ⟨fun σ' H' => ∃ G1 s, Ex G G1 ∧ S8 X.K H0 G0 (enc s) σ' H' G1 ∧ whileF cf f m s = some fl, fun σ' H' h' => ⟨m, Nat.lt_succ_self m, h'⟩, ?_⟩
          cases hfs : f s with
          | none =>
            have hw : ((f s).bind _ : Option (Fl S α)) = some fl := hw
            rw [hfs] at hw; cases hw
          | some o =>
            have hw : ((f s).bind _ : Option (Fl S α)) = some fl := hw
            rw [hfs] at hw
            refine ⟨s, G3, S2.grow w3, o, hfs, ?_⟩
            cases o with
            | nx s' => exact fun σ4 H4 G4 e4 S4 => ⟨G4, s', (eg.trans w3.g).trans e4, S4, hw⟩
            | rt d =>
              have e : fl = .rt d := by
                have hw : some (Fl.rt d) = some fl := hw
                exact (Option.some.inj hw).symm
              subst e
              exact fun v H4 G4 w4 r4 => q v H4 G4 w4 r4
theorem p_whileN {S : Type} {c : Expr} {enc : S → En} {cf : S → Option Bool} {f : S → Option S} {s0 : S} (n : Nat) (mask : List Bool) (hp : PassesOwn (model X.prog X.w) X.A X.env X.xe) (h0 : fg mask δ = enc s0) (ht : ∀ s, PT X c (tT X.K H0 G0 (enc s) (cf s)))
    (hb : ∀ s, PSs X body (tS (zN X.K enc) X.K H0 G0 (enc s) (f s))) : PS X (.While c body [] pos) (tS (zN X.K enc) X.K H0 G0 δ (whileO cf f n s0)) :=
  toN (R := rE) (p_while n mask hp h0 ht fun s => toM (hb s)) (whileF_O n s0)
end
end
/-! ### defs -/
def en0 : List Bool → List D → Nat → En
  | true :: bs, d :: ds, n + 1 => .fr d :: en0 bs ds n
  | false :: bs, d :: ds, n + 1 => .vw d :: en0 bs ds n
  | _, _, n => List.replicate n .no
theorem s8_start {K : PySem.W.Frag} {H G : Hp} (eg : Ex G H) {N : List Str} : ∀ {bs : List Bool} {vs : List V} {ds : List D}, ArgsOk K H G bs vs ds → bs.length ≤ N.length → S8 K H G (en0 bs ds N.length) (L2.start N vs) H G := by
  have len : ∀ (bs : List Bool) (ds : List D) (n : Nat), bs.length ≤ n → (en0 bs ds n).length = n := by
    intro bs
    induction bs with
    | nil => intro ds n _; unfold en0; exact List.length_replicate
    | cons b bs ih =>
      intro ds n hn
      cases n with
      | zero => simp at hn
      | succ n =>
        cases ds with
        | nil => cases b <;> (show (List.replicate (n + 1) Sl.no).length = n + 1; exact List.length_replicate)
        | cons d ds =>
          have hn' : bs.length ≤ n := Nat.le_of_succ_le_succ hn
          cases b <;> (show (en0 bs ds n).length + 1 = n + 1; rw [ih ds n hn'])
  have noOw : ∀ (bs : List Bool) (ds : List D) (n i : Nat), isOw (nth (en0 bs ds n) i) = false := by
    have rep : ∀ (n i : Nat), isOw (nth (List.replicate n Sl.no) i) = false := by
      intro n
      induction n with
      | zero => intro i; rfl
      | succ n ih =>
        intro i
        cases i with
        | zero => rfl
        | succ i => exact ih i
    intro bs
    induction bs with
    | nil => intro ds n i; exact rep n i
    | cons b bs ih =>
      intro ds n i
      cases n with
      | zero => cases b <;> cases ds <;> exact rep 0 i
      | succ n =>
        cases ds with
        | nil => cases b <;> exact rep (n + 1) i
        | cons d ds =>
          cases b with
          | true =>
            cases i with
            | zero => rfl
            | succ i => exact ih ds n i
          | false =>
            cases i with
            | zero => rfl
            | succ i => exact ih ds n i
  have rep : ∀ (v : Option (Option V)) (n i : Nat), SlOk K H G H G v (nth (List.replicate n Sl.no) i) := by
    intro v n
    induction n with
    | zero => intro i; trivial
    | succ n ih =>
      intro i
      cases i with
      | zero => trivial
      | succ i => exact ih i
  have sl : ∀ (bs : List Bool) (vs : List V) (ds : List D) (n i : Nat) (tl : List (Option V)), ArgsOk K H G bs vs ds → SlOk K H G H G ((vs.map some ++ tl)[i]?) (nth (en0 bs ds n) i) := by
    intro bs
    induction bs with
    | nil => intro vs ds n i tl _; exact rep _ n i
    | cons b bs ih =>
      intro vs ds n i tl h
      cases vs with
      | nil => exact h.elim
      | cons v vs =>
        cases ds with
        | nil => exact h.elim
        | cons d ds =>
          obtain ⟨h1, h2⟩ := h
          cases n with
          | zero => cases b <;> exact rep _ 0 i
          | succ n =>
            cases i with
            | zero =>
              cases b with
              | true => exact ⟨v, rfl, h1⟩
              | false => exact ⟨v, rfl, h1⟩
            | succ i =>
              cases b with
              | true => exact ih vs ds n i tl h2
              | false => exact ih vs ds n i tl h2
  intro bs vs ds h hn
  obtain ⟨l1, l2⟩ := args_len h
  refine ⟨.refl eg, ?_, fun i => sl bs vs ds N.length i _ h, fun i j p _ h1 _ _ _ => by rw [noOw] at h1; cases h1⟩
  rw [len bs ds _ hn]
  unfold L2.start
  rw [List.length_append, List.length_map, List.length_replicate]
  omega
section
variable {P : Program} {w : World} {K : PySem.W.Frag} {mg : Str → Option Value} {base : Heap}
theorem def_ok {α : Type} {R : Rel α} {x qual : Str} {st : Stmt} {f : Addr} {fd : FuncData} {N ps : List Str} {k : Nat} {bs : List Bool} {mf : Nat → List D → Option α} (F : Fun K x qual st f fd) (S : FnScope N ps (defScope st)) (hbs : bs.length = ps.length) (hN : ps.length ≤ N.length)
    (hb : ∀ (cdv : Value) (A : Around) (outer : List Env) (s : Shared) (H : Hp) (E : XK), Room k (A.deeper (envOfC qual (defScope st) s.heap.objs.size f cdv)) → ∀ (G : Hp) (n : Nat) (ds : List D), ds.length = bs.length →
      PSs (cxOf CX0 P w K mg base N qual (defScope st) f cdv A outer s H E).nox (defBody st) (tS (zQ R) K H G (en0 bs ds N.length) (mf n ds))) : FnOk P w K mg base CX0 (k + 1) f fd ps (spR R K bs mf) := by
  refine F.ok S (fun vs H Q E h => ?_) (fun cdv A outer s H vs Q E hr h => ?_)
  · obtain ⟨G, ds, d, _, _, ha, _⟩ := h
    rw [(args_len ha).1, hbs]
  · obtain ⟨G, ds, d, n, eg, ha, hm, q⟩ := h
    refine ⟨_, hb cdv A outer s H E hr G n ds (args_len ha).2, G, s8_start eg ha (by omega), d, hm, fun v H' G' w r => q v H' G' w r⟩
/-- where its end may be reached without a return -/
def flN {S : Type} : Option (Fl S D) → Option D
  | some (.nx _) => some .none
  | some (.rt d) => some d
  | none => none
theorem def_okN {S : Type} {enc : S → En} {x qual : Str} {st : Stmt} {f : Addr} {fd : FuncData} {N ps : List Str} {k : Nat} {bs : List Bool} {mf : Nat → List D → Option (Fl S D)} (F : Fun K x qual st f fd) (Sc : FnScope N ps (defScope st)) (hbs : bs.length = ps.length) (hN : ps.length ≤ N.length)
    (hb : ∀ (cdv : Value) (A : Around) (outer : List Env) (s : Shared) (H : Hp) (E : XK), Room k (A.deeper (envOfC qual (defScope st) s.heap.objs.size f cdv)) → ∀ (G : Hp) (n : Nat) (ds : List D), ds.length = bs.length →
      PSs (cxOf CX0 P w K mg base N qual (defScope st) f cdv A outer s H E).nox (defBody st) (tS (zM (rF K) K enc) K H G (en0 bs ds N.length) (mf n ds))) : FnOk P w K mg base CX0 (k + 1) f fd ps (spR (rF K) K bs fun n ds => flN (mf n ds)) := by
  refine F.ok Sc (fun vs H Q E h => ?_) (fun cdv A outer s H vs Q E hr h => ?_)
  · obtain ⟨G, ds, d, _, _, ha, _⟩ := h
    rw [(args_len ha).1, hbs]
  · obtain ⟨G, ds, d, n, eg, ha, hm, q⟩ := h
    have hm : flN (mf n ds) = some d := hm
    cases hf : mf n ds with
    | none => rw [hf] at hm; cases hm
    | some fl =>
      rw [hf] at hm
      refine ⟨_, hb cdv A outer s H E hr G n ds (args_len ha).2, G, s8_start eg ha (by omega), fl, hf, ?_⟩
      cases fl with
      | nx s' =>
        cases hm
        exact fun σ' H' G' _ S' => q .non H' G' S'.gr .non
      | rt d' =>
        cases hm
        exact fun v H' G' w r => q v H' G' w r
end
end Bd
/-! Bd7: constants of the text; places of items. -/
namespace Bd
open PySem PySem.Spec PyProof.Rows L2 Evl
structure Cst (K : PySem.W.Frag) (mg : Str → Option Value) (x : Str) (d : D) : Prop where
  ex : ∃ u v, mg x = some u ∧ RelV v u ∧ ∀ G, Dp K G v d
section
variable {X : Cx} {H0 G0 : Hp} {δ : En} {e a b : Expr} {pos p2 : Pos}
theorem x_cst {x : Str} {d : D} (C : Cst X.K X.mg x d) (hg : Gl X x) (hd : (x == ("__debug__" : Str)) = false := by decide) : PE X (.Name x pos) (tR (rF X.K) X.K H0 G0 δ (some d)) := by
  obtain ⟨u, v, hm, r, h⟩ := C.ex
  exact x_c (pe_glob hg hm r hd) h
theorem cst_int {K : PySem.W.Frag} {mg : Str → Option Value} {x : Str} {i : Int} {t : Tok} (h : mg x = some (.int i t)) : Cst K mg x (.int i) := ⟨_, .int i, h, ⟨t, rfl⟩, fun _ => .int i⟩
theorem cst_str {K : PySem.W.Frag} {mg : Str → Option Value} {x : Str} {z : Str} {t : Tok} (h : mg x = some (.str z t)) : Cst K mg x (.str z) := ⟨_, .str z, h, ⟨t, rfl⟩, fun _ => .str z⟩
/-- a tuple of texts of the module -/
theorem cst_tup {K : PySem.W.Frag} {mg : Str → Option Value} {x : Str} {a : Addr} {zs : List Str} {us : List Value} {dd : Option Addr} {n : Nat} {sl : Array (Option Value)} (h : mg x = some (.ref a)) (l : K.lookup a = some ⟨.type "tuple", dd, .seq us.toArray n, sl⟩) (hz : us.length ≤ 1000) (r : Vals (zs.map V.str) us) : Cst K mg x (.tuple (zs.map PyData.str)) := by
  refine ⟨_, .ref a, h, rfl, fun G => .tup (.inr ⟨_, us.toArray, n, l, rfl, rfl, ?_, r⟩) ?_⟩
  · exact ln_line (show us.length ≤ LN from Nat.le_trans hz (by decide))
  · induction zs generalizing us with
    | nil => exact .nil
    | cons z zs ih =>
      have go : ∀ zs : List Str, DpAll K G (zs.map V.str) (zs.map PyData.str) := fun zs => by
        induction zs with
        | nil => exact .nil
        | cons y ys ih => exact .cons (.str y) ih
      exact go (z :: zs)
end
end Bd
/-! Bd8: the law's own promise. -/
namespace Bd
open PySem PySem.Spec PyProof.Rows L2 Evl
def spLaw (K : PySem.W.Frag) : Sp := fun vs H Q _ => ∃ (a : Addr) (ns : List Int), vs = [.ref a] ∧ SqL K H a (ns.map V.int) ∧ ns.length ≤ 63 ∧ ∀ H', Q (.bl true) H'
section
variable {P : Program} {w : World} {K : PySem.W.Frag} {mg : Str → Option Value} {base : Heap}
theorem law_imp {k : Nat} {f : Addr} {fd : FuncData} {ps : List Str} {mf : Nat → List D → Option D} (F : FnOk P w K mg base CX0 k f fd ps (spR (rF K) K [true] mf)) (hm : ∀ ns : List Int, ns.length ≤ 63 → ∃ n, mf n [.list (ns.map PyData.int)] = some (.bool true)) : FnOk P w K mg base CX0 k f fd ps (spLaw K) :=
  F.imp fun vs H Q E ⟨a, ns, ev, hS, hl, q⟩ => by
    obtain ⟨n, hn⟩ := hm ns hl
    subst ev
    refine ⟨H, [.list (ns.map PyData.int)], .bool true, n, Ex.refl H, ⟨.lst hS (L2.DpAll.ofInts ns), trivial⟩, hn, fun v H' G' w r => ?_⟩
    cases r
    exact q H'
theorem cal_of {x : Str} {ps : List Str} {k : Nat} {sp : Sp} {f : Addr} {fd : FuncData} (F : FnOk P w K mg base CX0 k f fd ps sp) (hm : mg x = some (.ref f)) (hk : PySem.W.keepIn K (.ref f) = true) (hb : Binds K fd ps []) : Cal P w K mg base x ps k sp := ⟨f, fd, F, hm, hk, hb⟩
end
end Bd
namespace Bw
open PySem PySem.Spec PyProof.Rows L2 Bd
/-! ### mirrors -/
def m_is_asleep (n : Nat) (u_held : D) (u_word : D) : Option D :=
  ((lD (lcG ((some u_held).bind itD) (fun u_one => (some true)) (fun u_one => (andV (b2 idxD (some u_one) (some (.int 4))) (bD (b2 eqD (b2 idxD (some u_one) (some (.int 3))) (some u_word))))))).bind anyD)
def l_is_asleep (n : Nat) : List D → Option D
  | [a0, a1] => m_is_asleep n a0 a1
  | _ => none
def m_awake (n : Nat) (u_held : D) : Option (List D) :=
  (bnd (some []) fun u_found => (bnd (bnd ((some u_held).bind itD) fun ds => foldO (fun (u_one : D) (s1 : (List D)) => (bnd (ifM (andT (b2 neD (b2 idxD (some u_one) (some (.int 1))) (some (.str "pick"))) (andT ((b2 idxD (some u_one) (some (.int 4))).bind asB) (notT (((consO (some u_held) (consO (b2 idxD (some u_one) (some (.int 0))) (some []))).bind (l_is_asleep n)).bind asB)))) (bnd ((some u_one).bind (appM s1)) fun u_found => (some u_found)) (some s1)) fun s2 : (List D) => (some s2))) ds u_found) fun s1 : (List D) => (some s1)))
def l_awake (n : Nat) : List D → Option (List D)
  | [a0] => m_awake n a0
  | _ => none
def m_law_cell_at (n : Nat) (u_law_script : D) (u_law_k : D) : Option D :=
  (ifM (b2 (ordD ltI) (some u_law_k) ((some u_law_script).bind lenD)) (b2 idxD (some u_law_script) (some u_law_k)) (some (.int 0)))
def l_law_cell_at (n : Nat) : List D → Option D
  | [a0, a1] => m_law_cell_at n a0 a1
  | _ => none
def m_law_word (n : Nat) (u_law_one : D) (u_law_two : D) (u_law_deep : D) (u_law_draw_here : D) : Option D :=
  (bnd (some (.str "abcdefghijklmnopqrstuvwxyz")) fun u_law_letters => (bnd (b2 idxD (some u_law_letters) (b2 modD (b2 addD (b2 idxD (some u_law_draw_here) (some (.int 4))) (b2 mulD (some (.int 5)) (some u_law_deep))) (some (.int 26)))) fun u_law_sign => (ifM (b2 eqD (b2 idxD (some u_law_draw_here) (some (.int 1))) (some (.int 0))) (b2 mulD (b2 idxD (some u_law_letters) (b2 modD (b2 idxD (some u_law_draw_here) (some (.int 4))) (some (.int 26)))) (b2 addD (some u_law_deep) (some (.int 1)))) (bnd (some (.str "")) fun u_law_found => (bnd (bnd ((b2 idxD (some u_law_draw_here) (some (.int 2))).bind rng1) fun ds => foldO (fun (u_law_k : D) (s1 : D) => (bnd (ifM (b2 eqD (some u_law_k) (b2 idxD (some u_law_draw_here) (some (.int 3)))) (bnd (b2 addD (some s1) (some u_law_sign)) fun u_law_found => (some u_law_found)) (bnd (ifM (b2 eqD (b2 idxD (some u_law_draw_here) (some (.int 1))) (some (.int 1))) (bnd (b2 addD (some s1) (b2 idxD (some u_law_letters) (b2 modD (b2 addD (some u_law_one) (b2 mulD (some u_law_k) (some u_law_two))) (some (.int 26))))) fun u_law_found => (some u_law_found)) (bnd (b2 addD (some s1) (b2 idxD (some u_law_letters) (b2 idxD (some u_law_draw_here) (some (.int 2))))) fun u_law_found => (some u_law_found))) fun s3 : D => (some s3))) fun s2 : D => (some s2))) ds u_law_found) fun s1 : D => (some s1))))))
def l_law_word (n : Nat) : List D → Option D
  | [a0, a1, a2, a3] => m_law_word n a0 a1 a2 a3
  | _ => none
def m_law_draw (n : Nat) (u_law_script : D) : Option D :=
  (bnd (b2 mulD (b2 modD (b2 fdivD ((consO (some u_law_script) (consO (some (.int 1)) (some []))).bind (l_law_cell_at n)) (some (.int 2))) (b2 powD (some (.int 10)) (some (.int 9)))) (b2 modD ((consO (some u_law_script) (consO (some (.int 1)) (some []))).bind (l_law_cell_at n)) (some (.int 2)))) fun u_law_base => (bnd (b2 fdivD ((consO (some u_law_script) (consO (some (.int 2)) (some []))).bind (l_law_cell_at n)) (some (.int 8))) fun u_law_style => (bnd (b2 addD (some (.int 1)) (b2 modD (b2 fdivD (some u_law_style) (some (.int 4))) (some (.int 12)))) fun u_law_size => (lD (consO (some u_law_base) (consO (b2 modD (some u_law_style) (some (.int 4))) (consO (some u_law_size) (consO (b2 modD ((consO (some u_law_script) (consO (some (.int 1)) (some []))).bind (l_law_cell_at n)) (some u_law_size)) (consO (b2 modD ((consO (some u_law_script) (consO (some (.int 0)) (some []))).bind (l_law_cell_at n)) (some (.int 26))) (some []))))))))))
def l_law_draw (n : Nat) : List D → Option D
  | [a0] => m_law_draw n a0
  | _ => none
def m_law_thing (n : Nat) (u_law_cell : D) (u_law_base : D) : Option D :=
  (ifM (b2 eqD (b2 modD (some u_law_cell) (some (.int 8))) (some (.int 7))) (b2 modD (b2 fdivD (some u_law_cell) (some (.int 8))) (b2 powD (some (.int 10)) (some (.int 9)))) (b2 modD (b2 addD (some u_law_base) (b2 modD (some u_law_cell) (some (.int 3)))) (b2 powD (some (.int 10)) (some (.int 9)))))
def l_law_thing (n : Nat) : List D → Option D
  | [a0, a1] => m_law_thing n a0 a1
  | _ => none
def m_law_awake (n : Nat) (u_law_held_here : D) : Option D :=
  (bnd (lD (lcG ((some u_law_held_here).bind itD) (fun u_law_one => ((b2 idxD (some u_law_one) (some (.int 4))).bind asB)) (fun u_law_one => (b2 idxD (some u_law_one) (some (.int 3)))))) fun u_law_lending => (bnd (lD (lcG ((some u_law_held_here).bind itD) (fun u_law_one => (andT (b2 neD (b2 idxD (some u_law_one) (some (.int 1))) (some (.str "pick"))) ((b2 idxD (some u_law_one) (some (.int 4))).bind asB))) (fun u_law_one => (some u_law_one)))) fun u_law_hands => (lD (lcG ((some u_law_hands).bind itD) (fun u_law_one => (b2 ninD (b2 idxD (some u_law_one) (some (.int 0))) (some u_law_lending))) (fun u_law_one => (some u_law_one))))))
def l_law_awake (n : Nat) : List D → Option D
  | [a0] => m_law_awake n a0
  | _ => none
def m_law_whole (n : Nat) (u_law_found : D) : Option D :=
  (andV ((some u_law_found).map fun d => PyData.bool (isInt d)) (notV ((some u_law_found).map fun d => PyData.bool (isBool d))))
def l_law_whole (n : Nat) : List D → Option D
  | [a0] => m_law_whole n a0
  | _ => none
def m_law_entry (n : Nat) (u_law_found : D) : Option D :=
  (ifM (orT (notT ((some u_law_found).map isTup)) (orT (b2 neD ((some u_law_found).bind lenD) (some (.int 5))) (notT ((b2 idxD (some u_law_found) (some (.int 4))).map isBool)))) (some (.bool false)) (ifM (orT (notT ((b2 idxD (some u_law_found) (some (.int 0))).map isStr)) (orT (notT ((b2 idxD (some u_law_found) (some (.int 1))).map isStr)) (notT ((b2 idxD (some u_law_found) (some (.int 3))).map isStr)))) (some (.bool false)) ((consO (b2 idxD (some u_law_found) (some (.int 2))) (some [])).bind (l_law_whole n))))
def l_law_entry (n : Nat) : List D → Option D
  | [a0] => m_law_entry n a0
  | _ => none
def m_law_held (n : Nat) (u_law_script : D) : Option D :=
  (bnd ((consO (some u_law_script) (some [])).bind (l_law_draw n)) fun u_law_draw_here => (bnd ((some []).map PyData.tuple) fun u_law_held_here => (bnd (bnd ((b2 modD ((consO (some u_law_script) (consO (some (.int 0)) (some []))).bind (l_law_cell_at n)) (some (.int 10))).bind rng1) fun ds => foldO (fun (u_law_k : D) (s1 : D) => (bnd ((consO (some u_law_script) (consO (b2 addD (some (.int 3)) (b2 mulD (some (.int 2)) (some u_law_k))) (some []))).bind (l_law_cell_at n)) fun u_law_cell => (bnd ((consO (some u_law_script) (consO (b2 addD (some (.int 4)) (b2 mulD (some (.int 2)) (some u_law_k))) (some []))).bind (l_law_cell_at n)) fun u_law_other => (bnd (lD (lcG ((some s1).bind itD) (fun u_law_one => (b2 neD (b2 idxD (some u_law_one) (some (.int 1))) (some (.str "pick")))) (fun u_law_one => (some u_law_one)))) fun u_law_hands => (bnd (b2 idxD (lD (consO (some (.str "read")) (consO (some (.str "write")) (consO (some (.str "read")) (consO (some (.str "write")) (consO (some (.str "pick")) (some []))))))) (b2 modD (some u_law_cell) (some (.int 5)))) fun u_law_kind => (bnd (ifM (b2 eqD ((some u_law_hands).bind lenD) (some (.int 6))) (bnd (some (.str "pick")) fun u_law_kind => (some u_law_kind)) (some u_law_kind)) fun s2 : D => (bnd (ifM (andT (b2 eqD (b2 subD ((some s1).bind lenD) ((some u_law_hands).bind lenD)) (some (.int 3))) (b2 eqD (some s2) (some (.str "pick")))) (bnd (some (.str "write")) fun u_law_kind => (some u_law_kind)) (some s2)) fun s3 : D => (bnd ((consO (b2 fdivD (some u_law_other) (some (.int 2))) (consO (b2 idxD (some u_law_draw_here) (some (.int 0))) (some []))).bind (l_law_thing n)) fun u_law_thing_here => (bnd (some (.str "")) fun u_law_source => (bnd (orV (bD (b2 eqD (some s3) (some (.str "pick")))) (bD (b2 (ordD gtI) (b2 modD (b2 fdivD (some u_law_cell) (some (.int 5))) (some (.int 3))) (some (.int 0))))) fun u_law_out => (bnd (ifM (andT (b2 neD (some s3) (some (.str "pick"))) (andT (b2 eqD (b2 modD (some u_law_other) (some (.int 2))) (some (.int 1))) (b2 (ordD gtI) ((some u_law_hands).bind lenD) (some (.int 0))))) (bnd (b2 idxD (some u_law_hands) (b2 modD (b2 fdivD (some u_law_other) (some (.int 2))) ((some u_law_hands).bind lenD))) fun u_law_holder => (bnd (b2 idxD (some u_law_holder) (some (.int 0))) fun u_law_source => (bnd (b2 idxD (some u_law_holder) (some (.int 2))) fun u_law_thing_here => (bnd (andV (some u_law_out) (b2 idxD (some u_law_holder) (some (.int 4)))) fun u_law_out => (bnd (ifM (b2 eqD (b2 idxD (some u_law_holder) (some (.int 1))) (some (.str "read"))) (bnd (some (.str "read")) fun u_law_kind => (some u_law_kind)) (some s3)) fun s5 : D => (some (s5, u_law_thing_here, u_law_source, u_law_out))))))) (some (s3, u_law_thing_here, u_law_source, u_law_out))) fun s4 : D × D × D × D => (bnd ((consO (some u_law_cell) (consO (some u_law_other) (consO ((some s1).bind lenD) (consO (some u_law_draw_here) (some []))))).bind (l_law_word n)) fun u_law_word_here => (bnd (b2 addD (some s1) ((consO ((consO (some u_law_word_here) (consO (some s4.1) (consO (some s4.2.1) (consO (some s4.2.2.1) (consO (some s4.2.2.2) (some [])))))).map PyData.tuple) (some [])).map PyData.tuple)) fun u_law_held_here => (some u_law_held_here)))))))))))))) ds u_law_held_here) fun s1 : D => (some s1))))
def l_law_held (n : Nat) : List D → Option D
  | [a0] => m_law_held n a0
  | _ => none
def m_law (n : Nat) (u_law_script : D) : Option D :=
  (bnd ((consO (some u_law_script) (some [])).bind (l_law_held n)) fun u_law_held_here => (bnd ((consO (some u_law_held_here) (some [])).bind (l_awake n)) fun u_law_found => (ifM (orT (notT ((some (.list u_law_found)).map isLst)) (notT (((lD (lcG ((some (.list u_law_found)).bind itD) (fun u_law_one => (some true)) (fun u_law_one => ((consO (some u_law_one) (some [])).bind (l_law_entry n))))).bind allD).bind asB))) (some (.bool false)) (ifM (b2 neD (some (.list u_law_found)) ((consO (some u_law_held_here) (some [])).bind (l_law_awake n))) (some (.bool false)) (bnd ((some u_law_held_here).bind (appM u_law_found)) fun u_law_found => (ifM (b2 neD (lD ((consO (some u_law_held_here) (some [])).bind (l_awake n))) ((consO (some u_law_held_here) (some [])).bind (l_law_awake n))) (some (.bool false)) (bD (b2 eqD (lD ((consO (slcD (some u_law_held_here) (some none) ((((some (.int 1)).bind negD).bind asI).map some)) (some [])).bind (l_awake n))) ((consO (slcD (some u_law_held_here) (some none) ((((some (.int 1)).bind negD).bind asI).map some)) (some [])).bind (l_law_awake n))))))))))
def l_law (n : Nat) : List D → Option D
  | [a0] => m_law n a0
  | _ => none
end Bw
/-! Ma1: reckoning with the mirrors' combinators. -/
namespace Bd
open PySem
theorem nd {α : Type} {a b : α} (h : a = b) : a = b := h
section
variable {α β γ S : Type}
@[simp] theorem bnd_some (a : α) (k : α → Option β) : bnd (some a) k = k a := nd rfl
@[simp] theorem bnd_none (k : α → Option β) : bnd none k = none := nd rfl
@[simp] theorem bnd_id (m : Option α) : bnd m (fun s => some s) = m := by cases m <;> rfl
@[simp] theorem ifM_t (m n : Option α) : ifM (some true) m n = m := nd rfl
@[simp] theorem ifM_f (m n : Option α) : ifM (some false) m n = n := nd rfl
theorem ifM_some (b : Bool) (m n : Option α) : ifM (some b) m n = if b = true then m else n := by cases b <;> rfl
theorem ifM_ss (b : Bool) (x y : α) : ifM (some b) (some x) (some y) = some (if b = true then x else y) := by cases b <;> rfl
@[simp] theorem andT_t (n : Option Bool) : andT (some true) n = n := nd rfl
@[simp] theorem andT_f (n : Option Bool) : andT (some false) n = some false := nd rfl
theorem andT_ss (a b : Bool) : andT (some a) (some b) = some (a && b) := by cases a <;> rfl
@[simp] theorem orT_t (n : Option Bool) : orT (some true) n = some true := nd rfl
@[simp] theorem orT_f (n : Option Bool) : orT (some false) n = n := nd rfl
theorem orT_ss (a b : Bool) : orT (some a) (some b) = some (a || b) := by cases a <;> rfl
@[simp] theorem notT_s (a : Bool) : notT (some a) = some (!a) := nd rfl
@[simp] theorem andV_t (n : Option D) : andV (some (.bool true)) n = n := nd rfl
@[simp] theorem andV_f (n : Option D) : andV (some (.bool false)) n = some (.bool false) := nd rfl
theorem andV_s (a : Bool) (n : Option D) : andV (some (.bool a)) n = if a = true then n else some (.bool false) := by cases a <;> rfl
theorem andV_ss (a b : Bool) : andV (some (.bool a)) (some (.bool b)) = some (.bool (a && b)) := by cases a <;> rfl
@[simp] theorem orV_t (n : Option D) : orV (some (.bool true)) n = some (.bool true) := nd rfl
@[simp] theorem orV_f (n : Option D) : orV (some (.bool false)) n = n := nd rfl
theorem orV_ss (a b : Bool) : orV (some (.bool a)) (some (.bool b)) = some (.bool (a || b)) := by cases a <;> rfl
@[simp] theorem notV_s (a : Bool) : notV (some (.bool a)) = some (.bool (!a)) := nd rfl
@[simp] theorem b2_some (f : α → β → Option γ) (a : α) (b : β) : b2 f (some a) (some b) = f a b := nd rfl
@[simp] theorem lD_some (a : List D) : lD (some a) = some (.list a) := nd rfl
@[simp] theorem bD_some (a : Bool) : bD (some a) = some (.bool a) := nd rfl
@[simp] theorem asB_b (a : Bool) : asB (.bool a) = some a := nd rfl
@[simp] theorem consO_some (d : D) (ds : List D) : consO (some d) (some ds) = some (d :: ds) := nd rfl
@[simp] theorem listD_l (ds : List D) : listD (.list ds) = some ds := nd rfl
@[simp] theorem itD_l (ds : List D) : itD (.list ds) = some ds := nd rfl
@[simp] theorem itD_t (ds : List D) : itD (.tuple ds) = some ds := nd rfl
@[simp] theorem seqD_l (ds : List D) : seqD (.list ds) = some ds := nd rfl
@[simp] theorem lenD_l (ds : List D) : lenD (.list ds) = some (.int ds.length) := nd rfl
@[simp] theorem lenD_t (ds : List D) : lenD (.tuple ds) = some (.int ds.length) := nd rfl
@[simp] theorem asI_i (i : Int) : asI (.int i) = some i := nd rfl
@[simp] theorem grd_true (m : Option α) : grd true m = m := nd rfl
theorem grd_pos {p : Prop} [Decidable p] (h : p) (m : Option α) : grd (decide p) m = m := by rw [decide_eq_true h]; rfl
@[simp] theorem addD_ii (i j : Int) : addD (.int i) (.int j) = some (.int (i + j)) := nd rfl
theorem addD_ss (x y : Str) (h : x.length + y.length ≤ LN) : addD (.str x) (.str y) = some (.str (x ++ y)) := grd_pos h _
theorem addD_ll (x y : List D) (h : x.length + y.length ≤ LN) : addD (.list x) (.list y) = some (.list (x ++ y)) := grd_pos h _
theorem addD_tt (x y : List D) (h : x.length + y.length ≤ LN) : addD (.tuple x) (.tuple y) = some (.tuple (x ++ y)) := grd_pos h _
@[simp] theorem subD_ii (i j : Int) : subD (.int i) (.int j) = some (.int (i - j)) := nd rfl
theorem fdivD_ii (i j : Int) (h : 0 < j ∧ j < 1073741824) : fdivD (.int i) (.int j) = some (.int (i / j)) := grd_pos h _
theorem modD_ii (i j : Int) (h : 0 < j) : modD (.int i) (.int j) = some (.int (i % j)) := grd_pos h _
theorem mulD_ii (i j : Int) (h : (-(2 ^ 64) < i ∧ i < 2 ^ 64) ∨ (-(2 ^ 64) < j ∧ j < 2 ^ 64)) : mulD (.int i) (.int j) = some (.int (i * j)) := grd_pos h _
theorem mulD_si (x : Str) (j : Int) (h : x.length ≤ 1000 ∧ 0 ≤ j ∧ j ≤ 1000) : mulD (.str x) (.int j) = some (.str (repS x j)) := grd_pos h _
@[simp] theorem negD_i (i : Int) : negD (.int i) = some (.int (-i)) := nd rfl
@[simp] theorem ordD_ii (p : Int → Int → Bool) (i j : Int) : ordD p (.int i) (.int j) = some (p i j) := nd rfl
@[simp] theorem eqD_ii (i j : Int) : eqD (.int i) (.int j) = some (i == j) := nd rfl
@[simp] theorem eqD_ss (i j : Str) : eqD (.str i) (.str j) = some (decide (i = j)) := nd rfl
@[simp] theorem eqD_bb (i j : Bool) : eqD (.bool i) (.bool j) = some (i == j) := nd rfl
@[simp] theorem neD_ii (i j : Int) : neD (.int i) (.int j) = some (!(i == j)) := nd rfl
@[simp] theorem neD_ss (i j : Str) : neD (.str i) (.str j) = some (!decide (i = j)) := nd rfl
@[simp] theorem isN_n (a : D) : isN a .none = some (nonD a) := nd rfl
@[simp] theorem notN_n (a : D) : notN a .none = some (!nonD a) := nd rfl
@[simp] theorem intD_b (b : Bool) : intD (.bool b) = some (.int (if b = true then 1 else 0)) := nd rfl
@[simp] theorem intD_i (b : Int) : intD (.int b) = some (.int b) := nd rfl
@[simp] theorem tupD_l (ds : List D) : tupD (.list ds) = some (.tuple ds) := nd rfl
@[simp] theorem isInt_i (i : Int) : isInt (.int i) = true := nd rfl
@[simp] theorem isBool_i (i : Int) : isBool (.int i) = false := nd rfl
@[simp] theorem isInt_s (i : Str) : isInt (.str i) = false := nd rfl
@[simp] theorem isBool_b (i : Bool) : isBool (.bool i) = true := nd rfl
@[simp] theorem isStr_s (i : Str) : isStr (.str i) = true := nd rfl
@[simp] theorem isStr_i (i : Int) : isStr (.int i) = false := nd rfl
@[simp] theorem isTup_t (i : List D) : isTup (.tuple i) = true := nd rfl
@[simp] theorem isTup_l (i : List D) : isTup (.list i) = false := nd rfl
@[simp] theorem isLst_l (i : List D) : isLst (.list i) = true := nd rfl
@[simp] theorem isLst_t (i : List D) : isLst (.tuple i) = false := nd rfl
theorem pow9 : powD (.int 10) (.int 9) = some (.int 1000000000) := nd rfl
/-- places -/
theorem idxD_l (ds : List D) (k : Nat) : idxD (.list ds) (.int (k : Int)) = ds[k]? := by
  show L2.atI ds (k : Int) = ds[k]?
  unfold L2.atI L2.ixN
  by_cases h : k < ds.length
  · rw [if_pos (by omega), if_pos (by omega)]; simp
  · rw [if_pos (by omega), if_neg (by omega)]; simp; omega
theorem idxD_t (ds : List D) (k : Nat) : idxD (.tuple ds) (.int (k : Int)) = ds[k]? := idxD_l ds k
theorem idxD_li (ds : List D) (i : Int) (h : 0 ≤ i) : idxD (.list ds) (.int i) = ds[i.toNat]? := by
  obtain ⟨k, rfl⟩ := Int.eq_ofNat_of_zero_le h
  exact idxD_l ds k
theorem idxD_last (ds : List D) (h : ds ≠ []) : idxD (.list ds) (.int (-1)) = ds.getLast? := by
  cases hl : ds.getLast? with
  | none => rw [List.getLast?_eq_none_iff] at hl; exact absurd hl h
  | some d =>
    obtain ⟨ys, rfl⟩ := List.getLast?_eq_some_iff.mp hl
    exact L2.atI_last ys d
@[simp] theorem idl0 (a : D) (r : List D) : idxD (.list (a :: r)) (.int 0) = some a := idxD_l (a :: r) 0
@[simp] theorem idl1 (a b : D) (r : List D) : idxD (.list (a :: b :: r)) (.int 1) = some b := idxD_l (a :: b :: r) 1
@[simp] theorem idl2 (a b c : D) (r : List D) : idxD (.list (a :: b :: c :: r)) (.int 2) = some c := idxD_l (a :: b :: c :: r) 2
@[simp] theorem idl3 (a b c d : D) (r : List D) : idxD (.list (a :: b :: c :: d :: r)) (.int 3) = some d := idxD_l (a :: b :: c :: d :: r) 3
@[simp] theorem idl4 (a b c d e : D) (r : List D) : idxD (.list (a :: b :: c :: d :: e :: r)) (.int 4) = some e := idxD_l (a :: b :: c :: d :: e :: r) 4
@[simp] theorem idt0 (a : D) (r : List D) : idxD (.tuple (a :: r)) (.int 0) = some a := idxD_t (a :: r) 0
@[simp] theorem idt1 (a b : D) (r : List D) : idxD (.tuple (a :: b :: r)) (.int 1) = some b := idxD_t (a :: b :: r) 1
@[simp] theorem idt2 (a b c : D) (r : List D) : idxD (.tuple (a :: b :: c :: r)) (.int 2) = some c := idxD_t (a :: b :: c :: r) 2
@[simp] theorem idt3 (a b c d : D) (r : List D) : idxD (.tuple (a :: b :: c :: d :: r)) (.int 3) = some d := idxD_t (a :: b :: c :: d :: r) 3
@[simp] theorem idt4 (a b c d e : D) (r : List D) : idxD (.tuple (a :: b :: c :: d :: e :: r)) (.int 4) = some e := idxD_t (a :: b :: c :: d :: e :: r) 4
/-- a place by a remainder, in a list of n -/
theorem idx_mod (ds : List D) (i : Int) (h : 0 < ds.length) : ∃ d, idxD (.list ds) (.int (i % (ds.length : Int))) = some d ∧ d ∈ ds := by
  have h1 : 0 ≤ i % (ds.length : Int) := Int.emod_nonneg _ (by omega)
  have h2 : i % (ds.length : Int) < ds.length := Int.emod_lt_of_pos _ (by omega)
  rw [idxD_li _ _ h1]
  have h3 : (i % (ds.length : Int)).toNat < ds.length := by omega
  exact ⟨_, List.getElem?_eq_getElem h3, List.getElem_mem h3⟩
theorem idx_mem {ds : List D} {i : Int} (h0 : 0 ≤ i) (h : i < ds.length) : ∃ d, idxD (.list ds) (.int i) = some d ∧ d ∈ ds := by
  rw [idxD_li _ _ h0]
  have h3 : i.toNat < ds.length := by omega
  exact ⟨_, List.getElem?_eq_getElem h3, List.getElem_mem h3⟩
/-- loops -/
@[simp] theorem foldO_nil {ι : Type} (f : ι → S → Option S) (s : S) : foldO f [] s = some s := nd rfl
theorem foldO_cons {ι : Type} (f : ι → S → Option S) (d : ι) (r : List ι) (s : S) : foldO f (d :: r) s = (f d s).bind (foldO f r) := rfl
theorem foldO_append {ι : Type} (f : ι → S → Option S) : ∀ (a b : List ι) (s : S), foldO f (a ++ b) s = (foldO f a s).bind (foldO f b)
  | [], _, _ => rfl
  | d :: r, b, s => by
    rw [List.cons_append, foldO_cons, foldO_cons]
    cases f d s with
    | none => rfl
    | some s' => exact foldO_append f r b s'
/-- what holds from turn to turn -/
theorem foldO_inv {ι : Type} {f : ι → S → Option S} (P : Nat → S → Prop) {ds : List ι} (hs : ∀ i d s, ds[i]? = some d → P i s → ∃ s', f d s = some s' ∧ P (i + 1) s') {s : S} (h0 : P 0 s) : ∃ s', foldO f ds s = some s' ∧ P ds.length s' := by
  induction ds generalizing P s with
  | nil => exact ⟨s, rfl, h0⟩
  | cons d r ih =>
    obtain ⟨s1, e1, p1⟩ := hs 0 d s rfl h0
    obtain ⟨s2, e2, p2⟩ := ih (P := fun i => P (i + 1)) (fun i d s hd p => hs (i + 1) d s (by simpa using hd) p) p1
    exact ⟨s2, by rw [foldO_cons, e1]; exact e2, p2⟩
/-- a fold that never fails is a plain one -/
theorem foldO_pure {ι : Type} {f : ι → S → Option S} {g : S → ι → S} (P : S → Prop) {ds : List ι} (hs : ∀ d s, d ∈ ds → P s → f d s = some (g s d) ∧ P (g s d)) {s : S} (h0 : P s) : foldO f ds s = some (ds.foldl g s) ∧ P (ds.foldl g s) := by
  induction ds generalizing s with
  | nil => exact ⟨rfl, h0⟩
  | cons d r ih =>
    obtain ⟨e1, p1⟩ := hs d s List.mem_cons_self h0
    obtain ⟨e2, p2⟩ := ih (fun d s hd p => hs d s (List.mem_cons_of_mem _ hd) p) p1
    exact ⟨by rw [foldO_cons, e1]; exact e2, p2⟩
/-- comprehensions -/
theorem lcM_pure {ι : Type} {c : ι → Option Bool} {f : ι → Option D} {p : ι → Bool} {g : ι → D} : ∀ {ds : List ι}, (∀ d ∈ ds, c d = some (p d)) → (∀ d ∈ ds, p d = true → f d = some (g d)) → lcM c f ds = some ((ds.filter p).map g)
  | [], _, _ => rfl
  | d :: r, hc, hf => by
    have ih := lcM_pure (ds := r) (fun x hx => hc x (List.mem_cons_of_mem _ hx)) (fun x hx => hf x (List.mem_cons_of_mem _ hx))
    unfold lcM
    rw [hc d List.mem_cons_self]
    cases hp : p d with
    | false =>
      rw [List.filter_cons_of_neg (by rw [hp]; exact Bool.false_ne_true)]
      exact ih
    | true =>
      rw [List.filter_cons_of_pos hp, List.map_cons]
      show (f d).bind _ = _
      rw [hf d List.mem_cons_self hp]
      show (lcM c f r).map _ = _
      rw [ih]
      rfl
theorem lcG_pure {ι : Type} {c : ι → Option Bool} {f : ι → Option D} {p : ι → Bool} {g : ι → D} {ds : List ι} (hl : ds.length ≤ LN) (hc : ∀ d ∈ ds, c d = some (p d)) (hf : ∀ d ∈ ds, p d = true → f d = some (g d)) : lcG (some ds) c f = some ((ds.filter p).map g) := by
  show grd _ _ = _
  rw [grd_pos hl, lcM_pure hc hf]
theorem lcG_map {ι : Type} {f : ι → Option D} {g : ι → D} {ds : List ι} (hl : ds.length ≤ LN) (hf : ∀ d ∈ ds, f d = some (g d)) : lcG (some ds) (fun _ => some true) f = some (ds.map g) := by
  rw [lcG_pure (p := fun _ => true) hl (fun _ _ => rfl) (fun d hd _ => hf d hd)]
  rw [List.filter_eq_self.mpr (fun _ _ => rfl)]
theorem allB_map (bs : List Bool) : allD (.list (bs.map PyData.bool)) = some (.bool (bs.all id)) := by
  show (allB _).map _ = _
  rw [allB_of]; rfl
theorem anyB_map (bs : List Bool) : anyD (.list (bs.map PyData.bool)) = some (.bool (bs.any id)) := by
  show (allB _).map _ = _
  rw [allB_of]; rfl
theorem sumI_map (ns : List Int) : sumD (.list (ns.map PyData.int)) = some (.int ns.sum) := by
  show (allI _).map _ = _
  rw [allI_of]; rfl
theorem rngL_length (lo : Int) (n : Nat) : (rngL lo n).length = n := by unfold rngL; rw [List.length_map, List.length_range]
theorem rngL_get {lo : Int} {n i : Nat} {d : D} (h : (rngL lo n)[i]? = some d) : i < n ∧ d = .int (lo + i) := by
  unfold rngL at h
  rw [List.getElem?_map] at h
  by_cases hi : i < n
  · rw [List.getElem?_range hi] at h
    cases h
    exact ⟨hi, rfl⟩
  · rw [List.getElem?_eq_none (by rw [List.length_range]; omega)] at h
    cases h
theorem rng1_i (n : Int) (h : -(2 ^ 62) ≤ n ∧ n < 2 ^ 62) : rng1 (.int n) = some (rngL 0 n.toNat) := grd_pos h _
theorem rng2_i (l n : Int) (h : -(2 ^ 62) ≤ l ∧ l < 2 ^ 62 ∧ -(2 ^ 62) ≤ n ∧ n < 2 ^ 62) : rng2 (.int l) (.int n) = some (rngL l (n - l).toNat) := grd_pos h _
theorem appM_some {ds : List D} {d : D} (h : ds.length < LN) : appM ds d = some (ds ++ [d]) := grd_pos h _
/-- data that == may see -/
theorem shaped_of {d : D} (h1 : d.canLay0 = true) (h2 : d.depth ≤ 64) : SeqAt.shaped d = true := by
  unfold SeqAt.shaped
  rw [h1, decide_eq_true h2]; rfl
theorem eqD_refl {d : D} (h : SeqAt.shaped d = true) : eqD d d = some true := by
  have h1 : PyData.eqv d d = true := SeqAt.eqv_refl d (SeqAt.canLay_of_shaped h)
  have h2 : grd (SeqAt.shaped d && SeqAt.shaped d) (some (PyData.eqv d d)) = some true := by rw [h, h1]; rfl
  cases d with
  | int i => simp
  | str i => simp
  | bool i => simp
  | none => rfl
  | list a => exact h2
  | tuple a => exact h2
  | dict a => exact h2
theorem neD_refl {d : D} (h : SeqAt.shaped d = true) : neD d d = some false := by
  unfold neD
  rw [eqD_refl h]; rfl
/-- over encoded items -/
theorem lcG_pureE {ε ι : Type} {enc : ε → ι} {c : ι → Option Bool} {f : ι → Option D} {p : ε → Bool} {g : ε → D} {es : List ε} (hl : es.length ≤ LN) (hc : ∀ e ∈ es, c (enc e) = some (p e)) (hf : ∀ e ∈ es, p e = true → f (enc e) = some (g e)) : lcG (some (es.map enc)) c f = some ((es.filter p).map g) := by
  show grd _ _ = _
  rw [grd_pos (by rw [List.length_map]; exact hl)]
  clear hl
  induction es with
  | nil => rfl
  | cons e r ih =>
    have ih := ih (fun x hx => hc x (List.mem_cons_of_mem _ hx)) (fun x hx => hf x (List.mem_cons_of_mem _ hx))
    rw [List.map_cons]
    unfold lcM
    rw [hc e List.mem_cons_self]
    cases hp : p e with
    | false =>
      rw [List.filter_cons_of_neg (by rw [hp]; exact Bool.false_ne_true)]
      exact ih
    | true =>
      rw [List.filter_cons_of_pos hp, List.map_cons]
      show (f (enc e)).bind _ = _
      rw [hf e List.mem_cons_self hp]
      show (lcM c f (r.map enc)).map _ = _
      rw [ih]
      rfl
theorem lcG_mapE {ε ι : Type} {enc : ε → ι} {f : ι → Option D} {g : ε → D} {es : List ε} (hl : es.length ≤ LN) (hf : ∀ e ∈ es, f (enc e) = some (g e)) : lcG (some (es.map enc)) (fun _ => some true) f = some (es.map g) := by
  rw [lcG_pureE (enc := enc) (c := fun _ => some true) (f := f) (p := fun _ => true) (g := g) hl (fun _ _ => rfl) (fun d hd _ => hf d hd)]
  rw [List.filter_eq_self.mpr (fun _ _ => rfl)]
theorem foldO_map {ε ι : Type} {enc : ε → ι} (f : ι → S → Option S) : ∀ (es : List ε) (s : S), foldO f (es.map enc) s = foldO (fun e => f (enc e)) es s
  | [], _ => rfl
  | e :: r, s => by
    rw [List.map_cons, foldO_cons, foldO_cons]
    cases f (enc e) s with
    | none => rfl
    | some s' => exact foldO_map f r s'
/-- a list made by appends -/
theorem foldO_filter {ε : Type} {f : ε → List D → Option (List D)} {p : ε → Bool} {g : ε → D} {es : List ε} (hl : es.length ≤ LN) (hf : ∀ e ∈ es, ∀ acc, acc.length < LN → f e acc = some (if p e then acc ++ [g e] else acc)) : foldO f es [] = some ((es.filter p).map g) := by
  obtain ⟨s, h1, h2⟩ := foldO_inv (f := f) (ds := es) (s := []) (fun i acc => acc = ((es.take i).filter p).map g) (fun i e acc hi ha => by
    have hlt := (List.getElem?_eq_some_iff.mp hi).1
    have hm : e ∈ es := List.mem_of_getElem? hi
    have hz : acc.length < LN := by
      rw [ha, List.length_map]
      have h3 := List.length_filter_le p (es.take i)
      rw [List.length_take] at h3
      exact Nat.lt_of_lt_of_le (Nat.lt_of_le_of_lt h3 (by omega)) hl
    refine ⟨_, hf e hm acc hz, ?_⟩
    rw [List.take_add_one, hi, List.filter_append, List.map_append, ← ha]
    cases hp : p e with
    | true => simp [hp]
    | false => simp [hp]) rfl
  rw [List.take_length] at h2
  rw [h1, h2]
/-- data of no greater depth, its texts sound -/
def shD (k : Nat) (d : D) : Prop := d.canLay0 = true ∧ d.depth ≤ k
theorem shD_int (k : Nat) (i : Int) : shD k (.int i) := ⟨by simp [PyData.canLay0], by simp [PyData.depth]⟩
theorem shD_bool (k : Nat) (i : Bool) : shD k (.bool i) := ⟨by simp [PyData.canLay0], by simp [PyData.depth]⟩
theorem shD_none (k : Nat) : shD k .none := ⟨by simp [PyData.canLay0], by simp [PyData.depth]⟩
theorem shD_str (k : Nat) {x : Str} (h : PyData.strOk x = true) : shD k (.str x) := ⟨by simp [PyData.canLay0, h], by simp [PyData.depth]⟩
theorem shD_all {k : Nat} : ∀ {xs : List D}, (∀ x ∈ xs, shD k x) → PyData.canLayAll0 xs = true ∧ PyData.depthAll xs ≤ k
  | [], _ => ⟨by simp [PyData.canLayAll0], by simp [PyData.depthAll]⟩
  | x :: xs, h => by
    obtain ⟨h1, h2⟩ := h x List.mem_cons_self
    obtain ⟨h3, h4⟩ := shD_all (xs := xs) fun y hy => h y (List.mem_cons_of_mem _ hy)
    refine ⟨by simp [PyData.canLayAll0, h1, h3], ?_⟩
    rw [PyData.depthAll]
    exact Nat.max_le.mpr ⟨h2, h4⟩
theorem shD_list {k : Nat} {xs : List D} (h : ∀ x ∈ xs, shD k x) : shD (k + 1) (.list xs) := by
  obtain ⟨h1, h2⟩ := shD_all h
  exact ⟨by rw [PyData.canLay0]; exact h1, by rw [PyData.depth]; omega⟩
theorem shD_tup {k : Nat} {xs : List D} (h : ∀ x ∈ xs, shD k x) : shD (k + 1) (.tuple xs) := by
  obtain ⟨h1, h2⟩ := shD_all h
  exact ⟨by rw [PyData.canLay0]; exact h1, by rw [PyData.depth]; omega⟩
theorem shD_mono {k j : Nat} {d : D} (h : shD k d) (e : k ≤ j) : shD j d := ⟨h.1, Nat.le_trans h.2 e⟩
theorem shD.ok {k : Nat} {d : D} (h : shD k d) (e : k ≤ 64) : SeqAt.shaped d = true := shaped_of h.1 (Nat.le_trans h.2 e)
theorem ln100 {n : Nat} (h : n ≤ 100000) : n ≤ LN := Nat.le_trans h (by decide)
theorem lt100 {n : Nat} (h : n < 100000) : n < LN := Nat.lt_of_lt_of_le h (by decide)
/-- cuts -/
theorem cutL_to {α : Type} (xs : List α) (k : Nat) : cutL xs none (some (k : Int)) = xs.take k := by
  unfold cutL
  rw [HT.sIx_none, HT.sIx_nat, List.drop_zero, Nat.sub_zero]
  apply List.ext_getElem?
  intro i
  simp only [List.getElem?_take]
  by_cases h : i < k
  · by_cases h2 : i < xs.length
    · rw [if_pos (by omega), if_pos h]
    · rw [if_neg (by omega), if_pos h, List.getElem?_eq_none (by omega)]
  · rw [if_neg (by omega), if_neg h]
theorem cutL_from {α : Type} (xs : List α) (k : Nat) : cutL xs (some (k : Int)) none = xs.drop k := by
  unfold cutL
  rw [HT.sIx_none, HT.sIx_nat]
  by_cases h : k ≤ xs.length
  · rw [Nat.min_eq_left h]
    exact List.take_of_length_le (by rw [List.length_drop]; omega)
  · rw [Nat.min_eq_right (by omega), Nat.sub_self, List.take_zero, List.drop_eq_nil_of_le (by omega)]
theorem cutL_butLast {α : Type} (xs : List α) : cutL xs none (some (-1)) = xs.dropLast := by
  unfold cutL
  have e : HT.sIx xs.length xs.length (some (-1)) = xs.length - 1 := by
    show (if (-1 : Int) < 0 then ((-1 : Int) + (xs.length : Int)).toNat else min (-1 : Int).toNat xs.length) = xs.length - 1
    rw [if_pos (by decide)]
    omega
  rw [HT.sIx_none, e, List.drop_zero, Nat.sub_zero, List.dropLast_eq_take]
@[simp] theorem cutD_l (ds : List D) (l h : Option Int) : cutD (.list ds) l h = some (.list (cutL ds l h)) := nd rfl
@[simp] theorem cutD_t (ds : List D) (l h : Option Int) : cutD (.tuple ds) l h = some (.tuple (cutL ds l h)) := nd rfl
@[simp] theorem slcD_s (d : D) (l h : Option Int) : slcD (some d) (some l) (some h) = cutD d l h := nd rfl
end
end Bd
/-! ### the script's cells, words, things -/
namespace Bw
open PySem Bd
def sD (ns : List Int) : D := .list (ns.map PyData.int)
def cellI (ns : List Int) (k : Nat) : Int := ns.getD k 0
theorem cell_eq (n : Nat) (ns : List Int) (i : Int) (h : 0 ≤ i) : m_law_cell_at n (sD ns) (.int i) = some (.int (cellI ns i.toNat)) := by
  obtain ⟨k, rfl⟩ := Int.eq_ofNat_of_zero_le h
  unfold m_law_cell_at sD cellI
  simp only [Option.bind_some, lenD_l, b2_some, ordD_ii, List.length_map]
  by_cases hk : (k : Int) < ns.length
  · rw [show ltI (k : Int) (ns.length : Int) = true from decide_eq_true hk, ifM_t, idxD_l, List.getElem?_map]
    have hk' : k < ns.length := by omega
    simp [hk']
  · rw [show ltI (k : Int) (ns.length : Int) = false from decide_eq_false hk, ifM_f]
    have hk' : ns.length ≤ k := by omega
    simp [hk']
theorem lcell_eq (n : Nat) (ns : List Int) (i : Int) (h : 0 ≤ i) : l_law_cell_at n [sD ns, .int i] = some (.int (cellI ns i.toNat)) := cell_eq n ns i h
/-- a text by its codes -/
def mkS (l : List Nat) : Str := ⟨l.toArray⟩
theorem mkS_len (l : List Nat) : (mkS l).length = l.length := by show l.toArray.size = _; simp
theorem mkS_app (a b : List Nat) : mkS a ++ mkS b = mkS (a ++ b) := by
  show Str.mk (a.toArray ++ b.toArray) = Str.mk _
  simp [mkS]
theorem mkS_inj {a b : List Nat} (h : mkS a = mkS b) : a = b := by
  unfold mkS at h
  simpa using h
theorem mkS_codes (l : List Nat) : (mkS l).cps.toList = l := by simp [mkS]
theorem addD_mk (a b : List Nat) (h : a.length + b.length ≤ 1000) : addD (.str (mkS a)) (.str (mkS b)) = some (.str (mkS (a ++ b))) := by
  rw [addD_ss _ _ (by rw [mkS_len, mkS_len]; exact Nat.le_trans h (by decide)), mkS_app]
/-- small letters -/
def Low (l : List Nat) : Prop := ∀ c ∈ l, 97 ≤ c ∧ c ≤ 122
theorem low_ok {l : List Nat} (h : Low l) : PyData.strOk (mkS l) = true := by
  unfold PyData.strOk mkS
  simp only [List.all_toArray, List.all_eq_true, decide_eq_true_eq]
  intro c hc
  have := h c hc
  omega
structure Dr where
  base : Int
  sty : Int
  size : Int
  pos : Int
  le : Int
  h1 : 0 ≤ base ∧ base < 1000000000
  h2 : 0 ≤ sty ∧ sty < 4
  h3 : 1 ≤ size ∧ size ≤ 12
  h4 : 0 ≤ pos ∧ pos < size
  h5 : 0 ≤ le ∧ le < 26
def Dr.enc (d : Dr) : D := .list [.int d.base, .int d.sty, .int d.size, .int d.pos, .int d.le]
theorem draw_eq (n : Nat) (ns : List Int) : ∃ d : Dr, m_law_draw n (sD ns) = some d.enc := by
  have c1 : l_law_cell_at n [sD ns, .int 1] = some (.int (cellI ns 1)) := lcell_eq n ns 1 (by decide)
  have c2 : l_law_cell_at n [sD ns, .int 2] = some (.int (cellI ns 2)) := lcell_eq n ns 2 (by decide)
  have c0 : l_law_cell_at n [sD ns, .int 0] = some (.int (cellI ns 0)) := lcell_eq n ns 0 (by decide)
  generalize cellI ns 1 = x at c1
  generalize cellI ns 2 = y at c2
  generalize cellI ns 0 = z at c0
  have hb : 0 ≤ x / 2 % 1000000000 * (x % 2) ∧ x / 2 % 1000000000 * (x % 2) < 1000000000 := by
    have h1 : 0 ≤ x / 2 % 1000000000 := Int.emod_nonneg _ (by decide)
    have h2 : x / 2 % 1000000000 < 1000000000 := Int.emod_lt_of_pos _ (by decide)
    rcases Int.emod_two_eq x with e | e
    · rw [e]; omega
    · rw [e]; omega
  refine ⟨⟨x / 2 % 1000000000 * (x % 2), y / 8 % 4, 1 + y / 8 / 4 % 12, x % (1 + y / 8 / 4 % 12), z % 26, hb, by omega, by omega, ⟨Int.emod_nonneg _ (by omega), Int.emod_lt_of_pos _ (by omega)⟩, by omega⟩, ?_⟩
  unfold m_law_draw
  simp only [consO_some, Option.bind_some, c1, c2, c0, b2_some, fdivD_ii x 2 (by decide), fdivD_ii y 8 (by decide), pow9, modD_ii _ _ (show (0 : Int) < 1000000000 by decide), modD_ii _ _ (show (0 : Int) < 2 by decide), bnd_some, fdivD_ii _ 4 (by decide), modD_ii _ _ (show (0 : Int) < 12 by decide), modD_ii _ _ (show (0 : Int) < 4 by decide), modD_ii _ _ (show (0 : Int) < 26 by decide), addD_ii]
  rw [mulD_ii _ _ (by omega)]
  simp only [bnd_some]
  rw [modD_ii _ _ (by omega)]
  rfl
theorem thing_eq (n : Nat) (c b : Int) : ∃ t, m_law_thing n (.int c) (.int b) = some (.int t) ∧ 0 ≤ t ∧ t < 1000000000 := by
  unfold m_law_thing
  simp only [b2_some, modD_ii _ _ (show (0 : Int) < 8 by decide), eqD_ii, fdivD_ii c 8 (by decide), pow9, modD_ii _ _ (show (0 : Int) < 1000000000 by decide), modD_ii _ _ (show (0 : Int) < 3 by decide), addD_ii]
  rw [ifM_ss]
  split
  · exact ⟨_, rfl, Int.emod_nonneg _ (by decide), Int.emod_lt_of_pos _ (by decide)⟩
  · exact ⟨_, rfl, Int.emod_nonneg _ (by decide), Int.emod_lt_of_pos _ (by decide)⟩
theorem lthing_eq (n : Nat) (c b : Int) : ∃ t, l_law_thing n [.int c, .int b] = some (.int t) ∧ 0 ≤ t ∧ t < 1000000000 := thing_eq n c b
theorem letters_codes : (Str.ofString "abcdefghijklmnopqrstuvwxyz").cps.toList = (List.range 26).map (97 + ·) := by decide +kernel
theorem letter_at (i : Int) (h : 0 ≤ i) (h2 : i < 26) : idxD (.str (Str.ofString "abcdefghijklmnopqrstuvwxyz")) (.int i) = some (.str (mkS [97 + i.toNat])) := by
  obtain ⟨k, rfl⟩ := Int.eq_ofNat_of_zero_le h
  have hk : k < 26 := by omega
  show grd _ ((L2.atI _ _).map _) = _
  rw [letters_codes, L2.atI_nat (v := 97 + k) (by rw [List.getElem?_map, List.getElem?_range hk]; rfl)]
  exact grd_pos (by decide +kernel) _
/-- what a word at that depth is -/
structure Wd (d : Dr) (deep : Nat) (l : List Nat) : Prop where
  low : Low l
  one : d.sty = 0 → l.length = deep + 1
  two : d.sty ≠ 0 → (l.length : Int) = d.size ∧ l[d.pos.toNat]? = some (97 + ((d.le + 5 * (deep : Int)) % 26).toNat)
theorem Wd.len {d : Dr} {deep : Nat} {l : List Nat} (w : Wd d deep l) (h : deep < 12) : 1 ≤ l.length ∧ l.length ≤ 12 := by
  by_cases hs : d.sty = 0
  · have := w.one hs; omega
  · have := (w.two hs).1; have := d.h3; omega
theorem Wd.ne {d : Dr} {i j : Nat} {a b : List Nat} (x : Wd d i a) (y : Wd d j b) (h : i ≠ j) (hi : i < 26) (hj : j < 26) : a ≠ b := by
  intro e
  subst e
  by_cases hs : d.sty = 0
  · have := x.one hs; have := y.one hs; omega
  · have h1 := (x.two hs).2
    have h2 := (y.two hs).2
    rw [h1] at h2
    have h3 := Option.some.inj h2
    have := d.h5
    omega
theorem rep_codes (c k : Nat) : repS (mkS [c]) ((k : Int) + 1) = mkS (List.replicate (k + 1) c) := by
  unfold repS Txt.mul
  rw [if_neg (by omega)]
  by_cases hk : k = 0
  · subst hk
    rw [if_pos (by rfl)]
    rfl
  · rw [if_neg (by
      have : (((k : Int) + 1) == 1) = false := by
        rw [beq_eq_false_iff_ne]; omega
      rw [this]
      simp [mkS_len])]
    have e : ((k : Int) + 1).toNat = k + 1 := by omega
    rw [e]
    have go : ∀ (m : Nat) (acc : Array Nat), ((List.replicate m (mkS [c]).cps).foldl (· ++ ·) acc) = acc ++ (List.replicate m c).toArray := by
      intro m
      induction m with
      | zero => intro acc; simp
      | succ m ih =>
        intro acc
        rw [List.replicate_succ, List.foldl_cons, ih]
        apply Array.toList_inj.mp
        simp [mkS, List.replicate_succ]
    rw [go]
    simp [mkS]
theorem word_eq (n : Nat) (d : Dr) (one two : Int) (deep : Nat) (hd : deep < 26) : ∃ l, m_law_word n (.int one) (.int two) (.int (deep : Int)) d.enc = some (.str (mkS l)) ∧ Wd d deep l := by
  have hs0 := d.h2
  have hz := d.h3
  have hp := d.h4
  have hl := d.h5
  unfold m_law_word Dr.enc
  simp only [bnd_some, b2_some, idl4, idl1, idl2, idl3, idl0, mulD_ii 5 _ (.inl (by decide)), addD_ii, modD_ii _ _ (show (0 : Int) < 26 by decide), eqD_ii]
  rw [letter_at _ (by omega) (by omega)]
  simp only [bnd_some]
  by_cases hs : d.sty = 0
  · rw [show (d.sty == 0) = true from by rw [hs]; rfl, ifM_t, letter_at _ (by omega) (by omega)]
    simp only [b2_some]
    rw [mulD_si _ _ ⟨by rw [mkS_len]; exact (by decide : 1 ≤ 1000), by omega, by omega⟩, rep_codes]
    refine ⟨_, rfl, fun c hc => ?_, fun _ => by rw [List.length_replicate], fun h => absurd hs h⟩
    have := List.eq_of_mem_replicate hc
    omega
  · rw [show (d.sty == 0) = false from by rw [beq_eq_false_iff_ne]; exact hs, ifM_f]
    rw [Option.bind_some, rng1_i _ (by omega)]
    simp only [bnd_some, bnd_id]
    have main : ∀ (f : D → D → Option D), (∀ (i : Nat) (l : List Nat), (i : Int) < d.size → l.length = i → Low l → ∃ c, (97 ≤ c ∧ c ≤ 122 ∧ ((i : Int) = d.pos → c = 97 + ((d.le + 5 * (deep : Int)) % 26).toNat)) ∧ f (.int (0 + (i : Int))) (.str (mkS l)) = some (.str (mkS (l ++ [c])))) →
        ∃ l, foldO f (rngL 0 d.size.toNat) (.str (Str.ofString "")) = some (.str (mkS l)) ∧ Wd d deep l := by
      intro f hf
      obtain ⟨s', e', l, el, hlen, hlow, hpos⟩ := foldO_inv (f := f) (ds := rngL 0 d.size.toNat) (s := .str (Str.ofString "")) (fun i s => ∃ l, s = .str (mkS l) ∧ l.length = i ∧ Low l ∧ ((d.pos < (i : Int)) → l[d.pos.toNat]? = some (97 + ((d.le + 5 * (deep : Int)) % 26).toNat)))
        (fun i x s hx ⟨l, es, h1, h2, h3⟩ => by
          obtain ⟨hi, ex⟩ := rngL_get hx
          subst es ex
          obtain ⟨c, ⟨c1, c2, c3⟩, e⟩ := hf i l (by omega) h1 h2
          refine ⟨_, e, _, rfl, by rw [List.length_append, h1]; rfl, fun y hy => ?_, fun hlt => ?_⟩
          · rcases List.mem_append.mp hy with hy | hy
            · exact h2 y hy
            · rw [List.mem_singleton.mp hy]; exact ⟨c1, c2⟩
          · by_cases hpi : (i : Int) = d.pos
            · rw [List.getElem?_append_right (by omega), show d.pos.toNat - l.length = 0 by omega, ← c3 hpi]
              rfl
            · rw [List.getElem?_append_left (by omega)]
              exact h3 (by omega))
        ⟨[], rfl, rfl, (fun _ h => by cases h), fun h => by omega⟩
      rw [rngL_length] at hlen hpos
      subst el
      exact ⟨l, e', hlow, fun h => absurd h hs, fun _ => ⟨by omega, hpos (by omega)⟩⟩
    refine main _ (fun i l hi hlen hlow => ?_)
    · have hsz : ∀ c : Nat, l.length + [c].length ≤ 1000 := fun c => by show l.length + 1 ≤ 1000; omega
      rw [eqD_ii]
      have hb : (97 ≤ 97 + ((d.le + 5 * (deep : Int)) % 26).toNat ∧ 97 + ((d.le + 5 * (deep : Int)) % 26).toNat ≤ 122) := by omega
      by_cases hpi : (i : Int) = d.pos
      · refine ⟨_, ⟨hb.1, hb.2, fun _ => rfl⟩, ?_⟩
        rw [show ((0 : Int) + (i : Int) == d.pos) = true from by rw [beq_iff_eq]; omega]
        simp only [ifM_t]
        rw [addD_mk _ _ (hsz _)]
      · rw [show ((0 : Int) + (i : Int) == d.pos) = false from by rw [beq_eq_false_iff_ne]; omega]
        simp only [ifM_f]
        by_cases h1 : d.sty = 1
        · rw [show (d.sty == 1) = true from by rw [h1]; rfl]
          simp only [ifM_t]
          rw [mulD_ii _ _ (.inl (by omega))]
          simp only [b2_some, addD_ii, modD_ii _ _ (show (0 : Int) < 26 by decide)]
          rw [letter_at _ (Int.emod_nonneg _ (by decide)) (Int.emod_lt_of_pos _ (by decide))]
          have q1 := Int.emod_nonneg (one + (0 + (i : Int)) * two) (show (26 : Int) ≠ 0 by decide)
          have q2 := Int.emod_lt_of_pos (one + (0 + (i : Int)) * two) (show (0 : Int) < 26 by decide)
          refine ⟨97 + ((one + (0 + (i : Int)) * two) % 26).toNat, ⟨by omega, by omega, fun h => absurd h hpi⟩, ?_⟩
          simp only [b2_some]
          rw [addD_mk _ _ (hsz _)]
        · rw [show (d.sty == 1) = false from by rw [beq_eq_false_iff_ne]; exact h1]
          simp only [ifM_f]
          rw [letter_at _ (by omega) (by omega)]
          refine ⟨97 + d.size.toNat, ⟨by omega, by omega, fun h => absurd h hpi⟩, ?_⟩
          simp only [b2_some]
          rw [addD_mk _ _ (hsz _)]
theorem lword_eq (n : Nat) (d : Dr) (one two : Int) (deep : Nat) (hd : deep < 26) : ∃ l, l_law_word n [.int one, .int two, .int (deep : Int), d.enc] = some (.str (mkS l)) ∧ Wd d deep l := word_eq n d one two deep hd
end Bw
/-! ### entries -/
namespace Bw
open PySem Bd
structure Ent where
  w : Str
  k : Str
  t : Int
  s : Str
  o : Bool
def Ent.enc (e : Ent) : D := .tuple [.str e.w, .str e.k, .int e.t, .str e.s, .bool e.o]
def Ent.ok (e : Ent) : Prop := PyData.strOk e.w = true ∧ PyData.strOk e.k = true ∧ PyData.strOk e.s = true
theorem Ent.sh {e : Ent} (h : e.ok) : shD 1 e.enc := shD_tup fun x hx => by
  simp only [List.mem_cons, List.not_mem_nil, or_false] at hx
  rcases hx with rfl | rfl | rfl | rfl | rfl
  · exact shD_str _ h.1
  · exact shD_str _ h.2.1
  · exact shD_int _ _
  · exact shD_str _ h.2.2
  · exact shD_bool _ _
def heldD (es : List Ent) : D := .tuple (es.map Ent.enc)
def entsD (es : List Ent) : D := .list (es.map Ent.enc)
theorem entsD_eq {es : List Ent} (h : ∀ e ∈ es, e.ok) : eqD (entsD es) (entsD es) = some true :=
  eqD_refl ((shD_list (k := 1) fun x hx => by
    obtain ⟨e, he, rfl⟩ := List.mem_map.mp hx
    exact Ent.sh (h e he)).ok (by decide))
theorem entsD_ne {es : List Ent} (h : ∀ e ∈ es, e.ok) : neD (entsD es) (entsD es) = some false := by
  unfold neD
  rw [entsD_eq h]; rfl
/-- lent from and out -/
def aslp (es : List Ent) (w : Str) : Bool := es.any fun e => e.o && decide (e.s = w)
def isPick (e : Ent) : Bool := decide (e.k = Str.ofString "pick")
def wake (es : List Ent) (e : Ent) : Bool := !isPick e && e.o && !aslp es e.w
theorem is_asleep_eq (n : Nat) (es : List Ent) (w : Str) (hl : es.length ≤ 1000) : m_is_asleep n (heldD es) (.str w) = some (.bool (aslp es w)) := by
  unfold m_is_asleep heldD
  rw [Option.bind_some, itD_t, lcG_mapE (g := fun e : Ent => .bool (e.o && decide (e.s = w))) (ln100 (by omega))]
  · rw [lD_some, Option.bind_some, show es.map (fun e : Ent => PyData.bool (e.o && decide (e.s = w))) = (es.map fun e : Ent => (e.o && decide (e.s = w))).map PyData.bool by rw [List.map_map]; rfl, anyB_map]
    unfold aslp
    simp only [List.any_map]
    rfl
  · intro e _
    unfold Ent.enc
    simp only [b2_some, idt4, idt3, eqD_ss, bD_some, andV_ss]
theorem lis_asleep_eq (n : Nat) (es : List Ent) (w : Str) (hl : es.length ≤ 1000) : l_is_asleep n [heldD es, .str w] = some (.bool (aslp es w)) := is_asleep_eq n es w hl
theorem wake_list (n : Nat) (es : List Ent) (hl : es.length ≤ 1000) (f : D → List D → Option (List D))
    (hf : ∀ e acc, acc.length < LN → f (Ent.enc e) acc = some (if wake es e then acc ++ [e.enc] else acc)) : foldO f (es.map Ent.enc) [] = some ((es.filter (wake es)).map Ent.enc) := by
  rw [foldO_map]
  exact foldO_filter (p := wake es) (g := Ent.enc) (ln100 (by omega)) fun e _ acc ha => hf e acc ha
theorem wake_turn (n : Nat) (es : List Ent) (hl : es.length ≤ 1000) (e : Ent) (acc : List D) (ha : acc.length < LN) :
    (ifM (andT (b2 neD (b2 idxD (some e.enc) (some (.int 1))) (some (.str "pick"))) (andT ((b2 idxD (some e.enc) (some (.int 4))).bind asB) (notT (((consO (some (heldD es)) (consO (b2 idxD (some e.enc) (some (.int 0))) (some []))).bind (l_is_asleep n)).bind asB)))) (bnd ((some e.enc).bind (appM acc)) fun u_found => (some u_found)) (some acc)) = some (if wake es e then acc ++ [e.enc] else acc) := by
  rw [Option.bind_some (f := appM acc), appM_some ha]
  unfold Ent.enc
  simp only [b2_some, idt1, idt4, idt0, neD_ss, consO_some, Option.bind_some, asB_b, bnd_some]
  rw [lis_asleep_eq n es e.w hl]
  simp only [Option.bind_some, asB_b, notT_s, andT_ss]
  rw [ifM_ss]
  unfold wake isPick
  simp only [Bool.and_assoc]
/-- the law's own: the awake ones -/
theorem law_awake_eq (n : Nat) (es : List Ent) (hl : es.length ≤ 1000) : m_law_awake n (heldD es) = some (entsD (es.filter (wake es))) := by
  unfold m_law_awake heldD entsD
  rw [Option.bind_some, itD_t]
  rw [lcG_pureE (p := fun e : Ent => e.o) (g := fun e : Ent => .str e.s) (ln100 (by omega)) (fun e _ => by unfold Ent.enc; simp only [b2_some, idt4, Option.bind_some, asB_b]) (fun e _ _ => by unfold Ent.enc; simp only [b2_some, idt3])]
  rw [lD_some, bnd_some]
  rw [lcG_pureE (p := fun e : Ent => !isPick e && e.o) (g := Ent.enc) (ln100 (by omega)) (fun e _ => by unfold Ent.enc; simp only [b2_some, idt4, idt1, neD_ss, Option.bind_some, asB_b, andT_ss]; rfl) (fun e _ _ => rfl)]
  rw [lD_some, bnd_some, Option.bind_some, itD_l]
  rw [lcG_pureE (p := fun e : Ent => !aslp es e.w) (g := Ent.enc) (ln100 (by
    have := List.length_filter_le (fun e : Ent => !isPick e && e.o) es
    omega)) (fun e _ => ?_) (fun e _ _ => rfl), lD_some, List.filter_filter]
  · congr 3
    apply List.filter_congr
    intro e _
    unfold wake
    cases isPick e <;> cases e.o <;> cases aslp es e.w <;> rfl
  · unfold Ent.enc
    simp only [b2_some, idt0]
    show (memD _ _).map _ = _
    unfold memD
    rw [show (flatD (.str e.w) && (((es.filter fun e : Ent => e.o).map fun e : Ent => PyData.str e.s)).all flatD) = true by
      simp [flatD, List.all_map, Function.comp_def]]
    simp only [grd_true, Option.map_some, Option.some.injEq]
    congr 1
    unfold aslp
    rw [List.any_map, List.any_filter]
    congr 1
end Bw
namespace Bw
open PySem Bd
theorem awake_eq (n : Nat) (es : List Ent) (hl : es.length ≤ 1000) : m_awake n (heldD es) = some ((es.filter (wake es)).map Ent.enc) := by
  unfold m_awake
  rw [bnd_some, Option.bind_some (a := heldD es), show itD (heldD es) = some (es.map Ent.enc) from rfl, bnd_some]
  rw [wake_list n es hl _ (fun e acc ha => by rw [wake_turn n es hl e acc ha, bnd_some])]
  rfl
end Bw

namespace Bw
open PySem Bd
/-! ### what is held: entries drawn -/
theorem kinds5 (i : Int) : idxD (.list [.str (Str.ofString "read"), .str (Str.ofString "write"), .str (Str.ofString "read"), .str (Str.ofString "write"), .str (Str.ofString "pick")]) (.int (i % 5)) = some (.str (if i % 5 = 4 then Str.ofString "pick" else if i % 5 = 0 ∨ i % 5 = 2 then Str.ofString "read" else Str.ofString "write")) := by
  have h : i % 5 = 0 ∨ i % 5 = 1 ∨ i % 5 = 2 ∨ i % 5 = 3 ∨ i % 5 = 4 := by omega
  rcases h with h | h | h | h | h <;> rw [h] <;> simp
theorem kind_ok (s : Str) (h : s = Str.ofString "pick" ∨ s = Str.ofString "read" ∨ s = Str.ofString "write") : PyData.strOk s = true := by
  rcases h with h | h | h <;> subst h <;> decide +kernel
theorem ex_if {ε : Type} {c : Bool} {a b : Str} {F : D → Option D} {Q : ε → Prop} {R : ε → Option D} (p : Str → Prop) (ha : p a) (hb : p b) (h : ∀ k, p k → ∃ e, Q e ∧ F (.str k) = R e) : ∃ e, Q e ∧ bnd (ifM (some c) (some (.str a)) (some (.str b))) F = R e := by
  cases c with
  | true => exact h a ha
  | false => exact h b hb
def kok (s : Str) : Prop := s = Str.ofString "pick" ∨ s = Str.ofString "read" ∨ s = Str.ofString "write"
theorem held_eq (n : Nat) (ns : List Int) : ∃ es : List Ent, m_law_held n (sD ns) = some (heldD es) ∧ es.length ≤ 9 ∧ ∀ e ∈ es, e.ok := by
  obtain ⟨dr, hdr⟩ := draw_eq n ns
  unfold m_law_held
  have hdr' : l_law_draw n [sD ns] = some dr.enc := hdr
  have c0 : l_law_cell_at n [sD ns, .int 0] = some (.int (cellI ns 0)) := lcell_eq n ns 0 (by decide)
  simp only [consO_some, Option.bind_some, Option.map_some, hdr', c0, bnd_some, b2_some, modD_ii _ _ (show (0 : Int) < 10 by decide), bnd_id]
  have hm := Int.emod_nonneg (cellI ns 0) (show (10 : Int) ≠ 0 by decide)
  have hm2 := Int.emod_lt_of_pos (cellI ns 0) (show (0 : Int) < 10 by decide)
  rw [rng1_i _ (by omega)]
  simp only [bnd_some]
  have key : ∀ f : D → D → Option D, (∀ (i : Nat) (es : List Ent), i < 9 → es.length = i → (∀ e ∈ es, e.ok) → ∃ e : Ent, e.ok ∧ f (.int (0 + (i : Int))) (heldD es) = some (heldD (es ++ [e]))) →
      ∃ es : List Ent, foldO f (rngL 0 (cellI ns 0 % 10).toNat) (.tuple []) = some (heldD es) ∧ es.length ≤ 9 ∧ ∀ e ∈ es, e.ok := by
    intro f hf
    obtain ⟨s, e1, es, e2, h1, h2⟩ := foldO_inv (f := f) (ds := rngL 0 (cellI ns 0 % 10).toNat) (s := .tuple []) (fun i s => ∃ es : List Ent, s = heldD es ∧ es.length = i ∧ ∀ e ∈ es, e.ok)
      (fun i x s hx ⟨es, e0, h1, h2⟩ => by
        obtain ⟨hi, ex⟩ := rngL_get hx
        subst ex e0
        obtain ⟨e, he, e'⟩ := hf i es (by omega) h1 h2
        refine ⟨_, e', _, rfl, by rw [List.length_append, h1]; rfl, fun y hy => ?_⟩
        rcases List.mem_append.mp hy with hy | hy
        · exact h2 y hy
        · rw [List.mem_singleton.mp hy]; exact he) ⟨[], rfl, rfl, fun _ h => by cases h⟩
    subst e2
    rw [rngL_length] at h1
    exact ⟨es, e1, by omega, h2⟩
  refine key _ fun i es hi hlen hok => ?_
  rw [mulD_ii _ _ (.inl (by omega))]
  simp only [b2_some, addD_ii, consO_some, Option.bind_some]
  rw [lcell_eq n ns _ (by omega), lcell_eq n ns _ (by omega)]
  generalize cellI ns _ = x
  generalize cellI ns _ = y
  simp only [bnd_some]
  rw [show itD (heldD es) = some (es.map Ent.enc) from rfl]
  rw [lcG_pureE (p := fun e : Ent => !isPick e) (g := Ent.enc) (ln100 (by omega)) (fun e _ => by unfold Ent.enc; simp only [b2_some, idt1, neD_ss]; rfl) (fun e _ _ => rfl)]
  simp only [lD_some, bnd_some]
  -- the kind
  rw [modD_ii _ _ (by decide), b2_some, kinds5, bnd_some]
  generalize hk0 : (if x % 5 = 4 then Str.ofString "pick" else if x % 5 = 0 ∨ x % 5 = 2 then Str.ofString "read" else Str.ofString "write") = k0
  have ok0 : kok k0 := by
    subst hk0
    unfold kok
    split
    · exact .inl rfl
    · split
      · exact .inr (.inl rfl)
      · exact .inr (.inr rfl)
  clear hk0
  have hf : ∀ e ∈ es.filter (fun e => !isPick e), e.ok := fun e he => hok e (List.mem_filter.mp he).1
  generalize es.filter (fun e => !isPick e) = hs at hf
  rw [show lenD (heldD es) = some (.int es.length) by unfold heldD; rw [lenD_t, List.length_map]]
  simp only [lenD_l, b2_some, eqD_ii, List.length_map]
  refine ex_if kok (.inl rfl) ok0 fun k1 ok1 => ?_
  simp only [b2_some, subD_ii, eqD_ii, eqD_ss, andT_ss]
  refine ex_if kok (.inr (.inr rfl)) ok1 fun k2 ok2 => ?_
  rw [fdivD_ii y 2 (by decide), show idxD dr.enc (.int 0) = some (.int dr.base) from idl0 _ _, consO_some, consO_some, Option.bind_some]
  obtain ⟨t, ht, _⟩ := lthing_eq n (y / 2) dr.base
  rw [ht, bnd_some, fdivD_ii x 5 (by decide), b2_some, modD_ii _ _ (by decide)]
  simp only [b2_some, ordD_ii, bD_some, orV_ss, eqD_ss, bnd_some]
  generalize (decide (k2 = Str.ofString "pick") || gtI (x / 5 % 3) 0) = o
  rw [modD_ii y 2 (by decide)]
  simp only [b2_some, neD_ss, eqD_ii, ordD_ii, andT_ss]
  have fin : ∀ (k : Str) (tt : Int) (sr : Str) (oo : Bool), kok k → PyData.strOk sr = true → ∃ e : Ent, e.ok ∧
      (bnd ((consO (some (PyData.int x)) (consO (some (PyData.int y)) (consO (some (PyData.int es.length)) (some [dr.enc])))).bind (l_law_word n)) fun u_law_word_here =>
        addD (heldD es) (PyData.tuple [PyData.tuple [u_law_word_here, .str k, .int tt, .str sr, .bool oo]])) = some (heldD (es ++ [e])) := by
    intro k tt sr oo hk hs
    obtain ⟨l, e1, w⟩ := lword_eq n dr x y es.length (by omega)
    refine ⟨⟨mkS l, k, tt, sr, oo⟩, ⟨low_ok w.low, kind_ok k hk, hs⟩, ?_⟩
    simp only [consO_some, Option.bind_some, e1, bnd_some]
    unfold heldD
    rw [addD_tt _ _ (by rw [List.length_map]; exact ln100 (show es.length + 1 ≤ 100000 by omega)), List.map_append]
    rfl
  by_cases hc : (!decide (k2 = Str.ofString "pick") && (y % 2 == 1 && gtI (hs.length : Int) 0)) = true
  · rw [hc, ifM_t]
    simp only [Bool.and_eq_true, decide_eq_true_eq] at hc
    obtain ⟨_, _, hpos⟩ := hc
    have hpos' : 0 < hs.length := by
      omega
    rw [modD_ii _ _ (by omega), b2_some]
    obtain ⟨d, e1, hd⟩ := idx_mod (hs.map Ent.enc) (y / 2) (by rw [List.length_map]; exact hpos')
    rw [List.length_map] at e1
    rw [e1, bnd_some]
    obtain ⟨e, he, rfl⟩ := List.mem_map.mp hd
    unfold Ent.enc
    simp only [idt0, idt1, idt2, idt4, b2_some, bnd_some, eqD_ss, andV_ss]
    have oke := hf e he
    rw [ifM_ss]
    generalize hkk : (if decide (e.k = Str.ofString "read") = true then PyData.str (Str.ofString "read") else PyData.str k2) = dk
    obtain ⟨k3, rfl, ok3⟩ : ∃ k3, dk = .str k3 ∧ kok k3 := by
      subst hkk
      split
      · exact ⟨_, rfl, .inr (.inl rfl)⟩
      · exact ⟨_, rfl, ok2⟩
    simp only [bnd_some]
    exact fin k3 e.t e.w (o && e.o) ok3 oke.1
  · rw [show (!decide (k2 = Str.ofString "pick") && (y % 2 == 1 && gtI (hs.length : Int) 0)) = false from by simpa using hc, ifM_f]
    simp only [bnd_some]
    exact fin k2 t (Str.ofString "") o ok2 (by decide +kernel)
end Bw

namespace Bw
open PySem Bd
theorem entry_eq (n : Nat) (e : Ent) : l_law_entry n [e.enc] = some (.bool true) := by
  show m_law_entry n e.enc = _
  unfold m_law_entry Ent.enc
  simp only [Option.map_some, isTup_t, notT_s, Bool.not_true, orT_f, Option.bind_some, lenD_t, List.length_cons, List.length_nil, b2_some, idt4, idt0, idt1, idt3, idt2, isBool_b, isStr_s, neD_ii]
  rfl
theorem lawake_eq (n : Nat) (es : List Ent) (hl : es.length ≤ 1000) : l_awake n [heldD es] = some ((es.filter (wake es)).map Ent.enc) := awake_eq n es hl
theorem llaw_awake_eq (n : Nat) (es : List Ent) (hl : es.length ≤ 1000) : l_law_awake n [heldD es] = some (entsD (es.filter (wake es))) := law_awake_eq n es hl
theorem law_true : ∀ ns : List Int, ns.length ≤ 63 → ∃ n, l_law n [.list (ns.map PyData.int)] = some (.bool true) := by
  intro ns _
  refine ⟨0, ?_⟩
  show m_law 0 (sD ns) = _
  obtain ⟨es, he, hl, hok⟩ := held_eq 0 ns
  have he' : l_law_held 0 [sD ns] = some (heldD es) := he
  have hw : ∀ e ∈ es.filter (wake es), e.ok := fun e h => hok e (List.mem_filter.mp h).1
  unfold m_law
  simp only [consO_some, Option.bind_some, he', bnd_some, lawake_eq 0 es (by omega), lD_some, Option.map_some, isLst_l, notT_s, Bool.not_true, orT_f, itD_l]
  rw [lcG_mapE (enc := Ent.enc) (f := fun x => l_law_entry 0 [x]) (g := fun _ => .bool true) (ln100 (by have := List.length_filter_le (wake es) es; omega)) (fun e _ => entry_eq 0 e)]
  rw [lD_some, Option.bind_some, show (es.filter (wake es)).map (fun _ => PyData.bool true) = ((es.filter (wake es)).map fun _ => true).map PyData.bool by rw [List.map_map]; rfl, allB_map]
  rw [Option.bind_some, asB_b, show ((es.filter (wake es)).map fun _ => true).all id = true by simp]
  have hd : ∀ e ∈ es.dropLast, e.ok := fun e h => hok e (List.dropLast_subset _ h)
  have hw2 : ∀ e ∈ es.dropLast.filter (wake es.dropLast), e.ok := fun e h => hd e (List.mem_filter.mp h).1
  simp only [notT_s, Bool.not_true, ifM_f, b2_some, llaw_awake_eq 0 es (by omega)]
  rw [show PyData.list ((es.filter (wake es)).map Ent.enc) = entsD (es.filter (wake es)) from rfl, entsD_ne hw, ifM_f]
  rw [appM_some (lt100 (by rw [List.length_map]; have := List.length_filter_le (wake es) es; omega)), bnd_some, ifM_f]
  simp only [negD_i, asI_i, Option.bind_some, Option.map_some, slcD_s]
  rw [show cutD (heldD es) none (some (-1)) = some (heldD es.dropLast) by unfold heldD; rw [cutD_t, cutL_butLast, List.map_dropLast]]
  have hl2 : es.dropLast.length ≤ 1000 := by rw [List.length_dropLast]; omega
  simp only [consO_some, Option.bind_some, lawake_eq 0 es.dropLast hl2, lD_some, llaw_awake_eq 0 es.dropLast hl2, b2_some]
  rw [show PyData.list ((es.dropLast.filter (wake es.dropLast)).map Ent.enc) = entsD (es.dropLast.filter (wake es.dropLast)) from rfl, entsD_eq hw2, bD_some]
end Bw
namespace Bw
open PySem PySem.Spec PyProof.Rows L2 Bd
/-! ### the text -/
def topS (i : Nat) : Stmt := PySem.Challenge.pw_borrowdesk_k01_who_is_awake.main.body.getD i (.Pass ⟨0, 0, 0, 0⟩)
abbrev s_is_asleep : Stmt := topS 1
theorem sc_is_asleep : FnScope ["held", "word", "one"] ["held", "word"] (defScope s_is_asleep) := ⟨rfl, rfl, rfl, by decide +kernel, rfl, by decide +kernel, by decide +kernel⟩
abbrev s_awake : Stmt := topS 2
theorem sc_awake : FnScope ["held", "found", "one"] ["held"] (defScope s_awake) := ⟨rfl, rfl, rfl, by decide +kernel, rfl, by decide +kernel, by decide +kernel⟩
abbrev s_law_cell_at : Stmt := topS 4
theorem sc_law_cell_at : FnScope ["_law_script", "_law_k"] ["_law_script", "_law_k"] (defScope s_law_cell_at) := ⟨rfl, rfl, rfl, by decide +kernel, rfl, by decide +kernel, by decide +kernel⟩
abbrev s_law_word : Stmt := topS 5
theorem sc_law_word : FnScope ["_law_one", "_law_two", "_law_deep", "_law_draw_here", "_law_letters", "_law_sign", "_law_found", "_law_k"] ["_law_one", "_law_two", "_law_deep", "_law_draw_here"] (defScope s_law_word) := ⟨rfl, rfl, rfl, by decide +kernel, rfl, by decide +kernel, by decide +kernel⟩
abbrev s_law_draw : Stmt := topS 6
theorem sc_law_draw : FnScope ["_law_script", "_law_base", "_law_style", "_law_size"] ["_law_script"] (defScope s_law_draw) := ⟨rfl, rfl, rfl, by decide +kernel, rfl, by decide +kernel, by decide +kernel⟩
abbrev s_law_thing : Stmt := topS 7
theorem sc_law_thing : FnScope ["_law_cell", "_law_base"] ["_law_cell", "_law_base"] (defScope s_law_thing) := ⟨rfl, rfl, rfl, by decide +kernel, rfl, by decide +kernel, by decide +kernel⟩
abbrev s_law_awake : Stmt := topS 8
theorem sc_law_awake : FnScope ["_law_held_here", "_law_lending", "_law_one", "_law_hands"] ["_law_held_here"] (defScope s_law_awake) := ⟨rfl, rfl, rfl, by decide +kernel, rfl, by decide +kernel, by decide +kernel⟩
abbrev s_law_whole : Stmt := topS 9
theorem sc_law_whole : FnScope ["_law_found"] ["_law_found"] (defScope s_law_whole) := ⟨rfl, rfl, rfl, by decide +kernel, rfl, by decide +kernel, by decide +kernel⟩
abbrev s_law_entry : Stmt := topS 10
theorem sc_law_entry : FnScope ["_law_found"] ["_law_found"] (defScope s_law_entry) := ⟨rfl, rfl, rfl, by decide +kernel, rfl, by decide +kernel, by decide +kernel⟩
abbrev s_law_held : Stmt := topS 11
theorem sc_law_held : FnScope ["_law_script", "_law_draw_here", "_law_held_here", "_law_k", "_law_cell", "_law_other", "_law_hands", "_law_one", "_law_kind", "_law_thing_here", "_law_source", "_law_out", "_law_holder", "_law_word_here"] ["_law_script"] (defScope s_law_held) := ⟨rfl, rfl, rfl, by decide +kernel, rfl, by decide +kernel, by decide +kernel⟩
abbrev s_law : Stmt := topS 12
theorem sc_law : FnScope ["_law_script", "_law_held_here", "_law_found", "_law_one"] ["_law_script"] (defScope s_law) := ⟨rfl, rfl, rfl, by decide +kernel, rfl, by decide +kernel, by decide +kernel⟩
structure Txt (K : PySem.W.Frag) (mg : Str → Option Value) : Prop where
  b_all : mg "all" = none
  b_any : mg "any" = none
  b_bool : mg "bool" = none
  b_int : mg "int" = none
  b_isinstance : mg "isinstance" = none
  b_len : mg "len" = none
  b_list : mg "list" = none
  b_range : mg "range" = none
  b_str : mg "str" = none
  b_tuple : mg "tuple" = none
section
variable {P : Program} {w : World} {K : PySem.W.Frag} {mg : Str → Option Value} {base : Heap}
theorem ok_is_asleep {f : Addr} {fd : FuncData} (F : Fun K "is_asleep" "is_asleep" s_is_asleep f fd) (T : Txt K mg)  : FnOk P w K mg base CX0 1 f fd ["held", "word"] (spR (rF K) K [true, true] l_is_asleep) :=
  def_ok (R := rF K) (N := ["held", "word", "one"]) F sc_is_asleep rfl (by decide) fun cdv A outer s H E hr G n ds hds => match ds, hds with
    | [u_held, u_word], _ => by
      have hu := hr.units
      show PSs _ _ (tS _ _ _ _ _ (m_is_asleep n u_held u_word))
      refine s_retQ ww_F ?_
      · exact (x_callB (cr_any rfl) sm_any (by rfl) T.b_any (by decide +kernel) (x_OV (x_lc1 (j := 2) rfl sc_is_asleep.nd (by decide : 2 < 3) (i_any (x_VW (x_FV (x_fr (pv 0) rfl)))) (blkOk_by (own := [("one", 2)]) (N := ["held", "word", "one"]) (sc := defScope s_is_asleep) (by decide +kernel)) (fun _ _ _ _ _ => pg_name (i := 2) sc_is_asleep.nd rfl (Or.inl rfl)) (fun _ _ _ _ _ u_one => c_yes) (fun _ _ _ _ _ u_one => (x_and (x_FV (x_ix (x_FV (x_fr (pv 2) rfl)) (x_FV x_int))) (x_one (x_cmp (op_eqA hu) sm_eq (nomark _) (x_FV (x_ix (x_FV (x_fr (pv 2) rfl)) (x_FV x_int))) (x_FV (x_fr (pv 1) rfl)))))))))
theorem ok_awake {f : Addr} {fd : FuncData} (F : Fun K "awake" "awake" s_awake f fd) (T : Txt K mg) (C_is_asleep : Cal P w K mg base "is_asleep" ["held", "word"] 1 (spR (rF K) K [true, true] l_is_asleep)) : FnOk P w K mg base CX0 2 f fd ["held"] (spR (rO K) K [true] l_awake) :=
  def_ok (R := rO K) (N := ["held", "found", "one"]) F sc_awake rfl (by decide) fun cdv A outer s H E hr G n ds hds => match ds, hds with
    | [u_held], _ => by
      have hu := hr.units
      show PSs _ _ (tS _ _ _ _ _ (m_awake n u_held))
      refine s_setO (T := (List D)) (i := 1) zcQ ?_ ?_ ?_ ?_ ?_
      · exact ⟨sc_awake.nd, rfl, .inl rfl, Or.inl rfl⟩
      · exact (by decide : 1 < 3)
      · exact (x_lst a_nil)
      · intro u_found
        refine s_seqN (T := (List D)) (enc := (fun s1 : (List D) => ([.fr u_held, .ow s1, .no] : En))) zcQ ?_ ?_
        · refine p_forN (i := 2) (enc := (fun s1 : (List D) => ([.fr u_held, .ow s1, .no] : En))) (s0 := u_found) [true, true, false] ?_ ?_ PassesOwn.never rfl ?_ ?_ ?_ (fun _ => rfl)
          · exact ⟨sc_awake.nd, rfl, .inl rfl, Or.inl rfl⟩
          · exact (fun _ => (by decide : 2 < 3))
          · exact (i_any (x_FW (lo := true) (x_fr (pv 0) rfl)))
          · exact rfl
          · intro u_one s1
            refine s_ifN (T := ((List D))) (enc := (fun s2 : (List D) => ([.fr u_held, .ow s2, .fr u_one] : En))) zcN ?_ ?_ ?_ ?_
            · exact (y_pw (w_and (x_cmpT (op_neA hu) sm_ne (nomark _) (x_FV (x_ix (x_FV (x_fr (pv 2) rfl)) (x_FV x_int))) (x_FV x_str)) (w_and (y_val (x_FV (x_ix (x_FV (x_fr (pv 2) rfl)) (x_FV x_int)))) (w_and1 (y_not (y_val (x_FV (x_call C_is_asleep n (hr.mono (by decide)) (by rfl) ww_F (a_F (x_fr (pv 0) rfl) (a_F (x_ix (x_FV (x_fr (pv 2) rfl)) (x_FV x_int)) a_nil))))))))))
            · refine s_app (T := ((List D))) (i := 1) zcN ?_ ?_ ?_ ?_ ?_ ?_
              · exact (pv 1)
              · exact rfl
              · exact (x_fr (pv 2) rfl)
              · intro u_found
                exact s_nilN (enc := (fun s2 : (List D) => ([.fr u_held, .ow s2, .fr u_one] : En))) (s := u_found) [true, true, true] rfl
              · exact (pe_bm PySem.F.plainAttrs_list PySem.F.slot_list_append PySem.F.type_list_append mt_append (pv 1) (pa_cons (x_fr (pv 2) rfl) pa_nil))
              · exact rfl
            · exact s_nilN (enc := (fun s2 : (List D) => ([.fr u_held, .ow s2, .fr u_one] : En))) (s := s1) [true, true, true] rfl
            · intro s2
              exact s_nilN (enc := (fun s1 : (List D) => ([.fr u_held, .ow s1, .no] : En))) (s := s2) [true, true, false] rfl
        · intro s1
          exact s_retO (pv 1) rfl
      · exact rfl
theorem ok_law_cell_at {f : Addr} {fd : FuncData} (F : Fun K "_law_cell_at" "_law_cell_at" s_law_cell_at f fd) (T : Txt K mg)  : FnOk P w K mg base CX0 1 f fd ["_law_script", "_law_k"] (spR (rF K) K [true, true] l_law_cell_at) :=
  def_ok (R := rF K) (N := ["_law_script", "_law_k"]) F sc_law_cell_at rfl (by decide) fun cdv A outer s H E hr G n ds hds => match ds, hds with
    | [u_law_script, u_law_k], _ => by
      have hu := hr.units
      show PSs _ _ (tS _ _ _ _ _ (m_law_cell_at n u_law_script u_law_k))
      refine s_ifQ (α := D) ?_ ?_ ?_
      · exact (x_cmpT op_lt sm_ord (nomark _) (x_FV (x_fr (pv 1) rfl)) (x_FV (x_callB call_lenX sm_len (by rfl) T.b_len (by decide +kernel) (x_FV (x_fr (pv 0) rfl)))))
      · refine s_retQ ww_F ?_
        · exact (x_ix (x_FV (x_fr (pv 0) rfl)) (x_FV (x_fr (pv 1) rfl)))
      · refine s_retQ ww_F ?_
        · exact x_int
theorem ok_law_word {f : Addr} {fd : FuncData} (F : Fun K "_law_word" "_law_word" s_law_word f fd) (T : Txt K mg)  : FnOk P w K mg base CX0 1 f fd ["_law_one", "_law_two", "_law_deep", "_law_draw_here"] (spR (rF K) K [true, true, true, true] l_law_word) :=
  def_ok (R := rF K) (N := ["_law_one", "_law_two", "_law_deep", "_law_draw_here", "_law_letters", "_law_sign", "_law_found", "_law_k"]) F sc_law_word rfl (by decide) fun cdv A outer s H E hr G n ds hds => match ds, hds with
    | [u_law_one, u_law_two, u_law_deep, u_law_draw_here], _ => by
      have hu := hr.units
      show PSs _ _ (tS _ _ _ _ _ (m_law_word n u_law_one u_law_two u_law_deep u_law_draw_here))
      refine s_set (T := D) (i := 4) zcQ ?_ ?_ ?_ ?_ ?_
      · exact ⟨sc_law_word.nd, rfl, .inl rfl, Or.inl rfl⟩
      · exact (by decide : 4 < 8)
      · exact x_str
      · intro u_law_letters
        refine s_set (T := D) (i := 5) zcQ ?_ ?_ ?_ ?_ ?_
        · exact ⟨sc_law_word.nd, rfl, .inl rfl, Or.inl rfl⟩
        · exact (by decide : 5 < 8)
        · exact (x_ix (x_FV (x_fr (pv 4) rfl)) (x_FV (x_bin op_mod sm_mod (x_FV (x_bin op_addD sm_add (x_FV (x_ix (x_FV (x_fr (pv 3) rfl)) (x_FV x_int))) (x_FV (x_bin op_mulD sm_mul (x_FV x_int) (x_FV (x_fr (pv 2) rfl)))))) (x_FV x_int))))
        · intro u_law_sign
          refine s_ifQ (α := D) ?_ ?_ ?_
          · exact (x_cmpT (op_eqA hu) sm_eq (nomark _) (x_FV (x_ix (x_FV (x_fr (pv 3) rfl)) (x_FV x_int))) (x_FV x_int))
          · refine s_retQ ww_F ?_
            · exact (x_bin op_mulD sm_mul (x_FV (x_ix (x_FV (x_fr (pv 4) rfl)) (x_FV (x_bin op_mod sm_mod (x_FV (x_ix (x_FV (x_fr (pv 3) rfl)) (x_FV x_int))) (x_FV x_int))))) (x_FV (x_bin op_addD sm_add (x_FV (x_fr (pv 2) rfl)) (x_FV x_int))))
          · refine s_set (T := D) (i := 6) zcQ ?_ ?_ ?_ ?_ ?_
            · exact ⟨sc_law_word.nd, rfl, .inl rfl, Or.inl rfl⟩
            · exact (by decide : 6 < 8)
            · exact x_str
            · intro u_law_found
              refine s_seqN (T := D) (enc := (fun s1 : D => ([.fr u_law_one, .fr u_law_two, .fr u_law_deep, .fr u_law_draw_here, .fr u_law_letters, .fr u_law_sign, .fr s1, .no] : En))) zcQ ?_ ?_
              · refine p_forN (i := 7) (enc := (fun s1 : D => ([.fr u_law_one, .fr u_law_two, .fr u_law_deep, .fr u_law_draw_here, .fr u_law_letters, .fr u_law_sign, .fr s1, .no] : En))) (s0 := u_law_found) [true, true, true, true, true, true, true, false] ?_ ?_ PassesOwn.never rfl ?_ ?_ ?_ (fun _ => rfl)
                · exact ⟨sc_law_word.nd, rfl, .inl rfl, Or.inl rfl⟩
                · exact (fun _ => (by decide : 7 < 8))
                · exact (i_rng1 (by rfl) T.b_range (x_FV (x_ix (x_FV (x_fr (pv 3) rfl)) (x_FV x_int))))
                · exact rfl
                · intro u_law_k s1
                  refine s_ifN (T := (D)) (enc := (fun s2 : D => ([.fr u_law_one, .fr u_law_two, .fr u_law_deep, .fr u_law_draw_here, .fr u_law_letters, .fr u_law_sign, .fr s2, .fr u_law_k] : En))) zcN ?_ ?_ ?_ ?_
                  · exact (x_cmpT (op_eqA hu) sm_eq (nomark _) (x_FV (x_fr (pv 7) rfl)) (x_FV (x_ix (x_FV (x_fr (pv 3) rfl)) (x_FV x_int))))
                  · refine s_set (T := (D)) (i := 6) zcN ?_ ?_ ?_ ?_ ?_
                    · exact ⟨sc_law_word.nd, rfl, .inl rfl, Or.inl rfl⟩
                    · exact (by decide : 6 < 8)
                    · exact (x_bin op_addD sm_add (x_FV (x_fr (pv 6) rfl)) (x_FV (x_fr (pv 5) rfl)))
                    · intro u_law_found
                      exact s_nilN (enc := (fun s2 : D => ([.fr u_law_one, .fr u_law_two, .fr u_law_deep, .fr u_law_draw_here, .fr u_law_letters, .fr u_law_sign, .fr s2, .fr u_law_k] : En))) (s := u_law_found) [true, true, true, true, true, true, true, true] rfl
                    · exact rfl
                  · refine s_ifN (T := (D)) (enc := (fun s3 : D => ([.fr u_law_one, .fr u_law_two, .fr u_law_deep, .fr u_law_draw_here, .fr u_law_letters, .fr u_law_sign, .fr s3, .fr u_law_k] : En))) zcN ?_ ?_ ?_ ?_
                    · exact (x_cmpT (op_eqA hu) sm_eq (nomark _) (x_FV (x_ix (x_FV (x_fr (pv 3) rfl)) (x_FV x_int))) (x_FV x_int))
                    · refine s_set (T := (D)) (i := 6) zcN ?_ ?_ ?_ ?_ ?_
                      · exact ⟨sc_law_word.nd, rfl, .inl rfl, Or.inl rfl⟩
                      · exact (by decide : 6 < 8)
                      · exact (x_bin op_addD sm_add (x_FV (x_fr (pv 6) rfl)) (x_FV (x_ix (x_FV (x_fr (pv 4) rfl)) (x_FV (x_bin op_mod sm_mod (x_FV (x_bin op_addD sm_add (x_FV (x_fr (pv 0) rfl)) (x_FV (x_bin op_mulD sm_mul (x_FV (x_fr (pv 7) rfl)) (x_FV (x_fr (pv 1) rfl)))))) (x_FV x_int))))))
                      · intro u_law_found
                        exact s_nilN (enc := (fun s3 : D => ([.fr u_law_one, .fr u_law_two, .fr u_law_deep, .fr u_law_draw_here, .fr u_law_letters, .fr u_law_sign, .fr s3, .fr u_law_k] : En))) (s := u_law_found) [true, true, true, true, true, true, true, true] rfl
                      · exact rfl
                    · refine s_set (T := (D)) (i := 6) zcN ?_ ?_ ?_ ?_ ?_
                      · exact ⟨sc_law_word.nd, rfl, .inl rfl, Or.inl rfl⟩
                      · exact (by decide : 6 < 8)
                      · exact (x_bin op_addD sm_add (x_FV (x_fr (pv 6) rfl)) (x_FV (x_ix (x_FV (x_fr (pv 4) rfl)) (x_FV (x_ix (x_FV (x_fr (pv 3) rfl)) (x_FV x_int))))))
                      · intro u_law_found
                        exact s_nilN (enc := (fun s3 : D => ([.fr u_law_one, .fr u_law_two, .fr u_law_deep, .fr u_law_draw_here, .fr u_law_letters, .fr u_law_sign, .fr s3, .fr u_law_k] : En))) (s := u_law_found) [true, true, true, true, true, true, true, true] rfl
                      · exact rfl
                    · intro s3
                      exact s_nilN (enc := (fun s2 : D => ([.fr u_law_one, .fr u_law_two, .fr u_law_deep, .fr u_law_draw_here, .fr u_law_letters, .fr u_law_sign, .fr s2, .fr u_law_k] : En))) (s := s3) [true, true, true, true, true, true, true, true] rfl
                  · intro s2
                    exact s_nilN (enc := (fun s1 : D => ([.fr u_law_one, .fr u_law_two, .fr u_law_deep, .fr u_law_draw_here, .fr u_law_letters, .fr u_law_sign, .fr s1, .no] : En))) (s := s2) [true, true, true, true, true, true, true, false] rfl
              · intro s1
                refine s_retQ ww_F ?_
                · exact (x_fr (pv 6) rfl)
            · exact rfl
        · exact rfl
      · exact rfl
theorem ok_law_draw {f : Addr} {fd : FuncData} (F : Fun K "_law_draw" "_law_draw" s_law_draw f fd) (T : Txt K mg) (C_law_cell_at : Cal P w K mg base "_law_cell_at" ["_law_script", "_law_k"] 1 (spR (rF K) K [true, true] l_law_cell_at)) : FnOk P w K mg base CX0 2 f fd ["_law_script"] (spR (rF K) K [true] l_law_draw) :=
  def_ok (R := rF K) (N := ["_law_script", "_law_base", "_law_style", "_law_size"]) F sc_law_draw rfl (by decide) fun cdv A outer s H E hr G n ds hds => match ds, hds with
    | [u_law_script], _ => by
      have hu := hr.units
      show PSs _ _ (tS _ _ _ _ _ (m_law_draw n u_law_script))
      refine s_set (T := D) (i := 1) zcQ ?_ ?_ ?_ ?_ ?_
      · exact ⟨sc_law_draw.nd, rfl, .inl rfl, Or.inl rfl⟩
      · exact (by decide : 1 < 4)
      · exact (x_bin op_mulD sm_mul (x_FV (x_bin op_mod sm_mod (x_FV (x_bin op_fdiv sm_fdiv (x_FV (x_call C_law_cell_at n (hr.mono (by decide)) (by rfl) ww_F (a_F (x_fr (pv 0) rfl) (a_F x_int a_nil)))) (x_FV x_int))) (x_FV (x_bin op_pow sm_pow (x_FV x_int) (x_FV x_int))))) (x_FV (x_bin op_mod sm_mod (x_FV (x_call C_law_cell_at n (hr.mono (by decide)) (by rfl) ww_F (a_F (x_fr (pv 0) rfl) (a_F x_int a_nil)))) (x_FV x_int))))
      · intro u_law_base
        refine s_set (T := D) (i := 2) zcQ ?_ ?_ ?_ ?_ ?_
        · exact ⟨sc_law_draw.nd, rfl, .inl rfl, Or.inl rfl⟩
        · exact (by decide : 2 < 4)
        · exact (x_bin op_fdiv sm_fdiv (x_FV (x_call C_law_cell_at n (hr.mono (by decide)) (by rfl) ww_F (a_F (x_fr (pv 0) rfl) (a_F x_int a_nil)))) (x_FV x_int))
        · intro u_law_style
          refine s_set (T := D) (i := 3) zcQ ?_ ?_ ?_ ?_ ?_
          · exact ⟨sc_law_draw.nd, rfl, .inl rfl, Or.inl rfl⟩
          · exact (by decide : 3 < 4)
          · exact (x_bin op_addD sm_add (x_FV x_int) (x_FV (x_bin op_mod sm_mod (x_FV (x_bin op_fdiv sm_fdiv (x_FV (x_fr (pv 2) rfl)) (x_FV x_int))) (x_FV x_int))))
          · intro u_law_size
            refine s_retQ ww_F ?_
            · exact (x_OF (x_lst (a_F (x_fr (pv 1) rfl) (a_F (x_bin op_mod sm_mod (x_FV (x_fr (pv 2) rfl)) (x_FV x_int)) (a_F (x_fr (pv 3) rfl) (a_F (x_bin op_mod sm_mod (x_FV (x_call C_law_cell_at n (hr.mono (by decide)) (by rfl) ww_F (a_F (x_fr (pv 0) rfl) (a_F x_int a_nil)))) (x_FV (x_fr (pv 3) rfl))) (a_F (x_bin op_mod sm_mod (x_FV (x_call C_law_cell_at n (hr.mono (by decide)) (by rfl) ww_F (a_F (x_fr (pv 0) rfl) (a_F x_int a_nil)))) (x_FV x_int)) a_nil)))))))
          · exact rfl
        · exact rfl
      · exact rfl
theorem ok_law_thing {f : Addr} {fd : FuncData} (F : Fun K "_law_thing" "_law_thing" s_law_thing f fd) (T : Txt K mg)  : FnOk P w K mg base CX0 1 f fd ["_law_cell", "_law_base"] (spR (rF K) K [true, true] l_law_thing) :=
  def_ok (R := rF K) (N := ["_law_cell", "_law_base"]) F sc_law_thing rfl (by decide) fun cdv A outer s H E hr G n ds hds => match ds, hds with
    | [u_law_cell, u_law_base], _ => by
      have hu := hr.units
      show PSs _ _ (tS _ _ _ _ _ (m_law_thing n u_law_cell u_law_base))
      refine s_ifQ (α := D) ?_ ?_ ?_
      · exact (x_cmpT (op_eqA hu) sm_eq (nomark _) (x_FV (x_bin op_mod sm_mod (x_FV (x_fr (pv 0) rfl)) (x_FV x_int))) (x_FV x_int))
      · refine s_retQ ww_F ?_
        · exact (x_bin op_mod sm_mod (x_FV (x_bin op_fdiv sm_fdiv (x_FV (x_fr (pv 0) rfl)) (x_FV x_int))) (x_FV (x_bin op_pow sm_pow (x_FV x_int) (x_FV x_int))))
      · refine s_retQ ww_F ?_
        · exact (x_bin op_mod sm_mod (x_FV (x_bin op_addD sm_add (x_FV (x_fr (pv 1) rfl)) (x_FV (x_bin op_mod sm_mod (x_FV (x_fr (pv 0) rfl)) (x_FV x_int))))) (x_FV (x_bin op_pow sm_pow (x_FV x_int) (x_FV x_int))))
theorem ok_law_awake {f : Addr} {fd : FuncData} (F : Fun K "_law_awake" "_law_awake" s_law_awake f fd) (T : Txt K mg)  : FnOk P w K mg base CX0 1 f fd ["_law_held_here"] (spR (rF K) K [true] l_law_awake) :=
  def_ok (R := rF K) (N := ["_law_held_here", "_law_lending", "_law_one", "_law_hands"]) F sc_law_awake rfl (by decide) fun cdv A outer s H E hr G n ds hds => match ds, hds with
    | [u_law_held_here], _ => by
      have hu := hr.units
      show PSs _ _ (tS _ _ _ _ _ (m_law_awake n u_law_held_here))
      refine s_set (T := D) (i := 1) zcQ ?_ ?_ ?_ ?_ ?_
      · exact ⟨sc_law_awake.nd, rfl, .inr rfl, Or.inl rfl⟩
      · exact (by decide : 1 < 4)
      · exact (x_OF (x_lc1 (j := 2) rfl sc_law_awake.nd (by decide : 2 < 4) (i_any (x_VW (x_FV (x_fr (pv 0) rfl)))) (blkOk_by (own := [("_law_one", 2)]) (N := ["_law_held_here", "_law_lending", "_law_one", "_law_hands"]) (sc := defScope s_law_awake) (by decide +kernel)) (fun _ _ _ _ _ => pg_name (i := 2) sc_law_awake.nd rfl (Or.inl rfl)) (fun _ _ _ _ _ u_law_one => (c_one (y_val (x_FV (x_ix (x_FV (x_fr (pv 2) rfl)) (x_FV x_int)))))) (fun _ _ _ _ _ u_law_one => (x_ix (x_FV (x_fr (pv 2) rfl)) (x_FV x_int)))))
      · intro u_law_lending
        refine s_lc1F (T := D) (i := 3) (j := 2) zcQ ?_ ?_ rfl sc_law_awake.nd rfl rfl (sw_true rfl rfl rfl (by decide +kernel)) ?_ (blkOk_by (own := [("_law_one", 2)]) (N := ["_law_held_here", "_law_lending", "_law_one", "_law_hands"]) (sc := defScope s_law_awake) (by decide +kernel)) ?_ ?_ ?_ (fun _ => rfl) ?_
        · exact (by decide : 3 < 4)
        · exact (by decide : 2 < 4)
        · exact (i_any (x_VW (x_FV (x_fr (pv 0) rfl))))
        · exact (fun _ _ _ _ _ => pg_name (i := 2) sc_law_awake.nd rfl (Or.inl rfl))
        · exact (fun _ _ _ _ _ u_law_one => (c_one (y_pw (w_and (x_cmpT (op_neA hu) sm_ne (nomark _) (x_FV (x_ix (x_FV (x_fr (pv 2) rfl)) (x_FV x_int))) (x_FV x_str)) (w_and1 (y_val (x_FV (x_ix (x_FV (x_fr (pv 2) rfl)) (x_FV x_int)))))))))
        · exact (fun _ _ _ _ _ u_law_one => (x_fr (pv 2) rfl))
        · intro u_law_hands
          refine s_retQ ww_F ?_
          · exact (x_OF (x_lc1 (j := 2) rfl sc_law_awake.nd (by decide : 2 < 4) (i_any (x_VW (x_FV (x_fr (pv 3) rfl)))) (blkOk_by (own := [("_law_one", 2)]) (N := ["_law_held_here", "_law_lending", "_law_one", "_law_hands"]) (sc := defScope s_law_awake) (by decide +kernel)) (fun _ _ _ _ _ => pg_name (i := 2) sc_law_awake.nd rfl (Or.inl rfl)) (fun _ _ _ _ _ u_law_one => (c_one (x_cmpT op_ninX sm_nin (by rfl) (x_FV (x_ix (x_FV (x_fr (pv 2) rfl)) (x_FV x_int))) (x_FV (x_fr (pv 1) rfl))))) (fun _ _ _ _ _ u_law_one => (x_fr (pv 2) rfl))))
      · exact rfl
theorem ok_law_whole {f : Addr} {fd : FuncData} (F : Fun K "_law_whole" "_law_whole" s_law_whole f fd) (T : Txt K mg)  : FnOk P w K mg base CX0 1 f fd ["_law_found"] (spR (rF K) K [true] l_law_whole) :=
  def_ok (R := rF K) (N := ["_law_found"]) F sc_law_whole rfl (by decide) fun cdv A outer s H E hr G n ds hds => match ds, hds with
    | [u_law_found], _ => by
      have hu := hr.units
      show PSs _ _ (tS _ _ _ _ _ (m_law_whole n u_law_found))
      refine s_retQ ww_F ?_
      · exact (x_and (x_FV (x_isi of_int (by rfl) T.b_isinstance (by rfl) T.b_int (by decide +kernel) (x_FV (x_fr (pv 0) rfl)))) (x_one (x_not (x_FV (x_isi of_bool (by rfl) T.b_isinstance (by rfl) T.b_bool (by decide +kernel) (x_FV (x_fr (pv 0) rfl)))))))
theorem ok_law_entry {f : Addr} {fd : FuncData} (F : Fun K "_law_entry" "_law_entry" s_law_entry f fd) (T : Txt K mg) (C_law_whole : Cal P w K mg base "_law_whole" ["_law_found"] 1 (spR (rF K) K [true] l_law_whole)) : FnOk P w K mg base CX0 2 f fd ["_law_found"] (spR (rF K) K [true] l_law_entry) :=
  def_ok (R := rF K) (N := ["_law_found"]) F sc_law_entry rfl (by decide) fun cdv A outer s H E hr G n ds hds => match ds, hds with
    | [u_law_found], _ => by
      have hu := hr.units
      show PSs _ _ (tS _ _ _ _ _ (m_law_entry n u_law_found))
      refine s_ifQ (α := D) ?_ ?_ ?_
      · exact (y_pw (w_or (y_not (y_isi of_tup (by rfl) T.b_isinstance (by rfl) T.b_tuple (by decide +kernel) (x_FV (x_fr (pv 0) rfl)))) (w_or (x_cmpT (op_neA hu) sm_ne (nomark _) (x_FV (x_callB call_lenX sm_len (by rfl) T.b_len (by decide +kernel) (x_FV (x_fr (pv 0) rfl)))) (x_FV x_int)) (w_or1 (y_not (y_isi of_bool (by rfl) T.b_isinstance (by rfl) T.b_bool (by decide +kernel) (x_FV (x_ix (x_FV (x_fr (pv 0) rfl)) (x_FV x_int)))))))))
      · refine s_retQ ww_F ?_
        · exact x_bl
      · refine s_ifQ (α := D) ?_ ?_ ?_
        · exact (y_pw (w_or (y_not (y_isi of_str (by rfl) T.b_isinstance (by rfl) T.b_str (by decide +kernel) (x_FV (x_ix (x_FV (x_fr (pv 0) rfl)) (x_FV x_int))))) (w_or (y_not (y_isi of_str (by rfl) T.b_isinstance (by rfl) T.b_str (by decide +kernel) (x_FV (x_ix (x_FV (x_fr (pv 0) rfl)) (x_FV x_int))))) (w_or1 (y_not (y_isi of_str (by rfl) T.b_isinstance (by rfl) T.b_str (by decide +kernel) (x_FV (x_ix (x_FV (x_fr (pv 0) rfl)) (x_FV x_int)))))))))
        · refine s_retQ ww_F ?_
          · exact x_bl
        · refine s_retQ ww_F ?_
          · exact (x_call C_law_whole n (hr.mono (by decide)) (by rfl) ww_F (a_F (x_ix (x_FV (x_fr (pv 0) rfl)) (x_FV x_int)) a_nil))
theorem ok_law_held {f : Addr} {fd : FuncData} (F : Fun K "_law_held" "_law_held" s_law_held f fd) (T : Txt K mg) (C_law_draw : Cal P w K mg base "_law_draw" ["_law_script"] 2 (spR (rF K) K [true] l_law_draw)) (C_law_cell_at : Cal P w K mg base "_law_cell_at" ["_law_script", "_law_k"] 1 (spR (rF K) K [true, true] l_law_cell_at)) (C_law_thing : Cal P w K mg base "_law_thing" ["_law_cell", "_law_base"] 1 (spR (rF K) K [true, true] l_law_thing)) (C_law_word : Cal P w K mg base "_law_word" ["_law_one", "_law_two", "_law_deep", "_law_draw_here"] 1 (spR (rF K) K [true, true, true, true] l_law_word)) : FnOk P w K mg base CX0 3 f fd ["_law_script"] (spR (rF K) K [true] l_law_held) :=
  def_ok (R := rF K) (N := ["_law_script", "_law_draw_here", "_law_held_here", "_law_k", "_law_cell", "_law_other", "_law_hands", "_law_one", "_law_kind", "_law_thing_here", "_law_source", "_law_out", "_law_holder", "_law_word_here"]) F sc_law_held rfl (by decide) fun cdv A outer s H E hr G n ds hds => match ds, hds with
    | [u_law_script], _ => by
      have hu := hr.units
      show PSs _ _ (tS _ _ _ _ _ (m_law_held n u_law_script))
      refine s_set (T := D) (i := 1) zcQ ?_ ?_ ?_ ?_ ?_
      · exact ⟨sc_law_held.nd, rfl, .inl rfl, Or.inl rfl⟩
      · exact (by decide : 1 < 14)
      · exact (x_call C_law_draw n (hr.mono (by decide)) (by rfl) ww_F (a_F (x_fr (pv 0) rfl) a_nil))
      · intro u_law_draw_here
        refine s_set (T := D) (i := 2) zcQ ?_ ?_ ?_ ?_ ?_
        · exact ⟨sc_law_held.nd, rfl, .inl rfl, Or.inl rfl⟩
        · exact (by decide : 2 < 14)
        · exact (x_tup a_nil)
        · intro u_law_held_here
          refine s_seqN (T := D) (enc := (fun s1 : D => ([.fr u_law_script, .fr u_law_draw_here, .fr s1, .no, .no, .no, .no, .no, .no, .no, .no, .no, .no, .no] : En))) zcQ ?_ ?_
          · refine p_forN (i := 3) (enc := (fun s1 : D => ([.fr u_law_script, .fr u_law_draw_here, .fr s1, .no, .no, .no, .no, .no, .no, .no, .no, .no, .no, .no] : En))) (s0 := u_law_held_here) [true, true, true, false, false, false, false, false, false, false, false, false, false, false] ?_ ?_ PassesOwn.never rfl ?_ ?_ ?_ (fun _ => rfl)
            · exact ⟨sc_law_held.nd, rfl, .inl rfl, Or.inl rfl⟩
            · exact (fun _ => (by decide : 3 < 14))
            · exact (i_rng1 (by rfl) T.b_range (x_FV (x_bin op_mod sm_mod (x_FV (x_call C_law_cell_at n (hr.mono (by decide)) (by rfl) ww_F (a_F (x_fr (pv 0) rfl) (a_F x_int a_nil)))) (x_FV x_int))))
            · exact rfl
            · intro u_law_k s1
              refine s_set (T := (D)) (i := 4) zcN ?_ ?_ ?_ ?_ ?_
              · exact ⟨sc_law_held.nd, rfl, .inl rfl, Or.inl rfl⟩
              · exact (by decide : 4 < 14)
              · exact (x_call C_law_cell_at n (hr.mono (by decide)) (by rfl) ww_F (a_F (x_fr (pv 0) rfl) (a_F (x_bin op_addD sm_add (x_FV x_int) (x_FV (x_bin op_mulD sm_mul (x_FV x_int) (x_FV (x_fr (pv 3) rfl))))) a_nil)))
              · intro u_law_cell
                refine s_set (T := (D)) (i := 5) zcN ?_ ?_ ?_ ?_ ?_
                · exact ⟨sc_law_held.nd, rfl, .inl rfl, Or.inl rfl⟩
                · exact (by decide : 5 < 14)
                · exact (x_call C_law_cell_at n (hr.mono (by decide)) (by rfl) ww_F (a_F (x_fr (pv 0) rfl) (a_F (x_bin op_addD sm_add (x_FV x_int) (x_FV (x_bin op_mulD sm_mul (x_FV x_int) (x_FV (x_fr (pv 3) rfl))))) a_nil)))
                · intro u_law_other
                  refine s_lc1F (T := (D)) (i := 6) (j := 7) zcN ?_ ?_ rfl sc_law_held.nd rfl rfl (sw_true rfl rfl rfl (by decide +kernel)) ?_ (blkOk_by (own := [("_law_one", 7)]) (N := ["_law_script", "_law_draw_here", "_law_held_here", "_law_k", "_law_cell", "_law_other", "_law_hands", "_law_one", "_law_kind", "_law_thing_here", "_law_source", "_law_out", "_law_holder", "_law_word_here"]) (sc := defScope s_law_held) (by decide +kernel)) ?_ ?_ ?_ (fun _ => rfl) ?_
                  · exact (by decide : 6 < 14)
                  · exact (by decide : 7 < 14)
                  · exact (i_any (x_VW (x_FV (x_fr (pv 2) rfl))))
                  · exact (fun _ _ _ _ _ => pg_name (i := 7) sc_law_held.nd rfl (Or.inl rfl))
                  · exact (fun _ _ _ _ _ u_law_one => (c_one (x_cmpT (op_neA hu) sm_ne (nomark _) (x_FV (x_ix (x_FV (x_fr (pv 7) rfl)) (x_FV x_int))) (x_FV x_str))))
                  · exact (fun _ _ _ _ _ u_law_one => (x_fr (pv 7) rfl))
                  · intro u_law_hands
                    refine s_set (T := (D)) (i := 8) zcN ?_ ?_ ?_ ?_ ?_
                    · exact ⟨sc_law_held.nd, rfl, .inl rfl, Or.inl rfl⟩
                    · exact (by decide : 8 < 14)
                    · exact (x_ix (x_OV (x_lst (a_F x_str (a_F x_str (a_F x_str (a_F x_str (a_F x_str a_nil))))))) (x_FV (x_bin op_mod sm_mod (x_FV (x_fr (pv 4) rfl)) (x_FV x_int))))
                    · intro u_law_kind
                      refine s_ifN (T := (D)) (enc := (fun s2 : D => ([.fr u_law_script, .fr u_law_draw_here, .fr s1, .fr u_law_k, .fr u_law_cell, .fr u_law_other, .fr u_law_hands, .no, .fr s2, .no, .no, .no, .no, .no] : En))) zcN ?_ ?_ ?_ ?_
                      · exact (x_cmpT (op_eqA hu) sm_eq (nomark _) (x_FV (x_callB call_lenX sm_len (by rfl) T.b_len (by decide +kernel) (x_FV (x_fr (pv 6) rfl)))) (x_FV x_int))
                      · refine s_set (T := (D)) (i := 8) zcN ?_ ?_ ?_ ?_ ?_
                        · exact ⟨sc_law_held.nd, rfl, .inl rfl, Or.inl rfl⟩
                        · exact (by decide : 8 < 14)
                        · exact x_str
                        · intro u_law_kind
                          exact s_nilN (enc := (fun s2 : D => ([.fr u_law_script, .fr u_law_draw_here, .fr s1, .fr u_law_k, .fr u_law_cell, .fr u_law_other, .fr u_law_hands, .no, .fr s2, .no, .no, .no, .no, .no] : En))) (s := u_law_kind) [true, true, true, true, true, true, true, false, true, false, false, false, false, false] rfl
                        · exact rfl
                      · exact s_nilN (enc := (fun s2 : D => ([.fr u_law_script, .fr u_law_draw_here, .fr s1, .fr u_law_k, .fr u_law_cell, .fr u_law_other, .fr u_law_hands, .no, .fr s2, .no, .no, .no, .no, .no] : En))) (s := u_law_kind) [true, true, true, true, true, true, true, false, true, false, false, false, false, false] rfl
                      · intro s2
                        refine s_ifN (T := (D)) (enc := (fun s3 : D => ([.fr u_law_script, .fr u_law_draw_here, .fr s1, .fr u_law_k, .fr u_law_cell, .fr u_law_other, .fr u_law_hands, .no, .fr s3, .no, .no, .no, .no, .no] : En))) zcN ?_ ?_ ?_ ?_
                        · exact (y_pw (w_and (x_cmpT (op_eqA hu) sm_eq (nomark _) (x_FV (x_bin op_sub sm_sub (x_FV (x_callB call_lenX sm_len (by rfl) T.b_len (by decide +kernel) (x_FV (x_fr (pv 2) rfl)))) (x_FV (x_callB call_lenX sm_len (by rfl) T.b_len (by decide +kernel) (x_FV (x_fr (pv 6) rfl)))))) (x_FV x_int)) (w_and1 (x_cmpT (op_eqA hu) sm_eq (nomark _) (x_FV (x_fr (pv 8) rfl)) (x_FV x_str)))))
                        · refine s_set (T := (D)) (i := 8) zcN ?_ ?_ ?_ ?_ ?_
                          · exact ⟨sc_law_held.nd, rfl, .inl rfl, Or.inl rfl⟩
                          · exact (by decide : 8 < 14)
                          · exact x_str
                          · intro u_law_kind
                            exact s_nilN (enc := (fun s3 : D => ([.fr u_law_script, .fr u_law_draw_here, .fr s1, .fr u_law_k, .fr u_law_cell, .fr u_law_other, .fr u_law_hands, .no, .fr s3, .no, .no, .no, .no, .no] : En))) (s := u_law_kind) [true, true, true, true, true, true, true, false, true, false, false, false, false, false] rfl
                          · exact rfl
                        · exact s_nilN (enc := (fun s3 : D => ([.fr u_law_script, .fr u_law_draw_here, .fr s1, .fr u_law_k, .fr u_law_cell, .fr u_law_other, .fr u_law_hands, .no, .fr s3, .no, .no, .no, .no, .no] : En))) (s := s2) [true, true, true, true, true, true, true, false, true, false, false, false, false, false] rfl
                        · intro s3
                          refine s_set (T := (D)) (i := 9) zcN ?_ ?_ ?_ ?_ ?_
                          · exact ⟨sc_law_held.nd, rfl, .inl rfl, Or.inl rfl⟩
                          · exact (by decide : 9 < 14)
                          · exact (x_call C_law_thing n (hr.mono (by decide)) (by rfl) ww_F (a_F (x_bin op_fdiv sm_fdiv (x_FV (x_fr (pv 5) rfl)) (x_FV x_int)) (a_F (x_ix (x_FV (x_fr (pv 1) rfl)) (x_FV x_int)) a_nil)))
                          · intro u_law_thing_here
                            refine s_set (T := (D)) (i := 10) zcN ?_ ?_ ?_ ?_ ?_
                            · exact ⟨sc_law_held.nd, rfl, .inl rfl, Or.inl rfl⟩
                            · exact (by decide : 10 < 14)
                            · exact x_str
                            · intro u_law_source
                              refine s_set (T := (D)) (i := 11) zcN ?_ ?_ ?_ ?_ ?_
                              · exact ⟨sc_law_held.nd, rfl, .inl rfl, Or.inl rfl⟩
                              · exact (by decide : 11 < 14)
                              · exact (x_or (x_FV (x_cmp (op_eqA hu) sm_eq (nomark _) (x_FV (x_fr (pv 8) rfl)) (x_FV x_str))) (x_one (x_cmp op_gt sm_ord (nomark _) (x_FV (x_bin op_mod sm_mod (x_FV (x_bin op_fdiv sm_fdiv (x_FV (x_fr (pv 4) rfl)) (x_FV x_int))) (x_FV x_int))) (x_FV x_int))))
                              · intro u_law_out
                                refine s_ifN (T := (D)) (enc := (fun s4 : D × D × D × D => ([.fr u_law_script, .fr u_law_draw_here, .fr s1, .fr u_law_k, .fr u_law_cell, .fr u_law_other, .fr u_law_hands, .no, .fr s4.1, .fr s4.2.1, .fr s4.2.2.1, .fr s4.2.2.2, .no, .no] : En))) zcN ?_ ?_ ?_ ?_
                                · exact (y_pw (w_and (x_cmpT (op_neA hu) sm_ne (nomark _) (x_FV (x_fr (pv 8) rfl)) (x_FV x_str)) (w_and (x_cmpT (op_eqA hu) sm_eq (nomark _) (x_FV (x_bin op_mod sm_mod (x_FV (x_fr (pv 5) rfl)) (x_FV x_int))) (x_FV x_int)) (w_and1 (x_cmpT op_gt sm_ord (nomark _) (x_FV (x_callB call_lenX sm_len (by rfl) T.b_len (by decide +kernel) (x_FV (x_fr (pv 6) rfl)))) (x_FV x_int))))))
                                · refine s_set (T := (D × D × D × D)) (i := 12) zcN ?_ ?_ ?_ ?_ ?_
                                  · exact ⟨sc_law_held.nd, rfl, .inl rfl, Or.inl rfl⟩
                                  · exact (by decide : 12 < 14)
                                  · exact (x_ix (x_FV (x_fr (pv 6) rfl)) (x_FV (x_bin op_mod sm_mod (x_FV (x_bin op_fdiv sm_fdiv (x_FV (x_fr (pv 5) rfl)) (x_FV x_int))) (x_FV (x_callB call_lenX sm_len (by rfl) T.b_len (by decide +kernel) (x_FV (x_fr (pv 6) rfl)))))))
                                  · intro u_law_holder
                                    refine s_set (T := (D × D × D × D)) (i := 10) zcN ?_ ?_ ?_ ?_ ?_
                                    · exact ⟨sc_law_held.nd, rfl, .inl rfl, Or.inl rfl⟩
                                    · exact (by decide : 10 < 14)
                                    · exact (x_ix (x_FV (x_fr (pv 12) rfl)) (x_FV x_int))
                                    · intro u_law_source
                                      refine s_set (T := (D × D × D × D)) (i := 9) zcN ?_ ?_ ?_ ?_ ?_
                                      · exact ⟨sc_law_held.nd, rfl, .inl rfl, Or.inl rfl⟩
                                      · exact (by decide : 9 < 14)
                                      · exact (x_ix (x_FV (x_fr (pv 12) rfl)) (x_FV x_int))
                                      · intro u_law_thing_here
                                        refine s_set (T := (D × D × D × D)) (i := 11) zcN ?_ ?_ ?_ ?_ ?_
                                        · exact ⟨sc_law_held.nd, rfl, .inl rfl, Or.inl rfl⟩
                                        · exact (by decide : 11 < 14)
                                        · exact (x_and (x_FV (x_fr (pv 11) rfl)) (x_one (x_ix (x_FV (x_fr (pv 12) rfl)) (x_FV x_int))))
                                        · intro u_law_out
                                          refine s_ifN (T := (D × D × D × D)) (enc := (fun s5 : D => ([.fr u_law_script, .fr u_law_draw_here, .fr s1, .fr u_law_k, .fr u_law_cell, .fr u_law_other, .fr u_law_hands, .no, .fr s5, .fr u_law_thing_here, .fr u_law_source, .fr u_law_out, .fr u_law_holder, .no] : En))) zcN ?_ ?_ ?_ ?_
                                          · exact (x_cmpT (op_eqA hu) sm_eq (nomark _) (x_FV (x_ix (x_FV (x_fr (pv 12) rfl)) (x_FV x_int))) (x_FV x_str))
                                          · refine s_set (T := (D)) (i := 8) zcN ?_ ?_ ?_ ?_ ?_
                                            · exact ⟨sc_law_held.nd, rfl, .inl rfl, Or.inl rfl⟩
                                            · exact (by decide : 8 < 14)
                                            · exact x_str
                                            · intro u_law_kind
                                              exact s_nilN (enc := (fun s5 : D => ([.fr u_law_script, .fr u_law_draw_here, .fr s1, .fr u_law_k, .fr u_law_cell, .fr u_law_other, .fr u_law_hands, .no, .fr s5, .fr u_law_thing_here, .fr u_law_source, .fr u_law_out, .fr u_law_holder, .no] : En))) (s := u_law_kind) [true, true, true, true, true, true, true, false, true, true, true, true, true, false] rfl
                                            · exact rfl
                                          · exact s_nilN (enc := (fun s5 : D => ([.fr u_law_script, .fr u_law_draw_here, .fr s1, .fr u_law_k, .fr u_law_cell, .fr u_law_other, .fr u_law_hands, .no, .fr s5, .fr u_law_thing_here, .fr u_law_source, .fr u_law_out, .fr u_law_holder, .no] : En))) (s := s3) [true, true, true, true, true, true, true, false, true, true, true, true, true, false] rfl
                                          · intro s5
                                            exact s_nilN (enc := (fun s4 : D × D × D × D => ([.fr u_law_script, .fr u_law_draw_here, .fr s1, .fr u_law_k, .fr u_law_cell, .fr u_law_other, .fr u_law_hands, .no, .fr s4.1, .fr s4.2.1, .fr s4.2.2.1, .fr s4.2.2.2, .no, .no] : En))) (s := (s5, u_law_thing_here, u_law_source, u_law_out)) [true, true, true, true, true, true, true, false, true, true, true, true, false, false] rfl
                                        · exact rfl
                                      · exact rfl
                                    · exact rfl
                                  · exact rfl
                                · exact s_nilN (enc := (fun s4 : D × D × D × D => ([.fr u_law_script, .fr u_law_draw_here, .fr s1, .fr u_law_k, .fr u_law_cell, .fr u_law_other, .fr u_law_hands, .no, .fr s4.1, .fr s4.2.1, .fr s4.2.2.1, .fr s4.2.2.2, .no, .no] : En))) (s := (s3, u_law_thing_here, u_law_source, u_law_out)) [true, true, true, true, true, true, true, false, true, true, true, true, false, false] rfl
                                · intro s4
                                  refine s_set (T := (D)) (i := 13) zcN ?_ ?_ ?_ ?_ ?_
                                  · exact ⟨sc_law_held.nd, rfl, .inl rfl, Or.inl rfl⟩
                                  · exact (by decide : 13 < 14)
                                  · exact (x_call C_law_word n (hr.mono (by decide)) (by rfl) ww_F (a_F (x_fr (pv 4) rfl) (a_F (x_fr (pv 5) rfl) (a_F (x_callB call_lenX sm_len (by rfl) T.b_len (by decide +kernel) (x_FV (x_fr (pv 2) rfl))) (a_F (x_fr (pv 1) rfl) a_nil)))))
                                  · intro u_law_word_here
                                    refine s_set (T := (D)) (i := 2) zcN ?_ ?_ ?_ ?_ ?_
                                    · exact ⟨sc_law_held.nd, rfl, .inl rfl, Or.inl rfl⟩
                                    · exact (by decide : 2 < 14)
                                    · exact (x_bin op_addD sm_add (x_FV (x_fr (pv 2) rfl)) (x_FV (x_tup (a_F (x_tup (a_F (x_fr (pv 13) rfl) (a_F (x_fr (pv 8) rfl) (a_F (x_fr (pv 9) rfl) (a_F (x_fr (pv 10) rfl) (a_F (x_fr (pv 11) rfl) a_nil)))))) a_nil))))
                                    · intro u_law_held_here
                                      exact s_nilN (enc := (fun s1 : D => ([.fr u_law_script, .fr u_law_draw_here, .fr s1, .no, .no, .no, .no, .no, .no, .no, .no, .no, .no, .no] : En))) (s := u_law_held_here) [true, true, true, false, false, false, false, false, false, false, false, false, false, false] rfl
                                    · exact rfl
                                  · exact rfl
                              · exact rfl
                            · exact rfl
                          · exact rfl
                    · exact rfl
                · exact rfl
              · exact rfl
          · intro s1
            refine s_retQ ww_F ?_
            · exact (x_fr (pv 2) rfl)
        · exact rfl
      · exact rfl
theorem ok_law {f : Addr} {fd : FuncData} (F : Fun K "law" "law" s_law f fd) (T : Txt K mg) (C_law_held : Cal P w K mg base "_law_held" ["_law_script"] 3 (spR (rF K) K [true] l_law_held)) (C_awake : Cal P w K mg base "awake" ["held"] 2 (spR (rO K) K [true] l_awake)) (C_law_awake : Cal P w K mg base "_law_awake" ["_law_held_here"] 1 (spR (rF K) K [true] l_law_awake)) (C_law_entry : Cal P w K mg base "_law_entry" ["_law_found"] 2 (spR (rF K) K [true] l_law_entry)) : FnOk P w K mg base CX0 4 f fd ["_law_script"] (spR (rF K) K [true] l_law) :=
  def_ok (R := rF K) (N := ["_law_script", "_law_held_here", "_law_found", "_law_one"]) F sc_law rfl (by decide) fun cdv A outer s H E hr G n ds hds => match ds, hds with
    | [u_law_script], _ => by
      have hu := hr.units
      show PSs _ _ (tS _ _ _ _ _ (m_law n u_law_script))
      refine s_set (T := D) (i := 1) zcQ ?_ ?_ ?_ ?_ ?_
      · exact ⟨sc_law.nd, rfl, .inl rfl, Or.inl rfl⟩
      · exact (by decide : 1 < 4)
      · exact (x_call C_law_held n (hr.mono (by decide)) (by rfl) ww_F (a_F (x_fr (pv 0) rfl) a_nil))
      · intro u_law_held_here
        refine s_setO (T := D) (i := 2) zcQ ?_ ?_ ?_ ?_ ?_
        · exact ⟨sc_law.nd, rfl, .inl rfl, Or.inl rfl⟩
        · exact (by decide : 2 < 4)
        · exact (x_call C_awake n (hr.mono (by decide)) (by rfl) ww_O (a_F (x_fr (pv 1) rfl) a_nil))
        · intro u_law_found
          refine s_ifQ (α := D) ?_ ?_ ?_
          · exact (y_pw (w_or (y_not (y_isi of_lst (by rfl) T.b_isinstance (by rfl) T.b_list (by decide +kernel) (x_ow (pv 2) rfl))) (w_or1 (y_not (y_val (x_FV (x_callB (cr_all rfl) sm_all (by rfl) T.b_all (by decide +kernel) (x_OV (x_lc1 (j := 3) rfl sc_law.nd (by decide : 3 < 4) (i_any (x_VW (x_ow (pv 2) rfl))) (blkOk_by (own := [("_law_one", 3)]) (N := ["_law_script", "_law_held_here", "_law_found", "_law_one"]) (sc := defScope s_law) (by decide +kernel)) (fun _ _ _ _ _ => pg_name (i := 3) sc_law.nd rfl (Or.inl rfl)) (fun _ _ _ _ _ u_law_one => c_yes) (fun _ _ _ _ _ u_law_one => (x_call C_law_entry n (hr.mono (by decide)) (by rfl) ww_F (a_F (x_fr (pv 3) rfl) a_nil))))))))))))
          · refine s_retQ ww_F ?_
            · exact x_bl
          · refine s_ifQ (α := D) ?_ ?_ ?_
            · exact (x_cmpT (op_neA hu) sm_ne (nomark _) (x_ow (pv 2) rfl) (x_FV (x_call C_law_awake n (hr.mono (by decide)) (by rfl) ww_F (a_F (x_fr (pv 1) rfl) a_nil))))
            · refine s_retQ ww_F ?_
              · exact x_bl
            · refine s_app (T := D) (i := 2) zcQ ?_ ?_ ?_ ?_ ?_ ?_
              · exact (pv 2)
              · exact rfl
              · exact (x_fr (pv 1) rfl)
              · intro u_law_found
                refine s_ifQ (α := D) ?_ ?_ ?_
                · exact (x_cmpT (op_neA hu) sm_ne (nomark _) (x_OV (x_call C_awake n (hr.mono (by decide)) (by rfl) ww_O (a_F (x_fr (pv 1) rfl) a_nil))) (x_FV (x_call C_law_awake n (hr.mono (by decide)) (by rfl) ww_F (a_F (x_fr (pv 1) rfl) a_nil))))
                · refine s_retQ ww_F ?_
                  · exact x_bl
                · refine s_retQ ww_F ?_
                  · exact (x_cmp (op_eqA hu) sm_eq (nomark _) (x_OV (x_call C_awake n (hr.mono (by decide)) (by rfl) ww_O (a_F (x_slc (x_FV (x_fr (pv 1) rfl)) p_none (p_some (x_FV (x_neg (x_FV x_int))))) a_nil))) (x_FV (x_call C_law_awake n (hr.mono (by decide)) (by rfl) ww_F (a_F (x_slc (x_FV (x_fr (pv 1) rfl)) p_none (p_some (x_FV (x_neg (x_FV x_int))))) a_nil))))
              · exact (pe_bm PySem.F.plainAttrs_list PySem.F.slot_list_append PySem.F.type_list_append mt_append (pv 2) (pa_cons (x_fr (pv 1) rfl) pa_nil))
              · exact rfl
        · exact rfl
      · exact rfl
end
end Bw
namespace Bw
open PySem PySem.Spec PyProof.Rows L2 Bd
/-! ### the end -/
theorem all_mk {l : PySem.W.OpenLaw} {w : World} {K : PySem.W.Frag} {h : Heap} {mg : Str → Option Value} {fa : Addr} (X : K.In h) (G : h.Ns mainGlobals mg) (hfa : mg "law" = some (.ref fa))
    (hm : ∀ ns : List Int, ns.length ≤ 63 → ∃ n, l_law n [.list (ns.map PyData.int)] = some (.bool true))
    {f0 : Addr} {od0 an0 : Option Addr} {sl0 : Array (Option Value)} {oc0 kV0 dc0 pm0 cd0 ct0 : Value}
    (a0 : PySem.W.nsIn K mainGlobals "is_asleep" = some (some (.ref f0))) (l0 : K.lookup f0 = some ⟨oc0, od0, .func (PySem.W.fnOf "is_asleep" "is_asleep" (defArgs s_is_asleep) (defBody s_is_asleep) (defScope s_is_asleep) .none kV0 dc0 pm0 an0 cd0 ct0), sl0⟩) (c0 : PySem.W.codeIn K cd0 "is_asleep" = true) (k0 : PySem.W.keepIn K (.ref f0) = true)
    {f1 : Addr} {od1 an1 : Option Addr} {sl1 : Array (Option Value)} {oc1 kV1 dc1 pm1 cd1 ct1 : Value}
    (a1 : PySem.W.nsIn K mainGlobals "awake" = some (some (.ref f1))) (l1 : K.lookup f1 = some ⟨oc1, od1, .func (PySem.W.fnOf "awake" "awake" (defArgs s_awake) (defBody s_awake) (defScope s_awake) .none kV1 dc1 pm1 an1 cd1 ct1), sl1⟩) (c1 : PySem.W.codeIn K cd1 "awake" = true) (k1 : PySem.W.keepIn K (.ref f1) = true)
    {f2 : Addr} {od2 an2 : Option Addr} {sl2 : Array (Option Value)} {oc2 kV2 dc2 pm2 cd2 ct2 : Value}
    (a2 : PySem.W.nsIn K mainGlobals "_law_cell_at" = some (some (.ref f2))) (l2 : K.lookup f2 = some ⟨oc2, od2, .func (PySem.W.fnOf "_law_cell_at" "_law_cell_at" (defArgs s_law_cell_at) (defBody s_law_cell_at) (defScope s_law_cell_at) .none kV2 dc2 pm2 an2 cd2 ct2), sl2⟩) (c2 : PySem.W.codeIn K cd2 "_law_cell_at" = true) (k2 : PySem.W.keepIn K (.ref f2) = true)
    {f3 : Addr} {od3 an3 : Option Addr} {sl3 : Array (Option Value)} {oc3 kV3 dc3 pm3 cd3 ct3 : Value}
    (a3 : PySem.W.nsIn K mainGlobals "_law_word" = some (some (.ref f3))) (l3 : K.lookup f3 = some ⟨oc3, od3, .func (PySem.W.fnOf "_law_word" "_law_word" (defArgs s_law_word) (defBody s_law_word) (defScope s_law_word) .none kV3 dc3 pm3 an3 cd3 ct3), sl3⟩) (c3 : PySem.W.codeIn K cd3 "_law_word" = true) (k3 : PySem.W.keepIn K (.ref f3) = true)
    {f4 : Addr} {od4 an4 : Option Addr} {sl4 : Array (Option Value)} {oc4 kV4 dc4 pm4 cd4 ct4 : Value}
    (a4 : PySem.W.nsIn K mainGlobals "_law_draw" = some (some (.ref f4))) (l4 : K.lookup f4 = some ⟨oc4, od4, .func (PySem.W.fnOf "_law_draw" "_law_draw" (defArgs s_law_draw) (defBody s_law_draw) (defScope s_law_draw) .none kV4 dc4 pm4 an4 cd4 ct4), sl4⟩) (c4 : PySem.W.codeIn K cd4 "_law_draw" = true) (k4 : PySem.W.keepIn K (.ref f4) = true)
    {f5 : Addr} {od5 an5 : Option Addr} {sl5 : Array (Option Value)} {oc5 kV5 dc5 pm5 cd5 ct5 : Value}
    (a5 : PySem.W.nsIn K mainGlobals "_law_thing" = some (some (.ref f5))) (l5 : K.lookup f5 = some ⟨oc5, od5, .func (PySem.W.fnOf "_law_thing" "_law_thing" (defArgs s_law_thing) (defBody s_law_thing) (defScope s_law_thing) .none kV5 dc5 pm5 an5 cd5 ct5), sl5⟩) (c5 : PySem.W.codeIn K cd5 "_law_thing" = true) (k5 : PySem.W.keepIn K (.ref f5) = true)
    {f6 : Addr} {od6 an6 : Option Addr} {sl6 : Array (Option Value)} {oc6 kV6 dc6 pm6 cd6 ct6 : Value}
    (a6 : PySem.W.nsIn K mainGlobals "_law_awake" = some (some (.ref f6))) (l6 : K.lookup f6 = some ⟨oc6, od6, .func (PySem.W.fnOf "_law_awake" "_law_awake" (defArgs s_law_awake) (defBody s_law_awake) (defScope s_law_awake) .none kV6 dc6 pm6 an6 cd6 ct6), sl6⟩) (c6 : PySem.W.codeIn K cd6 "_law_awake" = true) (k6 : PySem.W.keepIn K (.ref f6) = true)
    {f7 : Addr} {od7 an7 : Option Addr} {sl7 : Array (Option Value)} {oc7 kV7 dc7 pm7 cd7 ct7 : Value}
    (a7 : PySem.W.nsIn K mainGlobals "_law_whole" = some (some (.ref f7))) (l7 : K.lookup f7 = some ⟨oc7, od7, .func (PySem.W.fnOf "_law_whole" "_law_whole" (defArgs s_law_whole) (defBody s_law_whole) (defScope s_law_whole) .none kV7 dc7 pm7 an7 cd7 ct7), sl7⟩) (c7 : PySem.W.codeIn K cd7 "_law_whole" = true) (k7 : PySem.W.keepIn K (.ref f7) = true)
    {f8 : Addr} {od8 an8 : Option Addr} {sl8 : Array (Option Value)} {oc8 kV8 dc8 pm8 cd8 ct8 : Value}
    (a8 : PySem.W.nsIn K mainGlobals "_law_entry" = some (some (.ref f8))) (l8 : K.lookup f8 = some ⟨oc8, od8, .func (PySem.W.fnOf "_law_entry" "_law_entry" (defArgs s_law_entry) (defBody s_law_entry) (defScope s_law_entry) .none kV8 dc8 pm8 an8 cd8 ct8), sl8⟩) (c8 : PySem.W.codeIn K cd8 "_law_entry" = true) (k8 : PySem.W.keepIn K (.ref f8) = true)
    {f9 : Addr} {od9 an9 : Option Addr} {sl9 : Array (Option Value)} {oc9 kV9 dc9 pm9 cd9 ct9 : Value}
    (a9 : PySem.W.nsIn K mainGlobals "_law_held" = some (some (.ref f9))) (l9 : K.lookup f9 = some ⟨oc9, od9, .func (PySem.W.fnOf "_law_held" "_law_held" (defArgs s_law_held) (defBody s_law_held) (defScope s_law_held) .none kV9 dc9 pm9 an9 cd9 ct9), sl9⟩) (c9 : PySem.W.codeIn K cd9 "_law_held" = true) (k9 : PySem.W.keepIn K (.ref f9) = true)
    {f10 : Addr} {od10 an10 : Option Addr} {sl10 : Array (Option Value)} {oc10 kV10 dc10 pm10 cd10 ct10 : Value}
    (a10 : PySem.W.nsIn K mainGlobals "law" = some (some (.ref f10))) (l10 : K.lookup f10 = some ⟨oc10, od10, .func (PySem.W.fnOf "law" "law" (defArgs s_law) (defBody s_law) (defScope s_law) .none kV10 dc10 pm10 an10 cd10 ct10), sl10⟩) (c10 : PySem.W.codeIn K cd10 "law" = true) (k10 : PySem.W.keepIn K (.ref f10) = true)
    (z_all : PySem.W.nsIn K mainGlobals "all" = some none)
    (z_any : PySem.W.nsIn K mainGlobals "any" = some none)
    (z_bool : PySem.W.nsIn K mainGlobals "bool" = some none)
    (z_int : PySem.W.nsIn K mainGlobals "int" = some none)
    (z_isinstance : PySem.W.nsIn K mainGlobals "isinstance" = some none)
    (z_len : PySem.W.nsIn K mainGlobals "len" = some none)
    (z_list : PySem.W.nsIn K mainGlobals "list" = some none)
    (z_range : PySem.W.nsIn K mainGlobals "range" = some none)
    (z_str : PySem.W.nsIn K mainGlobals "str" = some none)
    (z_tuple : PySem.W.nsIn K mainGlobals "tuple" = some none)
    : ∃ fd : FuncData, (∀ (s : Shared) (v : Value), BindsTo s fd ⟨[v], []⟩ [("_law_script", v)]) ∧ ∀ base : Heap, K.In base → base.Ns mainGlobals mg → FnOk l.prog w K mg base CX0 4 fa fd ["_law_script"] (spLaw K) := by
  have e := hfa.symm.trans (PySem.W.mg_of X G a10)
  cases e
  have T : Txt K mg := {b_all := PySem.W.mg_none_of X G z_all, b_any := PySem.W.mg_none_of X G z_any, b_bool := PySem.W.mg_none_of X G z_bool, b_int := PySem.W.mg_none_of X G z_int, b_isinstance := PySem.W.mg_none_of X G z_isinstance, b_len := PySem.W.mg_none_of X G z_len, b_list := PySem.W.mg_none_of X G z_list, b_range := PySem.W.mg_none_of X G z_range, b_str := PySem.W.mg_none_of X G z_str, b_tuple := PySem.W.mg_none_of X G z_tuple }
  refine ⟨PySem.W.fnOf "law" "law" (defArgs s_law) (defBody s_law) (defScope s_law) .none kV10 dc10 pm10 an10 cd10 ct10, fun s v => .of_eq rfl, fun base _ _ => ?_⟩
  have F0 := fun_mk (st := s_is_asleep) l0 c0 k0
  have C0 := cal_of (ok_is_asleep (P := l.prog) (w := w) (base := base) F0 T ) (PySem.W.mg_of X G a0) k0 (F0.binds (ps := ["held", "word"]) fun _ _ _ _ _ _ us hl => match us, hl with | [_, _], _ => rfl)
  have F2 := fun_mk (st := s_law_cell_at) l2 c2 k2
  have C2 := cal_of (ok_law_cell_at (P := l.prog) (w := w) (base := base) F2 T ) (PySem.W.mg_of X G a2) k2 (F2.binds (ps := ["_law_script", "_law_k"]) fun _ _ _ _ _ _ us hl => match us, hl with | [_, _], _ => rfl)
  have F3 := fun_mk (st := s_law_word) l3 c3 k3
  have C3 := cal_of (ok_law_word (P := l.prog) (w := w) (base := base) F3 T ) (PySem.W.mg_of X G a3) k3 (F3.binds (ps := ["_law_one", "_law_two", "_law_deep", "_law_draw_here"]) fun _ _ _ _ _ _ us hl => match us, hl with | [_, _, _, _], _ => rfl)
  have F5 := fun_mk (st := s_law_thing) l5 c5 k5
  have C5 := cal_of (ok_law_thing (P := l.prog) (w := w) (base := base) F5 T ) (PySem.W.mg_of X G a5) k5 (F5.binds (ps := ["_law_cell", "_law_base"]) fun _ _ _ _ _ _ us hl => match us, hl with | [_, _], _ => rfl)
  have F6 := fun_mk (st := s_law_awake) l6 c6 k6
  have C6 := cal_of (ok_law_awake (P := l.prog) (w := w) (base := base) F6 T ) (PySem.W.mg_of X G a6) k6 (F6.binds (ps := ["_law_held_here"]) fun _ _ _ _ _ _ us hl => match us, hl with | [_], _ => rfl)
  have F7 := fun_mk (st := s_law_whole) l7 c7 k7
  have C7 := cal_of (ok_law_whole (P := l.prog) (w := w) (base := base) F7 T ) (PySem.W.mg_of X G a7) k7 (F7.binds (ps := ["_law_found"]) fun _ _ _ _ _ _ us hl => match us, hl with | [_], _ => rfl)
  have F1 := fun_mk (st := s_awake) l1 c1 k1
  have C1 := cal_of (ok_awake (P := l.prog) (w := w) (base := base) F1 T C0) (PySem.W.mg_of X G a1) k1 (F1.binds (ps := ["held"]) fun _ _ _ _ _ _ us hl => match us, hl with | [_], _ => rfl)
  have F4 := fun_mk (st := s_law_draw) l4 c4 k4
  have C4 := cal_of (ok_law_draw (P := l.prog) (w := w) (base := base) F4 T C2) (PySem.W.mg_of X G a4) k4 (F4.binds (ps := ["_law_script"]) fun _ _ _ _ _ _ us hl => match us, hl with | [_], _ => rfl)
  have F8 := fun_mk (st := s_law_entry) l8 c8 k8
  have C8 := cal_of (ok_law_entry (P := l.prog) (w := w) (base := base) F8 T C7) (PySem.W.mg_of X G a8) k8 (F8.binds (ps := ["_law_found"]) fun _ _ _ _ _ _ us hl => match us, hl with | [_], _ => rfl)
  have F9 := fun_mk (st := s_law_held) l9 c9 k9
  have C9 := cal_of (ok_law_held (P := l.prog) (w := w) (base := base) F9 T C4 C2 C5 C3) (PySem.W.mg_of X G a9) k9 (F9.binds (ps := ["_law_script"]) fun _ _ _ _ _ _ us hl => match us, hl with | [_], _ => rfl)
  have F10 := fun_mk (st := s_law) l10 c10 k10
  exact law_imp (ok_law (P := l.prog) (w := w) (base := base) F10 T C9 C1 C6 C8) hm
end Bw
open PySem PySem.W PyProof.Rows
set_option maxHeartbeats 0 in
theorem PySem.Challenge.cw_borrowdesk_k01_who_is_awake_holds : PySem.Challenge.rw_borrowdesk_k01_who_is_awake.Holds := by
  w_on; o_law; k_head; (case hw => w_witness2)
  k_fill
  refine L2.walk_of (l := PySem.Challenge.rw_borrowdesk_k01_who_is_awake) (n := 63) (k := 4) (x := "_law_script") (CX := fun _ => L2.CX0) (sp := fun w => Bd.spLaw _) rfl (by decide) rfl ⟨rfl, by decide, by decide⟩ (fun w h Y => PySem.W.kIn_of Y) ?F (fun _ _ a ns hl _ hS => ⟨a, ns, rfl, hS, hl, fun _ => rfl⟩) (fun _ _ _ _ _ h => h)
  case F =>
    intro w mg fa h KX G hmg
    refine' Bw.all_mk KX G hmg Bw.law_true ?a0 ?l0 ?c0 ?k0 ?a1 ?l1 ?c1 ?k1 ?a2 ?l2 ?c2 ?k2 ?a3 ?l3 ?c3 ?k3 ?a4 ?l4 ?c4 ?k4 ?a5 ?l5 ?c5 ?k5 ?a6 ?l6 ?c6 ?k6 ?a7 ?l7 ?c7 ?k7 ?a8 ?l8 ?c8 ?k8 ?a9 ?l9 ?c9 ?k9 ?a10 ?l10 ?c10 ?k10 ?z_all ?z_any ?z_bool ?z_int ?z_isinstance ?z_len ?z_list ?z_range ?z_str ?z_tuple
    (case a0 => k_is)
    (case l0 => k_is)
    (case c0 => k_is)
    (case k0 => k_is)
    (case a1 => k_is)
    (case l1 => k_is)
    (case c1 => k_is)
    (case k1 => k_is)
    (case a2 => k_is)
    (case l2 => k_is)
    (case c2 => k_is)
    (case k2 => k_is)
    (case a3 => k_is)
    (case l3 => k_is)
    (case c3 => k_is)
    (case k3 => k_is)
    (case a4 => k_is)
    (case l4 => k_is)
    (case c4 => k_is)
    (case k4 => k_is)
    (case a5 => k_is)
    (case l5 => k_is)
    (case c5 => k_is)
    (case k5 => k_is)
    (case a6 => k_is)
    (case l6 => k_is)
    (case c6 => k_is)
    (case k6 => k_is)
    (case a7 => k_is)
    (case l7 => k_is)
    (case c7 => k_is)
    (case k7 => k_is)
    (case a8 => k_is)
    (case l8 => k_is)
    (case c8 => k_is)
    (case k8 => k_is)
    (case a9 => k_is)
    (case l9 => k_is)
    (case c9 => k_is)
    (case k9 => k_is)
    (case a10 => k_is)
    (case l10 => k_is)
    (case c10 => k_is)
    (case k10 => k_is)
    (case z_all => k_is)
    (case z_any => k_is)
    (case z_bool => k_is)
    (case z_int => k_is)
    (case z_isinstance => k_is)
    (case z_len => k_is)
    (case z_list => k_is)
    (case z_range => k_is)
    (case z_str => k_is)
    (case z_tuple => k_is)
